import PyProof.Rows.All
import Wide.All
import OpenK.AllK
import Wide.FinOn
import HandS.ForMost
import HandS.Exc
import HandS.ExcOwn
import HandS.WordsExc
import HandS.More
import HandS.Conv
import HandS.Walk
import HandS.DictComp
import HandS.IsInst
import KE.SortData
import KE.DataMinMax
import HandS.HeadHook1
import HandS.HeadHook2
import HandS.Style
import HandS.NoneIn
import KE.KStateDown
import HandS.Ends
import HandS.HeadEnd
import HandS.Defaults
import PyProof.ReprRoads
import HandS.Lambda
import HandS.EndBits
import HandS.EndTab
import HandS.HeadWalk
import HandS.ExcIs
import KE.KRevSl
import PyProof.SliceStr2
import HandS.TupAny
import KE.SortKeyHeap
import KE.KLam
import HandS.ExcValue
import HandS.HeadHook3
import HandS.HeadHook4
import HandS.Head2
import KE.KDictZip
import KE.GoesMore
import KE.GoesZip
import KE.GoesEnum
import HandS.TupSets
import HandS.Strs
import HandS.ExcInit
import HandS.ExcField
import HandS.Property
import PyProof.AssignAttr
import HandS.Star
import HandS.SetKeys
import HandS.MakeKw
import HandS.MakeKwOnly
import PyProof.InstNe
import HandS.Replace
import HandS.SetIn
import PyProof.StrLawsRepr
import PyProof.P3Eq
import HandS.Words
import HandS.Head0
import HandS.Head1
import PySem.Challenge.RW_readhouse_k07_whole_strands_turns_and_ro
set_option Elab.async false
set_option linter.all false
set_option maxRecDepth 100000
set_option maxHeartbeats 4000000
namespace Z
open PySem PySem.Spec PyProof.Rows L2

def dicO : HO → Bool
  | .dK _ => true
  | .dT _ => true
  | _ => false
def Le (G G' : Hp) : Prop := ∀ a o, G a = some o → G' a = some o
theorem Le.refl (G : Hp) : Le G G := fun _ _ h => h
theorem Le.trans {G G1 G2 : Hp} (a : Le G G1) (b : Le G1 G2) : Le G G2 := fun x o h => b x o (a x o h)
def In (G H : Hp) : Prop := ∀ a o, G a = some o → H a = some o ∨ (dicO o = true ∧ ∃ ob, H a = some (.frz ob o))
theorem In.le {G G1 H : Hp} (a : Le G G1) (b : In G1 H) : In G H := fun x o h => b x o (a x o h)
theorem In.ge {G H H1 : Hp} (a : In G H) (b : Le H H1) : In G H1 := fun x o h => by
  rcases a x o h with e | ⟨d, ob, e⟩
  · exact .inl (b x _ e)
  · exact .inr ⟨d, ob, b x _ e⟩
theorem In.ne {G H : Hp} (i : In G H) {a : Addr} {o : HO} (h : G a = some o) : H a ≠ none := by
  rcases i a o h with e | ⟨_, ob, e⟩ <;> rw [e] <;> intro q <;> cases q
theorem In.no {G H : Hp} (i : In G H) {a : Addr} (h : H a = none) : G a = none := by
  cases q : G a with
  | none => rfl
  | some o => exact absurd h (i.ne q)
theorem In.ex {G H : Hp} (i : In G H) {a : Addr} {o : HO} (h : G a = some o) (hd : dicO o = false) : H a = some o := by
  rcases i a o h with e | ⟨d, _⟩
  · exact e
  · rw [hd] at d; cases d
theorem In.rd {G H : Hp} (i : In G H) {a : Addr} {o : HO} (h : G a = some o) : Rd H a o := by
  rcases i a o h with e | ⟨_, e⟩
  · exact .inl e
  · exact .inr e
theorem Le.no {G H : Hp} (i : Le G H) {a : Addr} (h : H a = none) : G a = none := by
  cases q : G a with
  | none => rfl
  | some o => rw [i a o q] at h; cases h
structure Up (G H G2 H2 : Hp) : Prop where
  g : Le G G2
  i : In G2 H2
  h : Le H H2
  n : ∀ a o, G2 a = some o → G a = some o ∨ H a = none
theorem Up.refl {G H : Hp} (i : In G H) : Up G H G H := ⟨Le.refl _, i, Le.refl _, fun _ _ e => .inl e⟩
theorem Up.trans {G H G2 H2 G3 H3 : Hp} (u : Up G H G2 H2) (w : Up G2 H2 G3 H3) : Up G H G3 H3 :=
  ⟨u.g.trans w.g, w.i, u.h.trans w.h, fun a o e => by
    rcases w.n a o e with q | q
    · exact u.n a o q
    · exact .inr (u.h.no q)⟩
theorem Up.new {G H : Hp} {p : Addr} {o : HO} (i : In G H) (hp : H p = none) : Up G H (upd G p o) (upd H p o) := by
  refine ⟨fun a u e => ?_, fun a u e => ?_, fun a u e => ?_, fun a u e => ?_⟩
  · have ne : a ≠ p := fun z => by subst z; rw [i.no hp] at e; cases e
    rw [upd_ne ne]; exact e
  · by_cases ha : a = p
    · subst ha; rw [upd_same] at e ⊢; exact .inl e
    · rw [upd_ne ha] at e ⊢; exact i a u e
  · have ne : a ≠ p := fun z => by subst z; rw [hp] at e; cases e
    rw [upd_ne ne]; exact e
  · by_cases ha : a = p
    · subst ha; exact .inr hp
    · rw [upd_ne ha] at e; exact .inl e
theorem Up.hid {G H : Hp} {p : Addr} {o : HO} (i : In G H) (hp : H p = none) : Up G H G (upd H p o) := by
  have l : Le H (upd H p o) := fun a u e => by
    have ne : a ≠ p := fun z => by subst z; rw [hp] at e; cases e
    rw [upd_ne ne]; exact e
  exact ⟨Le.refl _, i.ge l, l, fun _ _ e => .inl e⟩
theorem Up.hide {G H G2 H2 : Hp} (u : Up G H G2 H2) {m : Addr} (h : H m ≠ none) (hg : G m = none) : G2 m = none := by
  cases q : G2 m with
  | none => rfl
  | some o =>
    rcases u.n m o q with e | e
    · rw [hg] at e; cases e
    · exact absurd e h
theorem In.mut {G H : Hp} (i : In G H) {m : Addr} {o : HO} (hg : G m = none) : In G (upd H m o) := fun a u e => by
  have ne : a ≠ m := fun z => by subst z; rw [hg] at e; cases e
  rw [upd_ne ne]; exact i a u e

def kD : Key → PyData
  | .inl i => .int i
  | .inr x => .str x
mutual
inductive Rp (K : PySem.W.Frag) (G : Hp) : V → PyData → Prop
  | non : Rp K G .non .none
  | bl (b : Bool) : Rp K G (.bl b) (.bool b)
  | int (i : Int) : Rp K G (.int i) (.int i)
  | str (x : Str) : Rp K G (.str x) (.str x)
  | lst {a : Addr} {xs : List V} {ds : List PyData} : G a = some (.lst xs) → RpA K G xs ds → Rp K G (.ref a) (.list ds)
  | tup {a : Addr} {xs : List V} {ds : List PyData} : SqT K G a xs → RpA K G xs ds → Rp K G (.ref a) (.tuple ds)
  | dic {a : Addr} {kvs : List (Key × V)} {ds : List (PyData × PyData)} : G a = some (.dK kvs) → RpD K G kvs ds → Rp K G (.ref a) (.dict ds)
inductive RpA (K : PySem.W.Frag) (G : Hp) : List V → List PyData → Prop
  | nil : RpA K G [] []
  | cons {v : V} {vs : List V} {d : PyData} {ds : List PyData} : Rp K G v d → RpA K G vs ds → RpA K G (v :: vs) (d :: ds)
inductive RpD (K : PySem.W.Frag) (G : Hp) : List (Key × V) → List (PyData × PyData) → Prop
  | nil : RpD K G [] []
  | cons {k : Key} {v : V} {vs : List (Key × V)} {d : PyData} {ds : List (PyData × PyData)} : Rp K G v d → RpD K G vs ds → RpD K G ((k, v) :: vs) ((kD k, d) :: ds)
end
theorem le_t {K : PySem.W.Frag} {G G' : Hp} {a : Addr} {xs : List V} (e : Le G G') (h : SqT K G a xs) : SqT K G' a xs := by
  rcases h with h | h
  · rcases h with h | ⟨o, h⟩
    · exact .inl (.inl (e _ _ h))
    · exact .inl (.inr ⟨o, e _ _ h⟩)
  · exact .inr h
section
variable {K : PySem.W.Frag} {G G' : Hp}
mutual
theorem Rp.mono (l : Le G G') : ∀ {v : V} {d : PyData}, Rp K G v d → Rp K G' v d
  | _, _, .non => .non
  | _, _, .bl b => .bl b
  | _, _, .int i => .int i
  | _, _, .str x => .str x
  | _, _, .lst h a => .lst (l _ _ h) (RpA.mono l a)
  | _, _, .tup h a => .tup (le_t l h) (RpA.mono l a)
  | _, _, .dic h a => .dic (l _ _ h) (RpD.mono l a)
theorem RpA.mono (l : Le G G') : ∀ {v : List V} {d : List PyData}, RpA K G v d → RpA K G' v d
  | _, _, .nil => .nil
  | _, _, .cons h a => .cons (Rp.mono l h) (RpA.mono l a)
theorem RpD.mono (l : Le G G') : ∀ {v : List (Key × V)} {d : List (PyData × PyData)}, RpD K G v d → RpD K G' v d
  | _, _, .nil => .nil
  | _, _, .cons h a => .cons (Rp.mono l h) (RpD.mono l a)
end
end
end Z

namespace Z
open PySem PySem.Spec PyProof.Rows L2

abbrev Ret (K : PySem.W.Frag) (G H : Hp) (Q : VK) (d : PyData) : Prop := ∀ v G2 H2, Up G H G2 H2 → Rp K G2 v d → Q v H2
def EvP (t : TE) (σ : L2.St) (G : Hp) (P : Hp → V → Prop) : Prop :=
  ∀ G1 H1, Le G G1 → In G1 H1 → ∀ Q : VK, (∀ v G2 H2, Up G1 H1 G2 H2 → P G2 v → Q v H2) → t σ H1 Q
abbrev Ev (K : PySem.W.Frag) (t : TE) (σ : L2.St) (G : Hp) (d : PyData) : Prop := EvP t σ G fun G v => Rp K G v d
def EvT (t : TT) (σ : L2.St) (G : Hp) (b : Bool) : Prop :=
  ∀ G1 H1, Le G G1 → In G1 H1 → ∀ Q : Bool → Hp → Prop, (∀ G2 H2, Up G1 H1 G2 H2 → Q b H2) → t σ H1 Q
def EvA (K : PySem.W.Frag) (t : TA) (σ : L2.St) (G : Hp) (ds : List PyData) : Prop :=
  ∀ G1 H1, Le G G1 → In G1 H1 → ∀ Q : List V → Hp → Prop, (∀ vs G2 H2, Up G1 H1 G2 H2 → RpA K G2 vs ds → Q vs H2) → t σ H1 Q
def OpV (K : PySem.W.Frag) (r : R2) (a b d : PyData) : Prop := ∀ G H x y, In G H → Rp K G x a → Rp K G y b → ∀ Q, Ret K G H Q d → r x y H Q
def CaV (K : PySem.W.Frag) (r : List V → Hp → VK → Prop) (ds : List PyData) (d : PyData) : Prop := ∀ G H vs, In G H → RpA K G vs ds → ∀ Q, Ret K G H Q d → r vs H Q
section
variable {K : PySem.W.Frag} {σ : L2.St} {G G' : Hp} {ta tb te tc : TE} {t u : TT} {a b c d : PyData} {r r' : R2} {P : Hp → V → Prop}
theorem EvP.mono (e : Le G G') (h : EvP te σ G P) : EvP te σ G' P := fun G1 H1 l i Q q => h G1 H1 (e.trans l) i Q q
theorem EvT.mono {k : Bool} (e : Le G G') (h : EvT t σ G k) : EvT t σ G' k := fun G1 H1 l i Q q => h G1 H1 (e.trans l) i Q q
theorem EvP.imp {P' : Hp → V → Prop} (h : EvP te σ G P) (f : ∀ G v, P G v → P' G v) : EvP te σ G P' := fun G1 H1 l i Q q => h G1 H1 l i Q fun v G2 H2 w p => q v G2 H2 w (f _ _ p)
theorem ev_var {i : Nat} {v : V} (h : σ[i]? = some (some v)) (p : Rp K G v d) : Ev K (tVar i) σ G d := fun G1 H1 l i Q q => ⟨v, h, q v G1 H1 (Up.refl i) (p.mono l)⟩
theorem ev_int {i : Int} : Ev K (tC (.int i)) σ G (.int i) := fun G1 H1 l i Q q => q _ G1 H1 (Up.refl i) (.int _)
theorem ev_op (ha : Ev K ta σ G a) (hb : Ev K tb σ G b) (hr : OpV K r a b d) : Ev K (tOp r ta tb) σ G d := fun G1 H1 l i Q q =>
  ha G1 H1 l i _ fun x G2 H2 u2 p2 => hb G2 H2 (l.trans u2.g) u2.i _ fun y G3 H3 u3 p3 =>
    hr G3 H3 x y u3.i (p2.mono u3.g) p3 Q fun v G4 H4 u4 p4 => q v G4 H4 ((u2.trans u3).trans u4) p4
theorem ea_nil : EvA K tNil σ G [] := fun G1 H1 l i Q q => q [] G1 H1 (Up.refl i) .nil
theorem ea_cons {tr : TA} {ds : List PyData} (ha : Ev K ta σ G a) (hr : EvA K tr σ G ds) : EvA K (tCons ta tr) σ G (a :: ds) := fun G1 H1 l i Q q =>
  ha G1 H1 l i _ fun x G2 H2 u2 p2 => hr G2 H2 (l.trans u2.g) u2.i _ fun vs G3 H3 u3 p3 => q (x :: vs) G3 H3 (u2.trans u3) (.cons (p2.mono u3.g) p3)
theorem ev_cb {r : List V → Hp → VK → Prop} {tr : TA} {ds : List PyData} (ha : EvA K tr σ G ds) (hr : CaV K r ds d) : Ev K (tCB r tr) σ G d := fun G1 H1 l i Q q =>
  ha G1 H1 l i _ fun vs G2 H2 u2 p2 => hr G2 H2 vs u2.i p2 Q fun v G4 H4 u4 p4 => q v G4 H4 (u2.trans u4) p4
theorem rp_bool {v : V} {k : Bool} (h : Rp K G v (.bool k)) : v = .bl k := by cases h; rfl
theorem et_test {k : Bool} (h : Ev K te σ G (.bool k)) : EvT (tTest te) σ G k := fun G1 H1 l i Q q => h G1 H1 l i _ fun v G2 H2 u2 p2 => ⟨k, rp_bool p2, q G2 H2 u2⟩
theorem RpA.len : ∀ {vs : List V} {ds : List PyData}, RpA K G vs ds → vs.length = ds.length
  | _, _, .nil => rfl
  | _, _, .cons _ a => by rw [List.length_cons, List.length_cons, RpA.len a]
end
end Z

namespace Z
open PySem PySem.Spec PyProof.Rows L2

def WkD (K : PySem.W.Frag) (J : It) (G : Hp) (ds : List PyData) : Prop := ∀ G' H', Le G G' → In G' H' →
  J.stop ds.length H' ∧ ∀ (i : Nat) d, ds[i]? = some d → J.go i H' ∧ ∀ x H2, J.yld i H' x H2 → ∃ G2, Up G' H' G2 H2 ∧ Rp K G2 x d
def EvI (K : PySem.W.Frag) (wi : TI) (σ : L2.St) (G : Hp) (ds : List PyData) : Prop :=
  ∀ G1 H1, Le G G1 → In G1 H1 → ∀ R : It → Hp → Prop, (∀ J G2 H2, Up G1 H1 G2 H2 → WkD K J G2 ds → R J H2) → wi σ H1 R
def Bnd (K : PySem.W.Frag) (g : TG) (σ : L2.St) (d : PyData) (B : L2.St → Hp → Prop) : Prop := ∀ G H x, In G H → Rp K G x d → ∀ Q, (∀ σ2, B σ2 G → Q σ2 H) → g x σ H Q
section
variable {K : PySem.W.Frag} {σ : L2.St} {G G' : Hp} {ta tb te tc : TE} {t u tt : TT} {a b c d : PyData} {wi : TI} {g : TG}
theorem RpA.get : ∀ {vs : List V} {ds : List PyData} {i : Nat} {d : PyData}, RpA K G vs ds → ds[i]? = some d → ∃ v, vs[i]? = some v ∧ Rp K G v d
  | _, _, _, _, .nil, e => by simp at e
  | _, _, 0, _, .cons h _, e => by simp at e; subst e; exact ⟨_, rfl, h⟩
  | _, _, i + 1, _, .cons _ a, e => by
    obtain ⟨v, h1, h2⟩ := RpA.get (i := i) a (by simpa using e)
    exact ⟨v, by simpa using h1, h2⟩
theorem WkD.mono {J : It} {ds : List PyData} (l : Le G G') (w : WkD K J G ds) : WkD K J G' ds := fun G1 H1 l1 i => w G1 H1 (l.trans l1) i
theorem wk_tup {p : Addr} {xs : List V} {ds : List PyData} (h : SqT K G p xs) (r : RpA K G xs ds) : WkD K (Itt K p) G ds := fun G' H' l i => by
  have e : SqT K H' p xs := by
    rcases le_t l h with q | q
    · rcases q with q | ⟨o, q⟩
      · exact .inl (.inl (i.ex q rfl))
      · exact .inl (.inr ⟨o, i.ex q rfl⟩)
    · exact .inr q
  have W := walk_tup (K := K) (a := p) (xs := xs)
  refine ⟨by rw [← r.len]; exact W.stops H' e, fun j d hd => ?_⟩
  obtain ⟨v, h1, h2⟩ := r.get hd
  have hj : j < xs.length := (List.getElem?_eq_some_iff.mp h1).1
  refine ⟨W.goes j H' hj e, fun x H2 y => ?_⟩
  obtain ⟨e1, e2⟩ := W.yields j H' x H2 hj e y
  rw [h1] at e2
  cases e2
  subst e1
  exact ⟨G', Up.refl i, h2.mono l⟩
def rng (lo : Int) (n : Nat) : List Int := (List.range n).map fun (i : Nat) => lo + (i : Int)
theorem rng_len (lo : Int) (n : Nat) : (rng lo n).length = n := by simp [rng]
theorem wk_range {lo : Int} {n : Nat} : WkD K (Itr lo n) G ((rng lo n).map .int) := fun G' H' l i => by
  have W := walk_range (lo := lo) (n := n)
  refine ⟨by rw [List.length_map, rng_len]; exact W.stops H' trivial, fun j d hd => ?_⟩
  have hj : j < n := by
    have := (List.getElem?_eq_some_iff.mp hd).1
    simpa [rng_len] using this
  refine ⟨W.goes j H' hj trivial, fun x H2 y => ?_⟩
  obtain ⟨e1, e2⟩ := W.yields j H' x H2 hj trivial y
  subst e1 e2
  have : d = .int (lo + (j : Int)) := by
    simp [rng, hj] at hd
    exact hd.symm
  subst this
  exact ⟨G', Up.refl i, .int _⟩
def S (l : List Nat) : Str := ⟨l.toArray⟩
theorem S_cps (l : List Nat) : (S l).cps.toList = l := by simp [S]
theorem S_eta (x : Str) : S x.cps.toList = x := by cases x; simp [S]
theorem S_inj {a b : List Nat} (h : S a = S b) : a = b := by
  have := congrArg (fun x : Str => x.cps.toList) h
  simpa [S] using this
theorem wk_str {l : List Nat} : WkD K (Its (S l)) G (l.map fun c => .str (S [c])) := fun G' H' le i => by
  have W := walk_str (z := S l)
  have hs : (S l).cps.size = l.length := by simp [S]
  refine ⟨by rw [List.length_map, ← hs]; exact W.stops H' trivial, fun j d hd => ?_⟩
  have hj : j < (S l).cps.size := by
    have := (List.getElem?_eq_some_iff.mp hd).1
    rw [hs]
    simpa using this
  refine ⟨W.goes j H' hj trivial, fun x H2 y => ?_⟩
  obtain ⟨e1, c, e2, e3⟩ := W.yields j H' x H2 hj trivial y
  subst e1 e3
  have hc : l[j]? = some c := by
    rw [← S_cps l]
    simpa using e2
  have : d = .str (S [c]) := by
    rw [List.getElem?_map, hc] at hd
    exact (Option.some.inj hd).symm
  subst this
  exact ⟨G', Up.refl i, .str _⟩
theorem rp_ref {v : V} {ds : List PyData} (h : Rp K G v (.list ds)) : ∃ p xs, v = .ref p ∧ G p = some (.lst xs) ∧ RpA K G xs ds := by
  cases h with | lst h a => exact ⟨_, _, rfl, h, a⟩
theorem rp_tup {v : V} {ds : List PyData} (h : Rp K G v (.tuple ds)) : ∃ p xs, v = .ref p ∧ SqT K G p xs ∧ RpA K G xs ds := by
  cases h with | tup h a => exact ⟨_, _, rfl, h, a⟩
theorem rp_int {v : V} {i : Int} (h : Rp K G v (.int i)) : v = .int i := by cases h; rfl
theorem rp_str {v : V} {i : Str} (h : Rp K G v (.str i)) : v = .str i := by cases h; rfl
theorem rpa_nil {vs : List V} (h : RpA K G vs []) : vs = [] := by cases h; rfl
theorem rpa_cons {vs : List V} {ds : List PyData} (h : RpA K G vs (d :: ds)) : ∃ v ws, vs = v :: ws ∧ Rp K G v d ∧ RpA K G ws ds := by
  cases h with | cons h a => exact ⟨_, _, rfl, h, a⟩
theorem rpa_ints : ∀ {vs : List V} {ns : List Int}, RpA K G vs (ns.map .int) → vs = ns.map .int
  | vs, [], h => rpa_nil h
  | vs, n :: ns, h => by
    obtain ⟨v, ws, rfl, h1, h2⟩ := rpa_cons h
    rw [rp_int h1, rpa_ints h2]; rfl
theorem rpa_strs : ∀ {vs : List V} {ns : List Str}, RpA K G vs (ns.map .str) → vs = ns.map .str
  | vs, [], h => rpa_nil h
  | vs, n :: ns, h => by
    obtain ⟨v, ws, rfl, h1, h2⟩ := rpa_cons h
    rw [rp_str h1, rpa_strs h2]; rfl
theorem strs_rpa : ∀ ns : List Str, RpA K G (ns.map V.str) (ns.map .str)
  | [] => .nil
  | n :: ns => .cons (.str n) (strs_rpa ns)
theorem bnd_name {k : Nat} : Bnd K (gName k) σ d fun σ2 G => ∃ x, σ2 = σ.set k (some x) ∧ Rp K G x d := fun G H x i p Q q => q _ ⟨x, rfl, p⟩
theorem wipe1 {k : Nat} {x : Option V} : wipe ((wipe σ [k]).set k x) [k] = wipe σ [k] := by
  show (((σ.set k none).set k x).set k none) = σ.set k none
  rw [List.set_set, List.set_set]
theorem lc_new {α : Type} {D : α → PyData} {xs : List α} {p : α → Bool} {f : α → PyData} {vs : List Nat} {B : α → L2.St → Hp → Prop} (hi : EvI K wi σ G (xs.map D)) (hb : ∀ z ∈ xs, Bnd K g (wipe σ vs) (D z) (B z))
    (hw : ∀ z ∈ xs, ∀ σ2 G, B z σ2 G → wipe σ2 vs = wipe σ vs)
    (ht : ∀ z ∈ xs, ∀ G1 σ2, Le G G1 → B z σ2 G1 → EvT tt σ2 G1 (p z)) (he : ∀ z ∈ xs, p z = true → ∀ G1 σ2, Le G G1 → B z σ2 G1 → Ev K te σ2 G1 (f z))
    (hBm : ∀ z σ2 G1 G2, Le G1 G2 → B z σ2 G1 → B z σ2 G2) (hl : xs.length ≤ 100000) {G1 H1 : Hp} (l : Le G G1) (i : In G1 H1) {Q : VK}
    (q : ∀ D' G3 H3 acc, H1 D' = none → G3 D' = none → Up G1 H1 G3 (fun b => if b = D' then none else H3 b) → In G3 H3 → H3 D' = some (.lst acc) → RpA K G3 acc ((xs.filter p).map f) → Q (.ref D') H3) : tLc wi g tt te vs σ H1 Q := hi G1 H1 l i _ fun J G2 H2 u2 w => by
  intro D' hD
  refine ⟨fun i m H => m = xs.length - i ∧ i ≤ xs.length ∧ ∃ G3, G3 D' = none ∧ Up G2 H2 G3 (fun b => if b = D' then none else H b) ∧ In G3 H ∧ ∃ acc, H D' = some (.lst acc) ∧ RpA K G3 acc (((xs.take i).filter p).map f), ⟨xs.length, by simp, Nat.zero_le _, G2, u2.i.no hD, ?_, ?_, [], upd_same, .nil⟩, ?_⟩
  · refine ⟨Le.refl _, fun b o e => ?_, fun b o e => ?_, fun _ _ e => .inl e⟩
    · have ne : b ≠ D' := fun z => by subst z; rw [u2.i.no hD] at e; cases e
      show (if b = D' then none else upd H2 D' (.lst []) b) = _ ∨ _ ∧ ∃ ob, (if b = D' then none else upd H2 D' (.lst []) b) = _
      rw [if_neg ne, upd_ne ne]
      exact u2.i b o e
    · have ne : b ≠ D' := fun z => by subst z; rw [hD] at e; cases e
      show (if b = D' then none else upd H2 D' (.lst []) b) = _
      rw [if_neg ne, upd_ne ne]
      exact e
  · exact u2.i.mut (u2.i.no hD)
  · rintro j m H ⟨rfl, hj, G3, hG3, u3, i3, acc, hacc, racc⟩
    obtain ⟨wstop, wgo⟩ := w G3 H u3.g i3
    by_cases hlt : j < xs.length
    · have hz : xs[j]? = some xs[j] := List.getElem?_eq_getElem hlt
      have hm : xs[j] ∈ xs := List.getElem_mem hlt
      obtain ⟨go, yl⟩ := wgo j (D xs[j]) (by rw [List.getElem?_map, hz]; rfl)
      refine .inr ⟨go, fun H' => j + 1 ≤ xs.length ∧ ∃ G3, G3 D' = none ∧ Up G2 H2 G3 (fun b => if b = D' then none else H' b) ∧ In G3 H' ∧ ∃ acc, H' D' = some (.lst acc) ∧ RpA K G3 acc (((xs.take (j + 1)).filter p).map f), fun H' x => ⟨xs.length - (j + 1), by omega, rfl, x.1, x.2⟩, fun x H4 y => ?_⟩
      obtain ⟨G4, u4, r4⟩ := yl x H4 y
      have hD4 : H4 D' = some (.lst acc) := u4.h _ _ hacc
      have hG4 : G4 D' = none := u4.hide (by rw [hacc]; intro z; cases z) hG3
      -- growing but for D'
      have grow : ∀ {Ga Ha Gb Hb : Hp}, Up G2 H2 Ga (fun b => if b = D' then none else Ha b) → Ga D' = none → Up Ga Ha Gb Hb → Gb D' = none → Up G2 H2 Gb (fun b => if b = D' then none else Hb b) := fun {Ga Ha Gb Hb} ua na ub nb => by
        refine ⟨ua.g.trans ub.g, fun b o e => ?_, fun b o e => ?_, fun b o e => ?_⟩
        · have ne : b ≠ D' := fun z => by subst z; rw [nb] at e; cases e
          show (if b = D' then none else Hb b) = _ ∨ _ ∧ ∃ ob, (if b = D' then none else Hb b) = _
          rw [if_neg ne]
          exact ub.i b o e
        · have h1 := ua.h b o e
          have ne : b ≠ D' := fun z => by subst z; rw [hD] at e; cases e
          have h1 : (if b = D' then none else Ha b) = some o := h1
          rw [if_neg ne] at h1
          show (if b = D' then none else Hb b) = _
          rw [if_neg ne]
          exact ub.h b o h1
        · have ne : b ≠ D' := fun z => by subst z; rw [nb] at e; cases e
          rcases ub.n b o e with q | q
          · exact ua.n b o q
          · refine .inr ?_
            cases h2 : H2 b with
            | none => rfl
            | some o2 =>
              have h1 : (if b = D' then none else Ha b) = some o2 := ua.h b o2 h2
              rw [if_neg ne, q] at h1
              cases h1
      have u24 := grow u3 hG3 u4 hG4
      have l4 : Le G G4 := l.trans (u2.g.trans u24.g)
      refine hb _ hm G4 H4 x u4.i r4 _ fun σ2 b2 => ⟨hw _ hm σ2 G4 b2, ?_⟩
      refine ht _ hm G4 σ2 l4 b2 G4 H4 (Le.refl _) u4.i _ fun G5 H5 u5 => ?_
      have hD5 := u5.h _ _ hD4
      have hG5 : G5 D' = none := u5.hide (by rw [hD4]; intro z; cases z) hG4
      have u25 := grow u24 hG4 u5 hG5
      have tk : (xs.take (j + 1)).filter p = (xs.take j).filter p ++ [xs[j]].filter p := by
        rw [List.take_succ_eq_append_getElem hlt, List.filter_append]
      cases hp : p xs[j] with
      | false =>
        show _ ∧ _
        refine ⟨hlt, G5, hG5, u25, u5.i, acc, hD5, ?_⟩
        rw [tk]
        have : [xs[j]].filter p = [] := by simp [hp]
        rw [this, List.append_nil]
        exact racc.mono (u4.g.trans u5.g)
      | true =>
        show te σ2 H5 _
        refine he _ hm hp G5 σ2 (l4.trans u5.g) (hBm _ _ _ _ u5.g b2) G5 H5 (Le.refl _) u5.i _ fun y G6 H6 u6 r6 => ?_
        have hD6 := u6.h _ _ hD5
        have hG6 : G6 D' = none := u6.hide (by rw [hD5]; intro z; cases z) hG5
        have u26 := grow u25 hG5 u6 hG6
        have hlen : acc.length ≤ xs.length := by
          rw [racc.len, List.length_map]
          exact Nat.le_trans (List.length_filter_le _ _) (by rw [List.length_take]; omega)
        refine ⟨acc, hD6, Nat.lt_of_le_of_lt (Nat.le_trans hlen hl) (by decide), hlt, G6, hG6, ?_, u6.i.mut hG6, acc ++ [y], upd_same, ?_⟩
        · refine ⟨u26.g, fun b o e => ?_, fun b o e => ?_, u26.n⟩
          · have ne : b ≠ D' := fun z => by subst z; rw [hG6] at e; cases e
            have := u26.i b o e
            show (if b = D' then none else upd H6 D' _ b) = _ ∨ _ ∧ ∃ ob, (if b = D' then none else upd H6 D' _ b) = _
            simp only [if_neg ne] at this
            rw [if_neg ne, upd_ne ne]
            exact this
          · have ne : b ≠ D' := fun z => by subst z; rw [hD] at e; cases e
            have := u26.h b o e
            simp only [if_neg ne] at this
            show (if b = D' then none else upd H6 D' _ b) = _
            rw [if_neg ne, upd_ne ne]
            exact this
        · rw [tk]
          have : [xs[j]].filter p = [xs[j]] := by simp [hp]
          rw [this, List.map_append]
          have ap : ∀ {v1 v2 : List V} {d1 d2 : List PyData}, RpA K G6 v1 d1 → RpA K G6 v2 d2 → RpA K G6 (v1 ++ v2) (d1 ++ d2) := by
            intro v1
            induction v1 with
            | nil => intro v2 d1 d2 h1 h2; cases h1; exact h2
            | cons v vs ih => intro v2 d1 d2 h1 h2; cases h1 with | cons h a => exact .cons h (ih a h2)
          exact ap (racc.mono ((u4.g.trans u5.g).trans u6.g)) (.cons r6 .nil)
    · have e : j = xs.length := by omega
      subst e
      refine .inl ⟨by simpa using wstop, ?_⟩
      rw [List.take_length] at racc
      refine q D' G3 H acc (u2.h.no hD) hG3 ?_ i3 hacc racc
      refine ⟨u2.g.trans u3.g, u3.i, fun b o e => u3.h b o (u2.h b o e), fun b o e => ?_⟩
      rcases u3.n b o e with z | z
      · exact u2.n b o z
      · exact .inr (u2.h.no z)
end
end Z

namespace Z
open PySem PySem.Spec PyProof.Rows L2

section
variable {K : PySem.W.Frag} {σ : L2.St} {G H : Hp}
theorem opv_I0 {g : Int → Int → V} {D : Int → Int → PyData} (h : ∀ i j G, Rp K G (g i j) (D i j)) {i j : Int} : OpV K (rI0 g) (.int i) (.int j) (D i j) := fun G H x y hi px py Q q => by
  rw [rp_int px, rp_int py]
  exact ⟨i, j, rfl, rfl, q _ G H (Up.refl hi) (h i j G)⟩
theorem opv_I {C : Int → Int → Prop} {g : Int → Int → V} {D : Int → Int → PyData} (h : ∀ i j G, Rp K G (g i j) (D i j)) {i j : Int} (hc : C i j) : OpV K (rI C g) (.int i) (.int j) (D i j) := fun G H x y hi px py Q q => by
  rw [rp_int px, rp_int py]
  exact ⟨i, j, rfl, rfl, hc, q _ G H (Up.refl hi) (h i j G)⟩
theorem opv_sub {i j : Int} : OpV K (rI0 fun i j => .int (i - j)) (.int i) (.int j) (.int (i - j)) := opv_I0 (D := fun i j => .int (i - j)) fun _ _ _ => .int _
theorem opv_mod {i j : Int} (h : j ≠ 0) : OpV K (rI (fun _ j => j ≠ 0) fun i j => .int (i.fmod j)) (.int i) (.int j) (.int (i.fmod j)) := opv_I (C := fun _ j => j ≠ 0) (D := fun i j => .int (i.fmod j)) (fun _ _ _ => .int _) h
theorem opv_pow {i j : Int} (h : CPow i j) : OpV K (rI CPow fun i j => .int (i ^ j.toNat)) (.int i) (.int j) (.int (i ^ j.toNat)) := opv_I (D := fun i j => .int (i ^ j.toNat)) (fun _ _ _ => .int _) h
theorem opv_ge {i j : Int} : OpV K (rI0 fun i j => .bl (decide (j ≤ i))) (.int i) (.int j) (.bool (decide (j ≤ i))) := opv_I0 (D := fun i j => .bool (decide (j ≤ i))) fun _ _ _ => .bl _
def rAddS : R2 := fun x y H Q => ∃ i j, x = .str i ∧ y = .str j ∧ i.length + j.length ≤ sizeLine ∧ Q (.str (i ++ j)) H
theorem S_app (a b : List Nat) : S a ++ S b = S (a ++ b) := by
  show (⟨(S a).cps ++ (S b).cps⟩ : Str) = _
  simp [S]
theorem S_len (a : List Nat) : (S a).length = a.length := by
  show (S a).cps.size = _
  simp [S]
theorem opv_addS {a b : List Nat} (h : a.length + b.length ≤ 10000000) : OpV K rAddS (.str (S a)) (.str (S b)) (.str (S (a ++ b))) := fun G H x y hi px py Q q => by
  rw [rp_str px, rp_str py]
  refine ⟨S a, S b, rfl, rfl, by rw [S_len, S_len]; exact Nat.le_trans h (by decide), ?_⟩
  rw [S_app]
  exact q _ G H (Up.refl hi) (.str _)
mutual
def dicF : PyData → Bool
  | .list xs => dicFs xs
  | .tuple xs => dicFs xs
  | .dict _ => false
  | _ => true
def dicFs : List PyData → Bool
  | [] => true
  | d :: ds => dicF d && dicFs ds
end
theorem in_t {a : Addr} {xs : List V} (i : In G H) (h : SqT K G a xs) : SqT K H a xs := by
  rcases h with q | q
  · rcases q with q | ⟨o, q⟩
    · exact .inl (.inl (i.ex q rfl))
    · exact .inl (.inr ⟨o, i.ex q rfl⟩)
  · exact .inr q
mutual
theorem Rp.dp (i : In G H) : ∀ {v : V} {d : PyData}, Rp K G v d → dicF d = true → Dp K H v d
  | _, _, .non, _ => .non
  | _, _, .bl b, _ => .bl b
  | _, _, .int j, _ => .int j
  | _, _, .str x, _ => .str x
  | _, _, .lst h a, e => .lst (.inl (.inl (i.ex h rfl))) (RpA.dp i a (by simpa [dicF] using e))
  | _, _, .tup h a, e => .tup (in_t i h) (RpA.dp i a (by simpa [dicF] using e))
  | _, _, .dic h a, e => by simp [dicF] at e
theorem RpA.dp (i : In G H) : ∀ {v : List V} {d : List PyData}, RpA K G v d → dicFs d = true → DpAll K H v d
  | _, _, .nil, _ => .nil
  | _, _, .cons h a, e => by
    simp only [dicFs, Bool.and_eq_true] at e
    exact .cons (Rp.dp i h e.1) (RpA.dp i a e.2)
end
mutual
theorem dicF_of_lay : ∀ d : PyData, d.canLay0 = true → dicF d = true
  | .none, _ => by simp [dicF]
  | .bool _, _ => by simp [dicF]
  | .int _, _ => by simp [dicF]
  | .str _, _ => by simp [dicF]
  | .list xs, h => by
    simp only [PyData.canLay0] at h
    simp only [dicF]
    exact dicFs_of_lay xs h
  | .tuple xs, h => by
    simp only [PyData.canLay0] at h
    simp only [dicF]
    exact dicFs_of_lay xs h
  | .dict _, h => by simp [PyData.canLay0] at h
theorem dicFs_of_lay : ∀ ds : List PyData, PyData.canLayAll0 ds = true → dicFs ds = true
  | [], _ => by simp [dicFs]
  | d :: ds, h => by
    simp only [PyData.canLayAll0, Bool.and_eq_true] at h
    simp only [dicFs, Bool.and_eq_true]
    exact ⟨dicF_of_lay d h.1, dicFs_of_lay ds h.2⟩
end
theorem opv_eqD {a b : PyData} (ha : SeqAt.shaped a = true) (hb : SeqAt.shaped b = true) : OpV K (rEqD K) a b (.bool (PyData.eqv a b)) := fun G H x y hi px py Q q =>
  ⟨a, b, px.dp hi (dicF_of_lay _ (SeqAt.canLay_of_shaped ha)), py.dp hi (dicF_of_lay _ (SeqAt.canLay_of_shaped hb)), ha, hb, q _ G H (Up.refl hi) (.bl _)⟩
theorem opv_neD {a b : PyData} (ha : SeqAt.shaped a = true) (hb : SeqAt.shaped b = true) : OpV K (rNeD K) a b (.bool (!PyData.eqv a b)) := fun G H x y hi px py Q q =>
  ⟨a, b, px.dp hi (dicF_of_lay _ (SeqAt.canLay_of_shaped ha)), py.dp hi (dicF_of_lay _ (SeqAt.canLay_of_shaped hb)), ha, hb, q _ G H (Up.refl hi) (.bl _)⟩
end
end Z

namespace Z
open PySem PySem.Spec PyProof.Rows L2
section
variable {X : Cx}
def rMulS : R2 := fun x y H Q => ∃ z n, x = .str z ∧ y = .int n ∧ MulOk z n ∧ Q (.str (Txt.mul z n)) H
theorem op_mulS : OpR X (binaryOp .Mult) rMulS := by
  intro pins s σ H x y v u Q I rx ry h
  obtain ⟨z, n, rfl, rfl, hok, q⟩ := h
  obtain ⟨t, rfl⟩ := rx
  obtain ⟨t', rfl⟩ := ry
  exact SB.mul hok fun t' k => ⟨.str _, H, I.tok _, ⟨_, rfl⟩, q⟩
def sortD (ds : List PyData) : List PyData := ds.mergeSort (PySem.W.dataLe false fun d => d)
def rSortD (K : PySem.W.Frag) : List V → Hp → VK → Prop := fun vs H Q => ∃ (a : Addr) (xs : List V) (ds : List PyData), vs = [.ref a] ∧ SqL K H a xs ∧ DpAll K H xs ds ∧ PySem.W.AllAlike ds ∧ PySem.W.Sortable ds ∧ (∀ d ∈ ds, d.depth ≤ 64) ∧
  ∀ p (ys : List V), H p = none → (∀ (R : V → PyData → Prop), (∀ (i : Nat) x d, xs[i]? = some x → ds[i]? = some d → R x d) → ys.length = (sortD ds).length ∧ ∀ (i : Nat) y d, ys[i]? = some y → (sortD ds)[i]? = some d → R y d) → Q (.ref p) (upd H p (.lst ys))
theorem each_zip {R : Value → V × PyData → Prop} : ∀ {us : List Value} {xs : List V} {ds : List PyData}, us.length = xs.length → xs.length = ds.length → (∀ (i : Nat) u x d, us[i]? = some u → xs[i]? = some x → ds[i]? = some d → R u (x, d)) → PySem.W.EachIs R us (xs.zip ds)
  | [], [], [], _, _, _ => .nil
  | u :: us, x :: xs, d :: ds, h1, h2, h => .cons (h 0 u x d rfl rfl rfl) (each_zip (by simpa using h1) (by simpa using h2) fun i => h (i + 1))
  | [], _ :: _, _, h1, _, _ => by cases h1
  | _ :: _, [], _, h1, _, _ => by cases h1
  | [], [], _ :: _, _, h2, _ => by cases h2
  | _ :: _, _ :: _, [], _, h2, _ => by cases h2
theorem DpAll.len {K : PySem.W.Frag} {H : Hp} : ∀ {xs : List V} {ds : List PyData}, DpAll K H xs ds → xs.length = ds.length
  | _, _, .nil => rfl
  | _, _, .cons _ a => by rw [List.length_cons, List.length_cons, DpAll.len a]
theorem DpAll.get {K : PySem.W.Frag} {H : Hp} : ∀ {xs : List V} {ds : List PyData} {i : Nat} {x : V} {d : PyData}, DpAll K H xs ds → xs[i]? = some x → ds[i]? = some d → Dp K H x d
  | _, _, _, _, _, .nil, e, _ => by simp at e
  | _, _, 0, _, _, .cons h _, e, f => by simp at e f; subst e f; exact h
  | _, _, i + 1, _, _, .cons _ a, e, f => DpAll.get (i := i) a (by simpa using e) (by simpa using f)
theorem each_vals {us : List Value} {bs : List (V × PyData)} (h : PySem.W.EachIs (fun u (b : V × PyData) => RelV b.1 u) us bs) : Vals (bs.map (·.1)) us := by
  induction h with
  | nil => exact .nil
  | cons r _ ih => exact .cons r ih
theorem zip_snd : ∀ {xs : List V} {ds : List PyData}, xs.length = ds.length → (xs.zip ds).map (·.2) = ds
  | [], [], _ => rfl
  | x :: xs, d :: ds, h => by
    show d :: (xs.zip ds).map (·.2) = d :: ds
    rw [zip_snd (by simpa using h)]
  | [], _ :: _, h => by cases h
  | _ :: _, [], h => by cases h
theorem cr_sortD (hu : X.A.units + 100 < cLine) : CallR X (.builtin "sorted") (rSortD X.K) := by
  intro pins s σ H vs us Q I r h
  obtain ⟨a, xs, ds, rfl, hs, hd, hal, hk, hdep, q⟩ := h
  obtain ⟨its, rv, hl, hz⟩ := I.list hs
  rw [Vals.ref1 r]
  have e1 := rv.length
  have e2 := DpAll.len hd
  have hm : (xs.zip ds).map (·.2) = ds := zip_snd e2
  refine PySem.W.sorted_data (R := fun u (b : V × PyData) => RelV b.1 u) (enc := fun b : V × PyData => b.2) (bs := xs.zip ds) hl.isList (each_zip e1.symm e2 fun i u x d hu hx hd' => ?_) (each_zip e1.symm e2 fun i u x d hu hx hd' => ?_) ?_ ?_ ?_ ?_ fun out h1 h2 => ?_
  · obtain ⟨u', h1, h2⟩ := rv.get hx
    rw [hu] at h1; cases h1; exact h2
  · obtain ⟨u', h1, h2⟩ := rv.get hx
    rw [hu] at h1; cases h1
    exact Dp.reads I d x u (DpAll.get hd hx hd') h2
  · rw [hm]; exact hal
  · rw [hm]; exact hk
  · rw [List.length_zip]; omega
  · intro b hb
    have : b.2 ∈ ds := by rw [← hm]; exact List.mem_map.mpr ⟨b, hb, rfl⟩
    have := hdep _ this
    show X.A.units + 2 + b.2.depth < cLine
    omega
  · obtain ⟨ep, he'⟩ := PyProof.Rows.sortedAll_at s.heap its out.toArray
    have hv := each_vals h2
    have hlen : (((xs.zip ds).mergeSort (PySem.W.dataLe false fun b : V × PyData => b.2)).map (·.1)).length ≤ sizeLine := by
      rw [List.length_map, List.length_mergeSort, List.length_zip]; omega
    refine ⟨.ref _, upd H (s.heap.objs.size + 1) (.lst (((xs.zip ds).mergeSort (PySem.W.dataLe false fun b : V × PyData => b.2)).map (·.1))), I.laid (t' := s.toks) (fun _ _ => PyProof.Rows.sortedAll_old) (Nat.le_succ _) ⟨hlen, out, ep, hv, he'⟩, rfl, q _ _ (I.hok.fresh (Nat.le_succ _)) fun R hR => ?_⟩
    have es : sortD ds = ((xs.zip ds).mergeSort (PySem.W.dataLe false fun b : V × PyData => b.2)).map (·.2) := by
      unfold sortD
      have t := PySem.W.sort_maps (r := PySem.W.dataLe false fun b : V × PyData => b.2) (s := PySem.W.dataLe false fun d => d) (fun b : V × PyData => b.2) (l := xs.zip ds) (fun _ _ _ _ => rfl)
      rw [hm] at t
      exact t.symm
    rw [es]
    refine ⟨by simp, fun i y d hy hd' => ?_⟩
    rw [List.getElem?_map] at hy hd'
    cases hb : ((xs.zip ds).mergeSort (PySem.W.dataLe false fun b : V × PyData => b.2))[i]? with
    | none => rw [hb] at hy; cases hy
    | some b =>
      rw [hb] at hy hd'
      cases hy; cases hd'
      have hmem : b ∈ xs.zip ds := (List.mergeSort_perm _ _).mem_iff.mp (List.mem_of_getElem? hb)
      obtain ⟨j, hj⟩ := List.mem_iff_getElem?.mp hmem
      rw [List.getElem?_zip_eq_some] at hj
      exact hR j b.1 b.2 hj.1 hj.2
def rMinD (K : PySem.W.Frag) : List V → Hp → VK → Prop := fun vs H Q => ∃ (a : Addr) (xs : List V) (d : PyData) (ds : List PyData), vs = [.ref a] ∧ SqL K H a xs ∧ DpAll K H xs (d :: ds) ∧ PySem.W.AlikeAll (d :: ds) ∧ PyData.depthAll (d :: ds) ≤ 64 ∧
  ∀ (i : Nat) x, xs[i]? = some x → (d :: ds)[i]? = some (PySem.W.minD d ds) → Q x H
theorem cr_minD (hc : X.calm = true) (hu : X.A.units + 100 < cLine) : CallR X (.builtin "min") (rMinD X.K) := by
  intro pins s σ H vs us Q I r h
  obtain ⟨a, xs, d, ds, rfl, hs, hd, hal, hdep, q⟩ := h
  obtain ⟨its, rv, hl, hz⟩ := I.list hs
  rw [Vals.ref1 r]
  obtain ⟨as, hr⟩ := Dp.readsAll I (d :: ds) xs its hd rv
  refine PySem.W.min_list_data (I.ok.hd hc) hl.isList (by simpa using hr) hal (by show X.A.units + 1 + PyData.depthAll (d :: ds) < cLine; omega) fun i v h' tk bs hv hm hk => ?_
  have hv' : its[i]? = some v := by simpa using hv
  have hi : i < its.length := (List.getElem?_eq_some_iff.mp hv').1
  have e1 := rv.length
  have e2 := DpAll.len hd
  obtain ⟨x, hx⟩ : ∃ x, xs[i]? = some x := ⟨xs[i]'(by omega), List.getElem?_eq_getElem _⟩
  obtain ⟨e, he⟩ : ∃ e, (d :: ds)[i]? = some e := ⟨(d :: ds)[i]'(by omega), List.getElem?_eq_getElem _⟩
  obtain ⟨u, h1, h2⟩ := rv.get hx
  rw [hv'] at h1; cases h1
  obtain ⟨bs', hr'⟩ := Dp.reads I e x v (DpAll.get hd hx he) h2
  have ee := (PyProof.Rows.reads_det (h := s.heap) (h' := h') (fun b o hb _ => hk b o hb) hr' hm).1
  refine ⟨x, H, I.kept (t' := tk) hk, h2, q i x hx ?_⟩
  rw [he, ee]
end
section
variable {K : PySem.W.Frag} {σ : L2.St} {G H : Hp}
theorem cav_minD {d : PyData} {ds : List PyData} (hal : PySem.W.AlikeAll (d :: ds)) (hdep : PyData.depthAll (d :: ds) ≤ 64) (hf : dicFs (d :: ds) = true) : CaV K (rMinD K) [.list (d :: ds)] (PySem.W.minD d ds) := fun G H vs hi pv Q q => by
  obtain ⟨v, ws, rfl, p1, p2⟩ := rpa_cons pv
  rw [rpa_nil p2]
  obtain ⟨p, xs, rfl, h1, h2⟩ := rp_ref p1
  refine ⟨p, xs, d, ds, rfl, .inl (.inl (hi.ex h1 rfl)), h2.dp hi hf, hal, hdep, fun i x hx he => ?_⟩
  obtain ⟨v, e1, e2⟩ := h2.get he
  rw [hx] at e1; cases e1
  exact q _ G H (Up.refl hi) e2
def rLenU (K : PySem.W.Frag) : List V → Hp → VK → Prop := fun xs H Q => ∃ x n, xs = [x] ∧ LenV K x H n ∧ Q (.int n) H
def rAbs : List V → Hp → VK → Prop := fun xs H Q => ∃ i, xs = [.int i] ∧ Q (.int (if i < 0 then -i else i)) H
theorem cav_abs {i : Int} : CaV K rAbs [.int i] (.int (i.natAbs : Int)) := fun G H vs hi pv Q q => by
  obtain ⟨v, ws, rfl, p1, p2⟩ := rpa_cons pv
  rw [rpa_nil p2, rp_int p1]
  refine ⟨i, rfl, ?_⟩
  have e : (if i < 0 then -i else i) = (i.natAbs : Int) := by split <;> omega
  rw [e]
  exact q _ G H (Up.refl hi) (.int _)
def rMin2 : List V → Hp → VK → Prop := fun xs H Q => ∃ i j, xs = [.int i, .int j] ∧ Q (.int (if j < i then j else i)) H
theorem cav_min2 {i j : Int} : CaV K rMin2 [.int i, .int j] (.int (min i j)) := fun G H vs hi pv Q q => by
  obtain ⟨v, ws, rfl, p1, p2⟩ := rpa_cons pv
  obtain ⟨v', ws', rfl, p3, p4⟩ := rpa_cons p2
  rw [rpa_nil p4, rp_int p1, rp_int p3]
  refine ⟨i, j, rfl, ?_⟩
  have e : (if j < i then j else i) = min i j := by split <;> omega
  rw [e]
  exact q _ G H (Up.refl hi) (.int _)
def rInt1 : List V → Hp → VK → Prop := fun xs H Q => (∃ i, xs = [.int i] ∧ Q (.int i) H) ∨ ∃ k, xs = [.bl k] ∧ Q (.int (if k then 1 else 0)) H
theorem cav_int {i : Int} : CaV K rInt1 [.int i] (.int i) := fun G H vs hi pv Q q => by
  obtain ⟨v, ws, rfl, p1, p2⟩ := rpa_cons pv
  rw [rpa_nil p2, rp_int p1]
  exact .inl ⟨i, rfl, q _ G H (Up.refl hi) (.int _)⟩
end
end Z

namespace Z
open PySem PySem.Spec PyProof.Rows L2
section
variable {K : PySem.W.Frag} {σ : L2.St} {G H : Hp} {ta tb te tx : TE} {a b d : PyData}
def cutL {α : Type} (l : List α) (lo hi : Option Int) : List α := (l.drop (HT.sIx l.length 0 lo)).take (HT.sIx l.length l.length hi - HT.sIx l.length 0 lo)
theorem cutS_S (l : List Nat) (lo hi : Option Int) : cutS (S l) lo hi = S (cutL l lo hi) := by
  unfold cutS cutL
  rw [S_cps, S_len]
  rfl
theorem opv_ixS {l : List Nat} {i : Int} {c : Nat} (hz : l.length ≤ 10000000) (h : atI l i = some c) : OpV K (rIx K) (.str (S l)) (.int i) (.str (S [c])) := fun G H x y hi px py Q q => by
  rw [rp_str px, rp_int py]
  refine .inr (.inr ⟨S l, i, c, rfl, rfl, by rw [S_len]; exact Nat.le_trans hz (by decide), by rw [S_cps]; exact h, ?_⟩)
  exact q _ G H (Up.refl hi) (.str _)
def rJoin (K : PySem.W.Frag) : V → List V → Hp → VK → Prop := fun x xs H Q => ∃ a p, ∃ ys : List Str, x = .str a ∧ xs = [.ref p] ∧ (SqL K H p (ys.map V.str) ∨ SqT K H p (ys.map V.str)) ∧ (ys.map (·.length)).sum + ys.length * a.length ≤ 16777216 ∧ Q (.str (Txt.join a ys)) H
theorem glue_nil : ∀ (ls : List (List Nat)) (acc : List Nat), (ls.map S).foldl (fun (acc : Array Nat) p => acc ++ (S []).cps ++ p.cps) acc.toArray = (acc ++ ls.flatten).toArray
  | [], acc => by simp
  | l :: ls, acc => by
    rw [List.map_cons, List.foldl_cons]
    have : acc.toArray ++ (S []).cps ++ (S l).cps = (acc ++ l).toArray := by simp [S]
    rw [this, glue_nil ls (acc ++ l), List.flatten_cons, List.append_assoc]
theorem join_nil (ls : List (List Nat)) : Txt.join (S []) (ls.map S) = S ls.flatten := by
  unfold Txt.join
  cases ls with
  | nil => rfl
  | cons l ls =>
    show (⟨((ls.map S).foldl (fun acc p => acc ++ (S []).cps ++ p.cps) (S l).cps)⟩ : Str) = _
    have e : (S l).cps = l.toArray := rfl
    rw [e, glue_nil ls l]
    rfl
theorem mul_S (l : List Nat) (n : Nat) : Txt.mul (S l) (n : Int) = S (List.replicate n l).flatten := by
  unfold Txt.mul
  by_cases h0 : n = 0
  · subst h0; rfl
  rw [if_neg (by omega)]
  by_cases h1 : ((n : Int) == 1 || (S l).length == 0) = true
  · rw [if_pos h1]
    rw [S_len] at h1
    rcases Bool.or_eq_true_iff.mp h1 with e | e
    · have : n = 1 := by
        have e' : (n : Int) = 1 := by simpa using e
        omega
      subst this
      simp
    · have : l = [] := by simpa using e
      subst this
      have : (List.replicate n ([] : List Nat)).flatten = [] := by simp
      rw [this]
  · rw [if_neg h1]
    have key : ∀ (k : Nat) (acc : List Nat), (List.replicate k (S l).cps).foldl (· ++ ·) acc.toArray = (acc ++ (List.replicate k l).flatten).toArray := by
      intro k
      induction k with
      | zero => intro acc; simp
      | succ k ih =>
        intro acc
        rw [List.replicate_succ, List.foldl_cons, List.replicate_succ, List.flatten_cons]
        have : acc.toArray ++ (S l).cps = (acc ++ l).toArray := by simp [S]
        rw [this, ih, List.append_assoc]
    have := key n []
    simp only [Int.toNat_natCast]
    rw [this]
    rfl
theorem opv_mulS {l : List Nat} {n : Nat} (h : l.length * n ≤ 10000000) (hn : n ≤ 1000000) : OpV K rMulS (.str (S l)) (.int (n : Int)) (.str (S (List.replicate n l).flatten)) := fun G H x y hi px py Q q => by
  rw [rp_str px, rp_int py]
  refine ⟨S l, n, rfl, rfl, ⟨?_, fun h1 _ => ?_, fun _ _ => ?_⟩, ?_⟩
  · simp only [Bool.or_eq_false_iff, decide_eq_false_iff_not]
    constructor <;> omega
  · rw [S_len]
    have hpos : (0 : Int) < (n : Int) := by omega
    have : (l.length : Int) ≤ (2 ^ 63 - 1) / (n : Int) := by
      rw [Int.le_ediv_iff_mul_le hpos]
      have : ((l.length * n : Nat) : Int) ≤ ((10000000 : Nat) : Int) := Int.ofNat_le.mpr h
      rw [Int.natCast_mul] at this
      omega
    omega
  · rw [S_len]
    unfold PySem.Builtin.Str.tooLong
    simp only [Int.toNat_natCast, decide_eq_false_iff_not]
    have : sizeLine = 16777216 := by decide
    omega
  · rw [mul_S]
    exact q _ G H (Up.refl hi) (.str _)
def dD (es : List (Key × PyData)) : PyData := .dict (es.map fun e => (kD e.1, e.2))
def valK {α : Type} (es : List (Key × α)) (k : Key) : Option α := (es.find? fun e => decide (e.1 = k)).map (·.2)
inductive RpE (K : PySem.W.Frag) (G : Hp) : List (Key × V) → List (Key × PyData) → Prop
  | nil : RpE K G [] []
  | cons {k : Key} {v : V} {vs : List (Key × V)} {d : PyData} {ds : List (Key × PyData)} : Rp K G v d → RpE K G vs ds → RpE K G ((k, v) :: vs) ((k, d) :: ds)
theorem kD_inj {a b : Key} (h : kD a = kD b) : a = b := by
  cases a <;> cases b <;> simp [kD] at h <;> simp [h]
theorem rpe_of : ∀ {kvs : List (Key × V)} {es : List (Key × PyData)}, RpD K G kvs (es.map fun e => (kD e.1, e.2)) → RpE K G kvs es
  | _, [], h => by cases h; exact .nil
  | kvs, (k, d) :: es, h => by
    rw [List.map_cons] at h
    generalize hz : (kD k, d) = z at h
    cases h with
    | cons h a =>
      simp only [Prod.mk.injEq] at hz
      obtain ⟨e1, e2⟩ := hz
      have := kD_inj e1
      subst this e2
      exact .cons h (rpe_of a)
theorem RpE.mono {G' : Hp} (l : Le G G') : ∀ {kvs : List (Key × V)} {es : List (Key × PyData)}, RpE K G kvs es → RpE K G' kvs es
  | _, _, .nil => .nil
  | _, _, .cons h a => .cons (h.mono l) (RpE.mono l a)
theorem RpE.len : ∀ {kvs : List (Key × V)} {es : List (Key × PyData)}, RpE K G kvs es → kvs.length = es.length
  | _, _, .nil => rfl
  | _, _, .cons _ a => by rw [List.length_cons, List.length_cons, RpE.len a]
theorem RpE.val : ∀ {kvs : List (Key × V)} {es : List (Key × PyData)} {k : Key}, RpE K G kvs es → (valV kvs k = none ∧ valK es k = none) ∨ ∃ v d, valV kvs k = some v ∧ valK es k = some d ∧ Rp K G v d
  | _, _, _, .nil => .inl ⟨rfl, rfl⟩
  | (k', v) :: kvs, (_, d) :: es, k, .cons h a => by
    by_cases e : k' = k
    · subst e
      exact .inr ⟨v, d, by simp [valV], by simp [valK], h⟩
    · rcases RpE.val (k := k) a with ⟨h1, h2⟩ | ⟨v', d', h1, h2, h3⟩
      · exact .inl ⟨by simpa [valV, e] using h1, by simpa [valK, e] using h2⟩
      · exact .inr ⟨v', d', by simpa [valV, e] using h1, by simpa [valK, e] using h2, h3⟩
theorem rp_dic {v : V} {es : List (Key × PyData)} (h : Rp K G v (dD es)) : ∃ p kvs, v = .ref p ∧ G p = some (.dK kvs) ∧ RpE K G kvs es := by
  unfold dD at h
  generalize hz : (es.map fun e => (kD e.1, e.2)) = z at h
  cases h with
  | dic h a =>
    subst hz
    exact ⟨_, _, rfl, h, rpe_of a⟩
end
end Z

namespace Z
open PySem PySem.Spec PyProof.Rows L2
structure Blt (mg : Str → Option Value) : Prop where
  z_abs : mg "abs" = none
  z_all : mg "all" = none
  z_any : mg "any" = none
  z_bool : mg "bool" = none
  z_dict : mg "dict" = none
  z_enumerate : mg "enumerate" = none
  z_int : mg "int" = none
  z_isinstance : mg "isinstance" = none
  z_len : mg "len" = none
  z_list : mg "list" = none
  z_max : mg "max" = none
  z_min : mg "min" = none
  z_range : mg "range" = none
  z_repr : mg "repr" = none
  z_set : mg "set" = none
  z_sorted : mg "sorted" = none
  z_str : mg "str" = none
  z_sum : mg "sum" = none
  z_tuple : mg "tuple" = none
  z_zip : mg "zip" = none
def FnIs (P : Program) (w : World) (K : PySem.W.Frag) (mg : Str → Option Value) (base : Heap) (k : Nat) (x : Str) (ps : List Str) (sp : Sp) : Prop :=
  ∃ f fd, FnOk P w K mg base (L2.CX P w) k f fd ps sp ∧ mg x = some (.ref f) ∧ PySem.W.keepIn K (.ref f) = true ∧ Binds K fd ps []
def ExcIs (K : PySem.W.Frag) (mg : Str → Option Value) (x : Str) (C : Addr) : Prop :=
  mg x = some (.ref C) ∧ PySem.W.excIn K C He.veBase "ValueError.__new__" = true ∧ PySem.W.keepIn K (.ref C) = true ∧ PySem.W.subIn K (.ref C) (.type "BaseException") = some true ∧ PySem.W.typeIn K (.ref C) = some (.type "type")
section
variable {X : Cx}
theorem pe_fn {k : Nat} {x : Str} {ps : List Str} {sp : Sp} {E : XK} {e : Expr} {es : List Expr} {t : TA} {p pos : Pos} (F : FnIs X.prog X.w X.K X.mg X.base k x ps sp) (hr : Room k X.A) (hg : Gl X x) (hx : Passes (L2.CX X.prog X.w) X E) (ha : PA X (e :: es) t) (hdb : (x == ("__debug__" : Str)) = false := by decide)
    (he : starEach (e :: es) X.env = (false, eval e X.env) :: starEach es X.env := by rfl) (hpl : (backTo pos (starEach es X.env)).any (·.1) = false := by rfl) :
    PE X (.Call (.Name x p) (e :: es) [] pos) (tCall sp [] E t) := by
  obtain ⟨f, fd, G, gm, kp, b⟩ := F
  exact pe_call G hr hg gm kp b .nil hx ha hdb he hpl
theorem pe_gstr {x z : Str} {pos : Pos} (hg : Gl X x) (h : ∃ t, X.mg x = some (.str z t)) (hd : (x == ("__debug__" : Str)) = false := by decide) : PE X (.Name x pos) (tC (.str z)) := by
  obtain ⟨t, h⟩ := h
  exact pe_glob hg h ⟨t, rfl⟩ hd
theorem pe_gint {x : Str} {z : Int} {pos : Pos} (hg : Gl X x) (h : ∃ t, X.mg x = some (.int z t)) (hd : (x == ("__debug__" : Str)) = false := by decide) : PE X (.Name x pos) (tC (.int z)) := by
  obtain ⟨t, h⟩ := h
  exact pe_glob hg h ⟨t, rfl⟩ hd
theorem pmk_exc {x m : Str} {j : Nat} {p p2 pos : Pos} {C : Addr} (h : ExcIs X.K X.mg x C) (hg : Gl X x) (hdb : (x == ("__debug__" : Str)) = false := by decide) : PMk X (.Call (.Name x p) [.Constant (.str m) j p2] [] pos) (fun _ H Q => Q (.ref C) none H) :=
  pmk_own PySem.F.excBase_ValueError h.2.1 h.1 h.2.2.1 (raises_own h.2.2.2.1 h.2.2.2.2) hg hdb
def tRaise (W : WX) (t : L2.St → Hp → XK → Prop) : TS := fun _ σ H => t σ H fun cls d H' => W cls d σ H'
end
end Z

namespace Z
open PySem PySem.Spec PyProof.Rows L2
section
variable {X : Cx}
def rInC : R2 := fun x y H Q => ∃ (c : Nat) (z : Str), x = .str ⟨#[c]⟩ ∧ y = .str z ∧ Q (.bl (decide (c ∈ z.cps.toList))) H
def rInS : R2 := fun x y H Q => ∃ i j, x = .str i ∧ y = .str j ∧ Q (.bl (!(Builtin.Str.occurrences j i 0 j.length 1).isEmpty)) H
def rLenDc : List V → Hp → VK → Prop := fun xs H Q => ∃ a kvs, xs = [V.ref a] ∧ Rd H a (.dK kvs) ∧ Q (.int kvs.length) H
theorem cr_lenD : CallR X (.builtin "len") rLenDc := by
  intro pins s σ H xs us Q I r h
  obtain ⟨a, kvs, rfl, ha, q⟩ := h
  obtain ⟨u, rfl, ru⟩ := vals1 r
  cases ru
  exact d_len I ha fun t s' I' => ⟨.int kvs.length, H, I', ⟨t, rfl⟩, q⟩
def rSortDk : List V → Hp → VK → Prop := fun xs H Q => ∃ (a : Addr) (kvs : List (Key × V)) (ks : List Str), xs = [.ref a] ∧ Rd H a (.dK kvs) ∧ kvs.map (·.1) = ks.map Sum.inr ∧ ks.length < 64 ∧
    ∀ ys p, ys.Perm ks → sortedS ys = true → H p = none → Q (.ref p) (upd H p (.lst (ys.map V.str)))
end
section
variable {K : PySem.W.Frag} {σ : L2.St} {G H : Hp} {ta tb te tx : TE} {a b d : PyData} {tt : TT} {D : Ends}
theorem EvP.at {P : Hp → V → Prop} (h : EvP te σ G P) (hi : In G H) {Q : VK} (k : ∀ v G2 H2, Up G H G2 H2 → P G2 v → Q v H2) : te σ H Q := h G H (Le.refl _) hi Q k
end
end Z

namespace Z
open PySem PySem.Spec PyProof.Rows L2
section
variable {X : Cx}
theorem ps_setDc {i : Nat} {y : Str} {py pos spos : Pos} {kx vx tg iter : Expr} {ifs : List Expr} {scope : Scope} {own : List (Str × Nat)} {wi : TI} {g : TG} {tt : TT} {tk tv : TE} (hc : X.calm = true) (hN : X.N.Nodup) (hy : X.N[i]? = some y) (hyl : X.env.scope.names.lookup y = some .local)
    (hsw : swapsWith (.DictComp kx vx [⟨tg, iter, ifs, 0⟩] scope pos) (some (.Name y py)) spos.line X.env = pure true) (hi : PI X tg iter wi) (ok : BlkOk X.N X.env.scope scope own)
    (hg : ∀ (s : Shared) (H : Hp) (C : Addr) (cl : List (Str × Addr)) (fp : List Addr), PG (X.blk s H scope (compEnvC scope cl C X.env) fp) tg g)
    (ht : ∀ (s : Shared) (H : Hp) (C : Addr) (cl : List (Str × Addr)) (fp : List Addr), PTs (X.blk s H scope (compEnvC scope cl C X.env) fp) ifs tt)
    (hk : ∀ (s : Shared) (H : Hp) (C : Addr) (cl : List (Str × Addr)) (fp : List Addr), PE (X.blk s H scope (compEnvC scope cl C X.env) fp) kx tk)
    (he : ∀ (s : Shared) (H : Hp) (C : Addr) (cl : List (Str × Addr)) (fp : List Addr), PE (X.blk s H scope (compEnvC scope cl C X.env) fp) vx tv)
    (hs : ∀ x, foldedSetIterable iter X.env x = pure x := by intro _; rfl) :
    PS X (.Assign [.Name y py] (.DictComp kx vx [⟨tg, iter, ifs, 0⟩] scope pos) spos) (tAsg (tDc wi g tt tk tv (own.map (·.2))) (gName i)) := by
  constructor
  intro pins s σ H D J hQ
  have hQ2 : tDc wi g tt tk tv (own.map (·.2)) σ H (fun x H1 => gName i x σ H1 D.nx) := hQ
  rw [exec_Assign_Name_used _ _ _ _ hsw]
  apply wpAny_bind; apply wpAny_standAt; apply wpAny_bind
  show wpAny _ X.A (do let _ ← comprehension (.DictComp kx vx [⟨tg, iter, ifs, 0⟩] scope pos) scope X.env (firstIterPos [⟨tg, iter, ifs, 0⟩] pos) newDict false (eval iter X.env) (some (assign (.Name y py) X.env))) _ _ s
  apply wpAny_bind
  refine thn (dc_core (Qf := fun _ z => SP X pins D .next z) hc hN J hi ok hg ht hk he hs hQ2 ?_) (fun _ z hz => wpAny_pure (wpAny_pure hz))
  intro B C z m H2 J2 q hn fp
  show wpAny _ _ (assign (.Name y py) X.env (.ref B)) _ _ _
  refine wpAny_assign_Name (store_ok2 (v := V.ref B) J2 hN hy (.inl hyl) rfl ?_ (.inr hyl))
  rintro z2 J3 ⟨a, sb, ha⟩
  have hne : C ≠ a := by
    rcases ha with e | e
    · rw [e]; exact fp.2.1
    · intro e2; exact fp.2.2.2.2.1 y a e e2.symm
  exact ⟨m, hn.sameBut sb hne, fun h3 sb3 => ⟨_, H2, J3.turned (t' := z2.toks) (fun b o hb e => (sb3.2 b hb).trans e) fp.1 fp.2.1 fp.2.2.2.1 fp.2.2.2.2.1 fp.2.2.2.2.2, q⟩⟩
theorem sw_dict {kx vx : Expr} {gs : List Comprehension} {scope : Scope} {pos py : Pos} {y : Str} {l : Nat} {env : Env} (hk : env.scope.kind = .function) (hy : env.scope.names.lookup y = some .local) (hl : (py.line == pos.line) = true)
    (ha : (scope.names.any fun (n, k) => n == y && (k == .local || k == .cell)) = false) : swapsWith (.DictComp kx vx gs scope pos) (some (.Name y py)) l env = pure true := by
  have e1 : env.kindOf y = some .local := hy
  have e2 : env.blockKind = .function := by unfold Env.blockKind; rw [hk] <;> rfl
  simp only [swapsWith, e1, e2, ha, hl, Expr.pos]
  rfl
end
section
variable {K : PySem.W.Frag} {σ : L2.St} {G : Hp} {tt : TT} {tk tv : TE} {wi : TI} {g : TG}
def putE {α : Type} (es : List (Key × α)) (k : Key) (v : α) : List (Key × α) :=
  if es.any (fun e => decide (e.1 = k)) then es.map (fun e => if e.1 = k then (e.1, v) else e) else es ++ [(k, v)]
def mrgE {α : Type} (es : List (Key × α)) : List (Key × α) := es.foldl (fun acc e => putE acc e.1 e.2) []
theorem putK_putE (kvs : List (Key × V)) (k : Key) (v : V) : putK kvs k v = putE kvs k v := by
  unfold putK putE
  congr 1
theorem rpe_map {k : Key} {v : V} {d : PyData} (p : Rp K G v d) : ∀ {kvs : List (Key × V)} {es : List (Key × PyData)}, RpE K G kvs es → RpE K G (kvs.map fun e => if e.1 = k then (e.1, v) else e) (es.map fun e => if e.1 = k then (e.1, d) else e)
  | _, _, .nil => .nil
  | (k', _) :: _, _, .cons h a => by
    simp only [List.map_cons]
    by_cases e : k' = k
    · rw [if_pos e, if_pos e]; exact .cons p (rpe_map p a)
    · rw [if_neg e, if_neg e]; exact .cons h (rpe_map p a)
theorem rpe_snoc {k : Key} {v : V} {d : PyData} (p : Rp K G v d) : ∀ {kvs : List (Key × V)} {es : List (Key × PyData)}, RpE K G kvs es → RpE K G (kvs ++ [(k, v)]) (es ++ [(k, d)])
  | _, _, .nil => .cons p .nil
  | _, _, .cons h a => .cons h (rpe_snoc p a)
theorem rpe_any {k : Key} : ∀ {kvs : List (Key × V)} {es : List (Key × PyData)}, RpE K G kvs es → kvs.any (fun e => decide (e.1 = k)) = es.any (fun e => decide (e.1 = k))
  | _, _, .nil => rfl
  | _, _, .cons _ a => by simp only [List.any_cons]; rw [rpe_any a]
theorem RpE.put {k : Key} {v : V} {d : PyData} {kvs : List (Key × V)} {es : List (Key × PyData)} (r : RpE K G kvs es) (p : Rp K G v d) : RpE K G (putK kvs k v) (putE es k d) := by
  rw [putK_putE]
  unfold putE
  rw [rpe_any r]
  split
  · exact rpe_map p r
  · exact rpe_snoc p r
theorem putE_len {α : Type} (es : List (Key × α)) (k : Key) (v : α) : (putE es k v).length ≤ es.length + 1 := by
  unfold putE
  split <;> simp
end
end Z

namespace Z
open PySem PySem.Spec PyProof.Rows L2
section
variable {X : Cx}
def DicEq (H : Hp) (x y : V) : Prop := ∃ a b ks ls, x = .ref a ∧ y = .ref b ∧ Rd H a (.dK ks) ∧ Rd H b (.dK ls) ∧ ks.length = ls.length ∧ ∀ p ∈ ks, valV ls p.1 = some p.2 ∧ flatB p.2 = true
def rEqDic : R2 := fun x y H Q => DicEq H x y ∧ Q (.bl true) H
def rNeDic : R2 := fun x y H Q => DicEq H x y ∧ Q (.bl false) H
theorem op_eqDic (hu : X.A.units + 1 < cLine) : OpR X (compareOp .Eq) rEqDic := fun pins s σ H x y v u Q I rx ry ⟨⟨a, b, ks, ls, ex, ey, ea, eb, hlen, hp⟩, q⟩ => by
  subst ex ey
  cases rx; cases ry
  obtain ⟨_, na, va, ra, da⟩ := ea.ok I.hok
  obtain ⟨_, nb, vb, rb, db⟩ := eb.ok I.hok
  have hl : va.length = vb.length := by rw [← ra.length, ← rb.length, hlen]
  exact PySem.W.keq_eq (knd := mixKind X.prog X.w) (r := true) na nb da db (Nat.lt_of_succ_lt hu) (fun _ => hits_all rb ra hp) (fin_bl I q (by simp [hl]))
theorem op_neDic (hu : X.A.units + 1 < cLine) : OpR X (compareOp .NotEq) rNeDic := fun pins s σ H x y v u Q I rx ry ⟨⟨a, b, ks, ls, ex, ey, ea, eb, hlen, hp⟩, q⟩ => by
  subst ex ey
  cases rx; cases ry
  obtain ⟨_, na, va, ra, da⟩ := ea.ok I.hok
  obtain ⟨_, nb, vb, rb, db⟩ := eb.ok I.hok
  have hl : va.length = vb.length := by rw [← ra.length, ← rb.length, hlen]
  exact PySem.W.keq_ne (knd := mixKind X.prog X.w) (r := true) na nb da db (Nat.lt_of_succ_lt hu) (fun _ => hits_all rb ra hp) (fin_bl I q (by simp [hl]))
end
section
variable {K : PySem.W.Frag} {σ : L2.St} {G H : Hp}
theorem RpE.mem : ∀ {kvs : List (Key × V)} {es : List (Key × PyData)} {k : Key} {v : V}, RpE K G kvs es → (k, v) ∈ kvs → ∃ d, (k, d) ∈ es ∧ Rp K G v d
  | _, _, _, _, .nil, h => by cases h
  | _, _, _, _, .cons p a, h => by
    rcases List.mem_cons.mp h with e | e
    · cases e; exact ⟨_, List.mem_cons_self, p⟩
    · obtain ⟨d, h1, h2⟩ := RpE.mem a e
      exact ⟨d, List.mem_cons_of_mem _ h1, h2⟩
end
end Z

namespace Z
open PySem PySem.Spec PyProof.Rows L2
abbrev W := List Nat
@[reducible] def dI (i : Int) : PyData := .int i
@[reducible] def dS (l : W) : PyData := .str (S l)
@[reducible] def dC (c : Nat) : PyData := .str (S [c])
@[reducible] def dB (b : Bool) : PyData := .bool b
@[reducible] def dL {α : Type} (D : α → PyData) (xs : List α) : PyData := .list (xs.map D)
@[reducible] def dP {α β : Type} (D : α → PyData) (E : β → PyData) (p : α × β) : PyData := .tuple [D p.1, E p.2]
@[reducible] def dM {α : Type} (D : α → PyData) (es : List (Key × α)) : PyData := dD (es.map fun e => (e.1, D e.2))
section
variable {K : PySem.W.Frag} {σ : L2.St} {G H : Hp} {ta tb te : TE} {tt : TT} {wi : TI} {D' : Ends}
theorem cutL_le {α : Type} (l : List α) (a b : Option Int) : (cutL l a b).length ≤ l.length := by
  unfold cutL
  rw [List.length_take, List.length_drop]
  omega
end
end Z

namespace Z
open PySem PySem.Spec PyProof.Rows L2
section
variable {K : PySem.W.Frag} {σ : L2.St} {G H : Hp} {ta tb te tx : TE} {tt : TT} {wi : TI}
theorem mul_neg (l : W) (i : Int) (h : i ≤ 0) : Txt.mul (S l) i = S [] := by
  unfold Txt.mul
  rw [if_pos (by omega)]
  rfl
theorem opv_mulSI {l : W} {i : Int} (h : l.length * i.toNat ≤ 10000000) (hn : -1000000 ≤ i ∧ i ≤ 1000000) : OpV K rMulS (dS l) (.int i) (dS (List.replicate i.toNat l).flatten) := by
  by_cases h0 : 0 ≤ i
  · obtain ⟨n, rfl⟩ := Int.eq_ofNat_of_zero_le h0
    exact opv_mulS h (by omega)
  · intro G H x y hi px py Q q
    rw [rp_str px, rp_int py]
    refine ⟨S l, i, rfl, rfl, ⟨?_, fun h1 _ => absurd (by omega) h1, fun h1 _ => absurd (by omega) h1⟩, ?_⟩
    · simp only [Bool.or_eq_false_iff, decide_eq_false_iff_not]
      constructor <;> omega
    · rw [mul_neg l i (by omega)]
      have : i.toNat = 0 := by omega
      rw [this] at q
      exact q _ G H (Up.refl hi) (.str _)
structure Eqt {α : Type} [DecidableEq α] (D : α → PyData) (ok : α → Prop) (n : Nat) : Prop where
  eq : ∀ a b, PyData.eqv (D a) (D b) = decide (a = b)
  lay : ∀ a, ok a → (D a).canLay0 = true
  dep : ∀ a, (D a).depth ≤ n
def okS (l : W) : Prop := ∀ c ∈ l, c < 256
theorem strOk_S {l : W} (h : okS l) : PyData.canLay0 (dS l) = true := by
  show PyData.strOk (S l) = true
  unfold PyData.strOk
  rw [← Array.all_toList]
  refine List.all_eq_true.mpr fun c hc => ?_
  rw [S_cps] at hc
  have := h c hc
  exact decide_eq_true (by omega)
theorem eqt_I : Eqt dI (fun _ => True) 0 := ⟨fun a b => by simp only [dI, PyData.eqv]; exact Bool.beq_eq_decide_eq a b, fun a _ => by simp [PyData.canLay0], fun a => by simp [PyData.depth]⟩
theorem eqt_S : Eqt dS okS 0 := ⟨fun a b => by
  simp only [dS, PyData.eqv]
  by_cases h : a = b
  · subst h; simp
  · have : S a ≠ S b := fun e => h (S_inj e)
    simp [h, this], fun a h => strOk_S h, fun a => by simp [PyData.depth]⟩
section
variable {α β : Type} [DecidableEq α] [DecidableEq β] {D : α → PyData} {E : β → PyData} {ok : α → Prop} {ok' : β → Prop} {n m : Nat}
theorem eqvAll_map (e : Eqt D ok n) : ∀ xs ys : List α, PyData.eqvAll (xs.map D) (ys.map D) = decide (xs = ys)
  | [], [] => by simp [PyData.eqvAll]
  | x :: xs, y :: ys => by
    simp only [List.map_cons, PyData.eqvAll]
    rw [e.eq, eqvAll_map e xs ys]
    by_cases h1 : x = y <;> by_cases h2 : xs = ys <;> simp [h1, h2]
  | [], _ :: _ => by simp [PyData.eqvAll]
  | _ :: _, [] => by simp [PyData.eqvAll]
theorem layAll_map (e : Eqt D ok n) : ∀ xs : List α, (∀ x ∈ xs, ok x) → PyData.canLayAll0 (xs.map D) = true
  | [], _ => by simp [PyData.canLayAll0]
  | x :: xs, h => by
    simp only [List.map_cons, PyData.canLayAll0, Bool.and_eq_true]
    exact ⟨e.lay x (h x List.mem_cons_self), layAll_map e xs fun y hy => h y (List.mem_cons_of_mem _ hy)⟩
theorem depAll_map (e : Eqt D ok n) : ∀ xs : List α, PyData.depthAll (xs.map D) ≤ n
  | [] => by simp [PyData.depthAll]
  | x :: xs => by
    simp only [List.map_cons, PyData.depthAll]
    have h1 := e.dep x
    have h2 := depAll_map e xs
    omega
theorem eqt_L (e : Eqt D ok n) : Eqt (dL D) (fun xs => ∀ x ∈ xs, ok x) (n + 1) :=
  ⟨fun xs ys => by simp only [dL, PyData.eqv]; exact eqvAll_map e xs ys, fun xs h => by simp only [dL, PyData.canLay0]; exact layAll_map e xs h, fun xs => by simp only [dL, PyData.depth]; have := depAll_map e xs; omega⟩
theorem Eqt.shaped (e : Eqt D ok n) (hn : n ≤ 64) {a : α} (h : ok a) : SeqAt.shaped (D a) = true := by
  unfold SeqAt.shaped
  rw [e.lay a h]
  have := e.dep a
  simp
  omega
end
end
end Z

namespace Z
open PySem PySem.Spec PyProof.Rows L2
def minS : List W → W
  | [] => []
  | x :: xs => xs.foldl (fun a y => if y < a then y else a) x
theorem minD_S : ∀ (xs : List W) (x : W), PySem.W.minD (dS x) (xs.map dS) = dS (xs.foldl (fun a y => if y < a then y else a) x)
  | [], x => rfl
  | y :: xs, x => by
    have e : PySem.W.minD (dS x) ((y :: xs).map dS) = PySem.W.minD (if PySem.W.dataLt (dS y) (dS x) then dS y else dS x) (xs.map dS) := rfl
    rw [e, List.foldl_cons]
    have e2 : (if PySem.W.dataLt (dS y) (dS x) = true then dS y else dS x) = dS (if y < x then y else x) := by
      rw [PySem.W.dataLt_str, S_cps, S_cps]
      by_cases h : y < x
      · rw [if_pos (decide_eq_true h), if_pos h]
      · rw [if_neg (by simp [h]), if_neg h]
    rw [e2]
    exact minD_S xs _
section
variable {K : PySem.W.Frag} {σ : L2.St} {G H : Hp}
theorem dicFs_S : ∀ xs : List W, dicFs (xs.map dS) = true
  | [] => by simp [dicFs]
  | x :: xs => by simp only [List.map_cons, dicFs, Bool.and_eq_true]; exact ⟨by simp [dicF], dicFs_S xs⟩
theorem cav_minS {xs : List W} (h : xs ≠ []) (_hl : True) : CaV K (rMinD K) [dL dS xs] (dS (minS xs)) := by
  cases xs with
  | nil => exact absurd rfl h
  | cons x xs =>
    have := cav_minD (K := K) (d := dS x) (ds := xs.map dS) ?_ ?_ ?_
    · rw [minD_S] at this
      exact this
    · have key : ∀ d ∈ dS x :: xs.map dS, ∃ l, d = dS l := by
        intro d hd
        rcases List.mem_cons.mp hd with e | e
        · exact ⟨x, e⟩
        · obtain ⟨l, _, e⟩ := List.mem_map.mp e
          exact ⟨l, e.symm⟩
      refine ⟨fun a ha b hb => ?_, fun a ha => ?_⟩
      · obtain ⟨l, rfl⟩ := key a ha
        obtain ⟨m, rfl⟩ := key b hb
        simp [PySem.W.alike]
      · obtain ⟨l, rfl⟩ := key a ha
        intro q
        cases q
    · have := depAll_map eqt_S (x :: xs)
      rw [List.map_cons] at this
      omega
    · have := dicFs_S (x :: xs)
      rw [List.map_cons] at this
      exact this
def leW (a b : W) : Bool := decide (a ≤ b)
def sortW (xs : List W) : List W := xs.mergeSort leW
theorem leW_trans (a b c : W) (h1 : leW a b = true) (h2 : leW b c = true) : leW a c = true := by
  simp only [leW, decide_eq_true_eq] at *
  exact Std.le_trans h1 h2
theorem leW_total (a b : W) : (leW a b || leW b a) = true := by
  simp only [leW, Bool.or_eq_true, decide_eq_true_eq]
  exact Std.le_total
theorem sortW_unique {xs ys : List W} (p : ys.Perm xs) (h : ys.Pairwise fun a b => a ≤ b) : ys = sortW xs := by
  refine List.Perm.eq_of_pairwise (le := fun a b => a ≤ b) (fun a b _ _ h1 h2 => Std.le_antisymm h1 h2) h ?_ (p.trans (List.mergeSort_perm _ _).symm)
  have := List.pairwise_mergeSort (le := leW) leW_trans leW_total xs
  exact this.imp fun h => of_decide_eq_true h
def keyW : Key → W
  | .inr x => x.cps.toList
  | .inl _ => []
def sortKs {α : Type} (es : List (Key × α)) : List W := sortW (es.map fun e => keyW e.1)
theorem rising_pw : ∀ (l : List Str) (p : Str), risingS p l = true → (p :: l).Pairwise fun a b => a.cps.toList ≤ b.cps.toList
  | [], p, _ => List.pairwise_singleton _ _
  | x :: r, p, h => by
    simp only [risingS, Bool.and_eq_true, Bool.not_eq_true'] at h
    have ih := rising_pw r x h.2
    have px : p.cps.toList ≤ x.cps.toList := by
      have := h.1
      rw [ltCps_eq] at this
      have := of_decide_eq_false this
      exact Std.not_lt.mp this
    refine List.pairwise_cons.mpr ⟨fun b hb => ?_, ih⟩
    rcases List.mem_cons.mp hb with e | e
    · subst e; exact px
    · exact Std.le_trans px ((List.pairwise_cons.mp ih).1 b e)
theorem sorted_pw {l : List Str} (h : sortedS l = true) : l.Pairwise fun a b => a.cps.toList ≤ b.cps.toList := by
  cases l with
  | nil => exact List.Pairwise.nil
  | cons x r => exact rising_pw r x h
end
end Z

namespace Z
open PySem PySem.Spec PyProof.Rows L2
section
variable {K : PySem.W.Frag} {σ : L2.St} {G H : Hp} {ta tb te tx : TE} {tt : TT} {wi : TI} {D : Ends}
def rngD (lo hi : Int) : List Int := (List.range (lo - hi).toNat).map fun (i : Nat) => lo - (i : Int)
def enumT {α : Type} (xs : List α) : List (Int × α) := xs.zipIdx.map fun p => ((p.2 : Int), p.1)
end
end Z

namespace Z
open PySem PySem.Spec PyProof.Rows L2
abbrev kq (x : Str) : Key := Sum.inr x
def dkv (w c : Addr) (r t : Int) : List (Key × V) := [(kq "wide", .ref w), (kq "cells", .ref c), (kq "rest", .int r), (kq "turn", .int t)]
theorem k12 : decide ((kq "wide" : Key) = kq "cells") = false := by decide +kernel
theorem k13 : decide ((kq "wide" : Key) = kq "rest") = false := by decide +kernel
theorem k14 : decide ((kq "wide" : Key) = kq "turn") = false := by decide +kernel
theorem k23 : decide ((kq "cells" : Key) = kq "rest") = false := by decide +kernel
theorem k24 : decide ((kq "cells" : Key) = kq "turn") = false := by decide +kernel
theorem k34 : decide ((kq "rest" : Key) = kq "turn") = false := by decide +kernel
theorem k43 : decide ((kq "turn" : Key) = kq "rest") = false := by decide +kernel
theorem kd (k : Key) : decide (k = k) = true := by simp
section
variable (w c : Addr) (r t : Int)
theorem g_wide : valV (dkv w c r t) (kq "wide") = some (.ref w) := by
  unfold valV dkv; rw [List.find?_cons, kd]; rfl
theorem g_cells : valV (dkv w c r t) (kq "cells") = some (.ref c) := by
  unfold valV dkv; rw [List.find?_cons, k12, List.find?_cons, kd]; rfl
theorem g_rest : valV (dkv w c r t) (kq "rest") = some (.int r) := by
  unfold valV dkv; rw [List.find?_cons, k13, List.find?_cons, k23, List.find?_cons, kd]; rfl
theorem g_turn : valV (dkv w c r t) (kq "turn") = some (.int t) := by
  unfold valV dkv; rw [List.find?_cons, k14, List.find?_cons, k24, List.find?_cons, k34, List.find?_cons, kd]; rfl
theorem p_rest (r' : Int) : putK (dkv w c r t) (kq "rest") (.int r') = dkv w c r' t := by
  rw [putK_putE]
  unfold putE dkv
  rw [if_pos (by simp)]
  have e1 : ¬ (kq "wide" : Key) = kq "rest" := of_decide_eq_false k13
  have e2 : ¬ (kq "cells" : Key) = kq "rest" := of_decide_eq_false k23
  have e3 : ¬ (kq "turn" : Key) = kq "rest" := of_decide_eq_false k43
  simp only [List.map_cons, List.map_nil, if_neg e1, if_neg e2, if_neg e3, if_true]
theorem p_turn (t' : Int) : putK (dkv w c r t) (kq "turn") (.int t') = dkv w c r t' := by
  rw [putK_putE]
  unfold putE dkv
  rw [if_pos (by simp)]
  have e1 : ¬ (kq "wide" : Key) = kq "turn" := of_decide_eq_false k14
  have e2 : ¬ (kq "cells" : Key) = kq "turn" := of_decide_eq_false k24
  have e3 : ¬ (kq "rest" : Key) = kq "turn" := of_decide_eq_false k34
  simp only [List.map_cons, List.map_nil, if_neg e1, if_neg e2, if_neg e3, if_true]
end
def Drw (m w : Addr) (n : Nat) (G H : Hp) : Prop := ∃ (c : Addr) (ws cs : List Int) (r t : Int), H m = some (.dK (dkv w c r t)) ∧ H w = some (.lst (ws.map .int)) ∧ G c = some (.lst (cs.map .int)) ∧ c ≠ w ∧ (∀ x ∈ cs, 0 ≤ x ∧ x < 2147483648) ∧ 0 ≤ t ∧ t + n ≤ 1000000000000
theorem Drw.mono {m w : Addr} {n n' : Nat} {G H : Hp} (d : Drw m w n G H) (h : n' ≤ n) : Drw m w n' G H := by
  obtain ⟨c, ws, cs, r, t, h1, h2, h3, h4, h5, h6, h7⟩ := d
  exact ⟨c, ws, cs, r, t, h1, h2, h3, h4, h5, h6, by omega⟩
structure UpM (m w : Addr) (G H G2 H2 : Hp) : Prop where
  g : Le G G2
  i : In G2 H2
  h : ∀ a, a ≠ m → a ≠ w → ∀ o, H a = some o → H2 a = some o
  n : ∀ a o, G2 a = some o → G a = some o ∨ H a = none
theorem UpM.refl {m w : Addr} {G H : Hp} (i : In G H) : UpM m w G H G H := ⟨Le.refl _, i, fun _ _ _ _ e => e, fun _ _ e => .inl e⟩
theorem UpM.of {m w : Addr} {G H G2 H2 : Hp} (u : Up G H G2 H2) : UpM m w G H G2 H2 := ⟨u.g, u.i, fun a _ _ o e => u.h a o e, u.n⟩
structure DOk (m w : Addr) (n : Nat) (G H : Hp) : Prop where
  i : In G H
  gm : G m = none
  gw : G w = none
  d : Drw m w n G H
theorem DOk.hm {m w : Addr} {n : Nat} {G H : Hp} (d : DOk m w n G H) : H m ≠ none := by
  obtain ⟨c, ws, cs, r, t, h1, _⟩ := d.d
  rw [h1]; intro q; cases q
theorem DOk.hw {m w : Addr} {n : Nat} {G H : Hp} (d : DOk m w n G H) : H w ≠ none := by
  obtain ⟨c, ws, cs, r, t, h1, h2, _⟩ := d.d
  rw [h2]; intro q; cases q
theorem Drw.up {m w : Addr} {n : Nat} {G G2 H H2 : Hp} (d : Drw m w n G H) (g : Le G G2) (l : Le H H2) : Drw m w n G2 H2 := by
  obtain ⟨c, ws, cs, r, t, h1, h2, h3, h⟩ := d
  exact ⟨c, ws, cs, r, t, l _ _ h1, l _ _ h2, g _ _ h3, h⟩
theorem DOk.up {m w : Addr} {n : Nat} {G H G2 H2 : Hp} (d : DOk m w n G H) (u : Up G H G2 H2) : DOk m w n G2 H2 :=
  ⟨u.i, u.hide d.hm d.gm, u.hide d.hw d.gw, d.d.up u.g u.h⟩
theorem DOk.mono {m w : Addr} {n n' : Nat} {G H : Hp} (d : DOk m w n G H) (h : n' ≤ n) : DOk m w n' G H := ⟨d.i, d.gm, d.gw, d.d.mono h⟩
theorem UpM.trans {m w : Addr} {n : Nat} {G H G2 H2 G3 H3 : Hp} (d2 : DOk m w n G2 H2) (u : UpM m w G H G2 H2) (v : UpM m w G2 H2 G3 H3) : UpM m w G H G3 H3 :=
  ⟨u.g.trans v.g, v.i, fun a h1 h2 o e => v.h a h1 h2 o (u.h a h1 h2 o e), fun a o e => by
    rcases v.n a o e with q | q
    · exact u.n a o q
    · refine .inr ?_
      cases hh : H a with
      | none => rfl
      | some o' =>
        by_cases h1 : a = m
        · subst h1; exact absurd q d2.hm
        · by_cases h2 : a = w
          · subst h2; exact absurd q d2.hw
          · rw [u.h a h1 h2 o' hh] at q; cases q⟩
def sp__law_take (K : PySem.W.Frag) (ca : Str → Addr) : Sp := fun vs H Q E => ∃ (G : Hp) (m w : Addr) (n : Nat) (tot : Int), vs = [.ref m, .int tot] ∧ DOk m w (n + 1) G H ∧ 0 < tot ∧ tot < 1000000000 ∧
  ∀ v H2, 0 ≤ v → v < tot → UpM m w G H G H2 → DOk m w n G H2 → Q (.int v) H2
def sp__law_mixed (K : PySem.W.Frag) (ca : Str → Addr) : Sp := fun vs H Q E => ∃ (m w c : Addr) (n : Nat) (ws cs : List Int) (r t : Int), vs = [.ref m] ∧ H m = some (.dK (dkv w c r t)) ∧ H w = some (.lst (ws.map .int)) ∧ H c = some (.lst (cs.map .int)) ∧ (∀ x ∈ cs, 0 ≤ x ∧ x < 2147483648) ∧ 0 ≤ t ∧ t + 1 ≤ 1000000000000 ∧
  ∀ v H2, (∀ a, a ≠ m → ∀ o, H a = some o → H2 a = some o) → H2 m = some (.dK (dkv w c r (t + 1))) → Q (.int v) H2
end Z

namespace Z
open PySem PySem.Spec PyProof.Rows L2
def t__law_mixed (K : PySem.W.Frag) (ca : Str → Addr) (E : XK) : TS := (tSeq ((tPar 1 2 ((tCons ((tOp (rI0 fun i j => .int (i + j)) ((tDGet ((tVar 0)) (tC (.str "turn")))) (tC (.int 1)))) ((tCons (tC (.int 0)) (tNil))))))) ((tSeq ((sDPut ((tVar 0)) (tC (.str "turn")) ((tVar 1)))) ((tSeq ((tFor ((iList K ((tLst ((tCons (tC (.int 2147483629)) ((tCons (tC (.int 2147483587)) ((tCons (tC (.int 2147483579)) ((tCons (tC (.int 2147483563)) (tNil))))))))))))) ((gName 3)) ((tSeq ((tAsg ((tOp (rI0 fun i j => .int (i + j)) ((tOp (rI CMul fun i j => .int (i * j)) (tC (.int 62617)) ((tVar 1)))) ((tOp (rI CDivN fun i j => .int (i.fdiv j)) ((tVar 3)) (tC (.int 31)))))) (gName 4))) ((tSeq ((tFor ((iList K ((tDGet ((tVar 0)) (tC (.str "cells")))))) ((gName 5)) ((tAsg ((tOp (rI (fun _ j => j ≠ 0) fun i j => .int (i.fmod j)) ((tCB (rInt1) ((tCons ((tOp (rI0 fun i j => .int (i + j)) ((tOp (rI0 fun i j => .int (i + j)) ((tOp (rI CMul fun i j => .int (i * j)) ((tVar 4)) (tC (.int 48271)))) ((tVar 5)))) ((tVar 1)))) (tNil))))) ((tVar 3)))) (gName 4))))) ((tAsg ((tOp (rI0 fun i j => .int (i + j)) ((tOp (rI CMul fun i j => .int (i * j)) ((tVar 2)) (tC (.int 2147483647)))) ((tOp (rI (fun _ j => j ≠ 0) fun i j => .int (i.fmod j)) ((tCB (rInt1) ((tCons ((tOp (rI CPow fun i j => .int (i ^ j.toNat)) ((tVar 4)) (tC (.int 5)))) (tNil))))) ((tVar 3)))))) (gName 2))))))))) ((tRet ((tVar 2)))))))))
def t__law_take (K : PySem.W.Frag) (ca : Str → Addr) (E : XK) : TS := (tSeq ((tIfS ((tTest (tOp (rEq) ((tDGet ((tVar 0)) (tC (.str "rest")))) (tC (.int 0))))) ((sDPut ((tVar 0)) (tC (.str "rest")) ((tIf ((tTest (tOp (rNeD K) ((tDGet ((tVar 0)) (tC (.str "wide")))) ((tLst (tNil)))))) ((tBM K "list" rPopAt ((tDGet ((tVar 0)) (tC (.str "wide")))) ((tCons (tC (.int 0)) (tNil))))) ((tCall (sp__law_mixed K ca) [] E ((tCons ((tVar 0)) (tNil))))))))) (tNext))) ((tSeq ((tAsg ((tOp (rI (fun _ j => j ≠ 0) fun i j => .int (i.fmod j)) ((tCB (rInt1) ((tCons ((tDGet ((tVar 0)) (tC (.str "rest")))) (tNil))))) ((tVar 1)))) (gName 2))) ((tSeq ((sDPut ((tVar 0)) (tC (.str "rest")) ((tOp (rI CDivN fun i j => .int (i.fdiv j)) ((tDGet ((tVar 0)) (tC (.str "rest")))) ((tVar 1)))))) ((tRet ((tVar 2)))))))))
theorem dget_of {H : Hp} {a : Addr} {kvs : List (Key × V)} {x : Str} {v : V} (h : H a = some (.dK kvs)) (e : valV kvs (kq x) = some v) : DGet H a (.str x) (some v) := .inl ⟨kvs, kq x, .inl h, rfl, e.symm⟩
theorem fmod_bd (a b : Int) (h : 0 < b) : 0 ≤ Int.fmod a b ∧ Int.fmod a b < b := by
  rw [Int.fmod_eq_emod_of_nonneg _ (by omega)]
  exact ⟨Int.emod_nonneg _ (by omega), Int.emod_lt_of_pos _ h⟩
theorem pure__law_mixed {K : PySem.W.Frag} {ca : Str → Addr} (vs : List V) (H : Hp) (Q : VK) (E : XK) (h : sp__law_mixed K ca vs H Q E) : vs.length = 1 ∧ t__law_mixed K ca E { nx := fun _ H2 => Q .non H2, rt := Q } (start ["_law_draw", "_law_tick", "_law_found", "_law_prime", "_law_blend", "_law_cell"] vs) H := by
  obtain ⟨m, w, c, n, ws, cs, r, t, rfl, hm, hw, hc, hcs, ht, htn, k⟩ := h
  refine ⟨rfl, ?_⟩
  refine ⟨.ref m, rfl, m, .int t, rfl, dget_of hm (g_turn w c r t), t, 1, rfl, rfl, .int (t + 1), .int 0, rfl, ?_⟩
  refine ⟨.int (t + 1), rfl, .ref m, rfl, m, upd H m (.dK (dkv w c r (t + 1))), rfl, .inl ⟨_, kq "turn", hm, rfl, by show 4 < sizeLine; decide, by rw [p_turn]⟩, ?_⟩
  refine ⟨by show 4 ≤ sizeLine; decide, fun p hp => ⟨p, rfl, ⟨_, .inl (.inl upd_same)⟩, ?_⟩⟩
  have npm : p ≠ m := fun e => by rw [e, upd_same] at hp; cases hp
  have ncm : c ≠ m := fun e => by rw [e, hm] at hc; cases hc
  have hp0 : H p = none := by rw [upd_ne npm] at hp; exact hp
  have ncp : c ≠ p := fun e => by rw [e, hp0] at hc; cases hc
  refine for_list (K := K) (a := p) (xs := [V.int 2147483629, V.int 2147483587, V.int 2147483579, V.int 2147483563]) (fun i σ H' => ∃ (f : Int) (v3 v4 v5 : Option V), σ = [some (.ref m), some (.int (t + 1)), some (.int f), v3, v4, v5] ∧ H' = upd (upd H m (.dK (dkv w c r (t + 1)))) p (.lst [V.int 2147483629, V.int 2147483587, V.int 2147483579, V.int 2147483563])) ⟨0, none, none, none, rfl, rfl⟩ (fun i σ H' _ ⟨_, _, _, _, _, e⟩ => by rw [e]; exact .inl (.inl upd_same)) ?_ ?_
  · rintro i x σ H' hx ⟨f, v3, v4, v5, rfl, eH⟩
    obtain ⟨pr, rfl, hpr⟩ : ∃ pr, x = V.int pr ∧ 2147483563 ≤ pr ∧ pr ≤ 2147483629 := by
      have hm2 := List.mem_of_getElem? hx
      simp only [List.mem_cons, List.not_mem_nil, or_false] at hm2
      rcases hm2 with e | e | e | e <;> exact ⟨_, e, by omega, by omega⟩
    have hm' : H' m = some (.dK (dkv w c r (t + 1))) := by rw [eH, upd_ne npm.symm, upd_same]
    have hc' : H' c = some (.lst (cs.map .int)) := by rw [eH, upd_ne ncp, upd_ne ncm]; exact hc
    refine ⟨.int (t + 1), rfl, 62617, t + 1, rfl, rfl, .inl ⟨by decide, by decide⟩, .int pr, rfl, pr, 31, rfl, rfl, ⟨by decide, by decide⟩, _, _, rfl, rfl, ?_⟩
    have hb0 : 0 ≤ 62617 * (t + 1) + Int.fdiv pr 31 ∧ 62617 * (t + 1) + Int.fdiv pr 31 < 1000000000000000000 := by
      rw [Int.fdiv_eq_ediv_of_nonneg _ (by omega)]
      omega
    refine ⟨.ref m, rfl, m, .ref c, rfl, dget_of hm' (g_cells w c r (t + 1)), c, rfl, ⟨_, .inl (.inl hc')⟩, ?_⟩
    refine for_list (K := K) (a := c) (xs := cs.map V.int) (fun j σ H'' => H'' = H' ∧ ∃ (b : Int) (u5 : Option V), σ = [some (.ref m), some (.int (t + 1)), some (.int f), some (.int pr), some (.int b), u5] ∧ 0 ≤ b ∧ b < 1000000000000000000) ⟨rfl, _, v5, rfl, hb0⟩ (fun j σ H'' _ ⟨e, _⟩ => by rw [e]; exact .inl (.inl hc')) ?_ ?_
    · rintro j y σ H'' hy ⟨rfl, b, u5, rfl, hb⟩
      obtain ⟨cv, rfl⟩ : ∃ cv, y = V.int cv := by
        rw [List.getElem?_map] at hy
        cases q : cs[j]? with
        | none => rw [q] at hy; cases hy
        | some cv => rw [q] at hy; exact ⟨cv, (Option.some.inj hy).symm⟩
      refine ⟨.int b, rfl, b, 48271, rfl, rfl, .inr ⟨by decide, by decide⟩, .int cv, rfl, _, cv, rfl, rfl, .int (t + 1), rfl, _, t + 1, rfl, rfl, .inl ⟨_, rfl, .int pr, rfl, _, pr, rfl, rfl, by omega, ?_⟩⟩
      have hf := fmod_bd (b * 48271 + cv + (t + 1)) pr (by omega)
      exact ⟨rfl, _, _, rfl, hf.1, by omega⟩
    · rintro σ H'' ⟨rfl, b, u5, rfl, hb⟩
      refine ⟨.int f, rfl, f, 2147483647, rfl, rfl, .inr ⟨by decide, by decide⟩, .int b, rfl, b, 5, rfl, rfl, ⟨by decide, by decide, by omega⟩, .inl ⟨_, rfl, .int pr, rfl, _, pr, rfl, rfl, by omega, _, _, rfl, rfl, ?_⟩⟩
      exact ⟨_, _, _, _, rfl, eH⟩
  · rintro σ H' ⟨f, v3, v4, v5, rfl, eH⟩
    refine ⟨.int f, rfl, k f H' (fun a ha o e => ?_) (by rw [eH, upd_ne npm.symm, upd_same])⟩
    have nap : a ≠ p := fun z => by rw [z, hp0] at e; cases e
    rw [eH, upd_ne nap, upd_ne ha]
    exact e
end Z

namespace Z
open PySem PySem.Spec PyProof.Rows L2
theorem sql_in {K : PySem.W.Frag} {G H : Hp} {a : Addr} {xs : List V} (h : SqL K G a xs) (i : In G H) : SqL K H a xs := by
  rcases h with q | q
  · rcases q with q | ⟨o, q⟩
    · exact .inl (.inl (i.ex q rfl))
    · exact .inl (.inr ⟨o, i.ex q rfl⟩)
  · exact .inr q
theorem sql_le {K : PySem.W.Frag} {G H : Hp} {a : Addr} {xs : List V} (h : SqL K G a xs) (i : Le G H) : SqL K H a xs := by
  rcases h with q | q
  · rcases q with q | ⟨o, q⟩
    · exact .inl (.inl (i _ _ q))
    · exact .inl (.inr ⟨o, i _ _ q⟩)
  · exact .inr q
theorem wk_scr {K : PySem.W.Frag} {G : Hp} {a : Addr} {ns : List Int} (h : SqL K G a (ns.map .int)) : WkD K (Itl K a) G (ns.map .int) := fun G' H' l i => by
  have e : SqL K H' a (ns.map .int) := sql_in (sql_le h l) i
  have W := walk_list (K := K) (a := a) (xs := ns.map .int)
  refine ⟨by have := W.stops H' e; rw [List.length_map] at this ⊢; exact this, fun j d hd => ?_⟩
  rw [List.getElem?_map] at hd
  cases hn : ns[j]? with
  | none => rw [hn] at hd; cases hd
  | some n =>
    rw [hn] at hd
    cases hd
    have hj : j < (ns.map V.int).length := by rw [List.length_map]; exact (List.getElem?_eq_some_iff.mp hn).1
    refine ⟨W.goes j H' hj e, fun x H2 y => ?_⟩
    obtain ⟨e1, e2⟩ := W.yields j H' x H2 hj e y
    rw [List.getElem?_map, hn] at e2
    cases e2
    subst e1
    exact ⟨G', Up.refl i, .int n⟩
theorem ei_scr {K : PySem.W.Frag} {G : Hp} {σ : L2.St} {k : Nat} {a : Addr} {ns : List Int} (hv : σ[k]? = some (some (.ref a))) (h : SqL K G a (ns.map .int)) : EvI K (iList K (tVar k)) σ G (ns.map .int) := fun G1 H1 l i R q =>
  ⟨.ref a, hv, a, rfl, ⟨_, sql_in (sql_le h l) i⟩, q _ G1 H1 (Up.refl i) (wk_scr (sql_le h l))⟩
theorem merge4 (w c : Addr) : mergeK [] [(kq "wide", V.ref w), (kq "cells", .ref c), (kq "rest", .int 0), (kq "turn", .int 0)] = dkv w c 0 0 := by
  have e1 := of_decide_eq_false k12
  have e2 := of_decide_eq_false k13
  have e3 := of_decide_eq_false k14
  have e4 := of_decide_eq_false k23
  have e5 := of_decide_eq_false k24
  have e6 := of_decide_eq_false k34
  unfold mergeK dkv
  simp only [List.foldl_cons, List.foldl_nil, putK_putE]
  simp only [putE, List.any_nil, List.any_cons, List.nil_append, List.cons_append, decide_eq_false e1, decide_eq_false e2, decide_eq_false e3, decide_eq_false e4, decide_eq_false e5, decide_eq_false e6, Bool.or_false, if_false, Bool.false_eq_true]
def t__law_begun (K : PySem.W.Frag) (ca : Str → Addr) (E : XK) : TS := (tSeq ((tAsg (tLc ((iList K ((tVar 0)))) ((gName 2)) ((tTest (tOp (rI0 fun i j => .bl (decide (j ≤ i))) ((tCB (rAbs) ((tCons ((tVar 2)) (tNil))))) ((tOp (rI CPow fun i j => .int (i ^ j.toNat)) (tC (.int 10)) (tC (.int 18))))))) ((tOp (rI0 fun i j => .int (i - j)) ((tCB (rAbs) ((tCons ((tVar 2)) (tNil))))) ((tOp (rI CPow fun i j => .int (i ^ j.toNat)) (tC (.int 10)) (tC (.int 18)))))) [2]) (gName 1))) ((tRet ((tDisp [(tC (.str "wide"), (tVar 1)), (tC (.str "cells"), (tLc ((iList K ((tVar 0)))) ((gName 2)) (tYes) ((tOp (rI (fun _ j => j ≠ 0) fun i j => .int (i.fmod j)) ((tCB (rInt1) ((tCons ((tCB (rAbs) ((tCons ((tVar 2)) (tNil))))) (tNil))))) (tC (.int 2147483629)))) [2])), (tC (.str "rest"), tC (.int 0)), (tC (.str "turn"), tC (.int 0))])))))
end Z

namespace Z
open PySem PySem.Spec PyProof.Rows L2
theorem rpa_app {K : PySem.W.Frag} {G : Hp} : ∀ {v1 v2 : List V} {d1 d2 : List PyData}, RpA K G v1 d1 → RpA K G v2 d2 → RpA K G (v1 ++ v2) (d1 ++ d2)
  | _, _, _, _, .nil, h => h
  | _, _, _, _, .cons h a, h2 => .cons h (rpa_app a h2)
end Z

namespace Z
open PySem PySem.Spec PyProof.Rows L2
def EvN (K : PySem.W.Frag) (m w : Addr) (b : Nat) (t : TE) (σ : L2.St) (G : Hp) {α : Type} (D : α → PyData) (P : α → Prop) : Prop :=
  ∀ n G1 H1, Le G G1 → DOk m w (n + b) G1 H1 → ∀ Q : VK, (∀ v a G2 H2, UpM m w G1 H1 G2 H2 → DOk m w n G2 H2 → P a → Rp K G2 v (D a) → Q v H2) → t σ H1 Q
section
variable {K : PySem.W.Frag} {ca : Str → Addr} {E : XK} {σ : L2.St} {G H : Hp} {ta tb te tx : TE} {tt : TT} {wi : TI} {D : Ends} {m w : Addr} {b b' n : Nat}
theorem EvN.imp {α : Type} {DD : α → PyData} {P P' : α → Prop} (h : EvN K m w b te σ G DD P) (f : ∀ a, P a → P' a) : EvN K m w b te σ G DD P' := fun n G1 H1 l d Q q => h n G1 H1 l d Q fun v a G2 H2 u d2 p r => q v a G2 H2 u d2 (f a p) r
theorem EvN.mono {α : Type} {DD : α → PyData} {P : α → Prop} {G' : Hp} (l : Le G G') (h : EvN K m w b te σ G DD P) : EvN K m w b te σ G' DD P := fun n G1 H1 l1 d Q q => h n G1 H1 (l.trans l1) d Q q
end
end Z

namespace Z
open PySem PySem.Spec PyProof.Rows L2
section
variable {K : PySem.W.Frag} {σ : L2.St} {G H : Hp} {ta tb te tk tv : TE} {tt : TT} {wi : TI} {D : Ends}
theorem rp_key {v : V} {k : Key} (h : Rp K G v (kD k)) : v = kV k := by
  cases k with
  | inl i => exact rp_int h
  | inr x => exact rp_str h
end
end Z

namespace Z
open PySem PySem.Spec PyProof.Rows L2
end Z

namespace Z
open PySem PySem.Spec PyProof.Rows L2
section
variable {K : PySem.W.Frag} {ca : Str → Addr} {E : XK} {σ : L2.St} {G H : Hp} {ta tb te tx : TE} {tt : TT} {wi : TI} {D : Ends} {m w : Addr} {b b' n : Nat} {Q : VK}
end
section
variable {K : PySem.W.Frag} {σ : L2.St} {G H : Hp} {wi : TI} {D : Ends} {m w : Addr} {b n : Nat}
end
def itemsD : PyData → List PyData
  | .list ds => ds
  | .str x => x.cps.toList.map fun c => .str (S [c])
  | _ => []
def sp__law_pick (K : PySem.W.Frag) (ca : Str → Addr) : Sp := fun vs H Q E => ∃ (G : Hp) (m w : Addr) (n : Nat) (v : V) (d : PyData), vs = [.ref m, v] ∧ DOk m w (n + 1) G H ∧ Rp K G v d ∧ itemsD d ≠ [] ∧ (itemsD d).length ≤ 100000 ∧
  ∀ u e G2 H2, e ∈ itemsD d → UpM m w G H G2 H2 → DOk m w n G2 H2 → Rp K G2 u e → Q u H2
def t__law_pick (K : PySem.W.Frag) (ca : Str → Addr) (E : XK) : TS := (tRet ((tOp (rIx K) ((tVar 1)) ((tCall (sp__law_take K ca) [] E ((tCons ((tVar 0)) ((tCons ((tCB (rLenU K) ((tCons ((tVar 1)) (tNil))))) (tNil))))))))))
section
variable {K : PySem.W.Frag} {ca : Str → Addr} {E : XK} {G H : Hp} {m w : Addr} {n : Nat} {v : V} {Q : VK}
end
def signs : List W := [[97], [97, 99], [97, 103], [99, 116], [97, 97, 99], [97, 99, 103], [97, 99, 103, 116], [97, 99, 103, 116], [103, 116], [97, 97, 97, 99, 116]]
def sp__law_signs (K : PySem.W.Frag) (ca : Str → Addr) : Sp := fun vs H Q E => ∃ (G : Hp) (m w : Addr) (n : Nat), vs = [.ref m] ∧ DOk m w (n + 1) G H ∧ ∀ l G2 H2, l ∈ signs → UpM m w G H G2 H2 → DOk m w n G2 H2 → Q (.str (S l)) H2
def t__law_signs (K : PySem.W.Frag) (ca : Str → Addr) (E : XK) : TS := (tRet ((tCall (sp__law_pick K ca) [] E ((tCons ((tVar 0)) ((tCons ((tLst ((tCons (tC (.str "a")) ((tCons (tC (.str "ac")) ((tCons (tC (.str "ag")) ((tCons (tC (.str "ct")) ((tCons (tC (.str "aac")) ((tCons (tC (.str "acg")) ((tCons (tC (.str "acgt")) ((tCons (tC (.str "acgt")) ((tCons (tC (.str "gt")) ((tCons (tC (.str "aaact")) (tNil))))))))))))))))))))))) (tNil))))))))
def sp__law_letters (K : PySem.W.Frag) (ca : Str → Addr) : Sp := fun vs H Q E => ∃ (G : Hp) (m w : Addr) (n : Nat) (l : W) (many : Int), vs = [.ref m, .str (S l), .int many] ∧ DOk m w (n + many.toNat) G H ∧ l ≠ [] ∧ l.length ≤ 1000 ∧ -1000 ≤ many ∧ many ≤ 1000 ∧
  ∀ t G2 H2, t.length = many.toNat → (∀ c ∈ t, c ∈ l) → UpM m w G H G2 H2 → DOk m w n G2 H2 → Q (.str (S t)) H2
def t__law_letters (K : PySem.W.Frag) (ca : Str → Addr) (E : XK) : TS := (tRet ((tM1 (rJoin K) (tC (.str "")) ((tLc ((iRng1 ((tCons ((tVar 2)) (tNil))))) ((gName 3)) (tYes) ((tCall (sp__law_pick K ca) [] E0 ((tCons ((tVar 0)) ((tCons ((tVar 1)) (tNil))))))) [3])))))
end Z

namespace Z
open PySem PySem.Spec PyProof.Rows L2
def Rse (G H : Hp) (E : XK) (C : Addr) : Prop := ∀ G2 H2, Up G H G2 H2 → E (.ref C) none H2
section
variable {K : PySem.W.Frag} {σ : L2.St} {G H : Hp} {te ta tb : TE}
end
def acgt : W := [97, 99, 103, 116]
def m_is_integer : PyData → Bool
  | .int _ => true
  | _ => false
def m_is_between (d : PyData) (lo hi : Int) : Bool := match d with
  | .int i => decide (lo ≤ i) && decide (i ≤ hi)
  | _ => false
def lineB (l : W) : Bool := l.all fun c => decide (c ∈ acgt)
def m_is_line : PyData → Bool
  | .str s => lineB s.cps.toList
  | _ => false
def wordB (l : W) : Bool := lineB l && decide (0 < l.length)
def m_is_word : PyData → Bool
  | .str s => wordB s.cps.toList
  | _ => false
def okD : PyData → Prop
  | .str s => s.cps.toList.length ≤ 100000
  | _ => True
def sp_is_integer (K : PySem.W.Frag) (ca : Str → Addr) : Sp := fun vs H Q E => ∃ (G : Hp) (d : PyData), In G H ∧ RpA K G vs [d] ∧ Ret K G H Q (.bool (m_is_integer d))
def sp_is_between (K : PySem.W.Frag) (ca : Str → Addr) : Sp := fun vs H Q E => ∃ (G : Hp) (d : PyData) (lo hi : Int), In G H ∧ RpA K G vs [d, .int lo, .int hi] ∧ Ret K G H Q (.bool (m_is_between d lo hi))
def sp_is_line (K : PySem.W.Frag) (ca : Str → Addr) : Sp := fun vs H Q E => ∃ (G : Hp) (d : PyData), In G H ∧ RpA K G vs [d] ∧ okD d ∧ Ret K G H Q (.bool (m_is_line d))
def sp_is_word (K : PySem.W.Frag) (ca : Str → Addr) : Sp := fun vs H Q E => ∃ (G : Hp) (d : PyData), In G H ∧ RpA K G vs [d] ∧ okD d ∧ Ret K G H Q (.bool (m_is_word d))
def sp_need_word (K : PySem.W.Frag) (ca : Str → Addr) : Sp := fun vs H Q E => ∃ (G : Hp) (d : PyData), In G H ∧ RpA K G vs [d] ∧ okD d ∧ (m_is_word d = true → Ret K G H Q .none) ∧ (m_is_word d = false → Rse G H E (ca "BadWord"))
section
variable {K : PySem.W.Frag} {ca : Str → Addr} {E : XK}
end
def t_is_integer (K : PySem.W.Frag) (ca : Str → Addr) (E : XK) : TS := (tRet ((tAndV ((tCB (rIsi K) ((tCons ((tVar 0)) ((tCons (tC (.ty "int")) (tNil))))))) ((tNotV ((tCB (rIsi K) ((tCons ((tVar 0)) ((tCons (tC (.ty "bool")) (tNil))))))))))))
def t_is_between (K : PySem.W.Frag) (ca : Str → Addr) (E : XK) : TS := (tRet ((tAndV ((tCall (sp_is_integer K ca) [] E ((tCons ((tVar 0)) (tNil))))) ((tChain (rI0 fun i j => .bl (decide (i ≤ j))) (rI0 fun i j => .bl (decide (i ≤ j))) ((tVar 1)) ((tVar 0)) ((tVar 2)))))))
def t_is_line (K : PySem.W.Frag) (ca : Str → Addr) (E : XK) : TS := (tRet ((tAndV ((tCB (rIsi K) ((tCons ((tVar 0)) ((tCons (tC (.ty "str")) (tNil))))))) ((tCB (rAll K) ((tCons ((tLc ((iStr ((tVar 0)))) ((gName 1)) (tYes) ((tOp (rInC) ((tVar 1)) (tC (.str "acgt")))) [1])) (tNil))))))))
def t_is_word (K : PySem.W.Frag) (ca : Str → Addr) (E : XK) : TS := (tRet ((tAndV ((tCall (sp_is_line K ca) [] E ((tCons ((tVar 0)) (tNil))))) ((tOp (rI0 fun i j => .bl (decide (j < i))) ((tCB (rLenU K) ((tCons ((tVar 0)) (tNil))))) (tC (.int 0)))))))
def t_need_word (K : PySem.W.Frag) (ca : Str → Addr) (E : XK) : TS := (tIfS ((tNot ((tB ((tCall (sp_is_word K ca) [] E ((tCons ((tVar 0)) (tNil))))))))) ((tRaise (fun cls d _ H => E cls d H) (fun _ H Q => Q (.ref (ca "BadWord")) none H))) (tNext))
def t_need_length (K : PySem.W.Frag) (ca : Str → Addr) (E : XK) : TS := (tIfS ((tNot ((tB ((tCall (sp_is_between K ca) [] E ((tCons ((tVar 0)) ((tCons (tC (.int 1)) ((tCons (tC (.int 120)) (tNil))))))))))))) ((tRaise (fun cls d _ H => E cls d H) (fun _ H Q => Q (.ref (ca "BadLength")) none H))) (tNext))
section
variable {K : PySem.W.Frag} {ca : Str → Addr}
end
end Z

namespace Z
open PySem PySem.Spec PyProof.Rows L2
section
variable {K : PySem.W.Frag} {ca : Str → Addr} {E : XK} {G H : Hp} {m w : Addr} {n : Nat} {v : V} {Q : VK}
end
theorem cut_to {α : Type} {t : List α} {i : Int} (h : 0 ≤ i) : cutL t none (some i) = t.take i.toNat := by
  unfold cutL
  have e0 : HT.sIx t.length 0 none = 0 := rfl
  rw [e0, List.drop_zero, Nat.sub_zero]
  have : HT.sIx t.length t.length (some i) = min i.toNat t.length := by
    unfold HT.sIx
    simp
    omega
  rw [this, List.take_eq_take_iff]
  omega
def t__law_text (K : PySem.W.Frag) (ca : Str → Addr) (E : XK) : TS := (tSeq ((tAsg ((tTup ((tCons ((tCall (sp__law_signs K ca) [] E ((tCons ((tVar 0)) (tNil))))) ((tCons ((tOp (rI0 fun i j => .int (i + j)) (tC (.int 1)) ((tCall (sp__law_take K ca) [] E ((tCons ((tVar 0)) ((tCons ((tVar 1)) (tNil))))))))) (tNil))))))) (gTup K 2 (gCons (gName 2) (gCons (gName 3) gNil))))) ((tSeq ((tIfS ((tTest (tOp (rI0 fun i j => .bl (decide (j < i))) ((tCall (sp__law_take K ca) [] E ((tCons ((tVar 0)) ((tCons (tC (.int 3)) (tNil))))))) (tC (.int 0))))) ((tRet ((tCall (sp__law_letters K ca) [] E ((tCons ((tVar 0)) ((tCons ((tVar 2)) ((tCons ((tVar 3)) (tNil))))))))))) (tNext))) ((tSeq ((tPar 4 5 ((tCons ((tLc ((iRng1 ((tCons (tC (.int 2)) (tNil))))) ((gName 6)) (tYes) ((tCall (sp__law_letters K ca) [] E0 ((tCons ((tVar 0)) ((tCons ((tVar 2)) ((tCons ((tOp (rI0 fun i j => .int (i + j)) (tC (.int 1)) ((tCall (sp__law_take K ca) [] E0 ((tCons ((tVar 0)) ((tCons (tC (.int 4)) (tNil))))))))) (tNil))))))))) [6])) ((tCons (tC (.str "")) (tNil))))))) ((tSeq ((tFor ((iRng1 ((tCons ((tVar 3)) (tNil))))) ((gName 6)) ((tAsg ((tOp (rAddS) ((tVar 5)) ((tCall (sp__law_pick K ca) [] E ((tCons ((tVar 0)) ((tCons ((tVar 4)) (tNil))))))))) (gName 5))))) ((tRet ((tSl (rSlS) ((tVar 5)) (tNoPart) ((tPart ((tVar 3)))))))))))))))
end Z

namespace Z
open PySem PySem.Spec PyProof.Rows L2
def perm (is : List Nat) {α : Type} (us ws : List α) : List α := is.filterMap fun i => (us ++ ws)[i]?
section
variable {X : Cx} {k n : Nat} {x : Str} {ps ks : List Str} {is : List Nat} {sp : Sp} {E : XK} {e : Expr} {es : List Expr} {kws : List Keyword} {t tk : TA} {p pos : Pos}
end
section
variable {K : PySem.W.Frag} {σ : L2.St} {G : Hp}
end
end Z

namespace Z
open PySem PySem.Spec PyProof.Rows L2
end Z

namespace Z
open PySem PySem.Spec PyProof.Rows L2 LamX
structure FnG (P : Program) (w : World) (K : PySem.W.Frag) (mg : Str → Option Value) (base : Heap) (C : CXT) (k : Nat) (f : Addr) (fd : FuncData) (ps : List Str) (sp : Sp) : Prop where
  len : ∀ vs H Q E, sp vs H Q E → vs.length = ps.length
  run : ∀ (A : Around) (outer : List Env) (s : Shared) (H : Hp) (args : Args) (us : List Value) (vs : List V) (Q : VK) (E : XK), A.guards = some [] → Room k A → Env0 P w K mg base A outer s H → BindsTo s fd args (ps.zip us) → Vals vs us → sp vs H Q E →
    codeAny (model P w) A (.call (.ref f) args) (CR C outer P w H s Q E) s
theorem FnG.of {P : Program} {w : World} {K : PySem.W.Frag} {mg : Str → Option Value} {base : Heap} {C : CXT} {k : Nat} {f : Addr} {fd : FuncData} {ps : List Str} {sp : Sp} (F : FnOk P w K mg base C k f fd ps sp) : FnG P w K mg base C k f fd ps sp :=
  ⟨F.len, fun A outer s H args us vs Q E _ => F.run A outer s H args us vs Q E⟩
end Z

namespace Z
open PySem PySem.Spec PyProof.Rows L2 LamX
theorem lawCallG {P : Program} {w : World} {K : PySem.W.Frag} {mg mb : Str → Option Value} {C : CXT} {k : Nat} {fa a : Addr} {cs : List (Addr × Addr)} {fd : FuncData} {x : Str} {sp : Sp} {t1 : Shared} {vs : List Value} {ns : List Int}
    (KX : K.In t1.heap) (gN : t1.heap.Ns mainGlobals mg) (bN : t1.heap.Ns builtinsNs mb) (bB : ∀ x : Str, x ≠ "__name__" → mb x = bootBuiltins x) (lim : t1.heap.NoLimit) (gen0 : t1.gens = #[])
    (hT : ∀ p ∈ cs, t1.heap.get? p.2 = some { cls := .none, data := .fields #[] }) (nT : ∀ p ∈ cs, K.lookup p.2 = none) (hC : ∀ p ∈ cs, PySem.W.CodeHd t1.heap p.1 p.2)
    (bmn : ∃ (bm : Addr) (ob : Obj), mg "__builtins__" = some (.ref bm) ∧ bm ≠ builtinsNs ∧ t1.heap.get? bm = some ob ∧ ob.cls = .type "module" ∧ ob.dict = some builtinsNs ∧ ob.data = .plain)
    (hA : t1.heap.get? a = some { cls := .type "list", data := .seq vs.toArray }) (hI : IntsAre vs ns) (hL : ns.length ≤ sizeLine) (hR : Room k callerA)
    (F : ∀ base : Heap, K.In base → base.Ns mainGlobals mg → (∀ p ∈ cs, TabB base mg p.1 p.2) → FnG P w K mg base C k fa fd [x] sp) (hB : ∀ (s : Shared) (u : Value), BindsTo s fd ⟨[u], []⟩ [(x, u)])
    (hsp : ∀ H : Hp, (∀ p ∈ cs, H p.2 = some (.tbl #[])) → SqL K H a (ns.map V.int) → sp [.ref a] H (fun v _ => v = .bl true) fun _ _ _ => False)
    (hX : ∀ H e s', C [] H t1 (fun _ _ _ => False) e s' → False) :
    codeAny (model P w) callerA (.call (.ref fa) ⟨[.ref a], []⟩) (fun r s' => r = .ok (.ret (.bool true)) ∧ OldK t1.heap s'.heap ∧ s'.os = t1.os ∧ AllBare s'.gens) t1 := by
  have rv := vals_ints hI
  have T0 : ∀ b, b ∈ cs.map (·.2) → t1.heap.get? b = some { cls := .none, data := .fields #[] } := by
    intro b hb
    obtain ⟨p, hp, rfl⟩ := List.mem_map.mp hb
    exact hT p hp
  have inT : ∀ p ∈ cs, p.2 ∈ cs.map (·.2) := fun p hp => List.mem_map_of_mem hp
  have aT : ¬ a ∈ cs.map (·.2) := by
    intro z
    have q := T0 a z
    rw [hA] at q
    have z' : Data.seq vs.toArray _ = Data.fields #[] := congrArg Obj.data (Option.some.inj q)
    cases z'
  -- what is tracked: the tables, and the script unless the module knows it
  let so : HO := .frz { cls := .type "list", data := .seq vs.toArray } (.lst (ns.map V.int))
  let H : Hp := fun b => if b ∈ cs.map (·.2) then some (.tbl #[]) else if b = a ∧ K.lookup a = none then some so else none
  have HT : ∀ b, b ∈ cs.map (·.2) → H b = some (.tbl #[]) := fun b hb => if_pos hb
  have Hs : ∀ b o, H b = some o → (b ∈ cs.map (·.2) ∧ o = .tbl #[]) ∨ (b = a ∧ K.lookup a = none ∧ o = so) := by
    intro b o e
    by_cases hb : b ∈ cs.map (·.2)
    · left; rw [HT b hb] at e; cases e; exact ⟨hb, rfl⟩
    · right
      have e : (if b = a ∧ K.lookup a = none then some so else none) = some o := (if_neg hb).symm.trans e
      by_cases h2 : b = a ∧ K.lookup a = none
      · rw [if_pos h2] at e; cases e; exact ⟨h2.1, h2.2, rfl⟩
      · rw [if_neg h2] at e; cases e
  have Sq : SqL K H a (ns.map V.int) := by
    cases hk : K.lookup a with
    | some o =>
      have e := KX a o hk
      rw [hA] at e; cases e
      exact .inr ⟨_, vs.toArray, _, hk, rfl, rfl, rfl, by rw [List.size_toArray, hI.length]; exact hL, by simpa using rv⟩
    | none =>
      refine .inl (.inr ⟨{ cls := .type "list", data := .seq vs.toArray }, ?_⟩)
      show (if a ∈ cs.map (·.2) then _ else _) = _
      rw [if_neg aT, if_pos ⟨rfl, hk⟩]
  have hok : HOk P w H t1.heap := by
    intro b o e
    rcases Hs b o e with ⟨hb, rfl⟩ | ⟨rfl, _, rfl⟩
    · exact T0 b hb
    · exact ⟨hA, by rw [List.length_map]; exact hL, vs, _, rv, hA⟩
  have free : ∀ {b : Addr} {o : Obj}, t1.heap.get? b = some o → (∀ us n, o.data ≠ .seq us n) → o.data ≠ .fields #[] → H b = none := by
    intro b o e h1 h2
    cases q : H b with
    | none => rfl
    | some u =>
      rcases Hs b u q with ⟨hb, _⟩ | ⟨rfl, _, _⟩
      · rw [T0 b hb] at e; cases e; exact (h2 rfl).elim
      · rw [hA] at e; cases e; exact (h1 _ _ rfl).elim
  have dfree : ∀ {b : Addr} {o : Obj} {es : Array DictEntry} {n : Nat}, t1.heap.get? b = some o → o.data = .dict es n → H b = none := by
    intro b o es n e d
    refine free e (fun us m z => ?_) (fun z => ?_) <;> rw [d] at z <;> cases z
  have NsK : ∀ {b : Addr} {f : Str → Option Value}, t1.heap.Ns b f → (hidT t1.heap H).Ns b f := by
    rintro b f ⟨o, es, n, e, d, r⟩
    exact ⟨o, es, n, hidT_get e (dfree e d), d, r⟩
  have KB : K.In (hidT t1.heap H) := by
    intro b o e
    refine hidT_get (KX b o e) ?_
    cases q : H b with
    | none => rfl
    | some u =>
      rcases Hs b u q with ⟨hb, _⟩ | ⟨rfl, hk, _⟩
      · obtain ⟨p, hp, rfl⟩ := List.mem_map.mp hb
        rw [nT p hp] at e; cases e
      · rw [hk] at e; cases e
  obtain ⟨mc, l1, l2⟩ := lim
  have M0 : L2.Mod K mg (hidT t1.heap H) := { kin := KB, glob := NsK gN, blt := ⟨mb, NsK bN, bB⟩, nolimit := ⟨mc, NsK l1, l2⟩ }
  have TB : ∀ p ∈ cs, TabB (hidT t1.heap H) mg p.1 p.2 := by
    intro p hp
    have hTp := hT p hp
    constructor
    · obtain ⟨o, us, file, tf, flags, tg, inF, text, tt, e1, r1, r2, r3, rr⟩ := hC p hp
      refine ⟨o, us, file, tf, flags, tg, inF, text, tt, hidT_get e1 (free e1 (fun us n z => ?_) (fun z => ?_)), r1, r2, r3, rr⟩
      · rw [r2] at z; cases z
      · rw [r2] at z; cases z; simp at r3
    · obtain ⟨bm, ob, b1, b2, b3, b4, b5, b6⟩ := bmn
      refine ⟨bm, ob, b1, b2, fun q => ?_, fun q => ?_, hidT_get b3 (free b3 (fun us n z => ?_) (fun z => ?_)), b4, b5, b6⟩
      · obtain ⟨o, es, n, e, d, _⟩ := gN
        rw [q, e] at b3; cases b3; rw [d] at b6; cases b6
      · rw [q, hTp] at b3; cases b3; cases b6
      · rw [b6] at z; cases z
      · rw [b6] at z; cases z
    · intro z
      obtain ⟨o, es, n, e, d, _⟩ := gN
      rw [z, hTp] at e; cases e; cases d
  have E0' : Env0 P w K mg (hidT t1.heap H) callerA [] t1 H := by
    refine ⟨rfl, M0, fun b o e => of_hidT e, Nat.le_of_eq (hidT_size _ _), trivial, fun b hb => ?_, hok, .of_eq gen0⟩
    exact absurd (show b ∈ ([] : List Addr) from hb) (by simp)
  refine codeAny_mono ((F _ KB (NsK gN) TB).run callerA [] t1 H ⟨[.ref a], []⟩ [.ref a] [.ref a] _ _ rfl hR E0' (hB t1 (.ref a)) (.cons rfl .nil) (hsp H (fun p hp => HT _ (inT p hp)) Sq)) fun r s' h => ?_
  match r, h with
  | .error e, h => exact (hX H e s' h).elim
  | .ok .next, h => exact h.elim
  | .ok .brk, h => exact h.elim
  | .ok .cont, h => exact h.elim
  | .ok (.ret u), h =>
    obtain ⟨v, H', os, bare, un, hok', r', q⟩ := h
    have q : v = .bl true := q
    subst q
    obtain rfl : u = Value.bool true := r'
    have old : ∀ b o, ¬ b ∈ cs.map (·.2) → t1.heap.get? b = some o → s'.heap.get? b = some o := by
      intro b o nb e
      cases q : H b with
      | none => exact un.keep b o e q (fun z => absurd (show b ∈ ([] : List Addr) from z) (by simp)) (by simp)
      | some u =>
        rcases Hs b u q with ⟨hb, _⟩ | ⟨rfl, _, rfl⟩
        · exact absurd hb nb
        · obtain ⟨e1, _⟩ := hok b _ q
          obtain ⟨e2, _⟩ := hok' b _ (un.frzs b _ _ q)
          rw [e] at e1; cases e1
          exact e2
    have grew : ∀ p ∈ cs, ∃ more : Array Value, s'.heap.get? p.2 = some { cls := .none, data := .fields more } := by
      intro p hp
      obtain ⟨more, z⟩ := un.tbls p.2 #[] (HT _ (inT p hp))
      exact ⟨_, hok' p.2 _ z⟩
    refine ⟨rfl, ⟨fun b o e => ?_, fun b o e => ?_⟩, os, bare⟩
    · by_cases hb : b ∈ cs.map (·.2)
      · obtain ⟨p, hp, rfl⟩ := List.mem_map.mp hb
        obtain ⟨more, hm⟩ := grew p hp
        rw [hT p hp] at e
        cases e
        exact .inr (.inl ⟨((hC p hp).tab (hT p hp)).isCodeTable, rfl, #[], more, rfl, by rw [Array.empty_append]; exact hm⟩)
      · exact .inl (old b o hb e)
    · by_cases hb : b ∈ cs.map (·.2)
      · obtain ⟨p, hp, rfl⟩ := List.mem_map.mp hb
        obtain ⟨more, hm⟩ := grew p hp
        exact ⟨_, hm⟩
      · exact ⟨o, old b o hb e⟩
theorem walkG {l : PySem.W.OpenLaw} {n k : Nat} {q : Program} {loose : List Str} {XP : (Str → Option Value) → Heap → Prop} {YP : World → Heap → Prop} {d : DefRec} {C : World → CXT} {x : Str}
    (hn : l.most = some n) (hn2 : n ≤ sizeLine) (hdf : d.params.defaults = []) (hR : Room k callerA)
    (F : ∀ (w : World) (mg : Str → Option Value) (fa : Addr) (h : Heap), YP w h → h.Ns mainGlobals mg → mg d.name = some (.ref fa) →
      ∃ (K : PySem.W.Frag) (fd : FuncData) (cs : List (Addr × Addr)) (sp : Sp), K.In h ∧ (∀ p ∈ cs, h.get? p.2 = some { cls := .none, data := .fields #[] }) ∧ (∀ p ∈ cs, K.lookup p.2 = none) ∧ (∀ p ∈ cs, PySem.W.CodeHd h p.1 p.2) ∧ (∀ (s : Shared) (u : Value), BindsTo s fd ⟨[u], []⟩ [(x, u)]) ∧
        (∀ (H : Hp) (a : Addr) (ns : List Int), ns.length ≤ n → (∀ p ∈ cs, H p.2 = some (.tbl #[])) → SqL K H a (ns.map V.int) → sp [.ref a] H (fun v _ => v = .bl true) fun _ _ _ => False) ∧
        ∀ base : Heap, K.In base → base.Ns mainGlobals mg → (∀ p ∈ cs, TabB base mg p.1 p.2) → FnG l.prog w K mg base (C w) k fa fd [x] sp)
    (hX : ∀ (w : World) (H : Hp) (s : Shared) (e : Value) (s' : Shared), C w [] H s (fun _ _ _ => False) e s' → False) :
    PySem.W.WalkO q loose XP YP l.row.toRowW d [] (fun f vs => PySem.call f vs) := by
  refine Att.attach_callB hn hdf fun w t0 t1 mg mb fa o pm cd doc a vs ns G Y ho hd hcd hmg hob hin hle hbi hgn => ?_
  obtain ⟨K, fd, cs, sp, KX, h1, h2, h3, hb, hsp, hF⟩ := F w mg fa _ Y G.T.g hmg
  exact lawCallG KX G.T.g G.T.b G.T.builtins G.T.nolimit hgn h1 h2 h3 G.T.bmain hob hin (Nat.le_trans hle hn2) hR hF hb (fun H hH hS => hsp H a ns hle hH hS) fun H e s' => hX w H t1 e s'
end Z

namespace Z
open PySem PySem.Spec PyProof.Rows L2
def ExV (cls : Value) (d : Option Addr) (a : Addr) : HO := .ext fun h => ∃ (oe : Obj) (vs : Array Value), h.get? a = some oe ∧ Zc cls d oe ∧ oe.data = .fields vs
section
variable {X : Cx} {pins : List (Addr × Obj)} {σ : L2.St} {H : Hp} {s : Shared}
end
section
variable {X : Cx} {x n : Str} {c : Value} {i : Nat} {body suite : List Stmt} {b₀ : Stmt} {np pos pos' : Pos} {tb : WX → TS} {ts : Addr → Value → Option Addr → TS} {Wout : WX}
end
end Z

namespace Z
open PySem PySem.Spec PyProof.Rows L2 LamX
def rIsX (K : PySem.W.Frag) : List V → Hp → VK → Prop := fun xs H Q => ∃ (a D : Addr) (c : V) (cv : Value) (b : Bool), xs = [.ref a, c] ∧ H a = some (ExV (.ref D) none a) ∧ ExcC K D ∧ (∀ u, RelV c u → u = cv) ∧ PySem.W.kitOne K (.ref D) cv = some b ∧ Q (.bl b) H
theorem call_isX {X : Cx} : CallR X (.builtin "isinstance") (rIsX X.K) := by
  intro pins s σ H xs us Q I r h
  obtain ⟨a, D, c, cv, b, rfl, ha, C, hcv, e, q⟩ := h
  obtain ⟨u1, u2, rfl, r1, r2⟩ := vals2 r
  obtain rfl : u1 = Value.ref a := r1
  obtain rfl := hcv _ r2
  obtain ⟨⟨oe, vs, hget, hz, hv⟩, _⟩ := I.hok a _ ha
  have J : PySem.W.InstAt s.heap a oe D none := by
    obtain ⟨oc, od, oda, osl⟩ := oe
    obtain ⟨h1, h2⟩ := hz
    dsimp only at h1 h2 hv
    subst h1 h2 hv
    exact ⟨hget, rfl, rfl, trivial⟩
  exact PySem.W.kia_one (PySem.W.handS_kitx_exc C.hg C.hk C.hs C.hd C.ha C.hn C.ht C.hm) I.kIn J e (fun z => nomatch z) fun tk => ⟨.bl b, H, I.kept (t' := tk) fun _ _ z => z, rfl, q⟩
theorem nested_own {a : Addr} {c : Value} : Answers (fun s => ∃ oe, s.heap.get? a = some oe ∧ oe.cls = c) (.ref a) c true := by
  intro dep tk prog w A R s ⟨⟨oe, h1, h2⟩, hq⟩
  obtain ⟨hp, g, d, t0, os⟩ := s
  have L : PySem.W.Looks (model prog w) hp (typeOf (.ref a)) c := h2 ▸ (PySem.W.Looks.ld h1).andThen .now
  have same : (c == c) = true := beq_self_eq_true c
  unfold Builtin.«isinstance.nested»; refine wpAny_bind (L.at ?_); rw [if_pos same]
  first
    | exact wpAny_bind (wpAny_pure (wpAny_pure (hq t0)))
    | exact wpAny_pure (hq t0)
    | exact wpAny_bind (wpAny_rule (hq t0))
    | exact wpAny_bind (wpAny_rule (wpAny_pure (hq t0)))
def rIsO : List V → Hp → VK → Prop := fun xs H Q => ∃ (a D : Addr) (dd : Option Addr), xs = [.ref a, .ref D] ∧ H a = some (ExV (.ref D) dd a) ∧ Q (.bl true) H
theorem call_isO {X : Cx} : CallR X (.builtin "isinstance") rIsO := by
  intro pins s σ H xs us Q I r ⟨a, D, dd, e, ha, q⟩
  subst e
  obtain ⟨u1, u2, rfl, r1, r2⟩ := vals2 r
  obtain rfl : u1 = Value.ref a := r1
  obtain rfl : u2 = Value.ref D := r2
  obtain ⟨⟨oe, vs, hget, hz, hv⟩, _⟩ := I.hok a _ ha
  exact call_isinstance (S := fun _ R s => (∃ oe, s.heap.get? a = some oe ∧ oe.cls = .ref D) ∧ ∀ tk, R (.ok (.ret (.bool true))) { s with toks := tk })
    (fun prog w A R s hs => isinstance_outer (nested_own 0 _ prog w A R s hs) (fun z => nomatch z)) ⟨⟨oe, hget, hz.1⟩, fun tk => ⟨.bl true, H, I.kept (t' := tk) fun _ _ z => z, rfl, q⟩⟩
def rIsA (K : PySem.W.Frag) : List V → Hp → VK → Prop := fun xs H Q => rIsi K xs H Q ∨ rIsX K xs H Q ∨ rIsO xs H Q
theorem call_isA {X : Cx} : CallR X (.builtin "isinstance") (rIsA X.K) := by
  intro pins s σ H xs us Q I r h
  rcases h with h | h | h
  · exact call_isi pins s σ H xs us Q I r h
  · exact call_isX pins s σ H xs us Q I r h
  · exact call_isO pins s σ H xs us Q I r h
section
variable {X : Cx}
end
end Z

namespace Y
open PySem PySem.Spec PyProof.Rows L2 Z
abbrev Ky := Sum Int (List Nat)
def kk : Ky → Key
  | .inl i => .inl i
  | .inr w => .inr (S w)
theorem kk_inj {a b : Ky} (h : kk a = kk b) : a = b := by
  cases a <;> cases b <;> simp [kk] at h
  · rw [h]
  · rw [S_inj h]
inductive D where
  | non | bl (b : Bool) | int (i : Int) | str (w : List Nat)
  | lst (xs : List D) | tup (xs : List D) | dic (kvs : List (Ky × D))
  | ty (n : String) | glo (x : Str) | ins (C : Str) (fs : List (Str × D)) | exc (C : Str) (fs : List (Str × D)) | drw (q : Addr × Addr × Addr) | scr (ns : List Int)
  | rf (a : Addr)
abbrev Tk := Addr × Addr × Addr
abbrev Im := Sum Tk (Addr × D)
abbrev Dr := List Im
def putS (dr : Dr) (a : Addr) (d : D) : Dr := dr.map fun i => match i with
  | .inl q => .inl q
  | .inr p => if p.1 = a then .inr (p.1, d) else .inr p
def delS (dr : Dr) (as : List Addr) : Dr := dr.filter fun i => match i with
  | .inl _ => true
  | .inr p => !decide (p.1 ∈ as)
mutual
inductive Told (dr : Dr) : D → D → List Addr → Prop
  | leaf (d : D) : Told dr d d []
  | tup {ds es : List D} {as : List Addr} : ToldA dr ds es as → Told dr (.tup ds) (.tup es) as
  | lst {a : Addr} {ds es : List D} {as : List Addr} : .inr (a, .lst ds) ∈ dr → ToldA dr ds es as → Told dr (.rf a) (.lst es) (a :: as)
  | dic {a : Addr} {ds es : List (Ky × D)} {as : List Addr} : .inr (a, .dic ds) ∈ dr → ToldD dr ds es as → Told dr (.rf a) (.dic es) (a :: as)
  | ins {a : Addr} {C : Str} {ds es : List (Str × D)} {as : List Addr} : .inr (a, .ins C ds) ∈ dr → ToldF dr ds es as → Told dr (.rf a) (.ins C es) (a :: as)
inductive ToldA (dr : Dr) : List D → List D → List Addr → Prop
  | nil : ToldA dr [] [] []
  | cons {d e : D} {ds es : List D} {as bs : List Addr} : Told dr d e as → ToldA dr ds es bs → ToldA dr (d :: ds) (e :: es) (as ++ bs)
inductive ToldD (dr : Dr) : List (Ky × D) → List (Ky × D) → List Addr → Prop
  | nil : ToldD dr [] [] []
  | cons {q : Ky} {d e : D} {ds es : List (Ky × D)} {as bs : List Addr} : Told dr d e as → ToldD dr ds es bs → ToldD dr ((q, d) :: ds) ((q, e) :: es) (as ++ bs)
inductive ToldF (dr : Dr) : List (Str × D) → List (Str × D) → List Addr → Prop
  | nil : ToldF dr [] [] []
  | cons {q : Str} {d e : D} {ds es : List (Str × D)} {as bs : List Addr} : Told dr d e as → ToldF dr ds es bs → ToldF dr ((q, d) :: ds) ((q, e) :: es) (as ++ bs)
end
structure Ex where
  C : Str
  fs : List (Str × D)
inductive M (α : Type) where
  | ok (a : α) | raise (x : Ex) | bad | take (q : Tk) (tot : Int) (k : Int → M α) | beg (k : Tk → M α)
  | new (d : D) (k : Addr → M α) | get (a : Addr) (k : D → M α) | put (a : Addr) (d : D) (k : M α) | frz (d : D) (k : D → M α)
def M.bind {α β : Type} : M α → (α → M β) → M β
  | .ok a, f => f a
  | .raise x, _ => .raise x
  | .bad, _ => .bad
  | .take q t k, f => .take q t fun i => (k i).bind f
  | .beg k, f => .beg fun q => (k q).bind f
  | .new d k, f => .new d fun a => (k a).bind f
  | .get a k, f => .get a fun d => (k d).bind f
  | .put a d k, f => .put a d (k.bind f)
  | .frz d k, f => .frz d fun e => (k e).bind f
def M.nox {α : Type} : M α → M α
  | .ok a => .ok a
  | .raise _ => .bad
  | .bad => .bad
  | .take q t k => .take q t fun i => (k i).nox
  | .beg k => .beg fun q => (k q).nox
  | .new d k => .new d fun a => (k a).nox
  | .get a k => .get a fun d => (k d).nox
  | .put a d k => .put a d k.nox
  | .frz d k => .frz d fun e => (k e).nox
def M.all {α β : Type} : M α → (α → M β) → (Ex → M β) → M β
  | .ok a, f, _ => f a
  | .raise x, _, g => g x
  | .bad, _, _ => .bad
  | .take q t k, f, g => .take q t fun i => (k i).all f g
  | .beg k, f, g => .beg fun q => (k q).all f g
  | .new d k, f, g => .new d fun a => (k a).all f g
  | .get a k, f, g => .get a fun d => (k d).all f g
  | .put a d k, f, g => .put a d (k.all f g)
  | .frz d k, f, g => .frz d fun e => (k e).all f g
def M.of {α : Type} : Option α → M α
  | some a => .ok a
  | none => .bad
section
variable {α β γ : Type}
@[simp] theorem ok_bind (a : α) (f : α → M β) : (M.ok a).bind f = f a := rfl
@[simp] theorem raise_bind (x : Ex) (f : α → M β) : (M.raise x : M α).bind f = .raise x := rfl
@[simp] theorem bad_bind (f : α → M β) : (M.bad : M α).bind f = .bad := rfl
@[simp] theorem take_bind (q : Tk) (t : Int) (k : Int → M α) (f : α → M β) : (M.take q t k).bind f = .take q t fun i => (k i).bind f := rfl
@[simp] theorem beg_bind (k : Tk → M α) (f : α → M β) : (M.beg k).bind f = .beg fun q => (k q).bind f := rfl
@[simp] theorem new_bind (d : D) (k : Addr → M α) (f : α → M β) : (M.new d k).bind f = .new d fun q => (k q).bind f := rfl
@[simp] theorem get_bind (a : Addr) (k : D → M α) (f : α → M β) : (M.get a k).bind f = .get a fun q => (k q).bind f := rfl
@[simp] theorem put_bind (a : Addr) (d : D) (k : M α) (f : α → M β) : (M.put a d k).bind f = .put a d (k.bind f) := rfl
@[simp] theorem frz_bind (d : D) (k : D → M α) (f : α → M β) : (M.frz d k).bind f = .frz d fun q => (k q).bind f := rfl
@[simp] theorem ok_nox (a : α) : (M.ok a).nox = .ok a := rfl
@[simp] theorem of_some (a : α) : M.of (some a) = .ok a := rfl
@[simp] theorem of_none : M.of (none : Option α) = .bad := rfl
@[simp] theorem ok_all (a : α) (f : α → M β) (g : Ex → M β) : (M.ok a).all f g = f a := rfl
@[simp] theorem raise_all (x : Ex) (f : α → M β) (g : Ex → M β) : (M.raise x : M α).all f g = g x := rfl
@[simp] theorem bind_bind (m : M α) (f : α → M β) (g : β → M γ) : (m.bind f).bind g = m.bind fun a => (f a).bind g := by
  induction m with
  | ok a => rfl
  | raise x => rfl
  | bad => rfl
  | take q t k ih => simp only [M.bind]; congr 1; funext i; exact ih i
  | beg k ih => simp only [M.bind]; congr 1; funext i; exact ih i
  | new q k ih => simp only [M.bind]; congr 1; funext i; exact ih i
  | get q k ih => simp only [M.bind]; congr 1; funext i; exact ih i
  | put q d k ih => simp only [M.bind]; congr 1
  | frz q k ih => simp only [M.bind]; congr 1; funext i; exact ih i
theorem bind_ok (m : M α) : m.bind M.ok = m := by
  induction m with
  | ok a => rfl
  | raise x => rfl
  | bad => rfl
  | take q t k ih => simp only [M.bind]; congr 1; funext i; exact ih i
  | beg k ih => simp only [M.bind]; congr 1; funext i; exact ih i
  | new q k ih => simp only [M.bind]; congr 1; funext i; exact ih i
  | get q k ih => simp only [M.bind]; congr 1; funext i; exact ih i
  | put q d k ih => simp only [M.bind]; congr 1
  | frz q k ih => simp only [M.bind]; congr 1; funext i; exact ih i
end
def wp {α : Type} : Dr → Nat → M α → (Dr → Nat → α → Prop) → (Dr → Nat → Ex → Prop) → Prop
  | dr, n, .ok a, Q, _ => Q dr n a
  | dr, n, .raise x, _, E => E dr n x
  | _, _, .bad, _, _ => False
  | dr, n, .take q t k, Q, E => .inl q ∈ dr ∧ 0 < t ∧ t < 1000000000 ∧ ∃ n', n = n' + 1 ∧ ∀ i, 0 ≤ i → i < t → wp dr n' (k i) Q E
  | dr, n, .beg k, Q, E => ∀ q, wp (.inl q :: dr) n (k q) Q E
  | dr, n, .new d k, Q, E => ∀ a, (∀ e, .inr (a, e) ∉ dr) → wp (.inr (a, d) :: dr) n (k a) Q E
  | dr, n, .get a k, Q, E => ∃ d, .inr (a, d) ∈ dr ∧ wp dr n (k d) Q E
  | dr, n, .put a d k, Q, E => (∃ e, .inr (a, e) ∈ dr) ∧ wp (putS dr a d) n k Q E
  | dr, n, .frz d k, Q, E => ∃ e as, Told dr d e as ∧ wp (delS dr as) n (k e) Q E
section
variable {α β : Type} {dr : Dr} {n : Nat} {m : M α} {Q Q' : Dr → Nat → α → Prop} {E E' : Dr → Nat → Ex → Prop}
theorem wp_mono (h : wp dr n m Q E) (hq : ∀ d n a, Q d n a → Q' d n a) (he : ∀ d n x, E d n x → E' d n x) : wp dr n m Q' E' := by
  induction m generalizing dr n with
  | ok a => exact hq _ _ _ h
  | raise x => exact he _ _ _ h
  | bad => exact h
  | take q t k ih =>
    obtain ⟨h0, h1, h2, n', e, h3⟩ := h
    exact ⟨h0, h1, h2, n', e, fun i a b => ih i (h3 i a b)⟩
  | beg k ih => exact fun q => ih q (h q)
  | new d k ih => exact fun a ha => ih a (h a ha)
  | get a k ih =>
    obtain ⟨d, h0, h1⟩ := h
    exact ⟨d, h0, ih d h1⟩
  | put a d k ih => exact ⟨h.1, ih h.2⟩
  | frz d k ih =>
    obtain ⟨e, as, h0, h1⟩ := h
    exact ⟨e, as, h0, ih e h1⟩
theorem wp_bind {f : α → M β} {R : Dr → Nat → β → Prop} : wp dr n (m.bind f) R E ↔ wp dr n m (fun dr n a => wp dr n (f a) R E) E := by
  induction m generalizing dr n with
  | ok a => exact Iff.rfl
  | raise x => exact Iff.rfl
  | bad => exact Iff.rfl
  | take q t k ih =>
    constructor
    · rintro ⟨h0, h1, h2, n', e, h3⟩
      exact ⟨h0, h1, h2, n', e, fun i a b => (ih i).mp (h3 i a b)⟩
    · rintro ⟨h0, h1, h2, n', e, h3⟩
      exact ⟨h0, h1, h2, n', e, fun i a b => (ih i).mpr (h3 i a b)⟩
  | beg k ih => exact ⟨fun h q => (ih q).mp (h q), fun h q => (ih q).mpr (h q)⟩
  | new d k ih => exact ⟨fun h q a => (ih q).mp (h q a), fun h q a => (ih q).mpr (h q a)⟩
  | get a k ih => exact ⟨fun ⟨d, h0, h⟩ => ⟨d, h0, (ih d).mp h⟩, fun ⟨d, h0, h⟩ => ⟨d, h0, (ih d).mpr h⟩⟩
  | put a d k ih => exact ⟨fun h => ⟨h.1, ih.mp h.2⟩, fun h => ⟨h.1, ih.mpr h.2⟩⟩
  | frz d k ih => exact ⟨fun ⟨e, as, h0, h⟩ => ⟨e, as, h0, (ih e).mp h⟩, fun ⟨e, as, h0, h⟩ => ⟨e, as, h0, (ih e).mpr h⟩⟩
theorem wp_nox  : wp dr n m.nox Q E ↔ wp dr n m Q (fun _ _ _ => False) := by
  induction m generalizing dr n with
  | ok a => exact Iff.rfl
  | raise x => exact Iff.rfl
  | bad => exact Iff.rfl
  | take q t k ih =>
    constructor
    · rintro ⟨h0, h1, h2, n', e, h3⟩
      exact ⟨h0, h1, h2, n', e, fun i a b => (ih i).mp (h3 i a b)⟩
    · rintro ⟨h0, h1, h2, n', e, h3⟩
      exact ⟨h0, h1, h2, n', e, fun i a b => (ih i).mpr (h3 i a b)⟩
  | beg k ih => exact ⟨fun h q => (ih q).mp (h q), fun h q => (ih q).mpr (h q)⟩
  | new d k ih => exact ⟨fun h q a => (ih q).mp (h q a), fun h q a => (ih q).mpr (h q a)⟩
  | get a k ih => exact ⟨fun ⟨d, h0, h⟩ => ⟨d, h0, (ih d).mp h⟩, fun ⟨d, h0, h⟩ => ⟨d, h0, (ih d).mpr h⟩⟩
  | put a d k ih => exact ⟨fun h => ⟨h.1, ih.mp h.2⟩, fun h => ⟨h.1, ih.mpr h.2⟩⟩
  | frz d k ih => exact ⟨fun ⟨e, as, h0, h⟩ => ⟨e, as, h0, (ih e).mp h⟩, fun ⟨e, as, h0, h⟩ => ⟨e, as, h0, (ih e).mpr h⟩⟩
theorem wp_of {o : Option α} : wp dr n (M.of o) Q E ↔ ∃ a, o = some a ∧ Q dr n a := by
  cases o with
  | none => exact ⟨fun h => h.elim, fun ⟨a, e, _⟩ => by cases e⟩
  | some b => exact ⟨fun h => ⟨b, rfl, h⟩, fun ⟨a, e, h⟩ => by cases e; exact h⟩
end
structure Kx where
  K : PySem.W.Frag
  ca : Str → Addr
  T : List (Addr × Str)
mutual
inductive Rp (k : Kx) (G : Hp) : V → D → Prop
  | non : Rp k G .non .non
  | bl (b : Bool) : Rp k G (.bl b) (.bl b)
  | int (i : Int) : Rp k G (.int i) (.int i)
  | str (x : List Nat) : Rp k G (.str (S x)) (.str x)
  | lst {a : Addr} {xs : List V} {ds : List D} : G a = some (.lst xs) → RpA k G xs ds → Rp k G (.ref a) (.lst ds)
  | tup {a : Addr} {xs : List V} {ds : List D} : SqT k.K G a xs → RpA k G xs ds → Rp k G (.ref a) (.tup ds)
  | dic {a : Addr} {kvs : List (Key × V)} {ds : List (Ky × D)} : G a = some (.dK kvs) → RpD k G kvs ds → Rp k G (.ref a) (.dic ds)
  | ty (n : String) : Rp k G (.ty n) (.ty n)
  | glo (x : Str) : Rp k G (.ref (k.ca x)) (.glo x)
  | ins {a dx : Addr} {C : Str} {fs : List (Str × V)} {ds : List (Str × D)} : G a = some (.ins (k.ca C) dx fs) → RpF k G fs ds → Rp k G (.ref a) (.ins C ds)
  | rf (a : Addr) : Rp k G (.ref a) (.rf a)
  | exc {a : Addr} {C : Str} : G a = some (ExV (.ref (k.ca C)) none a) → Rp k G (.ref a) (.exc C [])
  | excF {a b : Addr} {C : Str} {fs : List (Str × V)} {ds : List (Str × D)} : G a = some (ExV (.ref (k.ca C)) (some b) a) → G b = some (.xd fs) → RpF k G fs ds → ds ≠ [] → Rp k G (.ref a) (.exc C ds)
  | drw (q : Tk) : Rp k G (.ref q.1) (.drw q)
  | scr {a : Addr} {ns : List Int} : SqL k.K G a (ns.map .int) → Rp k G (.ref a) (.scr ns)
inductive RpA (k : Kx) (G : Hp) : List V → List D → Prop
  | nil : RpA k G [] []
  | cons {v : V} {vs : List V} {d : D} {ds : List D} : Rp k G v d → RpA k G vs ds → RpA k G (v :: vs) (d :: ds)
inductive RpD (k : Kx) (G : Hp) : List (Key × V) → List (Ky × D) → Prop
  | nil : RpD k G [] []
  | cons {q : Ky} {v : V} {vs : List (Key × V)} {d : D} {ds : List (Ky × D)} : Rp k G v d → RpD k G vs ds → RpD k G ((kk q, v) :: vs) ((q, d) :: ds)
inductive RpF (k : Kx) (G : Hp) : List (Str × V) → List (Str × D) → Prop
  | nil : RpF k G [] []
  | cons {q : Str} {v : V} {vs : List (Str × V)} {d : D} {ds : List (Str × D)} : Rp k G v d → RpF k G vs ds → RpF k G ((q, v) :: vs) ((q, d) :: ds)
end
section
variable {k : Kx} {G G' : Hp}
mutual
theorem Rp.mono (l : Le G G') : ∀ {v : V} {d : D}, Rp k G v d → Rp k G' v d
  | _, _, .non => .non
  | _, _, .bl b => .bl b
  | _, _, .int i => .int i
  | _, _, .str x => .str x
  | _, _, .lst h a => .lst (l _ _ h) (RpA.mono l a)
  | _, _, .tup h a => .tup (le_t l h) (RpA.mono l a)
  | _, _, .dic h a => .dic (l _ _ h) (RpD.mono l a)
  | _, _, .ty n => .ty n
  | _, _, .glo x => .glo x
  | _, _, .ins h a => .ins (l _ _ h) (RpF.mono l a)
  | _, _, .rf a => .rf a
  | _, _, .exc h => .exc (l _ _ h)
  | _, _, .excF h g a n => .excF (l _ _ h) (l _ _ g) (RpF.mono l a) n
  | _, _, .drw q => .drw q
  | _, _, .scr h => .scr (sql_le h l)
theorem RpA.mono (l : Le G G') : ∀ {v : List V} {d : List D}, RpA k G v d → RpA k G' v d
  | _, _, .nil => .nil
  | _, _, .cons h a => .cons (Rp.mono l h) (RpA.mono l a)
theorem RpD.mono (l : Le G G') : ∀ {v : List (Key × V)} {d : List (Ky × D)}, RpD k G v d → RpD k G' v d
  | _, _, .nil => .nil
  | _, _, .cons h a => .cons (Rp.mono l h) (RpD.mono l a)
theorem RpF.mono (l : Le G G') : ∀ {v : List (Str × V)} {d : List (Str × D)}, RpF k G v d → RpF k G' v d
  | _, _, .nil => .nil
  | _, _, .cons h a => .cons (Rp.mono l h) (RpF.mono l a)
end
theorem RpA.len : ∀ {vs : List V} {ds : List D}, RpA k G vs ds → vs.length = ds.length
  | _, _, .nil => rfl
  | _, _, .cons _ a => by rw [List.length_cons, List.length_cons, RpA.len a]
theorem RpD.len : ∀ {vs : List (Key × V)} {ds : List (Ky × D)}, RpD k G vs ds → vs.length = ds.length
  | _, _, .nil => rfl
  | _, _, .cons _ a => by rw [List.length_cons, List.length_cons, RpD.len a]
theorem RpA.get : ∀ {vs : List V} {ds : List D} {i : Nat} {d : D}, RpA k G vs ds → ds[i]? = some d → ∃ v, vs[i]? = some v ∧ Rp k G v d
  | _, _, _, _, .nil, e => by simp at e
  | _, _, 0, _, .cons h _, e => by simp at e; subst e; exact ⟨_, rfl, h⟩
  | _, _, i + 1, _, .cons _ a, e => by
    obtain ⟨v, h1, h2⟩ := RpA.get (i := i) a (by simpa using e)
    exact ⟨v, by simpa using h1, h2⟩
theorem RpA.app : ∀ {v1 v2 : List V} {d1 d2 : List D}, RpA k G v1 d1 → RpA k G v2 d2 → RpA k G (v1 ++ v2) (d1 ++ d2)
  | _, _, _, _, .nil, h => h
  | _, _, _, _, .cons h a, h2 => .cons h (RpA.app a h2)
theorem RpA.drop : ∀ {n : Nat} {vs : List V} {ds : List D}, RpA k G vs ds → RpA k G (vs.drop n) (ds.drop n)
  | 0, _, _, h => h
  | _ + 1, _, _, .nil => .nil
  | n + 1, _, _, .cons _ a => RpA.drop (n := n) a
theorem RpA.take : ∀ {n : Nat} {vs : List V} {ds : List D}, RpA k G vs ds → RpA k G (vs.take n) (ds.take n)
  | 0, _, _, _ => .nil
  | _ + 1, _, _, .nil => .nil
  | n + 1, _, _, .cons h a => .cons h (RpA.take (n := n) a)
theorem RpA.set {v : V} {d : D} (h : Rp k G v d) : ∀ {vs : List V} {ds : List D} (i : Nat), RpA k G vs ds → RpA k G (vs.set i v) (ds.set i d)
  | _, _, _, .nil => .nil
  | _, _, 0, .cons _ a => .cons h a
  | _, _, i + 1, .cons q a => .cons q (RpA.set h i a)
theorem rp_lst {v : V} {ds : List D} (h : Rp k G v (.lst ds)) : ∃ p xs, v = .ref p ∧ G p = some (.lst xs) ∧ RpA k G xs ds := by
  cases h with | lst h a => exact ⟨_, _, rfl, h, a⟩
theorem rp_tup {v : V} {ds : List D} (h : Rp k G v (.tup ds)) : ∃ p xs, v = .ref p ∧ SqT k.K G p xs ∧ RpA k G xs ds := by
  cases h with | tup h a => exact ⟨_, _, rfl, h, a⟩
theorem rp_dic {v : V} {ds : List (Ky × D)} (h : Rp k G v (.dic ds)) : ∃ p xs, v = .ref p ∧ G p = some (.dK xs) ∧ RpD k G xs ds := by
  cases h with | dic h a => exact ⟨_, _, rfl, h, a⟩
theorem rp_int {v : V} {i : Int} (h : Rp k G v (.int i)) : v = .int i := by cases h; rfl
theorem rp_str {v : V} {i : List Nat} (h : Rp k G v (.str i)) : v = .str (S i) := by cases h; rfl
theorem rp_bl {v : V} {i : Bool} (h : Rp k G v (.bl i)) : v = .bl i := by cases h; rfl
theorem rpa_nil {vs : List V} (h : RpA k G vs []) : vs = [] := by cases h; rfl
theorem rpa_cons {vs : List V} {d : D} {ds : List D} (h : RpA k G vs (d :: ds)) : ∃ v ws, vs = v :: ws ∧ Rp k G v d ∧ RpA k G ws ds := by
  cases h with | cons h a => exact ⟨_, _, rfl, h, a⟩
theorem rpa_one {vs : List V} {d : D} (h : RpA k G vs [d]) : ∃ v, vs = [v] ∧ Rp k G v d := by
  obtain ⟨v, ws, rfl, h1, h2⟩ := rpa_cons h
  rw [rpa_nil h2]; exact ⟨v, rfl, h1⟩
theorem rpa_two {vs : List V} {d e : D} (h : RpA k G vs [d, e]) : ∃ v w, vs = [v, w] ∧ Rp k G v d ∧ Rp k G w e := by
  obtain ⟨v, ws, rfl, h1, h2⟩ := rpa_cons h
  obtain ⟨w, rfl, h3⟩ := rpa_one h2
  exact ⟨v, w, rfl, h1, h3⟩
end
mutual
def py : D → Option PyData
  | .non => some .none
  | .bl b => some (.bool b)
  | .int i => some (.int i)
  | .str w => some (.str (S w))
  | .lst xs => (pys xs).map .list
  | .tup xs => (pys xs).map .tuple
  | .dic kvs => (pyd kvs).map .dict
  | .ty _ => none
  | .glo _ => none
  | .ins _ _ => none
  | .exc _ _ => none
  | .drw _ => none
  | .scr _ => none
  | .rf _ => none
def pys : List D → Option (List PyData)
  | [] => some []
  | d :: ds => match py d, pys ds with
    | some p, some ps => some (p :: ps)
    | _, _ => none
def pyd : List (Ky × D) → Option (List (PyData × PyData))
  | [] => some []
  | (q, d) :: ds => match py d, pyd ds with
    | some p, some ps => some ((kD (kk q), p) :: ps)
    | _, _ => none
end
theorem pys_cons {d : D} {ds : List D} {ps : List PyData} (h : pys (d :: ds) = some ps) : ∃ p qs, py d = some p ∧ pys ds = some qs ∧ ps = p :: qs := by
  rw [pys] at h
  cases e : py d with
  | none => rw [e] at h; cases h
  | some p =>
    cases f : pys ds with
    | none => rw [e, f] at h; cases h
    | some qs => rw [e, f] at h; cases h; exact ⟨p, qs, rfl, rfl, rfl⟩
theorem pyd_cons {q : Ky} {d : D} {ds : List (Ky × D)} {ps : List (PyData × PyData)} (h : pyd ((q, d) :: ds) = some ps) : ∃ p qs, py d = some p ∧ pyd ds = some qs ∧ ps = (kD (kk q), p) :: qs := by
  rw [pyd] at h
  cases e : py d with
  | none => rw [e] at h; cases h
  | some p =>
    cases f : pyd ds with
    | none => rw [e, f] at h; cases h
    | some qs => rw [e, f] at h; cases h; exact ⟨p, qs, rfl, rfl, rfl⟩
section
variable {k : Kx} {G : Hp}
mutual
theorem Rp.z : ∀ {v : V} {d : D}, Rp k G v d → ∀ {p : PyData}, py d = some p → Z.Rp k.K G v p
  | _, _, .non, p, h => by simp only [py, Option.some.injEq] at h; subst h; exact .non
  | _, _, .bl b, p, h => by simp only [py, Option.some.injEq] at h; subst h; exact .bl b
  | _, _, .int b, p, h => by simp only [py, Option.some.injEq] at h; subst h; exact .int b
  | _, _, .str b, p, h => by simp only [py, Option.some.injEq] at h; subst h; exact .str _
  | _, _, .lst e a, p, h => by
    simp only [py, Option.map_eq_some_iff] at h
    obtain ⟨ps, h1, rfl⟩ := h
    exact .lst e (RpA.z a h1)
  | _, _, .tup e a, p, h => by
    simp only [py, Option.map_eq_some_iff] at h
    obtain ⟨ps, h1, rfl⟩ := h
    exact .tup e (RpA.z a h1)
  | _, _, .dic e a, p, h => by
    simp only [py, Option.map_eq_some_iff] at h
    obtain ⟨ps, h1, rfl⟩ := h
    exact .dic e (RpD.z a h1)
  | _, _, .ty n, p, h => by simp [py] at h
  | _, _, .glo n, p, h => by simp [py] at h
  | _, _, .ins .., p, h => by simp [py] at h
  | _, _, .exc .., p, h => by simp [py] at h
  | _, _, .excF .., p, h => by simp [py] at h
  | _, _, .drw .., p, h => by simp [py] at h
  | _, _, .scr .., p, h => by simp [py] at h
  | _, _, .rf .., p, h => by simp [py] at h
theorem RpA.z : ∀ {v : List V} {d : List D}, RpA k G v d → ∀ {p : List PyData}, pys d = some p → Z.RpA k.K G v p
  | _, _, .nil, p, h => by simp only [pys, Option.some.injEq] at h; subst h; exact .nil
  | _, _, .cons e a, p, h => by
    obtain ⟨q, qs, h1, h2, rfl⟩ := pys_cons h
    exact .cons (Rp.z e h1) (RpA.z a h2)
theorem RpD.z : ∀ {v : List (Key × V)} {d : List (Ky × D)}, RpD k G v d → ∀ {p : List (PyData × PyData)}, pyd d = some p → Z.RpD k.K G v p
  | _, _, .nil, p, h => by simp only [pyd, Option.some.injEq] at h; subst h; exact .nil
  | _, _, .cons e a, p, h => by
    obtain ⟨q, qs, h1, h2, rfl⟩ := pyd_cons h
    exact .cons (Rp.z e h1) (RpD.z a h2)
end
mutual
theorem of_z : ∀ (d : D) {v : V} {p : PyData}, py d = some p → Z.Rp k.K G v p → Rp k G v d
  | .non, v, p, h, r => by simp only [py, Option.some.injEq] at h; subst h; cases r; exact .non
  | .bl b, v, p, h, r => by simp only [py, Option.some.injEq] at h; subst h; cases r; exact .bl b
  | .int b, v, p, h, r => by simp only [py, Option.some.injEq] at h; subst h; cases r; exact .int b
  | .str b, v, p, h, r => by simp only [py, Option.some.injEq] at h; subst h; cases r; exact .str b
  | .lst ds, v, p, h, r => by
    simp only [py, Option.map_eq_some_iff] at h
    obtain ⟨ps, h1, rfl⟩ := h
    cases r with | lst e a => exact .lst e (ofs_z ds h1 a)
  | .tup ds, v, p, h, r => by
    simp only [py, Option.map_eq_some_iff] at h
    obtain ⟨ps, h1, rfl⟩ := h
    cases r with | tup e a => exact .tup e (ofs_z ds h1 a)
  | .dic ds, v, p, h, r => by
    simp only [py, Option.map_eq_some_iff] at h
    obtain ⟨ps, h1, rfl⟩ := h
    cases r with | dic e a => exact .dic e (ofd_z ds h1 a)
  | .ty n, v, p, h, r => by simp [py] at h
  | .glo n, v, p, h, r => by simp [py] at h
  | .ins _ _, v, p, h, r => by simp [py] at h
  | .exc _ _, v, p, h, r => by simp [py] at h
  | .drw _, v, p, h, r => by simp [py] at h
  | .scr _, v, p, h, r => by simp [py] at h
  | .rf _, v, p, h, r => by simp [py] at h
theorem ofs_z : ∀ (d : List D) {v : List V} {p : List PyData}, pys d = some p → Z.RpA k.K G v p → RpA k G v d
  | [], v, p, h, r => by simp only [pys, Option.some.injEq] at h; subst h; cases r; exact .nil
  | d :: ds, v, p, h, r => by
    obtain ⟨q, qs, h1, h2, rfl⟩ := pys_cons h
    cases r with | cons e a => exact .cons (of_z d h1 e) (ofs_z ds h2 a)
theorem ofd_z : ∀ (d : List (Ky × D)) {v : List (Key × V)} {p : List (PyData × PyData)}, pyd d = some p → Z.RpD k.K G v p → RpD k G v d
  | [], v, p, h, r => by simp only [pyd, Option.some.injEq] at h; subst h; cases r; exact .nil
  | (q, d) :: ds, v, p, h, r => by
    obtain ⟨q', qs, h1, h2, rfl⟩ := pyd_cons h
    generalize hz : (kD (kk q), q') = z at r
    cases r with
    | cons e a =>
      simp only [Prod.mk.injEq] at hz
      obtain ⟨e1, e2⟩ := hz
      have := kD_inj e1
      subst this e2
      exact .cons (of_z d h1 e) (ofd_z ds h2 a)
end
end
end Y

namespace Y
open PySem PySem.Spec PyProof.Rows L2 Z
def NoT (G : Hp) : Prop := ∀ a ps, G a ≠ some (.tbl ps)
def clean (G : Hp) : Hp := fun a => match G a with
  | some (.tbl _) => none
  | x => x
theorem clean_some {G : Hp} {a : Addr} {o : HO} (h : G a = some o) (hn : ∀ ps, o ≠ .tbl ps) : clean G a = some o := by
  unfold clean
  rw [h]
  cases o with
  | tbl ps => exact absurd rfl (hn ps)
  | _ => rfl
theorem of_clean {G : Hp} {a : Addr} {o : HO} (h : clean G a = some o) : G a = some o ∧ ∀ ps, o ≠ .tbl ps := by
  unfold clean at h
  cases q : G a with
  | none => rw [q] at h; cases h
  | some u =>
    rw [q] at h
    cases u with
    | tbl ps => cases h
    | _ => cases h; exact ⟨rfl, fun ps z => by cases z⟩
theorem clean_noT (G : Hp) : NoT (clean G) := fun a ps h => (of_clean h).2 ps rfl
theorem clean_le (G : Hp) : Le (clean G) G := fun a o h => (of_clean h).1
theorem le_clean {G G2 : Hp} (l : Le G G2) (n : NoT G) : Le G (clean G2) := fun a o h => clean_some (l a o h) fun ps z => n a ps (by rw [h, z])
section
variable {k : Kx} {G : Hp}
theorem sqt_clean {K : PySem.W.Frag} {a : Addr} {xs : List V} (h : SqT K G a xs) : SqT K (clean G) a xs := by
  rcases h with q | q
  · rcases q with q | ⟨o, q⟩
    · exact .inl (.inl (clean_some q (by intro ps z; cases z)))
    · exact .inl (.inr ⟨o, clean_some q (by intro ps z; cases z)⟩)
  · exact .inr q
theorem sql_clean {K : PySem.W.Frag} {a : Addr} {xs : List V} (h : SqL K G a xs) : SqL K (clean G) a xs := by
  rcases h with q | q
  · rcases q with q | ⟨o, q⟩
    · exact .inl (.inl (clean_some q (by intro ps z; cases z)))
    · exact .inl (.inr ⟨o, clean_some q (by intro ps z; cases z)⟩)
  · exact .inr q
mutual
theorem Rp.clean : ∀ {v : V} {d : D}, Rp k G v d → Rp k (Y.clean G) v d
  | _, _, .non => .non
  | _, _, .bl b => .bl b
  | _, _, .int i => .int i
  | _, _, .str x => .str x
  | _, _, .lst h a => .lst (clean_some h (by intro ps z; cases z)) (RpA.clean a)
  | _, _, .tup h a => .tup (sqt_clean h) (RpA.clean a)
  | _, _, .dic h a => .dic (clean_some h (by intro ps z; cases z)) (RpD.clean a)
  | _, _, .ty n => .ty n
  | _, _, .glo x => .glo x
  | _, _, .ins h a => .ins (clean_some h (by intro ps z; cases z)) (RpF.clean a)
  | _, _, .rf a => .rf a
  | _, _, .exc h => .exc (clean_some h (by intro ps z; unfold ExV at z; cases z))
  | _, _, .excF h g a n => .excF (clean_some h (by intro ps z; unfold ExV at z; cases z)) (clean_some g (by intro ps z; cases z)) (RpF.clean a) n
  | _, _, .drw h => .drw h
  | _, _, .scr h => .scr (sql_clean h)
theorem RpA.clean : ∀ {v : List V} {d : List D}, RpA k G v d → RpA k (Y.clean G) v d
  | _, _, .nil => .nil
  | _, _, .cons h a => .cons (Rp.clean h) (RpA.clean a)
theorem RpD.clean : ∀ {v : List (Key × V)} {d : List (Ky × D)}, RpD k G v d → RpD k (Y.clean G) v d
  | _, _, .nil => .nil
  | _, _, .cons h a => .cons (Rp.clean h) (RpD.clean a)
theorem RpF.clean : ∀ {v : List (Str × V)} {d : List (Str × D)}, RpF k G v d → RpF k (Y.clean G) v d
  | _, _, .nil => .nil
  | _, _, .cons h a => .cons (Rp.clean h) (RpF.clean a)
end
end
theorem in_ext {G H H2 : Hp} (i : In G H) (n : NoT G) (e : LamX.ExtN H H2) : In G H2 := fun a o h => by
  have ho : ∀ ps, o ≠ .tbl ps := fun ps z => n a ps (by rw [h, z])
  rcases i a o h with q | ⟨d, ob, q⟩
  · exact .inl (e a o q ho)
  · exact .inr ⟨d, ob, e a _ q (fun ps z => by cases z)⟩
theorem extN_le {H H2 : Hp} (l : Le H H2) : LamX.ExtN H H2 := fun b o h _ => l b o h
theorem tabs_le {T : List (Addr × Str)} {H H2 : Hp} (t : LamX.Tabs T H) (l : Le H H2) : LamX.Tabs T H2 := fun p hp => by
  obtain ⟨ps, e1, e2, e3⟩ := t p hp
  refine ⟨ps, l _ _ e1, e2, fun pos cv hc => ?_⟩
  obtain ⟨c, a1, a2⟩ := e3 pos cv hc
  exact ⟨c, a1, l _ _ a2⟩
def Dr1 (q : Addr × Addr × Addr) (n : Nat) (H : Hp) : Prop := ∃ (ws cs : List Int) (r t : Int), H q.1 = some (.dK (dkv q.2.1 q.2.2 r t)) ∧ H q.2.1 = some (.lst (ws.map .int)) ∧ H q.2.2 = some (.lst (cs.map .int)) ∧ q.2.2 ≠ q.2.1 ∧ (∀ x ∈ cs, 0 ≤ x ∧ x < 2147483648) ∧ 0 ≤ t ∧ t + n ≤ 1000000000000
def isDr : Im → Addr → Prop
  | .inl q, a => a = q.1 ∨ a = q.2.1 ∨ a = q.2.2
  | .inr p, a => a = p.1
def Drw : Im → Nat → Hp → Prop
  | .inl q, n, H => Dr1 q n H
  | .inr p, _, H => ∃ o, H p.1 = some o ∧ ∀ ps, o ≠ .tbl ps
def inDr (dr : Dr) (a : Addr) : Prop := ∃ q ∈ dr, isDr q a
theorem Drw.there : ∀ {q : Im} {n : Nat} {H : Hp}, Drw q n H → ∀ {a : Addr}, isDr q a → ∃ o, H a = some o ∧ ∀ ps, o ≠ .tbl ps
  | .inl q, n, H, d, a, h => by
    obtain ⟨ws, cs, r, t, h1, h2, h3, _⟩ := d
    rcases h with rfl | rfl | rfl
    · exact ⟨_, h1, fun ps z => by cases z⟩
    · exact ⟨_, h2, fun ps z => by cases z⟩
    · exact ⟨_, h3, fun ps z => by cases z⟩
  | .inr p, n, H, d, a, h => by
    have h : a = p.1 := h
    rw [h]
    exact d
theorem Drw.ext : ∀ {q : Im} {n : Nat} {H H2 : Hp}, Drw q n H → (∀ a, isDr q a → ∀ o, H a = some o → H2 a = some o) → Drw q n H2
  | .inl q, n, H, H2, d, e => by
    obtain ⟨ws, cs, r, t, h1, h2, h3, h4⟩ := d
    exact ⟨ws, cs, r, t, e _ (.inl rfl) _ h1, e _ (.inr (.inl rfl)) _ h2, e _ (.inr (.inr rfl)) _ h3, h4⟩
  | .inr p, n, H, H2, d, e => by
    obtain ⟨o, h1, h2⟩ := d
    exact ⟨o, e _ rfl _ h1, h2⟩
theorem Drw.mono : ∀ {q : Im} {n n' : Nat} {H : Hp}, Drw q n H → n' ≤ n → Drw q n' H
  | .inl q, n, n', H, d, h => by
    obtain ⟨ws, cs, r, t, h1, h2, h3, h4, h5, h6, h7⟩ := d
    exact ⟨ws, cs, r, t, h1, h2, h3, h4, h5, h6, by omega⟩
  | .inr p, n, n', H, d, h => d
def isFrz : HO → Bool
  | .frz _ _ => true
  | _ => false
abbrev Env := List (Option (Bool × D))
inductive RpO (k : Kx) (G : Hp) : HO → D → Prop
  | lst {xs : List V} {ds : List D} : RpA k G xs ds → RpO k G (.lst xs) (.lst ds)
  | dic {kvs : List (Key × V)} {ds : List (Ky × D)} : RpD k G kvs ds → RpO k G (.dK kvs) (.dic ds)
  | ins {C : Str} {dx : Addr} {fs : List (Str × V)} {ds : List (Str × D)} : RpF k G fs ds → RpO k G (.ins (k.ca C) dx fs) (.ins C ds)
theorem RpO.mono {k : Kx} {G G' : Hp} {o : HO} {d : D} (l : Le G G') (r : RpO k G o d) : RpO k G' o d := by
  cases r with
  | lst a => exact .lst (a.mono l)
  | dic a => exact .dic (a.mono l)
  | ins a => exact .ins (a.mono l)
theorem RpO.nt {k : Kx} {G : Hp} {o : HO} {d : D} (r : RpO k G o d) : ∀ ps, o ≠ .tbl ps := by
  cases r <;> intro ps z <;> cases z
theorem RpO.nf {k : Kx} {G : Hp} {o : HO} {d : D} (r : RpO k G o d) : isFrz o = false := by
  cases r <;> rfl
theorem RpO.rp {k : Kx} {G : Hp} {o : HO} {d : D} {a : Addr} (r : RpO k G o d) (h : G a = some o) : Rp k G (.ref a) d := by
  cases r with
  | lst b => exact .lst h b
  | dic b => exact .dic h b
  | ins b => exact .ins h b
structure Hid (R : Hp) (dr : Dr) (G : Hp) (a : Addr) : Prop where
  g : G a = none
  r : R a = none
  d : ¬ inDr dr a
def Ow (k : Kx) (R : Hp) (dr : Dr) (G H : Hp) (a : Addr) (d : D) : Prop := ∃ o, H a = some o ∧ RpO k G o d ∧ Hid R dr G a
def So (k : Kx) (dr : Dr) (G H : Hp) : Prop := ∀ a d, .inr (a, d) ∈ dr → ∃ o, H a = some o ∧ RpO k G o d
section
variable {k : Kx} {dr : Dr} {G G2 H H2 : Hp}
theorem So.mono (s : So k dr G H) (l : Le G G2) : So k dr G2 H := fun a d h => by
  obtain ⟨o, h1, h2⟩ := s a d h
  exact ⟨o, h1, h2.mono l⟩
theorem So.ext (s : So k dr G H) (e : LamX.ExtN H H2) : So k dr G H2 := fun a d h => by
  obtain ⟨o, h1, h2⟩ := s a d h
  exact ⟨o, e a o h1 h2.nt, h2⟩
theorem in_st {a : Addr} {d : D} (h : .inr (a, d) ∈ dr) : inDr dr a := ⟨_, h, rfl⟩
theorem So.upd {a : Addr} {o : HO} (s : So k dr G H) (h : ¬ inDr dr a) : So k dr G (upd H a o) := fun b d hb => by
  obtain ⟨o', h1, h2⟩ := s b d hb
  exact ⟨o', by rw [upd_ne (fun z => h (by rw [← z]; exact in_st hb))]; exact h1, h2⟩
end
structure Rl (k : Kx) (R : Hp) (dr : Dr) (env : Env) (σ : L2.St) (G H : Hp) (n : Nat) : Prop where
  i : In G H
  nt : NoT G
  tb : LamX.Tabs k.T H
  dd : ∀ q ∈ dr, Drw q n H
  dh : ∀ a, inDr dr a → G a = none
  dj : dr.Pairwise fun q q' => ∀ a, isDr q a → ¬ isDr q' a
  rs : ∀ a o, R a = some o → H a = some o ∧ (isFrz o = false → G a = none) ∧ ¬ inDr dr a ∧ ∀ ps, o ≠ .tbl ps
  sh : ∀ (i : Nat) d, env[i]? = some (some (false, d)) → ∃ v, σ[i]? = some (some v) ∧ Rp k G v d
  ow : ∀ (i : Nat) d, env[i]? = some (some (true, d)) → ∃ a, σ[i]? = some (some (.ref a)) ∧ Ow k R dr G H a d
  inj : ∀ (i j : Nat) a d d', env[i]? = some (some (true, d)) → env[j]? = some (some (true, d')) → σ[i]? = some (some (.ref a)) → σ[j]? = some (some (.ref a)) → i = j
  len : env.length ≤ σ.length
  nb : n ≤ 1000000000000
  so : So k dr G H
def Apart (env : Env) (σ : L2.St) (a : Addr) : Prop := ∀ (i : Nat) d, env[i]? = some (some (true, d)) → σ[i]? ≠ some (some (.ref a))
inductive Md where
  | s | o | v (i : Nat)
abbrev Vl := Md × D
def RV (k : Kx) (R : Hp) (dr : Dr) (env : Env) (σ : L2.St) (G H : Hp) (x : V) : Vl → Prop
  | (.s, d) => Rp k G x d
  | (.o, d) => ∃ a, x = .ref a ∧ Ow k R dr G H a d ∧ Apart env σ a
  | (.v i, d) => σ[i]? = some (some x) ∧ env[i]? = some (some (true, d))
section
variable {k : Kx} {R : Hp} {dr dr' : Dr} {env env1 : Env} {σ σ1 : L2.St} {G G2 H H2 : Hp} {n n' : Nat}
theorem Rl.hne (r : Rl k R dr env σ G H n) {a : Addr} (h : inDr dr a) : ∃ o, H a = some o ∧ ∀ ps, o ≠ .tbl ps := by
  obtain ⟨q, hq, hd⟩ := h
  exact (r.dd q hq).there hd
theorem Rl.ext (r : Rl k R dr env σ G H n) (g : Le G G2) (i : In G2 H2) (e : LamX.ExtN H H2) (nt : NoT G2) (tb : LamX.Tabs k.T H2) (hn : ∀ a o, G2 a = some o → G a = some o ∨ H a = none) : Rl k R dr env σ G2 H2 n := by
  have hid : ∀ a o, H a = some o → G a = none → G2 a = none := fun a o h hg => by
    cases q : G2 a with
    | none => rfl
    | some u =>
      rcases hn a u q with z | z
      · rw [hg] at z; cases z
      · rw [h] at z; cases z
  refine ⟨i, nt, tb, fun q hq => (r.dd q hq).ext fun a ha o ho => ?_, fun a ha => ?_, r.dj, fun a o h => ?_, fun i d h => ?_, fun i d h => ?_, r.inj, r.len, r.nb, (r.so.mono g).ext e⟩
  · obtain ⟨o', e1, e2⟩ := (r.dd q hq).there ha
    rw [ho] at e1; cases e1
    exact e a o ho e2
  · obtain ⟨o, e1, _⟩ := r.hne ha
    exact hid a o e1 (r.dh a ha)
  · obtain ⟨h1, h2, h3, h4⟩ := r.rs a o h
    exact ⟨e a o h1 h4, fun z => hid a o h1 (h2 z), h3, h4⟩
  · obtain ⟨v, h1, h2⟩ := r.sh i d h
    exact ⟨v, h1, h2.mono g⟩
  · obtain ⟨a, h1, o, h2, h3, h4⟩ := r.ow i d h
    exact ⟨a, h1, o, e a o h2 h3.nt, h3.mono g, hid a o h2 h4.g, h4.r, h4.d⟩
theorem Rl.up (r : Rl k R dr env σ G H n) (u : Up G H G2 H2) : Rl k R dr env σ (clean G2) H2 n ∧ Le G (clean G2) :=
  ⟨r.ext (le_clean u.g r.nt) (u.i.le (clean_le G2)) (extN_le u.h) (clean_noT G2) (tabs_le r.tb u.h) fun a o h => u.n a o (of_clean h).1, le_clean u.g r.nt⟩
theorem Rl.keep (r : Rl k R dr env σ G H n) (e : LamX.ExtN H H2) (tb : LamX.Tabs k.T H2) : Rl k R dr env σ G H2 n := r.ext (Le.refl _) (in_ext r.i r.nt e) e r.nt tb fun _ _ h => .inl h
theorem le_upd {p : Addr} {o : HO} (hp : H p = none) : Le H (upd H p o) := fun a u e => by
  rw [upd_ne (fun z => by rw [z, hp] at e; cases e)]; exact e
theorem Rl.new {p : Addr} {o : HO} (r : Rl k R dr env σ G H n) (hp : H p = none) : Rl k R dr env σ G (upd H p o) n := r.keep (extN_le (le_upd hp)) (tabs_le r.tb (le_upd hp))
theorem Rl.no (r : Rl k R dr env σ G H n) {p : Addr} (hp : H p = none) : Hid R dr G p ∧ Apart env σ p := by
  refine ⟨⟨r.i.no hp, ?_, fun z => ?_⟩, fun i d h z => ?_⟩
  · cases q : R p with
    | none => rfl
    | some o => have := (r.rs p o q).1; rw [hp] at this; cases this
  · obtain ⟨o, e, _⟩ := r.hne z
    rw [hp] at e; cases e
  · obtain ⟨a, h1, o, h2, _⟩ := r.ow i d h
    rw [z] at h1; cases h1
    rw [hp] at h2; cases h2
theorem Rl.newO {p : Addr} {o : HO} {d : D} (r : Rl k R dr env σ G H n) (hp : H p = none) (ro : RpO k G o d) : Ow k R dr G (upd H p o) p d ∧ Apart env σ p :=
  ⟨⟨o, upd_same, ro, (r.no hp).1⟩, (r.no hp).2⟩
theorem Rl.show {a : Addr} {d : D} (r : Rl k R dr env σ G H n) (w : Ow k R dr G H a d) (ap : Apart env σ a) : ∃ o, H a = some o ∧ Rl k R dr env σ (upd G a o) H n ∧ Le G (upd G a o) ∧ Rp k (upd G a o) (.ref a) d := by
  obtain ⟨o, h1, h2, h3⟩ := w
  have lg : Le G (upd G a o) := le_upd h3.g
  refine ⟨o, h1, ⟨fun b u e => ?_, fun b ps e => ?_, r.tb, r.dd, fun b hb => ?_, r.dj, fun b u e => ?_, fun i d' e => ?_, fun i d' e => ?_, r.inj, r.len, r.nb, r.so.mono lg⟩, lg, (h2.mono lg).rp upd_same⟩
  · by_cases hb : b = a
    · subst hb; rw [upd_same] at e; cases e; exact .inl h1
    · rw [upd_ne hb] at e; exact r.i b u e
  · by_cases hb : b = a
    · subst hb; rw [upd_same] at e; exact h2.nt ps (Option.some.inj e)
    · rw [upd_ne hb] at e; exact r.nt b ps e
  · rw [upd_ne (fun (z : b = a) => h3.d (by rw [← z]; exact hb))]; exact r.dh b hb
  · obtain ⟨e1, e2, e3, e4⟩ := r.rs b u e
    exact ⟨e1, fun z => by rw [upd_ne (fun z => by rw [z, h3.r] at e; cases e)]; exact e2 z, e3, e4⟩
  · obtain ⟨v, e1, e2⟩ := r.sh i d' e
    exact ⟨v, e1, e2.mono lg⟩
  · obtain ⟨b, e1, u, e2, e3, e4⟩ := r.ow i d' e
    exact ⟨b, e1, u, e2, e3.mono lg, by rw [upd_ne (fun (z : b = a) => ap i d' e (by rw [← z]; exact e1))]; exact e4.g, e4.r, e4.d⟩
theorem Rl.res {a : Addr} {o : HO} (r : Rl k R dr env σ G H n) (h1 : H a = some o) (nt : ∀ ps, o ≠ .tbl ps) (h3 : Hid R dr G a) (ap : Apart env σ a) : Rl k (upd R a o) dr env σ G H n := by
  refine ⟨r.i, r.nt, r.tb, r.dd, r.dh, r.dj, fun b u e => ?_, r.sh, fun i d' e => ?_, r.inj, r.len, r.nb, r.so⟩
  · by_cases hb : b = a
    · subst hb; rw [upd_same] at e; cases e; exact ⟨h1, fun _ => h3.g, h3.d, nt⟩
    · rw [upd_ne hb] at e; exact r.rs b u e
  · obtain ⟨b, e1, u, e2, e3, e4⟩ := r.ow i d' e
    exact ⟨b, e1, u, e2, e3, e4.g, by rw [upd_ne (fun (z : b = a) => ap i d' e (by rw [← z]; exact e1))]; exact e4.r, e4.d⟩
theorem Rl.unres {a : Addr} {o : HO} (r : Rl k (upd R a o) dr env σ G H n) (h : R a = none) (nf : isFrz o = false) : Rl k R dr env σ G H n ∧ H a = some o ∧ Hid R dr G a ∧ Apart env σ a := by
  have le : Le R (upd R a o) := le_upd h
  obtain ⟨h1, h2, h3, h4⟩ := r.rs a o upd_same
  have ne : ∀ b, upd R a o b = none → b ≠ a ∧ R b = none := fun b e => by
    have nb : b ≠ a := fun z => by rw [z, upd_same] at e; cases e
    rw [upd_ne nb] at e; exact ⟨nb, e⟩
  refine ⟨⟨r.i, r.nt, r.tb, r.dd, r.dh, r.dj, fun b u e => r.rs b u (le b u e), r.sh, fun i d' e => ?_, r.inj, r.len, r.nb, r.so⟩, h1, ⟨h2 nf, h, h3⟩, fun i d e z => ?_⟩
  · obtain ⟨b, e1, u, e2, e3, e4⟩ := r.ow i d' e
    exact ⟨b, e1, u, e2, e3, e4.g, (ne b e4.r).2, e4.d⟩
  · obtain ⟨b, e1, u, e2, e3, e4⟩ := r.ow i d e
    rw [e1] at z; cases z
    exact (ne a e4.r).1 rfl
theorem Rl.out (r : Rl k R dr env σ G H n) : ∃ R', Rl k R' dr [] [] G H n ∧ (∀ a, R' a = none → R a = none ∧ Apart env σ a) ∧ ∀ dr' G2 H2 n', Le G G2 → Rl k R' dr' [] [] G2 H2 n' → Rl k R dr' env σ G2 H2 n' := by
  have cl : ∀ a, Decidable (Apart env σ a) := fun a => Classical.propDecidable _
  let R' : Hp := fun a => if Apart env σ a then R a else H a
  have e1 : ∀ a, Apart env σ a → R' a = R a := fun a h => if_pos h
  have e2 : ∀ a, ¬ Apart env σ a → R' a = H a := fun a h => if_neg h
  have nap : ∀ a, ¬ Apart env σ a → ∃ (i : Nat) (d : D), env[i]? = some (some (true, d)) ∧ σ[i]? = some (some (.ref a)) := fun a h => by
    apply Classical.byContradiction
    intro q
    exact h fun i d e1 e2 => q ⟨i, d, e1, e2⟩
  have ow : ∀ a, ¬ Apart env σ a → ∃ d, Ow k R dr G H a d := fun a h => by
    obtain ⟨i, d, f1, f2⟩ := nap a h
    obtain ⟨b, g1, g2⟩ := r.ow i d f1
    rw [f2] at g1; cases g1
    exact ⟨d, g2⟩
  refine ⟨R', ⟨r.i, r.nt, r.tb, r.dd, r.dh, r.dj, fun a o h => ?_, fun i d h => by simp at h, fun i d h => by simp at h, fun i j a d d' h => by simp at h, Nat.le_refl _, r.nb, r.so⟩, fun a h => ?_, fun dr' G2 H2 n' l q => ?_⟩
  · by_cases ha : Apart env σ a
    · rw [e1 a ha] at h; exact r.rs a o h
    · rw [e2 a ha] at h
      obtain ⟨d, u, f1, f2, f3⟩ := ow a ha
      rw [h] at f1; cases f1
      exact ⟨h, fun _ => f3.g, f3.d, f2.nt⟩
  · by_cases ha : Apart env σ a
    · rw [e1 a ha] at h; exact ⟨h, ha⟩
    · rw [e2 a ha] at h
      obtain ⟨d, u, f1, _⟩ := ow a ha
      rw [h] at f1; cases f1
  · have own' : ∀ (i : Nat) d a, env[i]? = some (some (true, d)) → σ[i]? = some (some (.ref a)) → ¬ Apart env σ a := fun i d a f1 f2 z => z i d f1 f2
    refine ⟨q.i, q.nt, q.tb, q.dd, q.dh, q.dj, fun a o h => ?_, fun i d h => ?_, fun i d h => ?_, r.inj, r.len, q.nb, q.so⟩
    · have ha : Apart env σ a := fun i d f1 f2 => by
        obtain ⟨b, g1, u, g2, g3, g4⟩ := r.ow i d f1
        rw [f2] at g1; cases g1
        rw [g4.r] at h; cases h
      exact q.rs a o (by rw [e1 a ha]; exact h)
    · obtain ⟨v, f1, f2⟩ := r.sh i d h
      exact ⟨v, f1, f2.mono l⟩
    · obtain ⟨a, f1, o, f2, f3, f4⟩ := r.ow i d h
      obtain ⟨g1, g2, g3, g4⟩ := q.rs a o (by rw [e2 a (own' i d a h f1)]; exact f2)
      exact ⟨a, f1, o, g1, f3.mono l, g2 f3.nf, f4.r, g3⟩
theorem Rl.back (r : Rl k R dr env σ G H n) (q : Rl k R dr' env1 σ1 G2 H2 n') (l : Le G G2) (ag : ∀ (i : Nat) d, env[i]? = some (some (true, d)) → env1[i]? = some (some (true, d)) ∧ σ1[i]? = σ[i]?) : Rl k R dr' env σ G2 H2 n' := by
  refine ⟨q.i, q.nt, q.tb, q.dd, q.dh, q.dj, q.rs, fun i d h => ?_, fun i d h => ?_, r.inj, r.len, q.nb, q.so⟩
  · obtain ⟨v, f1, f2⟩ := r.sh i d h
    exact ⟨v, f1, f2.mono l⟩
  · obtain ⟨h1, h2⟩ := ag i d h
    obtain ⟨a, f1, f2⟩ := q.ow i d h1
    exact ⟨a, by rw [← h2]; exact f1, f2⟩
theorem Rl.bare (r : Rl k R dr env σ G H n) : Rl k R dr [] [] G H n := ⟨r.i, r.nt, r.tb, r.dd, r.dh, r.dj, r.rs, fun i d h => by simp at h, fun i d h => by simp at h, fun i j a d d' h => by simp at h, Nat.le_refl _, r.nb, r.so⟩
theorem set_get {α : Type} {l : List α} {i j : Nat} {x y : α} (h : (l.set i x)[j]? = some y) : (i = j ∧ x = y ∧ j < l.length) ∨ (i ≠ j ∧ l[j]? = some y) := by
  by_cases e : i = j
  · subst e
    have hl : i < l.length := by
      have := (List.getElem?_eq_some_iff.mp h).1
      simpa using this
    rw [List.getElem?_set_self hl] at h
    exact .inl ⟨rfl, Option.some.inj h, hl⟩
  · rw [List.getElem?_set_ne e] at h
    exact .inr ⟨e, h⟩
theorem Rl.set (r : Rl k R dr env σ G H n) {i : Nat} {v : V} {d : D} (h : Rp k G v d) : Rl k R dr (env.set i (some (false, d))) (σ.set i (some v)) G H n := by
  refine ⟨r.i, r.nt, r.tb, r.dd, r.dh, r.dj, r.rs, fun j e q => ?_, fun j e q => ?_, fun j1 j2 a d1 d2 q1 q2 f1 f2 => ?_, by simp only [List.length_set]; exact r.len, r.nb, r.so⟩
  · rcases set_get q with ⟨e1, e2, e3⟩ | ⟨e1, e2⟩
    · cases e2; subst e1
      exact ⟨v, List.getElem?_set_self (Nat.lt_of_lt_of_le e3 r.len), h⟩
    · rw [List.getElem?_set_ne e1]; exact r.sh j e e2
  · rcases set_get q with ⟨e1, e2, e3⟩ | ⟨e1, e2⟩
    · cases e2
    · rw [List.getElem?_set_ne e1]; exact r.ow j e e2
  · rcases set_get q1 with ⟨e1, e2, e3⟩ | ⟨e1, e2⟩
    · cases e2
    rcases set_get q2 with ⟨g1, g2, g3⟩ | ⟨g1, g2⟩
    · cases g2
    rw [List.getElem?_set_ne e1] at f1
    rw [List.getElem?_set_ne g1] at f2
    exact r.inj j1 j2 a d1 d2 e2 g2 f1 f2
theorem Rl.setO (r : Rl k R dr env σ G H n) {i : Nat} {a : Addr} {d : D} (h : Ow k R dr G H a d) (ap : Apart env σ a) : Rl k R dr (env.set i (some (true, d))) (σ.set i (some (.ref a))) G H n := by
  refine ⟨r.i, r.nt, r.tb, r.dd, r.dh, r.dj, r.rs, fun j e q => ?_, fun j e q => ?_, fun j1 j2 b d1 d2 q1 q2 f1 f2 => ?_, by simp only [List.length_set]; exact r.len, r.nb, r.so⟩
  · rcases set_get q with ⟨e1, e2, e3⟩ | ⟨e1, e2⟩
    · cases e2
    · rw [List.getElem?_set_ne e1]; exact r.sh j e e2
  · rcases set_get q with ⟨e1, e2, e3⟩ | ⟨e1, e2⟩
    · cases e2; subst e1
      exact ⟨a, List.getElem?_set_self (Nat.lt_of_lt_of_le e3 r.len), h⟩
    · rw [List.getElem?_set_ne e1]; exact r.ow j e e2
  · rcases set_get q1 with ⟨e1, e2, e3⟩ | ⟨e1, e2⟩
    · rcases set_get q2 with ⟨g1, g2, g3⟩ | ⟨g1, g2⟩
      · rw [← e1, ← g1]
      · rw [List.getElem?_set_ne g1] at f2
        subst e1
        rw [List.getElem?_set_self (Nat.lt_of_lt_of_le e3 r.len)] at f1
        cases f1
        exact absurd f2 (ap j2 d2 g2)
    · rcases set_get q2 with ⟨g1, g2, g3⟩ | ⟨g1, g2⟩
      · rw [List.getElem?_set_ne e1] at f1
        subst g1
        rw [List.getElem?_set_self (Nat.lt_of_lt_of_le g3 r.len)] at f2
        cases f2
        exact absurd f1 (ap j1 d1 e2)
      · rw [List.getElem?_set_ne e1] at f1
        rw [List.getElem?_set_ne g1] at f2
        exact r.inj j1 j2 b d1 d2 e2 g2 f1 f2
theorem Rl.drop (r : Rl k R dr env σ G H n) {i : Nat} {v : Option V} : Rl k R dr (env.set i none) (σ.set i v) G H n := by
  refine ⟨r.i, r.nt, r.tb, r.dd, r.dh, r.dj, r.rs, fun j e q => ?_, fun j e q => ?_, fun j1 j2 b d1 d2 q1 q2 f1 f2 => ?_, by simp only [List.length_set]; exact r.len, r.nb, r.so⟩
  · rcases set_get q with ⟨e1, e2, e3⟩ | ⟨e1, e2⟩
    · cases e2
    · rw [List.getElem?_set_ne e1]; exact r.sh j e e2
  · rcases set_get q with ⟨e1, e2, e3⟩ | ⟨e1, e2⟩
    · cases e2
    · rw [List.getElem?_set_ne e1]; exact r.ow j e e2
  · rcases set_get q1 with ⟨e1, e2, e3⟩ | ⟨e1, e2⟩
    · cases e2
    rcases set_get q2 with ⟨g1, g2, g3⟩ | ⟨g1, g2⟩
    · cases g2
    rw [List.getElem?_set_ne e1] at f1
    rw [List.getElem?_set_ne g1] at f2
    exact r.inj j1 j2 b d1 d2 e2 g2 f1 f2
theorem Rl.freeze (r : Rl k R dr env σ G H n) {i : Nat} {d : D} (h : env[i]? = some (some (true, d))) : ∃ G2, Le G G2 ∧ Rl k R dr (env.set i (some (false, d))) σ G2 H n := by
  obtain ⟨a, h1, h2⟩ := r.ow i d h
  have hs : (σ.set i none).set i (some (.ref a)) = σ := by
    rw [List.set_set]
    apply List.ext_getElem?
    intro j
    by_cases e : i = j
    · subst e
      have hl : i < σ.length := (List.getElem?_eq_some_iff.mp h1).1
      rw [List.getElem?_set_self hl, h1]
    · rw [List.getElem?_set_ne e]
  have r1 := r.drop (i := i) (v := none)
  have ap : Apart (env.set i none) (σ.set i none) a := fun j d' q z => by
    rcases set_get q with ⟨e1, e2, e3⟩ | ⟨e1, e2⟩
    · cases e2
    · rw [List.getElem?_set_ne e1] at z
      exact e1 (r.inj i j a d d' h e2 h1 z)
  obtain ⟨o, _, r2, l2, p2⟩ := r1.show h2 ap
  refine ⟨_, l2, ?_⟩
  have r3 := r2.set (i := i) p2
  rw [List.set_set, hs] at r3
  exact r3
theorem Rl.chg (r : Rl k R dr env σ G H n) {i : Nat} {a : Addr} {d d' : D} {o : HO} (h : env[i]? = some (some (true, d))) (h1 : σ[i]? = some (some (.ref a))) (ro : RpO k G o d') : Rl k R dr (env.set i (some (true, d'))) σ G (upd H a o) n := by
  obtain ⟨b, e1, u, e2, e3, e4⟩ := r.ow i d h
  rw [h1] at e1; cases e1
  have hl : i < env.length := (List.getElem?_eq_some_iff.mp h).1
  refine ⟨r.i.mut e4.g, r.nt, fun p hp => ?_, fun q hq => (r.dd q hq).ext fun b hb o' ho' => ?_, r.dh, r.dj, fun b u' hb => ?_, fun j e q => ?_, fun j e q => ?_, fun j1 j2 b d1 d2 q1 q2 f1 f2 => ?_, by simp only [List.length_set]; exact r.len, r.nb, r.so.upd e4.d⟩
  · obtain ⟨ps, t1, t2, t3⟩ := r.tb p hp
    have n1 : p.1 ≠ a := fun z => by rw [z, e2] at t1; cases t1; exact e3.nt ps rfl
    refine ⟨ps, by rw [upd_ne n1]; exact t1, t2, fun pos cv hc => ?_⟩
    obtain ⟨c, a1, a2⟩ := t3 pos cv hc
    have n2 : c ≠ a := fun z => by
      rw [z, e2] at a2
      cases e3 <;> cases a2
    exact ⟨c, a1, by rw [upd_ne n2]; exact a2⟩
  · rw [upd_ne (fun (z : b = a) => e4.d ⟨q, hq, by rw [← z]; exact hb⟩)]; exact ho'
  · obtain ⟨g1, g2, g3, g4⟩ := r.rs b u' hb
    exact ⟨by rw [upd_ne (fun z => by rw [z, e4.r] at hb; cases hb)]; exact g1, g2, g3, g4⟩
  · rcases set_get q with ⟨f1, f2, f3⟩ | ⟨f1, f2⟩
    · cases f2
    · exact r.sh j e f2
  · rcases set_get q with ⟨f1, f2, f3⟩ | ⟨f1, f2⟩
    · cases f2; subst f1
      exact ⟨a, h1, o, upd_same, ro, e4⟩
    · obtain ⟨b, g1, u2, g2, g3, g4⟩ := r.ow j e f2
      have nb : b ≠ a := fun z => f1 (r.inj i j a d e h f2 h1 (by rw [← z]; exact g1))
      exact ⟨b, g1, u2, by rw [upd_ne nb]; exact g2, g3, g4⟩
  · rcases set_get q1 with ⟨x1, x2, x3⟩ | ⟨x1, x2⟩
    · rcases set_get q2 with ⟨y1, y2, y3⟩ | ⟨y1, y2⟩
      · rw [← x1, ← y1]
      · subst x1; exact r.inj i j2 b d d2 h y2 f1 f2
    · rcases set_get q2 with ⟨y1, y2, y3⟩ | ⟨y1, y2⟩
      · subst y1; exact r.inj j1 i b d1 d x2 h f1 f2
      · exact r.inj j1 j2 b d1 d2 x2 y2 f1 f2
theorem Rl.sub {R' : Hp} (l : Le R R') (r : Rl k R' dr env σ G H n) : Rl k R dr env σ G H n :=
  ⟨r.i, r.nt, r.tb, r.dd, r.dh, r.dj, fun b u e => r.rs b u (l b u e), r.sh, fun i d e => by
    obtain ⟨b, e1, u, e2, e3, e4⟩ := r.ow i d e
    exact ⟨b, e1, u, e2, e3, e4.g, l.no e4.r, e4.d⟩, r.inj, r.len, r.nb, r.so⟩
theorem Ow.sub {R' : Hp} {a : Addr} {d : D} (l : Le R R') (w : Ow k R' dr G H a d) : Ow k R dr G H a d := by
  obtain ⟨o, h1, h2, h3⟩ := w
  exact ⟨o, h1, h2, h3.g, l.no h3.r, h3.d⟩
theorem RV.sub {R' : Hp} (l : Le R R') {x : V} {v : Vl} (w : RV k R' dr env σ G H x v) : RV k R dr env σ G H x v := by
  obtain ⟨m, d⟩ := v
  cases m with
  | s => exact w
  | o => obtain ⟨a, e, h1, h2⟩ := w; exact ⟨a, e, h1.sub l, h2⟩
  | v i => exact w
theorem Rl.lock {d : Addr} {kvs : List (Key × V)} {ob : Obj} (r : Rl k R dr env σ G H n) (hg : G d = some (.dK kvs)) (hh : H d = some (.dK kvs)) : Rl k (upd R d (.frz ob (.dK kvs))) dr env σ G (upd H d (.frz ob (.dK kvs))) n ∧ Le R (upd R d (.frz ob (.dK kvs))) := by
  have nd : ¬ inDr dr d := fun z => by rw [r.dh d z] at hg; cases hg
  have nR : R d = none := by
    cases q : R d with
    | none => rfl
    | some o =>
      obtain ⟨e1, e2, _⟩ := r.rs d o q
      rw [hh] at e1; cases e1
      rw [e2 rfl] at hg; cases hg
  have lr : Le R (upd R d (.frz ob (.dK kvs))) := le_upd nR
  refine ⟨⟨fun a o e => ?_, r.nt, fun p hp => ?_, fun q hq => (r.dd q hq).ext fun b hb u hu => ?_, r.dh, r.dj, fun b u e => ?_, r.sh, fun i d' e => ?_, r.inj, r.len, r.nb, r.so.upd nd⟩, lr⟩
  · by_cases ha : a = d
    · subst ha; rw [hg] at e; cases e
      exact .inr ⟨rfl, ob, upd_same⟩
    · rw [upd_ne ha]; exact r.i a o e
  · obtain ⟨ps, t1, t2, t3⟩ := r.tb p hp
    have n1 : p.1 ≠ d := fun z => by rw [z, hh] at t1; cases t1
    refine ⟨ps, by rw [upd_ne n1]; exact t1, t2, fun pos cv hc => ?_⟩
    obtain ⟨c, a1, a2⟩ := t3 pos cv hc
    have n2 : c ≠ d := fun z => by rw [z, hh] at a2; unfold LamX.CodeO at a2; cases a2
    exact ⟨c, a1, by rw [upd_ne n2]; exact a2⟩
  · rw [upd_ne (fun (z : b = d) => nd ⟨q, hq, by rw [← z]; exact hb⟩)]; exact hu
  · by_cases hb : b = d
    · subst hb; rw [upd_same] at e; cases e
      exact ⟨upd_same, fun z => (by cases z), nd, fun ps z => (by cases z)⟩
    · rw [upd_ne hb] at e
      obtain ⟨e1, e2, e3, e4⟩ := r.rs b u e
      exact ⟨by rw [upd_ne hb]; exact e1, e2, e3, e4⟩
  · obtain ⟨b, e1, u, e2, e3, e4⟩ := r.ow i d' e
    have nb : b ≠ d := fun z => by rw [z] at e4; rw [e4.g] at hg; cases hg
    exact ⟨b, e1, u, by rw [upd_ne nb]; exact e2, e3, e4.g, by rw [upd_ne nb]; exact e4.r, e4.d⟩
end
end Y

namespace Y
open PySem PySem.Spec PyProof.Rows L2 Z
def XdOk (k : Kx) (G : Hp) : Option Addr → List (Str × D) → Prop
  | none, fs => fs = []
  | some b, fs => fs ≠ [] ∧ ∃ fv, G b = some (.xd fv) ∧ RpF k G fv fs
def XP (k : Kx) (R : Hp) (G : Hp) (E : XK) : Dr → Nat → Ex → Prop := fun dr n' x => ∀ dd G2 H2, Le G G2 → Rl k R dr [] [] G2 H2 n' → XdOk k G2 dd x.fs → E (.ref (k.ca x.C)) dd H2
theorem XP.mono {k : Kx} {R : Hp} {dr : Dr} {G G2 : Hp} {E : XK} {n : Nat} {x : Ex} (l : Le G G2) (h : XP k R G E dr n x) : XP k R G2 E dr n x := fun dd G3 H3 l3 r q => h dd G3 H3 (l.trans l3) r q
theorem XP.sub {k : Kx} {R R' : Hp} {dr : Dr} {G : Hp} {E : XK} {n : Nat} {x : Ex} (l : Le R R') (h : XP k R G E dr n x) : XP k R' G E dr n x := fun dd G3 H3 l3 r q => h dd G3 H3 l3 (r.sub l) q
def SE (k : Kx) (E : XK) (t : TE) (f : Env → M Vl) : Prop := ∀ R dr env σ G H n Q, Rl k R dr env σ G H n →
  wp dr n (f env) (fun dr n' r => ∀ x G2 H2, Le G G2 → Rl k R dr env σ G2 H2 n' → RV k R dr env σ G2 H2 x r → Q x H2) (XP k R G E) → t σ H Q
def ST (k : Kx) (E : XK) (t : TT) (f : Env → M Bool) : Prop := ∀ R dr env σ G H n Q, Rl k R dr env σ G H n →
  wp dr n (f env) (fun dr n' b => ∀ G2 H2, Le G G2 → Rl k R dr env σ G2 H2 n' → Q b H2) (XP k R G E) → t σ H Q
def RS (k : Kx) (env : Env) (σ : L2.St) (G : Hp) (x : V) : Vl → Prop
  | (.s, d) => Rp k G x d
  | (.o, d) => Rp k G x d
  | (.v i, d) => σ[i]? = some (some x) ∧ env[i]? = some (some (true, d))
inductive RSs (k : Kx) (env : Env) (σ : L2.St) (G : Hp) : List V → List Vl → Prop
  | nil : RSs k env σ G [] []
  | cons {x : V} {xs : List V} {r : Vl} {rs : List Vl} : RS k env σ G x r → RSs k env σ G xs rs → RSs k env σ G (x :: xs) (r :: rs)
def SA (k : Kx) (E : XK) (t : TA) (f : Env → M (List Vl)) : Prop := ∀ R dr env σ G H n Q, Rl k R dr env σ G H n →
  wp dr n (f env) (fun dr n' r => ∀ xs G2 H2, Le G G2 → Rl k R dr env σ G2 H2 n' → RSs k env σ G2 xs r → Q xs H2) (XP k R G E) → t σ H Q
def isV : Vl → Bool
  | (.v _, _) => true
  | _ => false
def scal : D → Bool
  | .non => true | .bl _ => true | .int _ => true | .str _ => true | .ty _ => true | .glo _ => true | .rf _ => true
  | _ => false
section
variable {k : Kx} {E : XK} {R : Hp} {dr : Dr} {env : Env} {σ : L2.St} {G G2 H H2 : Hp} {n n' : Nat} {Q : VK} {te ta tb tc : TE} {f fa fb fc : Env → M Vl} {t u : TT} {ft fu : Env → M Bool}
theorem rp_scal {v : V} {d : D} {G' : Hp} (h : scal d = true) (r : Rp k G v d) : Rp k G' v d := by
  cases r <;> first
    | (simp [scal] at h; done)
    | constructor
theorem RS.mono (l : Le G G2) {x : V} {r : Vl} (h : RS k env σ G x r) : RS k env σ G2 x r := by
  obtain ⟨m, d⟩ := r
  cases m with
  | s => exact Rp.mono l h
  | o => exact Rp.mono l h
  | v i => exact h
theorem RSs.mono (l : Le G G2) : ∀ {x : List V} {r : List Vl}, RSs k env σ G x r → RSs k env σ G2 x r
  | _, _, .nil => .nil
  | _, _, .cons h a => .cons (h.mono l) (RSs.mono l a)
theorem settle (r : Rl k R dr env σ G H n) {x : V} {v : Vl} (h : RV k R dr env σ G H x v) : ∃ G2, Le G G2 ∧ Rl k R dr env σ G2 H n ∧ RS k env σ G2 x v := by
  obtain ⟨m, d⟩ := v
  cases m with
  | s => exact ⟨G, Le.refl _, r, h⟩
  | o =>
    obtain ⟨a, rfl, h1, h2⟩ := h
    obtain ⟨o, _, r2, l2, p2⟩ := r.show h1 h2
    exact ⟨_, l2, r2, p2⟩
  | v i => exact ⟨G, Le.refl _, r, h⟩
theorem SE.run (h : SE k E te f) (r : Rl k R dr env σ G H n) {P : Dr → Nat → Vl → Prop} {X : Dr → Nat → Ex → Prop} (w : wp dr n (f env) P X) (he : ∀ d n x, X d n x → XP k R G E d n x) (hq : ∀ dr n' v x G2 H2, P dr n' v → Le G G2 → Rl k R dr env σ G2 H2 n' → RS k env σ G2 x v → Q x H2) : te σ H Q := by
  refine h R dr env σ G H n Q r (wp_mono w (fun dr n' v p x G2 H2 l r2 q => ?_) he)
  obtain ⟨G3, l3, r3, s3⟩ := settle r2 q
  exact hq dr n' v x G3 H2 p (l.trans l3) r3 s3
theorem Rl.reveal (r : Rl k R dr env σ G H n) : ∃ G', Le G G' ∧ In G' H ∧ NoT G' ∧ Rl k R dr [] [] G' H n ∧ ∀ x v, RS k env σ G x v → Rp k G' x v.2 := by
  have cl : ∀ a, Decidable (Apart env σ a) := fun a => Classical.propDecidable _
  let G' : Hp := fun a => if Apart env σ a then G a else H a
  have e1 : ∀ a, Apart env σ a → G' a = G a := fun a h => if_pos h
  have e2 : ∀ a, ¬ Apart env σ a → G' a = H a := fun a h => if_neg h
  have nap : ∀ a, ¬ Apart env σ a → ∃ (i : Nat) (d : D), env[i]? = some (some (true, d)) ∧ σ[i]? = some (some (.ref a)) := fun a h => by
    apply Classical.byContradiction
    intro q
    exact h fun i d e1 e2 => q ⟨i, d, e1, e2⟩
  have ow : ∀ a, ¬ Apart env σ a → ∃ d, Ow k R dr G H a d := fun a h => by
    obtain ⟨i, d, f1, f2⟩ := nap a h
    obtain ⟨b, g1, g2⟩ := r.ow i d f1
    rw [f2] at g1; cases g1
    exact ⟨d, g2⟩
  have lg : Le G G' := fun a o h => by
    by_cases ha : Apart env σ a
    · rw [e1 a ha]; exact h
    · obtain ⟨d, u, f1, f2, f3⟩ := ow a ha
      rw [f3.g] at h; cases h
  have ig : In G' H := fun a o h => by
    by_cases ha : Apart env σ a
    · rw [e1 a ha] at h; exact r.i a o h
    · rw [e2 a ha] at h; exact .inl h
  have ng : NoT G' := fun a ps h => by
    by_cases ha : Apart env σ a
    · rw [e1 a ha] at h; exact r.nt a ps h
    · rw [e2 a ha] at h
      obtain ⟨d, u, f1, f2, f3⟩ := ow a ha
      rw [h] at f1; cases f1; exact f2.nt ps rfl
  refine ⟨G', lg, ig, ng, ⟨ig, ng, r.tb, r.dd, fun a h => ?_, r.dj, fun a o h => ?_, fun i d h => by simp at h, fun i d h => by simp at h, fun i j a d d' h => by simp at h, Nat.le_refl _, r.nb, r.so.mono lg⟩, fun x v h => ?_⟩
  · have ha : Apart env σ a := Classical.byContradiction fun z => by
      obtain ⟨d, u, f1, f2, f3⟩ := ow a z
      exact f3.d h
    rw [e1 a ha]; exact r.dh a h
  · have ha : Apart env σ a := Classical.byContradiction fun z => by
      obtain ⟨d, u, f1, f2, f3⟩ := ow a z
      rw [f3.r] at h; cases h
    obtain ⟨q1, q2, q3, q4⟩ := r.rs a o h
    exact ⟨q1, fun z => by rw [e1 a ha]; exact q2 z, q3, q4⟩
  · obtain ⟨m, d⟩ := v
    cases m with
    | s => exact Rp.mono lg h
    | o => exact Rp.mono lg h
    | v i =>
      obtain ⟨h1, h2⟩ := h
      obtain ⟨a, f1, o, f2, f3, f4⟩ := r.ow i d h2
      rw [h1] at f1
      cases f1
      have na : ¬ Apart env σ a := fun z => z i d h2 h1
      exact (f3.mono lg).rp (by rw [e2 a na]; exact f2)
theorem Rl.revealA (r : Rl k R dr env σ G H n) : ∃ G', Le G G' ∧ In G' H ∧ Rl k R dr [] [] G' H n ∧ (∀ x v, RS k env σ G x v → Rp k G' x v.2) ∧ ∀ xs vs, RSs k env σ G xs vs → RpA k G' xs (vs.map (·.2)) := by
  obtain ⟨G', h1, h2, h3, h4, h5⟩ := r.reveal
  refine ⟨G', h1, h2, h4, h5, fun xs vs h => ?_⟩
  induction h with
  | nil => exact .nil
  | cons a _ ih => exact .cons (h5 _ _ a) ih
theorem rs_s {x : V} {v : Vl} (h : isV v = false) (r : RS k env σ G x v) : Rp k G x v.2 := by
  obtain ⟨m, d⟩ := v
  cases m with
  | s => exact r
  | o => exact r
  | v i => cases h
theorem rss_s : ∀ {xs : List V} {vs : List Vl}, vs.any isV = false → RSs k env σ G xs vs → RpA k G xs (vs.map (·.2))
  | _, _, _, .nil => .nil
  | _, _, h, .cons a b => by
    simp only [List.any_cons, Bool.or_eq_false_iff] at h
    exact .cons (rs_s h.1 a) (rss_s h.2 b)
theorem RSs.len : ∀ {xs : List V} {vs : List Vl}, RSs k env σ G xs vs → xs.length = vs.length
  | _, _, .nil => rfl
  | _, _, .cons a b => by rw [List.length_cons, List.length_cons, RSs.len b]
def eVar (i : Nat) : Env → M Vl := fun env => match env[i]? with
  | some (some (false, d)) => .ok (.s, d)
  | some (some (true, d)) => .ok (.v i, d)
  | _ => .bad
theorem se_var {i : Nat} : SE k E (tVar i) (eVar i) := fun R dr env σ G H n Q r w => by
  unfold eVar at w
  split at w
  · rename_i d h
    obtain ⟨v, h1, h2⟩ := r.sh i d h
    exact ⟨v, h1, w v G H (Le.refl _) r h2⟩
  · rename_i d h
    obtain ⟨a, h1, h2⟩ := r.ow i d h
    exact ⟨_, h1, w _ G H (Le.refl _) r ⟨h1, h⟩⟩
  · exact w.elim
def eC (d : D) : Env → M Vl := fun _ => .ok (.s, d)
theorem se_c {v : V} {d : D} (h : ∀ G, Rp k G v d) : SE k E (tC v) (eC d) := fun R dr env σ G H n Q r w => w v G H (Le.refl _) r (h G)
theorem se_int {i : Int} : SE k E (tC (.int i)) (eC (.int i)) := se_c fun _ => .int i
theorem se_bl {i : Bool} : SE k E (tC (.bl i)) (eC (.bl i)) := se_c fun _ => .bl i
theorem se_str {z : Str} {l : List Nat} (h : z = S l) : SE k E (tC (.str z)) (eC (.str l)) := by subst h; exact se_c fun _ => .str l
theorem se_ty {x : String} : SE k E (tC (.ty x)) (eC (.ty x)) := se_c fun _ => .ty x
def OpS (k : Kx) (r : R2) (g : D → D → Option D) : Prop := ∀ G H x y a b d, In G H → Rp k G x a → Rp k G y b → g a b = some d → ∀ Q : VK, (∀ v G2 H2, Up G H G2 H2 → Rp k G2 v d → Q v H2) → r x y H Q
def UnS (k : Kx) (r : V → Hp → VK → Prop) (g : D → Option D) : Prop := ∀ G H x a d, In G H → Rp k G x a → g a = some d → ∀ Q : VK, (∀ v G2 H2, Up G H G2 H2 → Rp k G2 v d → Q v H2) → r x H Q
def CaS (k : Kx) (r : List V → Hp → VK → Prop) (g : List D → Option D) : Prop := ∀ G H xs ds d, In G H → RpA k G xs ds → g ds = some d → ∀ Q : VK, (∀ v G2 H2, Up G H G2 H2 → Rp k G2 v d → Q v H2) → r xs H Q
def CaO (k : Kx) (r : List V → Hp → VK → Prop) (g : List D → Option D) : Prop := ∀ G H xs ds d, In G H → RpA k G xs ds → g ds = some d → ∀ Q : VK, (∀ p o, H p = none → RpO k G o d → Q (.ref p) (upd H p o)) → r xs H Q
def fin (vb : Bool) (d : D) : M Vl := if vb then (if scal d then .ok (.s, d) else .bad) else .ok (.s, d)
@[simp] theorem fin_f (d : D) : fin false d = .ok (.s, d) := rfl
def eOp (g : D → D → Option D) (fa fb : Env → M Vl) : Env → M Vl := fun env => (fa env).bind fun x => (fb env).bind fun y => (M.of (g x.2 y.2)).bind fun d => fin (isV x || isV y) d
def eUn (g : D → Option D) (fa : Env → M Vl) : Env → M Vl := fun env => (fa env).bind fun x => (M.of (g x.2)).bind fun d => fin (isV x) d
theorem op_end {vb : Bool} {d : D} {P : Prop} (r : Rl k R dr env σ G H n) {X : Dr → Nat → Ex → Prop} (w : wp dr n (fin vb d) (fun dr n' r => ∀ x G2 H2, Le G G2 → Rl k R dr env σ G2 H2 n' → RV k R dr env σ G2 H2 x r → Q x H2) X)
    (h : ∀ G', Le G G' → In G' H → (vb = false → G' = G) → (∀ x v, (vb = false → isV v = false) → RS k env σ G x v → Rp k G' x v.2) → (∀ xs vs, (vb = false → vs.any isV = false) → RSs k env σ G xs vs → RpA k G' xs (vs.map (·.2))) → (∀ v G2 H2, Up G' H G2 H2 → Rp k G2 v d → Q v H2) → P) : P := by
  cases vb with
  | false =>
    refine h G (Le.refl _) r.i (fun _ => rfl) (fun x v hv hs => rs_s (hv rfl) hs) (fun x v hv hs => rss_s (hv rfl) hs) fun v G2 H2 u p => ?_
    obtain ⟨r2, l2⟩ := r.up u
    exact w v _ H2 l2 r2 p.clean
  | true =>
    unfold fin at w
    rw [if_pos rfl] at w
    by_cases hs : scal d = true
    · rw [if_pos hs] at w
      obtain ⟨G', l, i, _, q1, q2⟩ := r.revealA
      refine h G' l i (fun z => by cases z) (fun x v _ hs => q1 x v hs) (fun x v _ hs => q2 x v hs) fun v G2 H2 u p => ?_
      exact w v G H2 (Le.refl _) (r.keep (extN_le u.h) (tabs_le r.tb u.h)) (rp_scal hs p)
    · rw [if_neg hs] at w; exact w.elim
theorem wp_bind' {α β : Type} {m : M α} {f : α → M β} {P : Dr → Nat → β → Prop} {X : Dr → Nat → Ex → Prop} (w : wp dr n (m.bind f) P X) : wp dr n m (fun dr n a => wp dr n (f a) P X) X := wp_bind.mp w
theorem se_op {r : R2} {g : D → D → Option D} (ho : OpS k r g) (ha : SE k E ta fa) (hb : SE k E tb fb) : SE k E (tOp r ta tb) (eOp g fa fb) := fun R dr env σ G H n Q rl w => by
  refine ha.run rl (wp_bind' w) (fun _ _ _ h => h) fun dr n1 v x G1 H1 w1 l1 r1 s1 => ?_
  refine hb.run r1 (wp_bind' w1) (fun _ _ _ h => h.mono l1) fun dr n2 v2 y G2 H2 w2 l2 r2 s2 => ?_
  obtain ⟨d, hd, w3⟩ := wp_of.mp (wp_bind' w2)
  refine op_end (P := r x y H2 Q) r2 (wp_mono w3 (fun dr n' r q x G3 H3 l3 => q x G3 H3 ((l1.trans l2).trans l3)) (fun _ _ _ h => h)) fun G' l' i' _ q1 q2 fin => ?_
  refine ho G' H2 x y v.2 v2.2 d i' (q1 x v (fun z => by revert z; cases isV v <;> simp) (s1.mono l2)) (q1 y v2 (fun z => by revert z; cases isV v2 <;> simp) s2) hd Q fin
theorem se_un {r : V → Hp → VK → Prop} {g : D → Option D} (ho : UnS k r g) (ha : SE k E ta fa) : SE k E (tUn r ta) (eUn g fa) := fun R dr env σ G H n Q rl w => by
  refine ha.run rl (wp_bind' w) (fun _ _ _ h => h) fun dr n1 v x G1 H1 w1 l1 r1 s1 => ?_
  obtain ⟨d, hd, w3⟩ := wp_of.mp (wp_bind' w1)
  refine op_end (P := r x H1 Q) r1 (wp_mono w3 (fun dr n' r q x G3 H3 l3 => q x G3 H3 (l1.trans l3)) (fun _ _ _ h => h)) fun G' l' i' _ q1 q2 fin => ?_
  exact ho G' H1 x v.2 d i' (q1 x v (fun z => z) s1) hd Q fin
def eNil : Env → M (List Vl) := fun _ => .ok []
def eCons (fa : Env → M Vl) (fr : Env → M (List Vl)) : Env → M (List Vl) := fun env => (fa env).bind fun x => (fr env).bind fun xs => .ok (x :: xs)
theorem sa_nil : SA k E tNil eNil := fun R dr env σ G H n Q r w => w [] G H (Le.refl _) r .nil
theorem sa_cons {tr : TA} {fr : Env → M (List Vl)} (ha : SE k E ta fa) (hr : SA k E tr fr) : SA k E (tCons ta tr) (eCons fa fr) := fun R dr env σ G H n Q rl w => by
  refine ha.run rl (wp_bind' w) (fun _ _ _ h => h) fun dr n1 v x G1 H1 w1 l1 r1 s1 => ?_
  refine hr R dr env σ G1 H1 n1 _ r1 (wp_mono (wp_bind' w1) (fun dr n' vs q xs G2 H2 l2 r2 s2 => ?_) fun _ _ _ h => h.mono l1)
  exact q (x :: xs) G2 H2 (l1.trans l2) r2 (.cons (s1.mono l2) s2)
def dats (vs : List Vl) : List D := vs.map (·.2)
@[simp] theorem dats_nil : dats [] = [] := rfl
@[simp] theorem dats_cons (v : Vl) (vs : List Vl) : dats (v :: vs) = v.2 :: dats vs := rfl
def eCB (g : List D → Option D) (fa : Env → M (List Vl)) : Env → M Vl := fun env => (fa env).bind fun xs => (M.of (g (dats xs))).bind fun d => fin (xs.any isV) d
def eCO (g : List D → Option D) (fa : Env → M (List Vl)) : Env → M Vl := fun env => (fa env).bind fun xs => if xs.any isV then .bad else (M.of (g (dats xs))).bind fun d => .ok (.o, d)
theorem se_cb {r : List V → Hp → VK → Prop} {g : List D → Option D} {tr : TA} {fr : Env → M (List Vl)} (ho : CaS k r g) (hr : SA k E tr fr) : SE k E (tCB r tr) (eCB g fr) := fun R dr env σ G H n Q rl w => by
  refine hr R dr env σ G H n _ rl (wp_mono (wp_bind' w) (fun dr n1 vs w1 xs G1 H1 l1 r1 s1 => ?_) fun _ _ _ h => h)
  obtain ⟨d, hd, w3⟩ := wp_of.mp (wp_bind' w1)
  refine op_end (P := r xs H1 Q) r1 (wp_mono w3 (fun dr n' r q x G3 H3 l3 => q x G3 H3 (l1.trans l3)) (fun _ _ _ h => h)) fun G' l' i' _ q1 q2 fin => ?_
  exact ho G' H1 xs _ d i' (q2 xs vs (fun z => z) s1) hd Q fin
theorem se_co {r : List V → Hp → VK → Prop} {g : List D → Option D} {tr : TA} {fr : Env → M (List Vl)} (ho : CaO k r g) (hr : SA k E tr fr) : SE k E (tCB r tr) (eCO g fr) := fun R dr env σ G H n Q rl w => by
  refine hr R dr env σ G H n _ rl (wp_mono (wp_bind' w) (fun dr n1 vs w1 xs G1 H1 l1 r1 s1 => ?_) fun _ _ _ h => h)
  by_cases hv : vs.any isV = true
  · rw [if_pos hv] at w1; exact w1.elim
  rw [if_neg hv] at w1
  obtain ⟨d, hd, w3⟩ := wp_of.mp (wp_bind' w1)
  refine ho G1 H1 xs _ d r1.i (rss_s (by simpa using hv) s1) hd Q fun p o hp ro => ?_
  exact w3 _ G1 _ l1 (r1.new hp) ⟨p, rfl, (r1.newO hp ro).1, (r1.newO hp ro).2⟩
def eLst (fa : Env → M (List Vl)) : Env → M Vl := eCO (fun ds => if ds.length ≤ 100000 then some (.lst ds) else none) fa
def eTup (fa : Env → M (List Vl)) : Env → M Vl := fun env => (fa env).bind fun xs => if xs.any isV then .bad else if (dats xs).length ≤ 100000 then .ok (.s, .tup (dats xs)) else .bad
theorem RpA.le {xs : List V} {ds : List D} (h : RpA k G xs ds) (hl : ds.length ≤ 100000) : xs.length ≤ sizeLine := by
  rw [h.len]; exact Nat.le_trans hl (by decide)
theorem se_lst {tr : TA} {fr : Env → M (List Vl)} (hr : SA k E tr fr) : SE k E (tLst tr) (eLst fr) := by
  refine se_co (r := fun xs H Q => xs.length ≤ sizeLine ∧ ∀ p, H p = none → Q (.ref p) (upd H p (.lst xs))) (fun G H xs ds d hi hx hg Q q => ?_) hr
  split at hg
  · rename_i hl
    cases hg
    exact ⟨hx.le hl, fun p hp => q p _ hp (.lst hx)⟩
  · cases hg
theorem se_tup {tr : TA} {fr : Env → M (List Vl)} (hr : SA k E tr fr) : SE k E (tTup tr) (eTup fr) := fun R dr env σ G H n Q rl w => by
  refine hr R dr env σ G H n _ rl (wp_mono (wp_bind' w) (fun dr n1 vs w1 xs G1 H1 l1 r1 s1 => ?_) fun _ _ _ h => h)
  by_cases hv : vs.any isV = true
  · rw [if_pos hv] at w1; exact w1.elim
  rw [if_neg hv] at w1
  by_cases hl : (dats vs).length ≤ 100000
  · rw [if_pos hl] at w1
    have rx := rss_s (by simpa using hv) s1
    refine ⟨rx.le hl, fun p hp => ?_⟩
    have u := Up.new (o := .tup xs) r1.i hp
    obtain ⟨r2, l2⟩ := r1.up u
    exact w1 _ _ _ (l1.trans l2) r2 (.tup (.inl (.inl (clean_some upd_same (by intro ps z; cases z)))) (rx.mono l2))
  · rw [if_neg hl] at w1; exact w1.elim
def eB (fe : Env → M Vl) : Env → M Bool := fun env => (fe env).bind fun x => match x.2 with
  | .bl b => .ok b
  | _ => .bad
theorem eb_in {v : Vl} {P : Dr → Nat → Bool → Prop} {X : Dr → Nat → Ex → Prop} (w : wp dr n (match v.2 with | .bl b => M.ok b | _ => .bad) P X) : ∃ b, v.2 = .bl b ∧ P dr n b := by
  obtain ⟨m, d⟩ := v
  cases d <;> first
    | exact ⟨_, rfl, w⟩
    | exact w.elim
theorem rs_bl {x : V} {v : Vl} {b : Bool} (r : Rl k R dr env σ G H n) (e : v.2 = .bl b) (h : RS k env σ G x v) : x = .bl b := by
  obtain ⟨m, d⟩ := v
  have e : d = .bl b := e
  subst e
  cases m with
  | s => exact rp_bl h
  | o => exact rp_bl h
  | v i =>
    obtain ⟨h1, h2⟩ := h
    obtain ⟨a, f1, o, f2, f3, f4⟩ := r.ow i _ h2
    cases f3
theorem st_b (he : SE k E te f) : ST k E (tB te) (eB f) := fun R dr env σ G H n Q rl w => by
  refine he.run rl (wp_bind' w) (fun _ _ _ h => h) fun dr n1 v x G1 H1 w1 l1 r1 s1 => ?_
  obtain ⟨b, e, w2⟩ := eb_in w1
  exact ⟨b, rs_bl r1 e s1, w2 G1 H1 l1 r1⟩
theorem st_test (he : SE k E te f) : ST k E (tTest te) (eB f) := st_b he
def eAnd (ft fu : Env → M Bool) : Env → M Bool := fun env => (ft env).bind fun b => if b then fu env else .ok false
def eOr (ft fu : Env → M Bool) : Env → M Bool := fun env => (ft env).bind fun b => if b then .ok true else fu env
def eNot (ft : Env → M Bool) : Env → M Bool := fun env => (ft env).bind fun b => .ok (!b)
theorem ST.run (h : ST k E t ft) (r : Rl k R dr env σ G H n) {Q : Bool → Hp → Prop} {P : Dr → Nat → Bool → Prop} {X : Dr → Nat → Ex → Prop} (w : wp dr n (ft env) P X) (he : ∀ d n x, X d n x → XP k R G E d n x) (hq : ∀ dr n' b G2 H2, P dr n' b → Le G G2 → Rl k R dr env σ G2 H2 n' → Q b H2) : t σ H Q :=
  h R dr env σ G H n Q r (wp_mono w (fun dr n' b p G2 H2 l r2 => hq dr n' b G2 H2 p l r2) he)
theorem st_and (h1 : ST k E t ft) (h2 : ST k E u fu) : ST k E (tAnd t u) (eAnd ft fu) := fun R dr env σ G H n Q rl w => by
  refine h1.run rl (wp_bind' w) (fun _ _ _ h => h) fun dr n1 b G1 H1 w1 l1 r1 => ?_
  cases b with
  | true => exact h2.run r1 w1 (fun _ _ _ h => h.mono l1) fun dr n2 b G2 H2 w2 l2 r2 => w2 G2 H2 (l1.trans l2) r2
  | false => exact w1 G1 H1 l1 r1
theorem st_or (h1 : ST k E t ft) (h2 : ST k E u fu) : ST k E (tOr t u) (eOr ft fu) := fun R dr env σ G H n Q rl w => by
  refine h1.run rl (wp_bind' w) (fun _ _ _ h => h) fun dr n1 b G1 H1 w1 l1 r1 => ?_
  cases b with
  | false => exact h2.run r1 w1 (fun _ _ _ h => h.mono l1) fun dr n2 b G2 H2 w2 l2 r2 => w2 G2 H2 (l1.trans l2) r2
  | true => exact w1 G1 H1 l1 r1
theorem st_not (h1 : ST k E t ft) : ST k E (tNot t) (eNot ft) := fun R dr env σ G H n Q rl w => by
  refine h1.run rl (wp_bind' w) (fun _ _ _ h => h) fun dr n1 b G1 H1 w1 l1 r1 => w1 G1 H1 l1 r1
def eBv (b : Bool) : Vl := (.s, .bl b)
def eAndV (fa fb : Env → M Vl) : Env → M Vl := fun env => (eB fa env).bind fun b => if b then fb env else .ok (eBv false)
def eOrV (fa fb : Env → M Vl) : Env → M Vl := fun env => (eB fa env).bind fun b => if b then .ok (eBv true) else fb env
def eNotV (fa : Env → M Vl) : Env → M Vl := fun env => (eB fa env).bind fun b => .ok (eBv (!b))
theorem se_andV (ha : SE k E ta fa) (hb : SE k E tb fb) : SE k E (tAndV ta tb) (eAndV fa fb) := fun R dr env σ G H n Q rl w => by
  refine st_b ha R dr env σ G H n (fun b H1 => if b = true then tb σ H1 Q else Q (.bl false) H1) rl (wp_mono (wp_bind' w) (fun dr n1 b w1 G1 H1 l1 r1 => ?_) fun _ _ _ h => h)
  cases b with
  | true => exact hb R dr env σ G1 H1 n1 Q r1 (wp_mono w1 (fun dr n2 v q x G2 H2 l2 => q x G2 H2 (l1.trans l2)) fun _ _ _ h => h.mono l1)
  | false => exact w1 _ G1 H1 l1 r1 (Rp.bl _)
theorem se_notV (ha : SE k E ta fa) : SE k E (tNotV ta) (eNotV fa) := fun R dr env σ G H n Q rl w =>
  st_b ha R dr env σ G H n (fun b H1 => Q (.bl (!b)) H1) rl (wp_mono (wp_bind' w) (fun dr n1 b w1 G1 H1 l1 r1 => w1 _ G1 H1 l1 r1 (Rp.bl _)) fun _ _ _ h => h)
def eIf (ft : Env → M Bool) (fa fb : Env → M Vl) : Env → M Vl := fun env => (ft env).bind fun b => if b then fa env else fb env
def eChain (g g' : D → D → Option D) (fa fb fc : Env → M Vl) : Env → M Vl := fun env => (fa env).bind fun x => (fb env).bind fun y => (M.of (g x.2 y.2)).bind fun d => match d with
  | .bl false => .ok (eBv false)
  | .bl true => (fc env).bind fun z => (M.of (g' y.2 z.2)).bind fun d => fin (isV y || isV z) d
  | _ => .bad
theorem se_chain {r r' : R2} {g g' : D → D → Option D} (ho : OpS k r g) (ho' : OpS k r' g') (ha : SE k E ta fa) (hb : SE k E tb fb) (hc : SE k E tc fc) : SE k E (tChain r r' ta tb tc) (eChain g g' fa fb fc) := fun R dr env σ G H n Q rl w => by
  refine ha.run rl (wp_bind' w) (fun _ _ _ h => h) fun dr n1 v x G1 H1 w1 l1 r1 s1 => ?_
  refine hb.run r1 (wp_bind' w1) (fun _ _ _ h => h.mono l1) fun dr n2 v2 y G2 H2 w2 l2 r2 s2 => ?_
  obtain ⟨d, hd, w3⟩ := wp_of.mp (wp_bind' w2)
  obtain ⟨G', lg, ig, _, q1, _⟩ := r2.revealA
  refine ho G' H2 x y v.2 v2.2 d ig (q1 x v (s1.mono l2)) (q1 y v2 s2) hd _ fun z G3 H3 u3 p3 => ?_
  have r3 : Rl k R dr env σ G2 H3 n2 := r2.keep (extN_le u3.h) (tabs_le r2.tb u3.h)
  cases d <;> first
    | exact w3.elim
    | skip
  rename_i b
  cases b with
  | false =>
    refine ⟨false, rp_bl p3, ?_⟩
    rw [if_neg (by simp)]
    exact w3 _ G2 H3 (l1.trans l2) r3 (Rp.bl _)
  | true =>
    refine ⟨true, rp_bl p3, ?_⟩
    rw [if_pos rfl]
    refine hc.run r3 (wp_bind' w3) (fun _ _ _ h => h.mono (l1.trans l2)) fun dr n4 v4 z G4 H4 w4 l4 r4 s4 => ?_
    obtain ⟨d', hd', w5⟩ := wp_of.mp (wp_bind' w4)
    refine op_end (P := r' y z H4 Q) r4 (wp_mono w5 (fun dr n' r q x G3 H3 l3 => q x G3 H3 (((l1.trans l2).trans l4).trans l3)) (fun _ _ _ h => h)) fun G5 l' i' _ q1 q2 fin => ?_
    exact ho' G5 H4 y z v2.2 v4.2 d' i' (q1 y v2 (fun z => by revert z; cases isV v2 <;> simp) (s2.mono l4)) (q1 z v4 (fun z => by revert z; cases isV v4 <;> simp) s4) hd' Q fin
end
end Y

namespace Y
open PySem PySem.Spec PyProof.Rows L2 Z
def spM (k : Kx) (m : List D → M Vl) : Sp := fun vs H Q E => ∃ R dr G n ds, Rl k R dr [] [] G H n ∧ RpA k G vs ds ∧
  wp dr n (m ds) (fun dr n' r => ∀ x G2 H2, Le G G2 → Rl k R dr [] [] G2 H2 n' → RV k R dr [] [] G2 H2 x r → Q x H2) (XP k R G E)
def okA (xs : List Vl) : Bool := xs.all fun r => !isV r
def eCall (m : List D → M Vl) (fa : Env → M (List Vl)) : Env → M Vl := fun env => (fa env).bind fun xs => if okA xs then m (dats xs) else .bad
section
variable {k : Kx} {E : XK} {R : Hp} {dr : Dr} {env : Env} {σ : L2.St} {G G2 H H2 : Hp} {n n' : Nat} {Q : VK} {te ta tb tc : TE} {f fa fb fc : Env → M Vl} {t u : TT} {ft fu : Env → M Bool}
theorem okA_any {vs : List Vl} (h : okA vs = true) : vs.any isV = false := by
  unfold okA at h
  rw [List.all_eq_true] at h
  rw [Bool.eq_false_iff]
  intro z
  obtain ⟨v, hv, h2⟩ := List.any_eq_true.mp z
  have := h v hv
  rw [h2] at this
  cases this
theorem call_end {m : List D → M Vl} {vs : List Vl} {xs : List V} (r : Rl k R dr env σ G H n) (s : RSs k env σ G xs vs)
    (w : wp dr n (if okA vs then m (dats vs) else .bad) (fun dr n' r => ∀ x G2 H2, Le G G2 → Rl k R dr env σ G2 H2 n' → RV k R dr env σ G2 H2 x r → Q x H2) (XP k R G E)) : spM k m xs H Q E := by
  have ho : okA vs = true := Classical.byContradiction fun z => by rw [if_neg z] at w; exact w
  rw [if_pos ho] at w
  have hv := okA_any ho
  obtain ⟨R1, rk, ap1, bk⟩ := r.out
  refine ⟨R1, dr, G, n, dats vs, rk, rss_s hv s, wp_mono w (fun dr' n' v w2 x G2 H2 l2 rr rv => ?_) fun dr' n' x hx dd G2 H2 l2 rr hd => hx dd G2 H2 l2 (bk dr' G2 H2 n' l2 rr).bare hd⟩
  refine w2 x G2 H2 l2 (bk dr' G2 H2 n' l2 rr) ?_
  obtain ⟨m', d⟩ := v
  cases m' with
  | s => exact rv
  | o =>
    obtain ⟨a, e, ⟨o, f2, f3, f4⟩, _⟩ := rv
    obtain ⟨g1, g2⟩ := ap1 a f4.r
    exact ⟨a, e, ⟨o, f2, f3, f4.g, g1, f4.d⟩, g2⟩
  | v j => obtain ⟨h1, _⟩ := rv; simp at h1
theorem se_call {m : List D → M Vl} {tr : TA} {fr : Env → M (List Vl)} (hr : SA k E tr fr) : SE k E (tCall (spM k m) [] E tr) (eCall m fr) := fun R dr env σ G H n Q rl w => by
  refine hr R dr env σ G H n _ rl (wp_mono (wp_bind' w) (fun dr n1 vs w1 xs G1 H1 l1 r1 s1 => ?_) fun _ _ _ h => h)
  rw [List.append_nil]
  exact call_end r1 s1 (wp_mono w1 (fun dr n' r q x G3 H3 l3 => q x G3 H3 (l1.trans l3)) fun _ _ _ h => h.mono l1)
theorem RSs.get : ∀ {xs : List V} {vs : List Vl} (i : Nat), RSs k env σ G xs vs → (xs[i]? = none ∧ vs[i]? = none) ∨ ∃ x v, xs[i]? = some x ∧ vs[i]? = some v ∧ RS k env σ G x v
  | _, _, _, .nil => .inl ⟨rfl, rfl⟩
  | _, _, 0, .cons a _ => .inr ⟨_, _, rfl, rfl, a⟩
  | _, _, i + 1, .cons _ b => by simpa using RSs.get i b
theorem RSs.app : ∀ {xs ys : List V} {vs ws : List Vl}, RSs k env σ G xs vs → RSs k env σ G ys ws → RSs k env σ G (xs ++ ys) (vs ++ ws)
  | _, _, _, _, .nil, h => h
  | _, _, _, _, .cons a b, h => .cons a (RSs.app b h)
theorem RSs.perm {xs ys : List V} {vs ws : List Vl} (is : List Nat) (a : RSs k env σ G xs vs) (b : RSs k env σ G ys ws) : RSs k env σ G (Z.perm is xs ys) (Z.perm is vs ws) := by
  unfold Z.perm
  have h := a.app b
  induction is with
  | nil => exact .nil
  | cons i is ih =>
    rcases h.get i with ⟨e1, e2⟩ | ⟨x, v, e1, e2, e3⟩
    · simp only [List.filterMap_cons, e1, e2]; exact ih
    · simp only [List.filterMap_cons, e1, e2]; exact .cons e3 ih
end
end Y

namespace Y
open PySem PySem.Spec PyProof.Rows L2 Z
def TgS (k : Kx) (vs : List Nat) (g : TG) (tg : D → Env → Option Env) : Prop := ∀ R dr env σ G H n x d env1 (Q : L2.St → Hp → Prop), Rl k R dr env σ G H n → Rp k G x d → tg d env = some env1 →
  (∀ σ1, Rl k R dr env1 σ1 G H n → (∀ j, j ∉ vs → σ1[j]? = σ[j]? ∧ env1[j]? = env[j]?) → σ1.length = σ.length → Q σ1 H) → g x σ H Q
def TgsS (k : Kx) (vs : List Nat) (g : TGs) (tg : List D → Env → Option Env) : Prop := ∀ R dr env σ G H n xs ds env1 (Q : L2.St → Hp → Prop), Rl k R dr env σ G H n → RpA k G xs ds → tg ds env = some env1 →
  (∀ σ1, Rl k R dr env1 σ1 G H n → (∀ j, j ∉ vs → σ1[j]? = σ[j]? ∧ env1[j]? = env[j]?) → σ1.length = σ.length → Q σ1 H) → g xs σ H Q
def eTgN (i : Nat) : D → Env → Option Env := fun d env => some (env.set i (some (false, d)))
def eTgNil : List D → Env → Option Env := fun ds env => match ds with
  | [] => some env
  | _ => none
def eTgCons (t : D → Env → Option Env) (ts : List D → Env → Option Env) : List D → Env → Option Env := fun ds env => match ds with
  | d :: ds => (t d env).bind fun env1 => ts ds env1
  | [] => none
def eTgT (n : Nat) (ts : List D → Env → Option Env) : D → Env → Option Env := fun d env => match d with
  | .tup ds => if ds.length = n then ts ds env else none
  | .lst ds => if ds.length = n then ts ds env else none
  | _ => none
def gTL (K : PySem.W.Frag) (n : Nat) (t : TGs) : TG := fun v σ H Q => gTup K n t v σ H Q ∨ gUnl K n t v σ H Q
section
variable {k : Kx}
theorem tg_name {i : Nat} : TgS k [i] (gName i) (eTgN i) := fun R dr env σ G H n x d env1 Q r p e q => by
  cases e
  refine q _ (r.set p) (fun j hj => ?_) (by simp)
  have : i ≠ j := fun z => hj (by simp [z])
  exact ⟨List.getElem?_set_ne this, List.getElem?_set_ne this⟩
theorem tg_nil : TgsS k [] gNil eTgNil := fun R dr env σ G H n xs ds env1 Q r p e q => by
  cases p with
  | nil => cases e; exact ⟨rfl, q σ r (fun _ _ => ⟨rfl, rfl⟩) rfl⟩
  | cons _ _ => cases e
theorem tg_cons {vs ws : List Nat} {g : TG} {gs : TGs} {t : D → Env → Option Env} {ts : List D → Env → Option Env} (h : TgS k vs g t) (hs : TgsS k ws gs ts) : TgsS k (vs ++ ws) (gCons g gs) (eTgCons t ts) := fun R dr env σ G H n xs ds env1 Q r p e q => by
  cases p with
  | nil => cases e
  | cons p1 p2 =>
    simp only [eTgCons, Option.bind_eq_some_iff] at e
    obtain ⟨env2, e1, e2⟩ := e
    refine ⟨_, _, rfl, h R dr env σ G H n _ _ env2 _ r p1 e1 fun σ1 r1 a1 l1 => hs R dr env2 σ1 G H n _ _ env1 _ r1 p2 e2 fun σ2 r2 a2 l2 => q σ2 r2 (fun j hj => ?_) (l2.trans l1)⟩
    simp only [List.mem_append, not_or] at hj
    exact ⟨(a2 j hj.2).1.trans (a1 j hj.1).1, (a2 j hj.2).2.trans (a1 j hj.1).2⟩
theorem tg_tl {vs : List Nat} {m : Nat} {gs : TGs} {ts : List D → Env → Option Env} (hs : TgsS k vs gs ts) : TgS k vs (gTL k.K m gs) (eTgT m ts) := fun R dr env σ G H n x d env1 Q r p e q => by
  cases d <;> try (cases e; done)
  · rename_i ds
    simp only [eTgT] at e
    split at e
    · rename_i hl
      obtain ⟨a, xs, rfl, h1, h2⟩ := rp_lst p
      exact .inr ⟨a, xs, rfl, .inl (.inl (r.i.ex h1 rfl)), by rw [h2.len, hl], hs R dr env σ G H n xs ds env1 Q r h2 e q⟩
    · cases e
  · rename_i ds
    simp only [eTgT] at e
    split at e
    · rename_i hl
      obtain ⟨a, xs, rfl, h1, h2⟩ := rp_tup p
      exact .inl ⟨a, xs, rfl, in_t r.i h1, by rw [h2.len, hl], hs R dr env σ G H n xs ds env1 Q r h2 e q⟩
    · cases e
end
def Wk (k : Kx) (Rx : Hp) (J : It) (G : Hp) (ds : List D) : Prop := ∀ G' H', Le G G' → In G' H' → (∀ a o, Rx a = some o → H' a = some o) → J.stop ds.length H' ∧ ∀ (j : Nat) d, ds[j]? = some d → J.go j H' ∧ ∀ x H2, J.yld j H' x H2 → ∃ G2, Up G' H' G2 H2 ∧ Rp k G2 x d
def SI (k : Kx) (E : XK) (t : TI) (f : Env → M (List D)) : Prop := ∀ R dr env σ G H n (P : It → Hp → Prop), Rl k R dr env σ G H n →
  wp dr n (f env) (fun dr n' ds => ∀ J Rx G2 H2, Le R Rx → Le G G2 → Rl k Rx dr env σ G2 H2 n' → Wk k Rx J G2 ds → P J H2) (XP k R G E) → t σ H P
def chars (w : List Nat) : List D := w.map fun c => .str [c]
def itD : D → Option (List D)
  | .lst ds => some ds
  | .tup ds => some ds
  | .str w => some (chars w)
  | _ => none
section
variable {k : Kx} {E : XK} {R : Hp} {dr : Dr} {env : Env} {σ : L2.St} {G G2 H H2 : Hp} {n n' : Nat} {te : TE} {f : Env → M Vl}
theorem wk_lst {a : Addr} {xs : List V} {ds : List D} (h : G a = some (.lst xs)) (r : RpA k G xs ds) : Wk k R (Itl k.K a) G ds := fun G' H' l i _ => by
  have e : SqL k.K H' a xs := .inl (.inl (i.ex (l _ _ h) rfl))
  refine ⟨⟨xs, e, Nat.le_of_eq r.len⟩, fun j d hd => ?_⟩
  obtain ⟨v, g1, g2⟩ := r.get hd
  refine ⟨⟨xs, v, e, g1⟩, fun x H2 y => ?_⟩
  obtain ⟨e1, y⟩ := y
  subst e1
  have := y xs e
  rw [g1] at this; cases this
  exact ⟨G', Up.refl i, g2.mono l⟩
theorem wk_tup {a : Addr} {xs : List V} {ds : List D} (h : SqT k.K G a xs) (r : RpA k G xs ds) : Wk k R (Itt k.K a) G ds := fun G' H' l i _ => by
  have e : SqT k.K H' a xs := in_t i (le_t l h)
  refine ⟨⟨xs, e, Nat.le_of_eq r.len⟩, fun j d hd => ?_⟩
  obtain ⟨v, g1, g2⟩ := r.get hd
  refine ⟨⟨xs, v, e, g1⟩, fun x H2 y => ?_⟩
  obtain ⟨e1, y⟩ := y
  subst e1
  have := y xs e
  rw [g1] at this; cases this
  exact ⟨G', Up.refl i, g2.mono l⟩
theorem wk_of {J : It} {K : PySem.W.Frag} {ps : List PyData} {ds : List D} (hk : K = k.K) (h : pys ds = some ps) (w : WkD K J G ps) : Wk k R J G ds := fun G' H' l i _ => by
  subst hk
  obtain ⟨h1, h2⟩ := w G' H' l i
  have key : ∀ (ds : List D) (ps : List PyData), pys ds = some ps → ds.length = ps.length ∧ ∀ (j : Nat) d, ds[j]? = some d → ∃ p, ps[j]? = some p ∧ py d = some p := by
    intro ds
    induction ds with
    | nil => intro ps h; simp only [pys, Option.some.injEq] at h; subst h; exact ⟨rfl, fun j d e => by simp at e⟩
    | cons d ds ih =>
      intro ps h
      obtain ⟨p, qs, e1, e2, rfl⟩ := pys_cons h
      obtain ⟨i1, i2⟩ := ih qs e2
      refine ⟨by simp [i1], fun j d' e => ?_⟩
      cases j with
      | zero => simp at e; subst e; exact ⟨p, rfl, e1⟩
      | succ j => simpa using i2 j d' (by simpa using e)
  obtain ⟨k1, k2⟩ := key ds ps h
  refine ⟨by rw [k1]; exact h1, fun j d hd => ?_⟩
  obtain ⟨p, e1, e2⟩ := k2 j d hd
  obtain ⟨g1, g2⟩ := h2 j p e1
  refine ⟨g1, fun x H2 y => ?_⟩
  obtain ⟨G2, u, rp⟩ := g2 x H2 y
  exact ⟨G2, u, of_z d e2 rp⟩
theorem pys_chars : ∀ w : List Nat, pys (chars w) = some (w.map fun c => .str (S [c]))
  | [] => by simp [chars, pys]
  | c :: w => by
    have := pys_chars w
    simp only [chars, List.map_cons] at this ⊢
    rw [pys, this]
    simp [py]
def dInts (l : List Int) : List D := l.map .int
theorem pys_dInts : ∀ l : List Int, pys (dInts l) = some (l.map .int)
  | [] => by simp [dInts, pys]
  | c :: w => by
    have := pys_dInts w
    simp only [dInts, List.map_cons] at this ⊢
    rw [pys, this]
    simp [py]
def rngD1 : List D → Option (List D)
  | [.int j] => if -1000000 ≤ j ∧ j ≤ 1000000 then some (dInts (rng 0 j.toNat)) else none
  | _ => none
def rngD2 : List D → Option (List D)
  | [.int i, .int j] => if (-1000000 ≤ i ∧ i ≤ 1000000) ∧ -1000000 ≤ j ∧ j ≤ 1000000 then some (dInts (rng i (j - i).toNat)) else none
  | _ => none
def rngD3 : List D → Option (List D)
  | [.int i, .int j, .int c] => if c = -1 ∧ (-1000000 ≤ i ∧ i ≤ 1000000) ∧ -1000000 ≤ j ∧ j ≤ 1000000 then some (dInts (rngD i j)) else none
  | _ => none
def eRng (g : List D → Option (List D)) (fa : Env → M (List Vl)) : Env → M (List D) := fun env => (fa env).bind fun xs => if xs.any isV then .bad else M.of (g (dats xs))
theorem rpa_int1 {xs : List V} {i : Int} (h : RpA k G xs [.int i]) : xs = [.int i] := by
  obtain ⟨v, rfl, p⟩ := rpa_one h
  rw [rp_int p]
theorem si_rng1 {tr : TA} {fr : Env → M (List Vl)} (hr : SA k E tr fr) : SI k E (iRng1 tr) (eRng rngD1 fr) := fun R dr env σ G H n P rl w => by
  refine hr R dr env σ G H n _ rl (wp_mono (wp_bind' w) (fun dr n1 vs w1 xs G1 H1 l1 r1 s1 => ?_) fun _ _ _ h => h)
  cases hv : vs.any isV with
  | true => rw [hv, if_pos rfl] at w1; exact w1.elim
  | false =>
    rw [hv, if_neg (by simp)] at w1
    have p : RpA k G1 xs (dats vs) := rss_s hv s1
    obtain ⟨ds, e, w2⟩ := wp_of.mp w1
    unfold rngD1 at e
    split at e
    · rename_i j heq
      split at e
      · rename_i hb
        cases e
        rw [heq] at p
        rw [rpa_int1 p]
        exact ⟨j, rfl, by omega, by omega, w2 _ R G1 H1 (Le.refl _) l1 r1 (wk_of rfl (pys_dInts _) wk_range)⟩
      · cases e
    · cases e
theorem si_rng2 {tr : TA} {fr : Env → M (List Vl)} (hr : SA k E tr fr) : SI k E (iRng2 tr) (eRng rngD2 fr) := fun R dr env σ G H n P rl w => by
  refine hr R dr env σ G H n _ rl (wp_mono (wp_bind' w) (fun dr n1 vs w1 xs G1 H1 l1 r1 s1 => ?_) fun _ _ _ h => h)
  cases hv : vs.any isV with
  | true => rw [hv, if_pos rfl] at w1; exact w1.elim
  | false =>
    rw [hv, if_neg (by simp)] at w1
    have p : RpA k G1 xs (dats vs) := rss_s hv s1
    obtain ⟨ds, e, w2⟩ := wp_of.mp w1
    unfold rngD2 at e
    split at e
    · rename_i i j heq
      split at e
      · rename_i hb
        cases e
        rw [heq] at p
        obtain ⟨x, y, rfl, p1, p2⟩ := rpa_two p
        rw [rp_int p1, rp_int p2]
        exact ⟨i, j, rfl, ⟨by omega, by omega, by omega, by omega⟩, w2 _ R G1 H1 (Le.refl _) l1 r1 (wk_of rfl (pys_dInts _) wk_range)⟩
      · cases e
    · cases e
theorem si_rng3 {tr : TA} {fr : Env → M (List Vl)} (hr : SA k E tr fr) : SI k E (iRng3 tr) (eRng rngD3 fr) := fun R dr env σ G H n P rl w => by
  refine hr R dr env σ G H n _ rl (wp_mono (wp_bind' w) (fun dr n1 vs w1 xs G1 H1 l1 r1 s1 => ?_) fun _ _ _ h => h)
  cases hv : vs.any isV with
  | true => rw [hv, if_pos rfl] at w1; exact w1.elim
  | false =>
    rw [hv, if_neg (by simp)] at w1
    have p : RpA k G1 xs (dats vs) := rss_s hv s1
    obtain ⟨ds, e, w2⟩ := wp_of.mp w1
    unfold rngD3 at e
    split at e
    · rename_i i j c heq
      split at e
      · rename_i hb
        cases e
        rw [heq] at p
        obtain ⟨x, ws, rfl, p1, p⟩ := rpa_cons p
        obtain ⟨y, z, rfl, p2, p3⟩ := rpa_two p
        rw [rp_int p1, rp_int p2, rp_int p3]
        obtain ⟨rfl, h1, h2⟩ := hb
        refine ⟨i, j, -1, (i - j).toNat, rfl, RgC.neg (by omega) (by omega) (by omega) (by omega), w2 _ R G1 H1 (Le.refl _) l1 r1 (wk_of rfl (pys_dInts _) fun G' H' l' i' => ⟨?_, fun m d hd => ?_⟩)⟩
        · show (i - j).toNat ≤ _
          simp [rngD]
        · have hm : m < (i - j).toNat := by
            have := (List.getElem?_eq_some_iff.mp hd).1
            simpa [rngD] using this
          refine ⟨hm, fun x H3 y => ?_⟩
          obtain ⟨rfl, rfl⟩ := y
          have : d = .int (i + (m : Nat) * (-1)) := by
            simp [rngD, hm] at hd
            rw [← hd]
            congr 1
            omega
          subst this
          exact ⟨G', Up.refl i', .int _⟩
      · cases e
    · cases e
end
end Y

namespace Y
open PySem PySem.Spec PyProof.Rows L2 Z
def wipeE (env : Env) : List Nat → Env
  | [] => env
  | v :: vs => (wipeE env vs).set v none
def lcGo (tg : D → Env → Option Env) (ft : Env → M Bool) (fe : Env → M Vl) (env : Env) : List D → M (List D)
  | [] => .ok []
  | d :: ds => (M.of (tg d env)).bind fun env1 => (ft env1).bind fun b => if b then (fe env1).bind fun r => if isV r then .bad else (lcGo tg ft fe env ds).bind fun rs => .ok (r.2 :: rs) else lcGo tg ft fe env ds
def noOwn (env : Env) (vs : List Nat) : Bool := vs.all fun i => match env[i]? with
  | some (some (true, _)) => false
  | _ => true
def eLc (fi : Env → M (List D)) (tg : D → Env → Option Env) (ft : Env → M Bool) (fe : Env → M Vl) (vs : List Nat) : Env → M Vl := fun env => (fi env).bind fun ds => if ds.length ≤ 100000 ∧ noOwn env vs = true then ((lcGo tg ft fe (wipeE env vs) ds).nox).bind fun rs => .ok (.o, .lst rs) else .bad
def eYes : Env → M Bool := fun _ => .ok true
def E0 : XK := fun _ _ _ => False
section
variable {k : Kx} {E : XK} {R : Hp} {dr : Dr} {env : Env} {σ : L2.St} {G G2 H H2 : Hp} {n n' : Nat} {te : TE} {f : Env → M Vl}
theorem st_yes : ST k E tYes eYes := fun R dr env σ G H n Q rl w => w G H (Le.refl _) rl
theorem Rl.wipe (r : Rl k R dr env σ G H n) : ∀ vs : List Nat, Rl k R dr (wipeE env vs) (wipe σ vs) G H n
  | [] => r
  | v :: vs => (Rl.wipe r vs).drop
theorem wipe_get (σ : L2.St) (j : Nat) : ∀ vs : List Nat, j ∉ vs → (wipe σ vs)[j]? = σ[j]?
  | [], _ => rfl
  | v :: vs, h => by
    simp only [List.mem_cons, not_or] at h
    unfold wipe
    rw [List.getElem?_set_ne (fun z => h.1 z.symm), wipe_get σ j vs h.2]
theorem wipeE_get (σ : Env) (j : Nat) : ∀ vs : List Nat, j ∉ vs → (wipeE σ vs)[j]? = σ[j]?
  | [], _ => rfl
  | v :: vs, h => by
    simp only [List.mem_cons, not_or] at h
    unfold wipeE
    rw [List.getElem?_set_ne (fun z => h.1 z.symm), wipeE_get σ j vs h.2]
theorem wipe_in (σ : L2.St) (j : Nat) (hj : j < σ.length) : ∀ vs : List Nat, j ∈ vs → (wipe σ vs)[j]? = some none
  | [], h => by cases h
  | v :: vs, h => by
    unfold wipe
    by_cases e : v = j
    · subst e
      rw [List.getElem?_set_self (by rw [wipe_length]; exact hj)]
    · rw [List.getElem?_set_ne e]
      exact wipe_in σ j hj vs (by simpa [Ne.symm e] using h)
theorem wipe_same {σ σ1 : L2.St} {vs : List Nat} (hl : σ1.length = σ.length) (h : ∀ j, j ∉ vs → σ1[j]? = σ[j]?) : wipe σ1 vs = wipe σ vs := by
  apply List.ext_getElem?
  intro j
  by_cases hj : j ∈ vs
  · by_cases hb : j < σ.length
    · rw [wipe_in σ j hb vs hj, wipe_in σ1 j (by omega) vs hj]
    · rw [List.getElem?_eq_none (by rw [wipe_length]; omega), List.getElem?_eq_none (by rw [wipe_length]; omega)]
  · rw [wipe_get σ j vs hj, wipe_get σ1 j vs hj, h j hj]
theorem Rl.rput {a : Addr} {o o' : HO} (r : Rl k (upd R a o) dr env σ G H n) (hn : R a = none) (hd : isFrz o = false) (nt : ∀ ps, o' ≠ .tbl ps) (nc : ∀ c q, o ≠ LamX.CodeO c q) : Rl k (upd R a o') dr env σ G (upd H a o') n := by
  obtain ⟨h1, h2, h3, h4⟩ := r.rs a o upd_same
  obtain ⟨_, _, hh, ap⟩ := r.unres hn hd
  have h2 := h2 hd
  refine ⟨r.i.mut h2, r.nt, fun p hp => ?_, fun q hq => (r.dd q hq).ext fun b hb u hu => ?_, r.dh, r.dj, fun b u e => ?_, r.sh, fun i d e => ?_, r.inj, r.len, r.nb, r.so.upd h3⟩
  · obtain ⟨ps, t1, t2, t3⟩ := r.tb p hp
    have n1 : p.1 ≠ a := fun z => by rw [z, h1] at t1; cases t1; exact h4 ps rfl
    refine ⟨ps, by rw [upd_ne n1]; exact t1, t2, fun pos cv hc => ?_⟩
    obtain ⟨c, a1, a2⟩ := t3 pos cv hc
    have n2 : c ≠ a := fun z => by rw [z, h1] at a2; cases a2; exact nc _ _ rfl
    exact ⟨c, a1, by rw [upd_ne n2]; exact a2⟩
  · rw [upd_ne (fun (z : b = a) => h3 ⟨q, hq, by rw [← z]; exact hb⟩)]; exact hu
  · by_cases hb : b = a
    · subst hb; rw [upd_same] at e; cases e; exact ⟨upd_same, fun _ => h2, h3, nt⟩
    · rw [upd_ne hb] at e
      obtain ⟨e1, e2, e3, e4⟩ := r.rs b u (by rw [upd_ne hb]; exact e)
      exact ⟨by rw [upd_ne hb]; exact e1, e2, e3, e4⟩
  · obtain ⟨b, e1, u, e2, e3, e4⟩ := r.ow i d e
    have nb : b ≠ a := fun z => ap i d e (by rw [← z]; exact e1)
    have : upd R a o' b = none := by rw [upd_ne nb]; have := e4.r; rw [upd_ne nb] at this; exact this
    exact ⟨b, e1, u, by rw [upd_ne nb]; exact e2, e3, e4.g, this, e4.d⟩
theorem noOwn_in {vs : List Nat} (h : noOwn env vs = true) {i : Nat} {d : D} (e : env[i]? = some (some (true, d))) : i ∉ vs := fun hi => by
  have := List.all_eq_true.mp h i hi
  simp only [e] at this
  cases this
theorem not_code {o : HO} (h : (∃ xs, o = .lst xs) ∨ ∃ kvs, o = .dK kvs) : ∀ c q, o ≠ LamX.CodeO c q := by
  rcases h with ⟨xs, rfl⟩ | ⟨kvs, rfl⟩ <;> intro c q z <;> (unfold LamX.CodeO at z; cases z)
theorem se_lc {ti : TI} {fi : Env → M (List D)} {vs : List Nat} {g : TG} {tg : D → Env → Option Env} {tt : TT} {ft : Env → M Bool} {te : TE} {fe : Env → M Vl} (hi : SI k E ti fi) (hg : TgS k vs g tg) (ht : ST k E0 tt ft) (he : SE k E0 te fe) : SE k E (tLc ti g tt te vs) (eLc fi tg ft fe vs) := fun R dr env σ G H n Q rl w => by
  refine hi R dr env σ G H n _ rl (wp_mono (wp_bind' w) (fun dr n1 ds w1 J Rx G1 H1 lx l1 r1 wk => ?_) fun _ _ _ h => h)
  by_cases hc : ds.length ≤ 100000 ∧ noOwn env vs = true
  · rw [if_pos hc] at w1
    have w2 := wp_nox.mp (wp_bind' w1)
    intro A hA
    obtain ⟨hidA, apA⟩ := r1.no hA
    have rA : Rl k (upd Rx A (.lst [])) dr env σ G1 (upd H1 A (.lst [])) n1 := (r1.new hA).res upd_same (by intro ps z; cases z) hidA apA
    refine ⟨fun i mm H' => mm = ds.length - i ∧ i ≤ ds.length ∧ ∃ G' dr n' acc rs, Rl k (upd Rx A (.lst acc)) dr env σ G' H' n' ∧ Le G1 G' ∧ RpA k G' acc rs ∧ rs.length ≤ i ∧
      wp dr n' (lcGo tg ft fe (wipeE env vs) (ds.drop i)) (fun dr n'' rs' => ∀ x G3 H3, Le G G3 → Rl k R dr env σ G3 H3 n'' → RV k R dr env σ G3 H3 x (.o, .lst (rs ++ rs')) → Q x H3) (fun _ _ _ => False),
      ⟨ds.length, by simp, Nat.zero_le _, G1, dr, n1, [], [], rA, Le.refl _, .nil, Nat.zero_le _, w2⟩, ?_⟩
    rintro i mm H' ⟨rfl, hi, G', dr, n', acc, rs, r', l', ra, hrs, w3⟩
    obtain ⟨stop, turn⟩ := wk G' H' l' r'.i fun a o e => ((r'.unres hidA.r rfl).1.rs a o e).1
    by_cases hlt : i < ds.length
    · obtain ⟨go, yl⟩ := turn i ds[i] (List.getElem?_eq_getElem hlt)
      refine .inr ⟨go, fun H' => i + 1 ≤ ds.length ∧ ∃ G' dr n' acc rs, Rl k (upd Rx A (.lst acc)) dr env σ G' H' n' ∧ Le G1 G' ∧ RpA k G' acc rs ∧ rs.length ≤ i + 1 ∧
        wp dr n' (lcGo tg ft fe (wipeE env vs) (ds.drop (i + 1))) (fun dr n'' rs' => ∀ x G3 H3, Le G G3 → Rl k R dr env σ G3 H3 n'' → RV k R dr env σ G3 H3 x (.o, .lst (rs ++ rs')) → Q x H3) (fun _ _ _ => False), fun H' h => ⟨ds.length - (i + 1), by omega, rfl, h⟩, fun x H4 y => ?_⟩
      obtain ⟨G4, u4, p4⟩ := yl x H4 y
      obtain ⟨r4, l4⟩ := r'.up u4
      rw [List.drop_eq_getElem_cons hlt, lcGo] at w3
      obtain ⟨env1, e1, w4⟩ := wp_of.mp (wp_bind' w3)
      have rw4 := r4.wipe vs
      refine hg _ dr _ _ _ H4 n' x ds[i] env1 _ rw4 p4.clean e1 fun σ1 r5 ag len1 => ?_
      have ag2 : ∀ (j : Nat) d, env[j]? = some (some (true, d)) → env1[j]? = some (some (true, d)) ∧ σ1[j]? = σ[j]? := fun j d hj => by
        have nj := noOwn_in hc.2 hj
        obtain ⟨a1, a2⟩ := ag j nj
        exact ⟨by rw [a2, wipeE_get env j vs nj]; exact hj, by rw [a1, wipe_get σ j vs nj]⟩
      have hw : wipe σ1 vs = wipe σ vs := wipe_same (by rw [len1, wipe_length]) fun j hj => by rw [(ag j hj).1, wipe_get σ j vs hj]
      refine ⟨hw, ?_⟩
      refine ht.run r5 (wp_bind' w4) (fun _ _ _ h => h.elim) fun dr n6 b G6 H6 w6 l6 r6 => ?_
      have l46 : Le G' G6 := l4.trans l6
      cases b with
      | false =>
        rw [if_neg (by simp)] at w6
        rw [if_neg (by simp)]
        exact ⟨hlt, G6, dr, n6, acc, rs, r4.back r6 l6 ag2, l'.trans l46, ra.mono l46, by omega, w6⟩
      | true =>
        rw [if_pos rfl] at w6
        rw [if_pos rfl]
        refine he.run r6 (wp_bind' w6) (fun _ _ _ h => h.elim) fun dr n7 v y G7 H7 w7 l7 r7 s7 => ?_
        cases hv : isV v with
        | true => rw [hv, if_pos rfl] at w7; exact w7.elim
        | false =>
          rw [hv, if_neg (by simp)] at w7
          have p7 := rs_s hv s7
          have l47 : Le G' G7 := l46.trans l7
          have r8 := r4.back r7 (l6.trans l7) ag2
          obtain ⟨hA7, _, _, _⟩ := r8.rs A _ upd_same
          have hl8 : acc.length ≤ 100000 := by rw [ra.len]; omega
          refine ⟨acc, hA7, Nat.lt_of_le_of_lt hl8 (by decide), hlt, G7, dr, n7, acc ++ [y], rs ++ [v.2], r8.rput hidA.r rfl (by intro ps z; cases z) (not_code (.inl ⟨_, rfl⟩)), l'.trans l47, (ra.mono l47).app (.cons p7 .nil), by simp; omega, ?_⟩
          refine wp_mono (wp_bind' w7) (fun dr n8 rs' q x G3 H3 l3 r3 rv => ?_) fun _ _ _ h => h
          exact q x G3 H3 l3 r3 (by simpa using rv)
    · have e : i = ds.length := by omega
      subst e
      rw [List.drop_length, lcGo] at w3
      refine .inl ⟨stop, ?_⟩
      obtain ⟨r9, hA9, hh, ap⟩ := r'.unres hidA.r rfl
      refine w3 _ G' H' (l1.trans l') (r9.sub lx) (RV.sub lx ⟨A, rfl, ⟨_, hA9, ?_, hh⟩, ap⟩)
      rw [List.append_nil]
      exact .lst ra
  · rw [if_neg hc] at w1; exact w1.elim
def putD (es : List (Ky × D)) (q : Ky) (d : D) : List (Ky × D) := if es.any (fun e => decide (e.1 = q)) then es.map (fun e => if e.1 = q then (e.1, d) else e) else es ++ [(q, d)]
def getD (es : List (Ky × D)) (q : Ky) : Option D := (es.find? fun e => decide (e.1 = q)).map (·.2)
theorem RpD.any {q : Ky} : ∀ {kvs : List (Key × V)} {es : List (Ky × D)}, RpD k G kvs es → kvs.any (fun e => decide (e.1 = kk q)) = es.any (fun e => decide (e.1 = q))
  | _, _, .nil => rfl
  | _, _, .cons (q := q') _ a => by
    simp only [List.any_cons]
    rw [RpD.any a]
    congr 1
    by_cases h : q' = q
    · subst h; simp
    · have : ¬ kk q' = kk q := fun z => h (kk_inj z)
      simp [h, this]
theorem RpD.mapP {q : Ky} {v : V} {d : D} (p : Rp k G v d) : ∀ {kvs : List (Key × V)} {es : List (Ky × D)}, RpD k G kvs es → RpD k G (kvs.map fun e => if e.1 = kk q then (e.1, v) else e) (es.map fun e => if e.1 = q then (e.1, d) else e)
  | _, _, .nil => .nil
  | _, _, .cons (q := q') h a => by
    simp only [List.map_cons]
    by_cases e : q' = q
    · subst e; rw [if_pos rfl, if_pos rfl]; exact .cons p (RpD.mapP p a)
    · rw [if_neg (fun z => e (kk_inj z)), if_neg e]; exact .cons h (RpD.mapP p a)
theorem RpD.snoc {q : Ky} {v : V} {d : D} (p : Rp k G v d) : ∀ {kvs : List (Key × V)} {es : List (Ky × D)}, RpD k G kvs es → RpD k G (kvs ++ [(kk q, v)]) (es ++ [(q, d)])
  | _, _, .nil => .cons p .nil
  | _, _, .cons h a => .cons h (RpD.snoc p a)
theorem RpD.put {q : Ky} {v : V} {d : D} {kvs : List (Key × V)} {es : List (Ky × D)} (r : RpD k G kvs es) (p : Rp k G v d) : RpD k G (putK kvs (kk q) v) (putD es q d) := by
  rw [putK_putE]
  unfold putE putD
  rw [r.any]
  split
  · exact r.mapP p
  · exact r.snoc p
theorem RpD.val {q : Ky} : ∀ {kvs : List (Key × V)} {es : List (Ky × D)}, RpD k G kvs es → (valV kvs (kk q) = none ∧ getD es q = none) ∨ ∃ v d, valV kvs (kk q) = some v ∧ getD es q = some d ∧ Rp k G v d
  | _, _, .nil => .inl ⟨rfl, rfl⟩
  | (_, v) :: kvs, (q', d) :: es, .cons h a => by
    by_cases e : q' = q
    · subst e
      exact .inr ⟨v, d, by simp [valV], by simp [getD], h⟩
    · have e2 : ¬ kk q' = kk q := fun z => e (kk_inj z)
      rcases RpD.val (q := q) a with ⟨h1, h2⟩ | ⟨v', d', h1, h2, h3⟩
      · exact .inl ⟨by simpa [valV, e2] using h1, by simpa [getD, e] using h2⟩
      · exact .inr ⟨v', d', by simpa [valV, e2] using h1, by simpa [getD, e] using h2, h3⟩
theorem putD_len (es : List (Ky × D)) (q : Ky) (d : D) : (putD es q d).length ≤ es.length + 1 := by
  unfold putD
  split <;> simp
def keyD : D → Option Ky
  | .int i => some (.inl i)
  | .str w => some (.inr w)
  | _ => none
theorem key_kV {v : V} {d : D} {q : Ky} (e : keyD d = some q) (h : Rp k G v d) : v = kV (kk q) := by
  cases d <;> simp only [keyD, Option.some.injEq] at e <;> first
    | (cases e; done)
    | skip
  · subst e; exact rp_int h
  · subst e; exact rp_str h
def dcGo (tg : D → Env → Option Env) (ft : Env → M Bool) (fk fe : Env → M Vl) (env : Env) : List (Ky × D) → List D → M (List (Ky × D))
  | es, [] => .ok es
  | es, d :: ds => (M.of (tg d env)).bind fun env1 => (ft env1).bind fun b => if b then (fk env1).bind fun kr => (M.of (keyD kr.2)).bind fun q => (fe env1).bind fun r => if isV r || isV kr then .bad else dcGo tg ft fk fe env (putD es q r.2) ds else dcGo tg ft fk fe env es ds
def eDc (fi : Env → M (List D)) (tg : D → Env → Option Env) (ft : Env → M Bool) (fk fe : Env → M Vl) (vs : List Nat) : Env → M Vl := fun env => (fi env).bind fun ds => if ds.length ≤ 100000 ∧ noOwn env vs = true then ((dcGo tg ft fk fe (wipeE env vs) [] ds).nox).bind fun rs => .ok (.o, .dic rs) else .bad
theorem se_dc {ti : TI} {fi : Env → M (List D)} {vs : List Nat} {g : TG} {tg : D → Env → Option Env} {tt : TT} {ft : Env → M Bool} {tk te : TE} {fk fe : Env → M Vl} (hi : SI k E ti fi) (hg : TgS k vs g tg) (ht : ST k E0 tt ft) (hk : SE k E0 tk fk) (he : SE k E0 te fe) : SE k E (tDc ti g tt tk te vs) (eDc fi tg ft fk fe vs) := fun R dr env σ G H n Q rl w => by
  refine hi R dr env σ G H n _ rl (wp_mono (wp_bind' w) (fun dr n1 ds w1 J Rx G1 H1 lx l1 r1 wk => ?_) fun _ _ _ h => h)
  by_cases hc : ds.length ≤ 100000 ∧ noOwn env vs = true
  · rw [if_pos hc] at w1
    have w2 := wp_nox.mp (wp_bind' w1)
    intro A hA
    obtain ⟨hidA, apA⟩ := r1.no hA
    have rA : Rl k (upd Rx A (.dK [])) dr env σ G1 (upd H1 A (.dK [])) n1 := (r1.new hA).res upd_same (by intro ps z; cases z) hidA apA
    refine ⟨fun i mm H' => mm = ds.length - i ∧ i ≤ ds.length ∧ ∃ G' dr n' acc es, Rl k (upd Rx A (.dK acc)) dr env σ G' H' n' ∧ Le G1 G' ∧ RpD k G' acc es ∧ es.length ≤ i ∧
      wp dr n' (dcGo tg ft fk fe (wipeE env vs) es (ds.drop i)) (fun dr n'' rs' => ∀ x G3 H3, Le G G3 → Rl k R dr env σ G3 H3 n'' → RV k R dr env σ G3 H3 x (.o, .dic rs') → Q x H3) (fun _ _ _ => False),
      ⟨ds.length, by simp, Nat.zero_le _, G1, dr, n1, [], [], rA, Le.refl _, .nil, Nat.zero_le _, w2⟩, ?_⟩
    rintro i mm H' ⟨rfl, hi, G', dr, n', acc, es, r', l', ra, hrs, w3⟩
    obtain ⟨stop, turn⟩ := wk G' H' l' r'.i fun a o e => ((r'.unres hidA.r rfl).1.rs a o e).1
    by_cases hlt : i < ds.length
    · obtain ⟨go, yl⟩ := turn i ds[i] (List.getElem?_eq_getElem hlt)
      refine .inr ⟨go, fun H' => i + 1 ≤ ds.length ∧ ∃ G' dr n' acc es, Rl k (upd Rx A (.dK acc)) dr env σ G' H' n' ∧ Le G1 G' ∧ RpD k G' acc es ∧ es.length ≤ i + 1 ∧
        wp dr n' (dcGo tg ft fk fe (wipeE env vs) es (ds.drop (i + 1))) (fun dr n'' rs' => ∀ x G3 H3, Le G G3 → Rl k R dr env σ G3 H3 n'' → RV k R dr env σ G3 H3 x (.o, .dic rs') → Q x H3) (fun _ _ _ => False), fun H' h => ⟨ds.length - (i + 1), by omega, rfl, h⟩, fun x H4 y => ?_⟩
      obtain ⟨G4, u4, p4⟩ := yl x H4 y
      obtain ⟨r4, l4⟩ := r'.up u4
      rw [List.drop_eq_getElem_cons hlt, dcGo] at w3
      obtain ⟨env1, e1, w4⟩ := wp_of.mp (wp_bind' w3)
      have rw4 := r4.wipe vs
      refine hg _ dr _ _ _ H4 n' x ds[i] env1 _ rw4 p4.clean e1 fun σ1 r5 ag len1 => ?_
      have ag2 : ∀ (j : Nat) d, env[j]? = some (some (true, d)) → env1[j]? = some (some (true, d)) ∧ σ1[j]? = σ[j]? := fun j d hj => by
        have nj := noOwn_in hc.2 hj
        obtain ⟨a1, a2⟩ := ag j nj
        exact ⟨by rw [a2, wipeE_get env j vs nj]; exact hj, by rw [a1, wipe_get σ j vs nj]⟩
      have hw : wipe σ1 vs = wipe σ vs := wipe_same (by rw [len1, wipe_length]) fun j hj => by rw [(ag j hj).1, wipe_get σ j vs hj]
      refine ⟨hw, ?_⟩
      refine ht.run r5 (wp_bind' w4) (fun _ _ _ h => h.elim) fun dr n6 b G6 H6 w6 l6 r6 => ?_
      have l46 : Le G' G6 := l4.trans l6
      cases b with
      | false =>
        rw [if_neg (by simp)] at w6
        rw [if_neg (by simp)]
        exact ⟨hlt, G6, dr, n6, acc, es, r4.back r6 l6 ag2, l'.trans l46, ra.mono l46, by omega, w6⟩
      | true =>
        rw [if_pos rfl] at w6
        rw [if_pos rfl]
        refine hk.run r6 (wp_bind' w6) (fun _ _ _ h => h.elim) fun dr n7 kv y G7 H7 w7 l7 r7 s7 => ?_
        obtain ⟨q, hq, w7⟩ := wp_of.mp (wp_bind' w7)
        refine he.run r7 (wp_bind' w7) (fun _ _ _ h => h.elim) fun dr n8 v z G8 H8 w8 l8 r8 s8 => ?_
        cases hv : (isV v || isV kv) with
        | true => rw [hv, if_pos rfl] at w8; exact w8.elim
        | false =>
          rw [hv, if_neg (by simp)] at w8
          rw [Bool.or_eq_false_iff] at hv
          have p8 := rs_s hv.1 s8
          have l48 : Le G' G8 := (l46.trans l7).trans l8
          have r9 := r4.back r8 ((l6.trans l7).trans l8) ag2
          obtain ⟨hA7, _, _, _⟩ := r9.rs A _ upd_same
          have hl8 : acc.length ≤ 100000 := by rw [ra.len]; omega
          have := putD_len es q v.2
          exact ⟨acc, kk q, key_kV hq (rs_s hv.2 s7), hA7, Nat.lt_of_le_of_lt hl8 (by decide), hlt, G8, dr, n8, putK acc (kk q) z, putD es q v.2, r9.rput hidA.r rfl (by intro ps z; cases z) (not_code (.inr ⟨_, rfl⟩)), l'.trans l48, (ra.mono l48).put p8, by omega, w8⟩
    · have e : i = ds.length := by omega
      subst e
      rw [List.drop_length, dcGo] at w3
      refine .inl ⟨stop, ?_⟩
      obtain ⟨r9, hA9, hh, ap⟩ := r'.unres hidA.r rfl
      exact w3 _ G' H' (l1.trans l') (r9.sub lx) (RV.sub lx ⟨A, rfl, ⟨_, hA9, .dic ra, hh⟩, ap⟩)
  · rw [if_neg hc] at w1; exact w1.elim
end
end Y

namespace Y
open PySem PySem.Spec PyProof.Rows L2 Z
inductive Out where
  | nx (env : Env) | rt (v : Vl) | bk (env : Env) | ct (env : Env)
def OP (k : Kx) (R : Hp) (G : Hp) (D : Ends) : Dr → Nat → Out → Prop
  | dr, n, .nx e => ∀ σ2 G2 H2, Le G G2 → Rl k R dr e σ2 G2 H2 n → D.nx σ2 H2
  | dr, n, .bk e => ∀ σ2 G2 H2, Le G G2 → Rl k R dr e σ2 G2 H2 n → D.bk σ2 H2
  | dr, n, .ct e => ∀ σ2 G2 H2, Le G G2 → Rl k R dr e σ2 G2 H2 n → D.ct σ2 H2
  | dr, n, .rt v => ∀ x G2 H2, Le G G2 → Rl k R dr [] [] G2 H2 n → RV k R dr [] [] G2 H2 x v → D.rt x H2
def SS (k : Kx) (E : XK) (t : TS) (f : Env → M Out) : Prop := ∀ R dr env σ G H n (D : Ends), Rl k R dr env σ G H n → wp dr n (f env) (OP k R G D) (XP k R G E) → t D σ H
theorem OP.mono {k : Kx} {R G G2 : Hp} {D : Ends} {dr : Dr} {n : Nat} {o : Out} (l : Le G G2) (h : OP k R G D dr n o) : OP k R G2 D dr n o := by
  cases o with
  | nx e => exact fun σ2 G3 H3 l3 r => h σ2 G3 H3 (l.trans l3) r
  | bk e => exact fun σ2 G3 H3 l3 r => h σ2 G3 H3 (l.trans l3) r
  | ct e => exact fun σ2 G3 H3 l3 r => h σ2 G3 H3 (l.trans l3) r
  | rt v => exact fun x G3 H3 l3 r q => h x G3 H3 (l.trans l3) r q
def bNext : Env → M Out := fun env => .ok (.nx env)
def bSeq (f g : Env → M Out) : Env → M Out := fun env => (f env).bind fun o => match o with
  | .nx e => g e
  | o => .ok o
def bRet (fe : Env → M Vl) : Env → M Out := fun env => (fe env).bind fun r => .ok (.rt (match r.1 with | .v _ => (.o, r.2) | _ => r))
def bSet (i : Nat) (fe : Env → M Vl) : Env → M Out := fun env => (fe env).bind fun r => match r.1 with
  | .s => .ok (.nx (env.set i (some (false, r.2))))
  | .o => .ok (.nx (env.set i (some (true, r.2))))
  | .v _ => .bad
def bAsg (tg : D → Env → Option Env) (fe : Env → M Vl) : Env → M Out := fun env => (fe env).bind fun r => if isV r then .bad else (M.of (tg r.2 env)).bind fun e => .ok (.nx e)
def bDrop (fe : Env → M Vl) : Env → M Out := fun env => (fe env).bind fun _ => .ok (.nx env)
def bIf (ft : Env → M Bool) (f g : Env → M Out) : Env → M Out := fun env => (ft env).bind fun b => if b then f env else g env
def bRaise (C : Str) : Env → M Out := fun _ => .raise ⟨C, []⟩
def forGo (tg : D → Env → Option Env) (fb : Env → M Out) : List D → Env → M Out
  | [], env => .ok (.nx env)
  | d :: ds, env => (M.of (tg d env)).bind fun e1 => (fb e1).bind fun o => match o with
    | .nx e => forGo tg fb ds e
    | .ct e => forGo tg fb ds e
    | .bk e => .ok (.nx e)
    | .rt v => .ok (.rt v)
def bFor (fi : Env → M (List D)) (tg : D → Env → Option Env) (fb : Env → M Out) : Env → M Out := fun env => (fi env).bind fun ds => forGo tg fb ds env
def frzE (env : Env) : List Nat → Env
  | [] => env
  | i :: is => match env[i]? with
    | some (some (true, d)) => frzE (env.set i (some (false, d))) is
    | _ => frzE env is
def bFrz (is : List Nat) (f : Env → M Out) : Env → M Out := fun env => f (frzE env is)
section
variable {k : Kx} {E : XK} {R : Hp} {dr : Dr} {env : Env} {σ : L2.St} {G G2 H H2 : Hp} {n n' : Nat} {te : TE} {fe : Env → M Vl} {t u tb : TS} {f g fb : Env → M Out} {tt : TT} {ft : Env → M Bool}
theorem ss_next : SS k E tNext bNext := fun R dr env σ G H n D r w => w σ G H (Le.refl _) r
theorem ss_seq (h1 : SS k E t f) (h2 : SS k E u g) : SS k E (tSeq t u) (bSeq f g) := fun R dr env σ G H n D r w => by
  refine h1 R dr env σ G H n _ r (wp_mono (wp_bind' w) (fun dr n o q => ?_) fun _ _ _ h => h)
  cases o with
  | nx e => exact fun σ2 G2 H2 l r2 => h2 R dr e σ2 G2 H2 n D r2 (wp_mono q (fun _ _ _ z => z.mono l) fun _ _ _ z => z.mono l)
  | bk e => exact q
  | ct e => exact q
  | rt v => exact q
theorem ss_ret (he : SE k E te fe) : SS k E (tRet te) (bRet fe) := fun R dr env σ G H n D r w => by
  refine he R dr env σ G H n _ r (wp_mono (wp_bind' w) (fun dr n v q x G2 H2 l r2 rv => ?_) fun _ _ _ h => h)
  obtain ⟨m, d⟩ := v
  cases m with
  | s => exact q x G2 H2 l r2.bare rv
  | o =>
    obtain ⟨a, e, h1, _⟩ := rv
    exact q x G2 H2 l r2.bare ⟨a, e, h1, fun i d h => by simp at h⟩
  | v i =>
    obtain ⟨h1, h2⟩ := rv
    obtain ⟨a, f1, f2⟩ := r2.ow i d h2
    rw [h1] at f1; cases f1
    exact q _ G2 H2 l r2.bare ⟨a, rfl, f2, fun i d h => by simp at h⟩
theorem ss_set {i : Nat} (he : SE k E te fe) : SS k E (tAsg te (gName i)) (bSet i fe) := fun R dr env σ G H n D r w => by
  refine he R dr env σ G H n _ r (wp_mono (wp_bind' w) (fun dr n v q x G2 H2 l r2 rv => ?_) fun _ _ _ h => h)
  obtain ⟨m, d⟩ := v
  cases m with
  | s => exact q _ G2 H2 l (r2.set rv)
  | o =>
    obtain ⟨a, rfl, h1, h2⟩ := rv
    exact q _ G2 H2 l (r2.setO h1 h2)
  | v i => exact q.elim
theorem ss_asg {vs : List Nat} {gg : TG} {tg : D → Env → Option Env} (hg : TgS k vs gg tg) (he : SE k E te fe) : SS k E (tAsg te gg) (bAsg tg fe) := fun R dr env σ G H n D r w => by
  refine he.run r (wp_bind' w) (fun _ _ _ h => h) fun dr n1 v x G1 H1 w1 l1 r1 s1 => ?_
  cases hv : isV v with
  | true => rw [hv, if_pos rfl] at w1; exact w1.elim
  | false =>
    rw [hv, if_neg (by simp)] at w1
    obtain ⟨e, he, w2⟩ := wp_of.mp (wp_bind' w1)
    exact hg R dr env σ G1 H1 n1 x v.2 e _ r1 (rs_s hv s1) he fun σ1 r3 _ _ => w2 σ1 G1 H1 l1 r3
theorem ss_drop (he : SE k E te fe) : SS k E (tDrop te) (bDrop fe) := fun R dr env σ G H n D r w => by
  exact he R dr env σ G H n _ r (wp_mono (wp_bind' w) (fun dr n v q x G2 H2 l r2 rv => q σ G2 H2 l r2) fun _ _ _ h => h)
theorem ss_if (ht : ST k E tt ft) (h1 : SS k E t f) (h2 : SS k E u g) : SS k E (tIfS tt t u) (bIf ft f g) := fun R dr env σ G H n D r w => by
  refine ht.run r (wp_bind' w) (fun _ _ _ h => h) fun dr n1 b G1 H1 w1 l1 r1 => ?_
  cases b with
  | true => exact h1 R dr env σ G1 H1 n1 D r1 (wp_mono w1 (fun _ _ _ z => z.mono l1) fun _ _ _ z => z.mono l1)
  | false => exact h2 R dr env σ G1 H1 n1 D r1 (wp_mono w1 (fun _ _ _ z => z.mono l1) fun _ _ _ z => z.mono l1)
theorem ss_raise {C : Str} : SS k E (tRaise (fun cls d _ H => E cls d H) (fun _ H Q => Q (.ref (k.ca C)) none H)) (bRaise C) := fun R dr env σ G H n D r w => w none G H (Le.refl _) r.bare rfl
theorem frz_ok : ∀ (is : List Nat) {env : Env} {G : Hp}, Rl k R dr env σ G H n → ∃ G2, Le G G2 ∧ Rl k R dr (frzE env is) σ G2 H n
  | [], env, G, r => ⟨G, Le.refl _, r⟩
  | i :: is, env, G, r => by
    unfold frzE
    split
    · rename_i d h
      obtain ⟨G2, l2, r2⟩ := r.freeze h
      obtain ⟨G3, l3, r3⟩ := frz_ok is r2
      exact ⟨G3, l2.trans l3, r3⟩
    · exact frz_ok is r
theorem ss_frz {is : List Nat} (h : SS k E t f) : SS k E t (bFrz is f) := fun R dr env σ G H n D r w => by
  obtain ⟨G2, l2, r2⟩ := frz_ok is r
  exact h R dr _ σ G2 H n D r2 (wp_mono w (fun _ _ _ z => z.mono l2) fun _ _ _ z => z.mono l2)
theorem ss_for {ti : TI} {fi : Env → M (List D)} {vs : List Nat} {gg : TG} {tg : D → Env → Option Env} (hi : SI k E ti fi) (hg : TgS k vs gg tg) (hb : SS k E tb fb) : SS k E (tFor ti gg tb) (bFor fi tg fb) := fun R dr env σ G H n D rl w => by
  refine hi R dr env σ G H n _ rl (wp_mono (wp_bind' w) (fun dr n1 ds w1 J Rx G1 H1 lx l1 r1 wk => ?_) fun _ _ _ h => h)
  refine ⟨fun i mm σ' H' => mm = ds.length - i ∧ i ≤ ds.length ∧ ∃ G' dr' n' env', Rl k Rx dr' env' σ' G' H' n' ∧ Le G1 G' ∧ wp dr' n' (forGo tg fb (ds.drop i) env') (OP k R G D) (XP k R G E), ⟨ds.length, by simp, Nat.zero_le _, G1, dr, n1, env, r1, Le.refl _, w1⟩, ?_⟩
  rintro i mm σ' H' ⟨rfl, hi, G', dr', n', env', r', l', w2⟩
  obtain ⟨stop, turn⟩ := wk G' H' l' r'.i fun a o e => (r'.rs a o e).1
  by_cases hlt : i < ds.length
  · obtain ⟨go, yl⟩ := turn i ds[i] (List.getElem?_eq_getElem hlt)
    refine .inr ⟨go, fun σ' H' => i + 1 ≤ ds.length ∧ ∃ G' dr' n' env', Rl k Rx dr' env' σ' G' H' n' ∧ Le G1 G' ∧ wp dr' n' (forGo tg fb (ds.drop (i + 1)) env') (OP k R G D) (XP k R G E), fun σ' H' h => ⟨ds.length - (i + 1), by omega, rfl, h⟩, fun x H4 y => ?_⟩
    obtain ⟨G4, u4, p4⟩ := yl x H4 y
    obtain ⟨r4, l4⟩ := r'.up u4
    rw [List.drop_eq_getElem_cons hlt, forGo] at w2
    obtain ⟨e1, h1, w3⟩ := wp_of.mp (wp_bind' w2)
    refine hg Rx dr' env' σ' (clean G4) H4 n' x ds[i] e1 _ r4 p4.clean h1 fun σ1 r5 _ _ => ?_
    have lg : Le G (clean G4) := l1.trans (l'.trans l4)
    refine hb Rx dr' e1 σ1 (clean G4) H4 n' _ r5 (wp_mono (wp_bind' w3) (fun dr n o q => ?_) fun _ _ _ z => XP.sub lx (z.mono lg))
    cases o with
    | nx e => exact fun σ2 G5 H5 l5 r6 => ⟨hlt, G5, dr, n, e, r6, (l'.trans l4).trans l5, q⟩
    | ct e => exact fun σ2 G5 H5 l5 r6 => ⟨hlt, G5, dr, n, e, r6, (l'.trans l4).trans l5, q⟩
    | bk e => exact fun σ2 G5 H5 l5 r6 => q σ2 G5 H5 (lg.trans l5) (r6.sub lx)
    | rt v => exact fun x G5 H5 l5 r6 rv => q x G5 H5 (lg.trans l5) (r6.sub lx) (RV.sub lx rv)
  · have e : i = ds.length := by omega
    subst e
    rw [List.drop_length, forGo] at w2
    exact .inl ⟨stop, w2 σ' G' H' (l1.trans l') (r'.sub lx)⟩
def RVs (k : Kx) (R : Hp) (dr : Dr) (env : Env) (σ : L2.St) (G H : Hp) : List V → List Vl → Prop
  | [], [] => True
  | x :: xs, r :: rs => RV k R dr env σ G H x r ∧ (∀ a, r.1 = .o → x = .ref a → ∃ o, H a = some o ∧ RVs k (upd R a o) dr env σ G H xs rs) ∧ (r.1 ≠ .o → RVs k R dr env σ G H xs rs)
  | _, _ => False
def SAo (k : Kx) (E : XK) (t : TA) (f : Env → M (List Vl)) : Prop := ∀ R dr env σ G H n Q, Rl k R dr env σ G H n →
  wp dr n (f env) (fun dr n' r => ∀ xs G2 H2, Le G G2 → Rl k R dr env σ G2 H2 n' → RVs k R dr env σ G2 H2 xs r → Q xs H2) (XP k R G E) → t σ H Q
theorem sao_nil : SAo k E tNil eNil := fun R dr env σ G H n Q r w => w [] G H (Le.refl _) r trivial
theorem sao_cons {ta : TE} {fa : Env → M Vl} {tr : TA} {fr : Env → M (List Vl)} (ha : SE k E ta fa) (hr : SAo k E tr fr) : SAo k E (tCons ta tr) (eCons fa fr) := fun R dr env σ G H n Q rl w => by
  refine ha R dr env σ G H n _ rl (wp_mono (wp_bind' w) (fun dr n1 v w1 x G1 H1 l1 r1 rv => ?_) fun _ _ _ h => h)
  obtain ⟨m, d⟩ := v
  cases m with
  | o =>
    obtain ⟨a, rfl, ⟨o, h1, h2, h3⟩, h4⟩ := rv
    refine hr (upd R a o) dr env σ G1 H1 n1 _ (r1.res h1 h2.nt h3 h4) (wp_mono (wp_bind' w1) (fun dr n2 vs q xs G2 H2 l2 r2 rs => ?_) fun dr n2 x z dd G2 H2 l2 r2 hd => z dd G2 H2 (l1.trans l2) (r2.unres h3.r h2.nf).1 hd)
    obtain ⟨r3, g1, g2, g3⟩ := r2.unres h3.r h2.nf
    exact q _ G2 H2 (l1.trans l2) r3 ⟨⟨a, rfl, ⟨o, g1, h2.mono l2, g2⟩, g3⟩, fun b _ e => by cases e; exact ⟨o, g1, rs⟩, fun z => absurd rfl z⟩
  | s =>
    refine hr R dr env σ G1 H1 n1 _ r1 (wp_mono (wp_bind' w1) (fun dr n2 vs q xs G2 H2 l2 r2 rs => ?_) fun _ _ _ z => z.mono l1)
    exact q _ G2 H2 (l1.trans l2) r2 ⟨Rp.mono l2 rv, fun _ z => (by cases z), fun _ => rs⟩
  | v i =>
    refine hr R dr env σ G1 H1 n1 _ r1 (wp_mono (wp_bind' w1) (fun dr n2 vs q xs G2 H2 l2 r2 rs => ?_) fun _ _ _ z => z.mono l1)
    exact q _ G2 H2 (l1.trans l2) r2 ⟨rv, fun _ z => (by cases z), fun _ => rs⟩
def setsE (env : Env) : List Nat → List Vl → Option Env
  | [], [] => some env
  | i :: is, (.s, d) :: rs => setsE (env.set i (some (false, d))) is rs
  | i :: is, (.o, d) :: rs => setsE (env.set i (some (true, d))) is rs
  | _, _ => none
def bSets (is : List Nat) (fa : Env → M (List Vl)) : Env → M Out := fun env => (fa env).bind fun rs => (M.of (setsE env is rs)).bind fun e => .ok (.nx e)
def setsV (σ : L2.St) : List Nat → List V → L2.St
  | i :: is, x :: xs => setsV (σ.set i (some x)) is xs
  | _, _ => σ
theorem sets_ok : ∀ (is : List Nat) (xs : List V) (rs : List Vl) {R : Hp} {env env1 : Env} {σ : L2.St}, Rl k R dr env σ G H n → setsE env is rs = some env1 → (∃ (R1 : Hp) (env0 : Env) (σ0 : L2.St), RVs k R1 dr env0 σ0 G H xs rs ∧ (∀ a, R1 a = none → Apart env0 σ0 a → R a = none ∧ Apart env σ a)) → xs.length = rs.length ∧ Rl k R dr env1 (setsV σ is xs) G H n
  | [], xs, rs, R, env, env1, σ, r, e, ⟨R1, env0, σ0, h, _⟩ => by
    cases rs with
    | nil =>
      cases e
      cases xs with
      | nil => exact ⟨rfl, r⟩
      | cons _ _ => exact h.elim
    | cons _ _ => cases e
  | i :: is, xs, rs, R, env, env1, σ, r, e, ⟨R1, env0, σ0, h, hap⟩ => by
    cases rs with
    | nil => cases e
    | cons v rs =>
      cases xs with
      | nil => exact h.elim
      | cons x xs =>
        obtain ⟨m, d⟩ := v
        obtain ⟨h1, h2, h3⟩ := h
        cases m with
        | v j => cases e
        | s =>
          obtain ⟨e1, e2⟩ := sets_ok is xs rs (r.set (i := i) h1) e ⟨R1, env0, σ0, h3 (by intro z; cases z), fun a f1 f2 => ⟨(hap a f1 f2).1, fun j d' g1 g2 => by
            rcases set_get g1 with ⟨z1, z2, z3⟩ | ⟨z1, z2⟩
            · cases z2
            · rw [List.getElem?_set_ne z1] at g2
              exact (hap a f1 f2).2 j d' z2 g2⟩⟩
          exact ⟨by simp [e1], e2⟩
        | o =>
          obtain ⟨a, rfl, ⟨o, g1, g2, g3⟩, g4⟩ := h1
          obtain ⟨z1, z2⟩ := hap a g3.r g4
          obtain ⟨o', f1, f2⟩ := h2 a rfl rfl
          obtain ⟨e1, e2⟩ := sets_ok is xs rs (r.setO (i := i) ⟨o, g1, g2, g3.g, z1, g3.d⟩ z2) e ⟨upd R1 a o', env0, σ0, f2, fun b y1 y2 => by
            have nb : b ≠ a := fun z => by rw [z, upd_same] at y1; cases y1
            rw [upd_ne nb] at y1
            obtain ⟨w1, w2⟩ := hap b y1 y2
            refine ⟨w1, fun j d' p1 p2 => ?_⟩
            rcases set_get p1 with ⟨k1, k2, k3⟩ | ⟨k1, k2⟩
            · subst k1
              rw [List.getElem?_set_self (Nat.lt_of_lt_of_le k3 r.len)] at p2
              cases p2; exact nb rfl
            · rw [List.getElem?_set_ne k1] at p2
              exact w2 j d' k2 p2⟩
          exact ⟨by simp [e1], e2⟩
theorem sets_run {is : List Nat} {ta : TA} {fa : Env → M (List Vl)} {D : Ends} {Q : List V → Hp → Prop} (ha : SAo k E ta fa) (rl : Rl k R dr env σ G H n) (w : wp dr n (bSets is fa env) (OP k R G D) (XP k R G E)) (hq : ∀ vs H1, vs.length = is.length → D.nx (setsV σ is vs) H1 → Q vs H1) : ta σ H Q := by
  refine ha R dr env σ G H n _ rl (wp_mono (wp_bind' w) (fun dr n1 vs w1 xs G1 H1 l1 r1 rs => ?_) fun _ _ _ h => h)
  obtain ⟨e, h1, w2⟩ := wp_of.mp (wp_bind' w1)
  obtain ⟨h2, r2⟩ := sets_ok is xs vs r1 h1 ⟨R, env, σ, rs, fun a f1 f2 => ⟨f1, f2⟩⟩
  have hl : ∀ (is : List Nat) (rs : List Vl) (env : Env), setsE env is rs = some e → rs.length = is.length := by
    intro is
    induction is with
    | nil => intro rs env h; cases rs with | nil => rfl | cons _ _ => cases h
    | cons i is ih =>
      intro rs env h
      cases rs with
      | nil => cases h
      | cons v rs =>
        obtain ⟨m, d⟩ := v
        cases m with
        | s => simp [ih rs _ h]
        | o => simp [ih rs _ h]
        | v j => cases h
  exact hq _ _ (h2.trans (hl _ _ _ h1)) (w2 _ G1 H1 l1 r2)
end
end Y

namespace Y
open PySem PySem.Spec PyProof.Rows L2 Z
section
variable {k : Kx} {E : XK} {R : Hp} {dr : Dr} {env : Env} {σ : L2.St} {G G2 H H2 : Hp} {n n' : Nat} {te ta tb td tk tx : TE} {fe fa fb fd fk fx : Env → M Vl}
theorem ss_par {i j : Nat} {ta : TA} {fa : Env → M (List Vl)} (ha : SAo k E ta fa) : SS k E (tPar i j ta) (bSets [i, j] fa) := fun R dr env σ G H n D rl w =>
  sets_run ha rl w fun vs H1 hl q => match vs, hl, q with
    | [v, w], _, q => ⟨v, w, rfl, q⟩
theorem lst_view (r : Rl k R dr env σ G H n) {x : V} {v : Vl} {ds : List D} (e : v.2 = .lst ds) (h : RS k env σ G x v) : ∃ a vs, x = .ref a ∧ SqL k.K H a vs ∧ RpA k G vs ds := by
  obtain ⟨m, d⟩ := v
  have e : d = .lst ds := e
  subst e
  have key : Rp k G x (.lst ds) → ∃ a vs, x = .ref a ∧ SqL k.K H a vs ∧ RpA k G vs ds := fun p => by
    obtain ⟨a, vs, rfl, h1, h2⟩ := rp_lst p
    exact ⟨a, vs, rfl, .inl (.inl (r.i.ex h1 rfl)), h2⟩
  cases m with
  | s => exact key h
  | o => exact key h
  | v i =>
    obtain ⟨h1, h2⟩ := h
    obtain ⟨a, f1, o, f2, f3, _⟩ := r.ow i _ h2
    rw [h1] at f1; cases f1
    cases f3 with | lst f3 => exact ⟨a, _, rfl, .inl (.inl f2), f3⟩
theorem dic_view (r : Rl k R dr env σ G H n) {x : V} {v : Vl} {ds : List (Ky × D)} (e : v.2 = .dic ds) (h : RS k env σ G x v) : ∃ a vs, x = .ref a ∧ Rd H a (.dK vs) ∧ RpD k G vs ds := by
  obtain ⟨m, d⟩ := v
  have e : d = .dic ds := e
  subst e
  have key : Rp k G x (.dic ds) → ∃ a vs, x = .ref a ∧ Rd H a (.dK vs) ∧ RpD k G vs ds := fun p => by
    obtain ⟨a, vs, rfl, h1, h2⟩ := rp_dic p
    exact ⟨a, vs, rfl, r.i.rd h1, h2⟩
  cases m with
  | s => exact key h
  | o => exact key h
  | v i =>
    obtain ⟨h1, h2⟩ := h
    obtain ⟨a, f1, o, f2, f3, _⟩ := r.ow i _ h2
    rw [h1] at f1; cases f1
    cases f3 with | dic f3 => exact ⟨a, _, rfl, .inl f2, f3⟩
theorem rs_key (r : Rl k R dr env σ G H n) {x : V} {v : Vl} {q : Ky} (e : keyD v.2 = some q) (h : RS k env σ G x v) : x = kV (kk q) := by
  obtain ⟨m, d⟩ := v
  cases m with
  | s => exact key_kV e h
  | o => exact key_kV e h
  | v i =>
    obtain ⟨h1, h2⟩ := h
    obtain ⟨a, f1, o, f2, f3, _⟩ := r.ow i _ h2
    cases f3 <;> cases e
def isDic : D → Option (List (Ky × D))
  | .dic es => some es
  | _ => none
theorem isDic_some {d : D} {es : List (Ky × D)} (h : isDic d = some es) : d = .dic es := by
  cases d <;> simp only [isDic, Option.some.injEq] at h <;> first
    | (cases h; done)
    | rw [h]
def eDGet2 (fd fk fx : Env → M Vl) : Env → M Vl := fun env => (fd env).bind fun x => (M.of (isDic x.2)).bind fun es => (fk env).bind fun y => (fx env).bind fun z => (M.of (keyD y.2)).bind fun q => if isV z then .bad else .ok (.s, (getD es q).getD z.2)
theorem se_dget2 (hd : SE k E td fd) (hk : SE k E tk fk) (hx : SE k E tx fx) : SE k E (tDGet2 td tk tx) (eDGet2 fd fk fx) := fun R dr env σ G H n Q rl w => by
  refine hd.run rl (wp_bind' w) (fun _ _ _ h => h) fun dr n1 v x G1 H1 w1 l1 r1 s1 => ?_
  obtain ⟨es, hes, w1⟩ := wp_of.mp (wp_bind' w1)
  have hv := isDic_some hes
  obtain ⟨a, vs, rfl, h1, h2⟩ := dic_view r1 hv s1
  refine ⟨a, rfl, .inl ⟨vs, h1⟩, ?_⟩
  refine hk.run r1 (wp_bind' w1) (fun _ _ _ h => h.mono l1) fun dr n2 v2 y G2 H2 w2 l2 r2 s2 => ?_
  refine hx.run r2 (wp_bind' w2) (fun _ _ _ h => h.mono (l1.trans l2)) fun dr n3 v3 z G3 H3 w3 l3 r3 s3 => ?_
  obtain ⟨q, e2, w4⟩ := wp_of.mp (wp_bind' w3)
  cases hz : isV v3 with
  | true => rw [hz, if_pos rfl] at w4; exact w4.elim
  | false =>
    rw [hz, if_neg (by simp)] at w4
    obtain ⟨a', vs', e1, g1, g2⟩ := dic_view r3 hv (s1.mono (l2.trans l3))
    cases e1
    refine ⟨valV vs' (kk q), .inl ⟨vs', kk q, g1, rs_key r2 e2 s2, rfl⟩, w4 _ G3 H3 (l1.trans (l2.trans l3)) r3 ?_⟩
    rcases g2.val (q := q) with ⟨z1, z2⟩ | ⟨v', d', z1, z2, z3⟩
    · rw [z1, z2]; exact rs_s hz s3
    · rw [z1, z2]; exact z3
theorem RpD.isSome {q : Ky} {kvs : List (Key × V)} {es : List (Ky × D)} (r : RpD k G kvs es) : (valV kvs (kk q)).isSome = (getD es q).isSome := by
  rcases r.val (q := q) with ⟨z1, z2⟩ | ⟨v', d', z1, z2, z3⟩ <;> rw [z1, z2] <;> rfl
def ixD : D → D → Option D
  | .lst ds, .int i => atI ds i
  | .tup ds, .int i => atI ds i
  | .str w, .int i => if w.length ≤ 10000000 then (atI w i).map fun c => .str [c] else none
  | _, _ => none
theorem RpA.at {vs : List V} {ds : List D} {i : Int} {d : D} (r : RpA k G vs ds) (h : atI ds i = some d) : ∃ v, atI vs i = some v ∧ Rp k G v d := by
  unfold atI at h ⊢
  rw [r.len]
  cases e : ixN ds.length i with
  | none => rw [e] at h; cases h
  | some j =>
    rw [e] at h
    exact r.get h
theorem rs_int (r : Rl k R dr env σ G H n) {x : V} {v : Vl} {i : Int} (e : v.2 = .int i) (h : RS k env σ G x v) : x = .int i := by
  obtain ⟨m, d⟩ := v
  have e : d = .int i := e
  subst e
  cases m with
  | s => exact rp_int h
  | o => exact rp_int h
  | v i =>
    obtain ⟨h1, h2⟩ := h
    obtain ⟨a, f1, o, f2, f3, f4⟩ := r.ow i _ h2
    cases f3
def ownL (env : Env) (i : Nat) : Option (List D) := match env[i]? with
  | some (some (true, .lst ds)) => some ds
  | _ => none
def ownD (env : Env) (i : Nat) : Option (List (Ky × D)) := match env[i]? with
  | some (some (true, .dic ds)) => some ds
  | _ => none
theorem ownD_some {i : Nat} {ds : List (Ky × D)} (h : ownD env i = some ds) : env[i]? = some (some (true, .dic ds)) := by
  unfold ownD at h
  split at h
  · rename_i e; cases h; exact e
  · cases h
theorem own_dic (r : Rl k R dr env σ G H n) {i : Nat} {ds : List (Ky × D)} (h : env[i]? = some (some (true, .dic ds))) : ∃ a vs, σ[i]? = some (some (.ref a)) ∧ H a = some (.dK vs) ∧ RpD k G vs ds := by
  obtain ⟨a, f1, o, f2, f3, _⟩ := r.ow i _ h
  cases f3 with | dic f3 => exact ⟨a, _, f1, f2, f3⟩
def bApp (i : Nat) (fe : Env → M Vl) : Env → M Out := fun env => (M.of (ownL env i)).bind fun ds => (fe env).bind fun r => if isV r || decide (1000000 ≤ ds.length) then .bad else .ok (.nx (env.set i (some (true, .lst (ds ++ [r.2])))))
def bDPut (i : Nat) (fk fe : Env → M Vl) : Env → M Out := fun env => (fe env).bind fun r => (M.of (ownD env i)).bind fun es => (fk env).bind fun kr => (M.of (keyD kr.2)).bind fun q => if isV r || decide (1000000 ≤ es.length) then .bad else .ok (.nx (env.set i (some (true, .dic (putD es q r.2)))))
theorem ss_dput {i : Nat} (hk : SE k E tk fk) (he : SE k E te fe) : SS k E (sDPut (tVar i) tk te) (bDPut i fk fe) := fun R dr env σ G H n D rl w => by
  refine he.run rl (wp_bind' w) (fun _ _ _ h => h) fun dr n1 v y G1 H1 w1 l1 r1 s1 => ?_
  obtain ⟨es, h0, w1⟩ := wp_of.mp (wp_bind' w1)
  have h0 := ownD_some h0
  obtain ⟨a, vs, f1, f2, f3⟩ := own_dic r1 h0
  refine ⟨.ref a, f1, ?_⟩
  refine hk.run r1 (wp_bind' w1) (fun _ _ _ h => h.mono l1) fun dr n2 v2 z G2 H2 w2 l2 r2 s2 => ?_
  obtain ⟨q, hq, w2⟩ := wp_of.mp (wp_bind' w2)
  cases hv : (isV v || decide (1000000 ≤ es.length)) with
  | true => rw [hv, if_pos rfl] at w2; exact w2.elim
  | false =>
    rw [hv, if_neg (by simp)] at w2
    simp only [Bool.or_eq_false_iff, decide_eq_false_iff_not] at hv
    obtain ⟨a', vs', g1, g2, g3⟩ := own_dic r2 h0
    rw [f1] at g1; cases g1
    have hl : vs'.length < sizeLine := by rw [g3.len]; exact Nat.lt_of_lt_of_le (Nat.lt_of_not_le hv.2) (by decide)
    exact ⟨a, _, rfl, .inl ⟨vs', kk q, g2, rs_key r2 hq s2, hl, rfl⟩, w2 σ G2 _ (l1.trans l2) (r2.chg h0 f1 (.dic (g3.put (rs_s hv.1 (s1.mono l2)))))⟩
def bodyM (ar N : Nat) (b : Env → M Out) : List D → M Vl := fun ds => if ds.length = ar then (b (ds.map (fun d => some (false, d)) ++ List.replicate (N - ar) none)).bind fun o => match o with
  | .nx _ => .ok (.s, .non)
  | .rt v => .ok v
  | _ => .bad
  else .bad
theorem body_ok {t : XK → TS} {b : Env → M Out} {ar : Nat} {N : List Str} {vs : List V} {H : Hp} {Q : VK} {E : XK} (h : ∀ E, SS k E (t E) b) (q : spM k (bodyM ar N.length b) vs H Q E) (hN : ar ≤ N.length) : vs.length = ar ∧ t E { nx := fun _ H2 => Q .non H2, rt := Q } (start N vs) H := by
  obtain ⟨R, dr, G, n, ds, r, p, w⟩ := q
  by_cases hl : ds.length = ar
  · unfold bodyM at w
    rw [if_pos hl] at w
    have hv : vs.length = ar := by rw [p.len, hl]
    refine ⟨hv, ?_⟩
    have r0 : Rl k R dr (ds.map (fun d => some (false, d)) ++ List.replicate (N.length - ar) none) (start N vs) G H n := by
      have key : ∀ (i : Nat) (b : Bool) d, (ds.map (fun d => some (false, d)) ++ List.replicate (N.length - ar) (none : Option (Bool × D)))[i]? = some (some (b, d)) → b = false ∧ ds[i]? = some d := by
        intro i b d e
        by_cases hi : i < ds.length
        · rw [List.getElem?_append_left (by simpa using hi), List.getElem?_map, List.getElem?_eq_getElem hi] at e
          simp only [Option.map_some, Option.some.injEq, Prod.mk.injEq] at e
          obtain ⟨rfl, rfl⟩ := e
          exact ⟨rfl, List.getElem?_eq_getElem hi⟩
        · rw [List.getElem?_append_right (by simpa using hi)] at e
          rw [List.getElem?_replicate] at e
          split at e <;> cases e
      refine ⟨r.i, r.nt, r.tb, r.dd, r.dh, r.dj, r.rs, fun i d e => ?_, fun i d e => ?_, fun i j a d d' e => ?_, ?_, r.nb, r.so⟩
      · obtain ⟨_, e2⟩ := key i false d e
        obtain ⟨v, g1, g2⟩ := p.get e2
        refine ⟨v, ?_, g2⟩
        unfold L2.start
        have hi : i < vs.length := (List.getElem?_eq_some_iff.mp g1).1
        rw [List.getElem?_append_left (by simpa using hi), List.getElem?_map, g1]; rfl
      · cases (key i true d e).1
      · cases (key i true d e).1
      · unfold L2.start
        simp only [List.length_append, List.length_map, List.length_replicate]
        omega
    refine h E R dr _ _ G H n _ r0 (wp_mono (wp_bind' w) (fun dr n o q => ?_) fun _ _ _ z => z)
    cases o with
    | nx e => exact fun σ2 G2 H2 l r2 => q .non G2 H2 l r2.bare Rp.non
    | rt v => exact fun x G2 H2 l r2 rv => q x G2 H2 l r2 rv
    | bk e => exact q.elim
    | ct e => exact q.elim
  · unfold bodyM at w
    rw [if_neg hl] at w; exact w.elim
end
end Y

namespace Y
open PySem PySem.Spec PyProof.Rows L2 Z
def sp_takeC : Sp := fun vs H Q E => ∃ (m w c : Addr) (n : Nat) (tot : Int) (ws cs : List Int) (r t : Int), vs = [.ref m, .int tot] ∧ H m = some (.dK (dkv w c r t)) ∧ H w = some (.lst (ws.map .int)) ∧ H c = some (.lst (cs.map .int)) ∧ c ≠ w ∧ (∀ x ∈ cs, 0 ≤ x ∧ x < 2147483648) ∧ 0 ≤ t ∧ t + (n + 1 : Nat) ≤ 1000000000000 ∧ 0 < tot ∧ tot < 1000000000 ∧
  ∀ v H2, 0 ≤ v → v < tot → (∀ a, a ≠ m → a ≠ w → ∀ o, H a = some o → H2 a = some o) → (∃ (ws' : List Int) (r' t' : Int), H2 m = some (.dK (dkv w c r' t')) ∧ H2 w = some (.lst (ws'.map .int)) ∧ 0 ≤ t' ∧ t' ≤ t + 1) → Q (.int v) H2
theorem pure_takeC {K : PySem.W.Frag} {ca : Str → Addr} (vs : List V) (H : Hp) (Q : VK) (E : XK) (h : sp_takeC vs H Q E) : vs.length = 2 ∧ t__law_take K ca E { nx := fun _ H2 => Q .non H2, rt := Q } (start ["_law_draw", "_law_total", "_law_found"] vs) H := by
  obtain ⟨m, w, c, n, tot, ws, cs, r, t, rfl, hm, hw, hc, hcw, hcs, ht, htn, h0, h1, k⟩ := h
  refine ⟨rfl, ?_⟩
  have nmw : m ≠ w := fun e => by rw [e, hw] at hm; cases hm
  have ncm : c ≠ m := fun e => by rw [e, hm] at hc; cases hc
  -- what follows the first statement
  have tail : ∀ (H' : Hp) (ws' : List Int) (r' t' : Int), H' m = some (.dK (dkv w c r' t')) → H' w = some (.lst (ws'.map .int)) → (∀ a, a ≠ m → a ≠ w → ∀ o, H a = some o → H' a = some o) → 0 ≤ t' → t' ≤ t + 1 →
      tSeq (tAsg (tOp (rI (fun _ j => j ≠ 0) fun i j => .int (i.fmod j)) (tCB rInt1 (tCons (tDGet (tVar 0) (tC (.str "rest"))) tNil)) (tVar 1)) (gName 2)) (tSeq (sDPut (tVar 0) (tC (.str "rest")) (tOp (rI CDivN fun i j => .int (i.fdiv j)) (tDGet (tVar 0) (tC (.str "rest"))) (tVar 1))) (tRet (tVar 2)))
        { nx := fun _ H2 => Q .non H2, rt := Q } (start ["_law_draw", "_law_total", "_law_found"] [.ref m, .int tot]) H' := by
    intro H' ws' r' t' hm' hw' hk ht' htn'
    refine ⟨.ref m, rfl, m, .int r', rfl, dget_of hm' (g_rest w c r' t'), .inl ⟨r', rfl, .int tot, rfl, r', tot, rfl, rfl, by omega, ?_⟩⟩
    refine ⟨.ref m, rfl, m, .int r', rfl, dget_of hm' (g_rest w c r' t'), .int tot, rfl, r', tot, rfl, rfl, ⟨by omega, by omega⟩, .ref m, rfl, m, upd H' m (.dK (dkv w c (r'.fdiv tot) t')), rfl, .inl ⟨_, kq "rest", hm', rfl, by show 4 < sizeLine; decide, by rw [p_rest]⟩, ?_⟩
    have hf := fmod_bd r' tot h0
    have hc' : H' c = some (.lst (cs.map .int)) := hk c ncm hcw _ hc
    refine ⟨.int (r'.fmod tot), rfl, k _ _ hf.1 hf.2 (fun a h1 h2 o e => by rw [upd_ne h1]; exact hk a h1 h2 o e) ⟨ws', r'.fdiv tot, t', upd_same, by rw [upd_ne nmw.symm]; exact hw', ht', htn'⟩⟩
  refine ⟨.ref m, rfl, m, .int r, rfl, dget_of hm (g_rest w c r t), rfl, _, rfl, ?_⟩
  by_cases hr : V.int r = V.int 0
  · dsimp only
    rw [if_pos (decide_eq_true hr)]
    refine ⟨.ref m, rfl, m, .ref w, rfl, dget_of hm (g_wide w c r t), Nat.zero_le _, fun p hp => ?_⟩
    have npm : p ≠ m := fun e => by rw [e, hm] at hp; cases hp
    have npw : p ≠ w := fun e => by rw [e, hw] at hp; cases hp
    have npc : p ≠ c := fun e => by rw [e, hc] at hp; cases hp
    have hm1 : upd H p (.lst []) m = some (.dK (dkv w c r t)) := by rw [upd_ne npm.symm]; exact hm
    have hw1 : upd H p (.lst []) w = some (.lst (ws.map .int)) := by rw [upd_ne npw.symm]; exact hw
    have hc1 : upd H p (.lst []) c = some (.lst (cs.map .int)) := by rw [upd_ne npc.symm]; exact hc
    have dws : ∀ xs : List Int, DpAll K (upd H p (.lst [])) (xs.map V.int) (xs.map .int) := by
      intro xs
      induction xs with
      | nil => exact .nil
      | cons x xs ih => exact .cons (.int x) ih
    refine ⟨dL dI ws, dL dI [], .lst (.inl (.inl hw1)) (dws ws), .lst (.inl (.inl upd_same)) .nil, (eqt_L eqt_I).shaped (by decide) (fun _ _ => trivial), (eqt_L eqt_I).shaped (by decide) (fun _ _ => trivial), _, rfl, ?_⟩
    dsimp only
    rw [(eqt_L eqt_I).eq]
    cases ws with
    | nil =>
      rw [if_neg (by simp)]
      refine ⟨.ref m, rfl, m, w, c, n, [], cs, r, t, rfl, hm1, hw1, hc1, hcs, ht, by omega, fun v H2 k2 e2 => ?_⟩
      refine ⟨.ref m, rfl, m, upd H2 m (.dK (dkv w c v (t + 1))), rfl, .inl ⟨_, kq "rest", e2, rfl, by show 4 < sizeLine; decide, by rw [p_rest]⟩, ?_⟩
      refine tail _ [] v (t + 1) upd_same (by rw [upd_ne nmw.symm]; exact k2 w nmw.symm _ hw1) (fun a n1 n2 o e => ?_) (by omega) (by omega)
      have nap : a ≠ p := fun z => by rw [z, hp] at e; cases e
      rw [upd_ne n1]
      exact k2 a n1 o (by rw [upd_ne nap]; exact e)
    | cons x ws =>
      rw [if_pos (by simp)]
      refine ⟨.ref m, rfl, m, .ref w, rfl, dget_of hm1 (g_wide w c r t), .inl ⟨rfl, _, .inl (.inl hw1)⟩, w, _, 0, 0, .int x, rfl, rfl, hw1, by decide, by decide, ?_, rfl, ?_⟩
      · show seqIndex? 0 ((x :: ws).map V.int).length = some 0
        rw [List.length_map, List.length_cons]
        unfold seqIndex?
        simp
      · have hm2 : upd (upd H p (.lst [])) w (.lst (((x :: ws).map V.int).eraseIdx 0)) m = some (.dK (dkv w c r t)) := by rw [upd_ne nmw]; exact hm1
        refine ⟨.ref m, rfl, m, upd (upd (upd H p (.lst [])) w (.lst (((x :: ws).map V.int).eraseIdx 0))) m (.dK (dkv w c x t)), rfl, .inl ⟨_, kq "rest", hm2, rfl, by show 4 < sizeLine; decide, by rw [p_rest]⟩, ?_⟩
        refine tail _ ws x t upd_same (by rw [upd_ne nmw.symm, upd_same]; rfl) (fun a n1 n2 o e => ?_) ht (by omega)
        have nap : a ≠ p := fun z => by rw [z, hp] at e; cases e
        rw [upd_ne n1, upd_ne n2, upd_ne nap]
        exact e
  · dsimp only
    rw [if_neg (by simpa using hr)]
    exact tail H ws r t hm hw (fun _ _ _ _ e => e) ht (by omega)
def sp_begunC (K : PySem.W.Frag) : Sp := fun vs H Q E => ∃ (G : Hp) (a : Addr) (ns : List Int), vs = [.ref a] ∧ In G H ∧ SqL K G a (ns.map .int) ∧ ns.length ≤ 1000 ∧
  ∀ m w c (ws cs : List Int) H2, H m = none → H w = none → H c = none → c ≠ w → Le H H2 → H2 m = some (.dK (dkv w c 0 0)) → H2 w = some (.lst (ws.map .int)) → H2 c = some (.lst (cs.map .int)) → (∀ x ∈ cs, 0 ≤ x ∧ x < 2147483648) → Q (.ref m) H2
theorem pure_begunC {K : PySem.W.Frag} {ca : Str → Addr} (vs : List V) (H : Hp) (Q : VK) (E : XK) (h : sp_begunC K vs H Q E) : vs.length = 1 ∧ t__law_begun K ca E { nx := fun _ H2 => Q .non H2, rt := Q } (start ["_law_script", "_law_wide", "_law_cell"] vs) H := by
  obtain ⟨G, a, ns, rfl, hin, hs, hl, k⟩ := h
  refine ⟨rfl, ?_⟩
  unfold t__law_begun tSeq tAsg tRet tDisp
  refine lc_new (D := dI) (xs := ns) (p := fun c => decide ((10 : Int) ^ (18 : Int).toNat ≤ (c.natAbs : Int))) (f := fun c => dI ((c.natAbs : Int) - (10 : Int) ^ (18 : Int).toNat)) (B := fun z σ2 G => ∃ x, σ2 = (wipe (start ["_law_script", "_law_wide", "_law_cell"] [.ref a]) [2]).set 2 (some x) ∧ Z.Rp K G x (dI z)) (ei_scr (k := 0) rfl hs) (fun z _ => bnd_name) (fun z _ σ2 G ⟨x, e, _⟩ => by rw [e]; exact wipe1) (fun z _ G1 σ2 l1 ⟨x, e, r⟩ => ?_) (fun z _ _ G1 σ2 l1 ⟨x, e, r⟩ => ?_) (fun z σ2 G1 G2 l2 ⟨x, e, r⟩ => ⟨x, e, r.mono l2⟩) (by omega) (Le.refl _) hin ?_
  · subst e
    exact et_test (ev_op (ev_cb (ea_cons (ev_var rfl r) ea_nil) cav_abs) (ev_op ev_int ev_int (opv_pow ⟨by decide, by decide, by decide⟩)) opv_ge)
  · subst e
    exact ev_op (ev_cb (ea_cons (ev_var rfl r) ea_nil) cav_abs) (ev_op ev_int ev_int (opv_pow ⟨by decide, by decide, by decide⟩)) opv_sub
  intro w G3 H3 acc hw gw u3 i3 e3 r3
  intro p hp
  unfold tPairs tC tPairs tVar
  refine ⟨.ref w, rfl, ?_⟩
  have i4 : In G3 (upd H3 p (.dK [])) := i3.mut (i3.no hp)
  refine lc_new (D := dI) (xs := ns) (p := fun _ => true) (f := fun c => dI ((c.natAbs : Int).fmod 2147483629)) (B := fun z σ2 G => ∃ x, σ2 = (wipe ((start ["_law_script", "_law_wide", "_law_cell"] [.ref a]).set 1 (some (.ref w))) [2]).set 2 (some x) ∧ Z.Rp K G x (dI z)) (ei_scr (k := 0) rfl (sql_le hs u3.g)) (fun z _ => bnd_name) (fun z _ σ2 G ⟨x, e, _⟩ => by rw [e]; exact wipe1) (fun z _ G1 σ2 l1 ⟨x, e, r⟩ => ?_) (fun z _ _ G1 σ2 l1 ⟨x, e, r⟩ => ?_) (fun z σ2 G1 G2 l2 ⟨x, e, r⟩ => ⟨x, e, r.mono l2⟩) (by omega) (Le.refl _) i4 ?_
  · exact fun G1 H1 l i Q q => q G1 H1 (Up.refl i)
  · subst e
    exact ev_op (ev_cb (ea_cons (ev_cb (ea_cons (ev_var rfl r) ea_nil) cav_abs) ea_nil) cav_int) ev_int (opv_mod (by decide))
  intro c G5 H5 acc2 hc gc u5 i5 e5 r5
  have nwp : w ≠ p := fun e => by rw [e, hp] at e3; cases e3
  have ncp : c ≠ p := fun e => by rw [e, upd_same] at hc; cases hc
  have ncw : c ≠ w := fun e => by rw [e, upd_ne nwp, e3] at hc; cases hc
  have up5 : ∀ b, b ≠ c → ∀ o, upd H3 p (.dK []) b = some o → H5 b = some o := fun b nb o e => by
    have := u5.h b o e
    simp only [if_neg nb] at this
    exact this
  have hp5 : H5 p = some (.dK []) := up5 p ncp.symm _ upd_same
  have hw5 : H5 w = some (.lst acc) := up5 w ncw.symm _ (by rw [upd_ne nwp]; exact e3)
  have hp0 : H p = none := by
    cases q : H p with
    | none => rfl
    | some o =>
      have := u3.h p o q
      simp only [if_neg nwp.symm] at this
      rw [hp] at this; cases this
  have le5 : Le H H5 := fun b o e => by
    have nw : b ≠ w := fun z => by rw [z, hw] at e; cases e
    have np : b ≠ p := fun z => by rw [z, hp0] at e; cases e
    have h3 := u3.h b o e
    simp only [if_neg nw] at h3
    have nc : b ≠ c := fun z => by rw [← z, upd_ne np, h3] at hc; cases hc
    exact up5 b nc o (by rw [upd_ne np]; exact h3)
  refine ⟨hp5, [(kq "wide", V.ref w), (kq "cells", .ref c), (kq "rest", .int 0), (kq "turn", .int 0)], rfl, by show 4 ≤ 15; decide, ?_⟩
  rw [merge4]
  have gw0 : G w = none := hin.no hw
  have gp0 : G p = none := hin.no hp0
  have hc0 : H c = none := by
    cases q : H c with
    | none => rfl
    | some o =>
      have := u3.h c o q
      simp only [if_neg ncw] at this
      rw [upd_ne ncp, this] at hc; cases hc
  have gc0 : G c = none := hin.no hc0
  have le6 : Le H (upd H5 p (.dK (dkv w c 0 0))) := fun b o e => by
    rw [upd_ne (fun z => by rw [z, hp0] at e; cases e)]; exact le5 b o e
  have ea := Z.rpa_ints (ns := (ns.filter fun c => decide ((10 : Int) ^ (18 : Int).toNat ≤ (c.natAbs : Int))).map fun c => (c.natAbs : Int) - (10 : Int) ^ (18 : Int).toNat) (by rw [List.map_map]; exact r3)
  have eb := Z.rpa_ints (ns := ns.map fun c => (c.natAbs : Int).fmod 2147483629) (by rw [List.map_map]; rw [List.filter_eq_self.mpr (fun _ _ => rfl)] at r5; exact r5)
  refine k p w c _ _ _ hp0 hw hc0 ncw le6 upd_same (by rw [upd_ne nwp, hw5, ea]) (by rw [upd_ne ncp, e5, eb]) fun x hx => ?_
  obtain ⟨y, _, rfl⟩ := List.mem_map.mp hx
  have := fmod_bd (y.natAbs : Int) 2147483629 (by decide)
  omega

def m_take : List D → M Vl
  | [.drw q, .int tot] => .take q tot fun i => .ok (.s, .int i)
  | _ => .bad
def m_begun : List D → M Vl
  | [.scr ns] => if ns.length ≤ 1000 then .beg fun q => .ok (.s, .drw q) else .bad
  | _ => .bad
section
variable {k : Kx} {vs : List V} {H : Hp} {Q : VK} {E : XK}
theorem take_ok (h : spM k m_take vs H Q E) : sp_takeC vs H Q E := by
  obtain ⟨R, dr, G, n, ds, r, p, w⟩ := h
  unfold m_take at w
  split at w
  · rename_i q tot
    obtain ⟨hq, h0, h1, n', rfl, w⟩ := w
    obtain ⟨x, y, rfl, p1, p2⟩ := rpa_two p
    cases p1
    rw [rp_int p2]
    obtain ⟨ws, cs, r0, t, e1, e2, e3, e4, e5, e6, e7⟩ := r.dd (.inl q) hq
    refine ⟨q.1, q.2.1, q.2.2, n', tot, ws, cs, r0, t, rfl, e1, e2, e3, e4, e5, e6, e7, h0, h1, fun v H2 v0 v1 hk hd => ?_⟩
    obtain ⟨ws', r', t', f1, f2, f3, f4⟩ := hd
    have hm : inDr dr q.1 := ⟨.inl q, hq, .inl rfl⟩
    have hw : inDr dr q.2.1 := ⟨.inl q, hq, .inr (.inl rfl)⟩
    have nmc : q.2.2 ≠ q.1 := fun z => by rw [z, e1] at e3; cases e3
    have keep : ∀ a o, ¬ isDr (.inl q) a → H a = some o → H2 a = some o := fun a o nd e => hk a (fun z => nd (.inl z)) (fun z => nd (.inr (.inl z))) o e
    have ng : ∀ a o, G a = some o → ¬ isDr (.inl q) a := fun a o e z => by rw [r.dh a ⟨.inl q, hq, z⟩] at e; cases e
    have nt : ∀ a ps, H a = some (.tbl ps) → ¬ isDr (.inl q) a := fun a ps e z => by
      obtain ⟨o, g1, g2⟩ := (r.dd (.inl q) hq).there z
      rw [e] at g1; cases g1; exact g2 ps rfl
    have dis : ∀ q', q' ∈ dr → q' ≠ .inl q → ∀ a, isDr q' a → ¬ isDr (.inl q) a := by
      intro q' hq' hqq
      obtain ⟨i, hi, ei⟩ := List.getElem_of_mem hq
      obtain ⟨j, hj, ej⟩ := List.getElem_of_mem hq'
      have pw := List.pairwise_iff_getElem.mp r.dj
      have nij : i ≠ j := fun z => by subst z; exact hqq (ej.symm.trans ei)
      intro a h1 h2
      rcases Nat.lt_or_gt_of_ne nij with z | z
      · exact pw i j hi hj z a (by rw [ei]; exact h2) (by rw [ej]; exact h1)
      · exact pw j i hj hi z a (by rw [ej]; exact h1) (by rw [ei]; exact h2)
    refine w v v0 v1 (.int v) G H2 (Le.refl _) ⟨fun a o e => ?_, r.nt, fun p hp => ?_, fun q' hq' => ?_, r.dh, r.dj, fun a o e => ?_, fun i d e => by simp at e, fun i d e => by simp at e, fun i j a d d' e => by simp at e, Nat.le_refl _, by have := r.nb; omega, fun b d hb => by
      obtain ⟨o, g1, g2⟩ := r.so b d hb
      exact ⟨o, keep b o (dis _ hb (fun z => nomatch z) b rfl) g1, g2⟩⟩ (Rp.int _)
    · rcases r.i a o e with z | ⟨z1, ob, z⟩
      · exact .inl (keep a o (ng a o e) z)
      · exact .inr ⟨z1, ob, keep a _ (ng a o e) z⟩
    · obtain ⟨ps, t1, t2, t3⟩ := r.tb p hp
      refine ⟨ps, keep _ _ (nt _ _ t1) t1, t2, fun pos cv hc => ?_⟩
      obtain ⟨c, a1, a2⟩ := t3 pos cv hc
      refine ⟨c, a1, keep _ _ (fun z => ?_) a2⟩
      rcases z with z | z | z
      · rw [z, e1] at a2; unfold LamX.CodeO at a2; cases a2
      · rw [z, e2] at a2; unfold LamX.CodeO at a2; cases a2
      · rw [z, e3] at a2; unfold LamX.CodeO at a2; cases a2
    · by_cases hqq : q' = .inl q
      · subst hqq
        exact ⟨ws', cs, r', t', f1, f2, hk _ nmc e4 _ e3, e4, e5, f3, by omega⟩
      · exact ((r.dd q' hq').ext fun a ha o e => keep a o (dis q' hq' hqq a ha) e).mono (by omega)
    · obtain ⟨g1, g2, g3, g4⟩ := r.rs a o e
      exact ⟨keep a o (fun z => g3 ⟨.inl q, hq, z⟩) g1, g2, g3, g4⟩
  · exact w.elim
theorem begun_ok (h : spM k m_begun vs H Q E) : ∃ (hn : True), sp_begunC k.K vs H Q E := by
  obtain ⟨R, dr, G, n, ds, r, p, w⟩ := h
  unfold m_begun at w
  split at w
  · rename_i ns
    split at w
    · rename_i hl
      obtain ⟨x, rfl, p1⟩ := rpa_one p
      cases p1 with
      | scr hs =>
      refine ⟨trivial, G, _, ns, rfl, r.i, hs, hl, fun m w' c ws cs H2 hm hw hc ncw le e1 e2 e3 hcs => ?_⟩
      have fr : ∀ a, isDr (.inl (m, w', c)) a → H a = none := fun a z => by
        rcases z with rfl | rfl | rfl
        · exact hm
        · exact hw
        · exact hc
      have nd : ∀ q ∈ dr, ∀ a, isDr (.inl (m, w', c)) a → ¬ isDr q a := fun q hq a h1 h2 => by
        obtain ⟨o, g1, _⟩ := (r.dd q hq).there h2
        rw [fr a h1] at g1; cases g1
      have r2 := r.keep (extN_le le) (tabs_le r.tb le)
      refine w (m, w', c) (.ref m) G H2 (Le.refl _) ⟨r2.i, r2.nt, r2.tb, fun q hq => ?_, fun a ha => ?_, List.pairwise_cons.mpr ⟨fun q hq a h1 => nd q hq a h1, r.dj⟩, fun a o e => ?_, fun i d e => by simp at e, fun i d e => by simp at e, fun i j a d d' e => by simp at e, Nat.le_refl _, r.nb, fun b d hb => by
        rcases List.mem_cons.mp hb with z | z
        · cases z
        · exact r2.so b d z⟩ (Rp.drw (m, w', c))
      · rcases List.mem_cons.mp hq with rfl | hq
        · exact ⟨ws, cs, 0, 0, e1, e2, e3, ncw, hcs, by decide, by have := r.nb; omega⟩
        · exact r2.dd q hq
      · obtain ⟨q, hq, hd⟩ := ha
        rcases List.mem_cons.mp hq with rfl | hq
        · exact r.i.no (fr a hd)
        · exact r.dh a ⟨q, hq, hd⟩
      · obtain ⟨g1, g2, g3, g4⟩ := r2.rs a o e
        refine ⟨g1, g2, fun z => ?_, g4⟩
        obtain ⟨q, hq, hd⟩ := z
        rcases List.mem_cons.mp hq with rfl | hq
        · have := (r.rs a o e).1
          rw [fr a hd] at this; cases this
        · exact g3 ⟨q, hq, hd⟩
    · exact w.elim
  · exact w.elim
end
end Y

namespace Z
open PySem PySem.Spec PyProof.Rows L2
def revT (z : Str) : Str := ⟨z.cps.toList.reverse.toArray⟩
def tRevS (te : TE) : TE := fun σ H Q => te σ H fun x H1 => ∃ z, x = .str z ∧ z.length ≤ sizeLine ∧ Q (.str (revT z)) H1
theorem rev_ix (z : Str) : ((Builtin.Str.strSliceIndices none none (-1) z.length).filterMap (z.cps[·]?)).toArray = z.cps.toList.reverse.toArray := by
  have e : Builtin.Str.strSliceIndices none none (-1) z.length = sliceRange ((z.cps.size : Int) - 1) (-1) (-1) := rfl
  rw [e, PySem.W.krv_sliceRange, PySem.W.krv_range, List.filterMap_reverse, PySem.W.krv_all]
theorem pe_revS {X : Cx} {e : Expr} {te : TE} {k : Nat} {p1 p2 p3 pos : Pos} (he : PE X e te) : PE X (.Subscript e (.Slice none none (some (.UnaryOp .USub (.Constant (.int 1) k p1) p2)) p3) pos) (tRevS te) := by
  refine ⟨fun pins s σ H Q I h => ?_⟩
  refine Subscript_ (thn (he.run pins s σ H _ I h) fun v s1 ⟨x, H1, I1, r1, q1⟩ => ?_)
  obtain ⟨z, ex, hz, q⟩ := q1
  subst ex
  obtain ⟨t, rfl⟩ := r1
  have st : PO X (some (.UnaryOp .USub (.Constant (.int 1) k p1) p2)) (tPart (tUn (rU fun i => .int (-i)) (tC (.int 1)))) := po_some (pe_un un_neg pe_int)
  refine wpAny_Slice (thn (po_none.run pins s1 σ H1 (fun o H2 => o = none ∧ H2 = H1) I1 ⟨rfl, rfl⟩) fun vl s2 ⟨l, H2, I2, pl, el, e2⟩ => ?_)
  subst el e2
  refine thn (po_none.run pins s2 σ H2 (fun o H3 => o = none ∧ H3 = H2) I2 ⟨rfl, rfl⟩) fun vu s3 ⟨u, H3, I3, pu, eu, e3⟩ => ?_
  subst eu e3
  refine thn (st.run pins s3 σ H3 (fun o H4 => o = some (-1) ∧ H4 = H3) I3 ⟨1, rfl, -1, rfl, rfl, rfl⟩) fun vs s4 ⟨o, H4, I4, ps, eo, e4⟩ => ?_
  subst eo e4
  have I5 : Inv X pins σ H4 { s4 with heap := s4.heap.push { cls := .type "slice", data := .fields #[vl, vu, vs] } } := I4.kept (t' := s4.toks) fun b ob q => Heap.get?_push_of_some _ q
  show wpAny (model X.prog X.w) X.A (subscriptTail e (.Slice none none (some (.UnaryOp .USub (.Constant (.int 1) k p1) p2)) p3) (.str z t) (.ref s4.heap.objs.size)) (EP X pins σ Q) X.xe { s4 with heap := s4.heap.push { cls := .type "slice", data := .fields #[vl, vu, vs] } }
  refine tail_any (ops := [.ref s4.heap.objs.size, .str z t]) (typeIs_str _ _ _) (F.slot_str_getitem.lookup) ?_ (by with_unfolding_all rfl)
  obtain ⟨l1, rfl, h1⟩ := IsPart.raw pl
  obtain ⟨u1, rfl, h2⟩ := IsPart.raw pu
  obtain ⟨c1, rfl, h3⟩ := IsPart.raw ps
  refine wpAny_getItem_str_slice (l := l1) (u := u1) (st := c1) ⟨_, Heap.get?_push_size _ rfl, rfl, rfl⟩ (by rw [h3]; rfl) ?_
  have hmk : sliceMade z t l1 u1 c1 = Made.str ⟨z.cps.toList.reverse.toArray⟩ := by
    rw [← rev_ix]
    unfold sliceMade slicePicked
    rw [h1, h2, h3]
    rfl
  rw [hmk]
  refine ⟨?_, .str (revT z), H4, I5.tok _, ⟨_, rfl⟩, q⟩
  show z.cps.toList.reverse.toArray.size ≤ sizeLine
  have : z.cps.toList.reverse.toArray.size = z.length := by simp; rfl
  rw [this]; exact hz
theorem revT_S (l : List Nat) : revT (S l) = S l.reverse := by
  unfold revT
  rw [S_cps]; rfl
section
variable {K : PySem.W.Frag} {σ : L2.St} {G : Hp} {te : TE}
end
end Z

namespace Y
open PySem PySem.Spec PyProof.Rows L2 Z
section
variable {X : Cx}
theorem CallR.or {f : Value} {r r' : List V → Hp → VK → Prop} (h : CallR X f r) (h' : CallR X f r') : CallR X f (fun xs H Q => r xs H Q ∨ r' xs H Q) := fun pins s σ H xs us Q I v q => q.elim (h pins s σ H xs us Q I v) (h' pins s σ H xs us Q I v)
end
section
variable {k : Kx} {G H : Hp}
def qAdd (K : PySem.W.Frag) : R2 := fun x y H Q => (rI0 fun i j => .int (i + j)) x y H Q ∨ (rAddS x y H Q ∨ (rCat x y H Q ∨ rCatA K x y H Q))
theorem or_add {X : Cx} : OpR X (binaryOp .Add) (qAdd X.K) := op_add.or (OpR.or (r := rAddS) op_add_str (op_cat.or op_catA))
def addD : D → D → Option D
  | .int i, .int j => some (.int (i + j))
  | .str a, .str b => if a.length + b.length ≤ 10000000 then some (.str (a ++ b)) else none
  | .lst a, .lst b => if a.length + b.length ≤ 1000000 then some (.lst (a ++ b)) else none
  | _, _ => none
theorem os_add : OpS k (qAdd k.K) addD := fun G H x y a b d hi px py hd Q q => by
  unfold addD at hd
  split at hd
  · cases hd
    rw [rp_int px, rp_int py]
    exact .inl ⟨_, _, rfl, rfl, q _ G H (Up.refl hi) (.int _)⟩
  · split at hd
    · rename_i hl
      cases hd
      rw [rp_str px, rp_str py]
      refine .inr (.inl ?_)
      exact opv_addS (K := k.K) hl G H _ _ hi (.str _) (.str _) Q fun v G2 H2 u p => q v G2 H2 u (of_z (.str _) (by simp [Y.py]) p)
    · cases hd
  · split at hd
    · rename_i hl
      cases hd
      obtain ⟨p, xs, rfl, h1, h2⟩ := rp_lst px
      obtain ⟨p', ys, rfl, h3, h4⟩ := rp_lst py
      refine .inr (.inr (.inl ⟨p, p', xs, ys, rfl, rfl, hi.ex h1 rfl, hi.ex h3 rfl, by rw [h2.len, h4.len]; exact Nat.le_trans hl (by decide), fun r hr => ?_⟩))
      have u := Up.new (o := .lst (xs ++ ys)) hi hr
      exact q _ _ _ u (.lst upd_same ((h2.app h4).mono u.g))
    · cases hd
  · cases hd
def iop (C : Int → Int → Prop) [∀ i j, Decidable (C i j)] (f : Int → Int → Int) : D → D → Option D
  | .int i, .int j => if C i j then some (.int (f i j)) else none
  | _, _ => none
def subD (a b : D) : Option D := iop (fun _ _ => True) (fun i j => i - j) a b
instance (i j : Int) : Decidable (CMul i j) := by unfold CMul; infer_instance
instance (i j : Int) : Decidable (CDivN i j) := by unfold CDivN; infer_instance
instance (i j : Int) : Decidable (CPow i j) := by unfold CPow; infer_instance
theorem os_sub : OpS k (rI0 fun i j => .int (i - j)) subD := fun G H x y a b d hi px py hd Q q => by
  unfold subD iop at hd
  split at hd
  · rw [if_pos trivial] at hd
    cases hd
    rw [rp_int px, rp_int py]
    exact ⟨_, _, rfl, rfl, q _ G H (Up.refl hi) (.int _)⟩
  · cases hd
theorem os_I {C : Int → Int → Prop} [∀ i j, Decidable (C i j)] {f : Int → Int → Int} : OpS k (rI C fun i j => .int (f i j)) (iop C f) := fun G H x y a b d hi px py hd Q q => by
  unfold iop at hd
  split at hd
  · split at hd
    · rename_i hc
      cases hd
      rw [rp_int px, rp_int py]
      exact ⟨_, _, rfl, rfl, hc, q _ G H (Up.refl hi) (.int _)⟩
    · cases hd
  · cases hd
def fdivD (a b : D) : Option D := iop CDivN (fun i j => i.fdiv j) a b
def modD (a b : D) : Option D := iop (fun _ j => j ≠ 0) (fun i j => i.fmod j) a b
theorem os_fdiv : OpS k (rI CDivN fun i j => .int (i.fdiv j)) fdivD := os_I
theorem os_mod : OpS k (rI (fun _ j => j ≠ 0) fun i j => .int (i.fmod j)) modD := os_I
def qMul : R2 := fun x y H Q => (rI CMul fun i j => .int (i * j)) x y H Q ∨ (rMulS x y H Q ∨ rRep x y H Q)
theorem or_mul {X : Cx} : OpR X (binaryOp .Mult) qMul := op_mul.or (op_mulS.or op_rep)
def mulD : D → D → Option D
  | .int i, .int j => if CMul i j then some (.int (i * j)) else none
  | .str a, .int n => if a.length * n.toNat ≤ 10000000 ∧ -1000000 ≤ n ∧ n ≤ 1000000 then some (.str (List.replicate n.toNat a).flatten) else none
  | .lst a, .int n => if 0 ≤ n ∧ n ≤ 1000 ∧ a.length * n.toNat ≤ 1000000 then some (.lst (List.replicate n.toNat a).flatten) else none
  | _, _ => none
theorem RpA.rep {vs : List V} {ds : List D} (h : RpA k G vs ds) : ∀ n : Nat, RpA k G (List.replicate n vs).flatten (List.replicate n ds).flatten
  | 0 => .nil
  | n + 1 => by
    rw [List.replicate_succ, List.replicate_succ, List.flatten_cons, List.flatten_cons]
    exact h.app (RpA.rep h n)
theorem os_mul : OpS k qMul mulD := fun G H x y a b d hi px py hd Q q => by
  unfold mulD at hd
  split at hd
  · split at hd
    · rename_i hc
      cases hd
      rw [rp_int px, rp_int py]
      exact .inl ⟨_, _, rfl, rfl, hc, q _ G H (Up.refl hi) (.int _)⟩
    · cases hd
  · split at hd
    · rename_i hl
      cases hd
      rw [rp_str px, rp_int py]
      refine .inr (.inl ?_)
      exact opv_mulSI (K := k.K) hl.1 hl.2 G H _ _ hi (.str _) (.int _) Q fun v G2 H2 u p => q v G2 H2 u (of_z (.str _) (by simp [Y.py]) p)
    · cases hd
  · split at hd
    · rename_i hl
      cases hd
      obtain ⟨p, xs, rfl, h1, h2⟩ := rp_lst px
      rw [rp_int py]
      rename_i a n
      refine .inr (.inr ⟨p, n, xs, rfl, rfl, hi.ex h1 rfl, by omega, by omega, by rw [h2.len]; exact Nat.le_trans hl.2.2 (by decide), fun r hr => ?_⟩)
      have u := Up.new (o := .lst (List.replicate n.toNat xs).flatten) hi hr
      exact q _ _ _ u (.lst upd_same ((h2.rep _).mono u.g))
    · cases hd
  · cases hd
def negD : D → Option D
  | .int i => some (.int (-i))
  | _ => none
theorem us_neg : UnS k (rU fun i => .int (-i)) negD := fun G H x a d hi px hd Q q => by
  unfold negD at hd
  split at hd
  · cases hd
    rw [rp_int px]
    exact ⟨_, rfl, q _ G H (Up.refl hi) (.int _)⟩
  · cases hd
def flatEq : D → D → Bool
  | .int i, .int j => i == j
  | .str a, .str b => a == b
  | .bl a, .bl b => a == b
  | .non, .non => true
  | _, _ => false
def sameD (es fs : List (Ky × D)) : Bool := es.length == fs.length && es.all fun e => match getD fs e.1 with
  | some d => flatEq e.2 d
  | none => false
def eqD (a b : D) : Option Bool := match a, b with
  | .int i, .int j => some (decide (i = j))
  | .str i, .str j => some (decide (i = j))
  | .bl i, .bl j => some (decide (i = j))
  | .dic es, .dic fs => if sameD es fs then some true else if es.length = fs.length then none else some false
  | _, _ => match py a, py b with
    | some p, some q => if SeqAt.shaped p && SeqAt.shaped q then some (PyData.eqv p q) else none
    | _, _ => none
def DicLen (H : Hp) (x y : V) : Prop := ∃ a b ks ls, x = .ref a ∧ y = .ref b ∧ Rd H a (.dK ks) ∧ Rd H b (.dK ls) ∧ ks.length ≠ ls.length
def rEqLen : R2 := fun x y H Q => DicLen H x y ∧ Q (.bl false) H
def rNeLen : R2 := fun x y H Q => DicLen H x y ∧ Q (.bl true) H
theorem op_eqLen {X : Cx} (hu : X.A.units + 1 < cLine) : OpR X (compareOp .Eq) rEqLen := fun pins s σ H x y v u Q I rx ry ⟨⟨a, b, ks, ls, ex, ey, ea, eb, hlen⟩, q⟩ => by
  subst ex ey
  cases rx; cases ry
  obtain ⟨_, na, va, ra, da⟩ := ea.ok I.hok
  obtain ⟨_, nb, vb, rb, db⟩ := eb.ok I.hok
  have hl : va.length ≠ vb.length := by rw [← ra.length, ← rb.length]; exact hlen
  exact PySem.W.keq_eq (knd := mixKind X.prog X.w) (r := true) na nb da db (Nat.lt_of_succ_lt hu) (fun h => absurd h hl) (fin_bl I q (by simp [hl]))
theorem op_neLen {X : Cx} (hu : X.A.units + 1 < cLine) : OpR X (compareOp .NotEq) rNeLen := fun pins s σ H x y v u Q I rx ry ⟨⟨a, b, ks, ls, ex, ey, ea, eb, hlen⟩, q⟩ => by
  subst ex ey
  cases rx; cases ry
  obtain ⟨_, na, va, ra, da⟩ := ea.ok I.hok
  obtain ⟨_, nb, vb, rb, db⟩ := eb.ok I.hok
  have hl : va.length ≠ vb.length := by rw [← ra.length, ← rb.length]; exact hlen
  exact PySem.W.keq_ne (knd := mixKind X.prog X.w) (r := true) na nb da db (Nat.lt_of_succ_lt hu) (fun h => absurd h hl) (fin_bl I q (by simp [hl]))
def qEq (K : PySem.W.Frag) : R2 := fun x y H Q => rEq x y H Q ∨ (rEqD K x y H Q ∨ (rEqDic x y H Q ∨ rEqLen x y H Q))
def qNe (K : PySem.W.Frag) : R2 := fun x y H Q => rNe x y H Q ∨ (rNeD K x y H Q ∨ (rNeDic x y H Q ∨ rNeLen x y H Q))
theorem or_eq {X : Cx} (hu : X.A.units + 100 < cLine) : OpR X (compareOp .Eq) (qEq X.K) := op_eq.or ((op_eqD (by omega)).or ((op_eqDic (by omega)).or (op_eqLen (by omega))))
theorem or_ne {X : Cx} (hu : X.A.units + 100 < cLine) : OpR X (compareOp .NotEq) (qNe X.K) := op_ne.or ((op_neD (by omega)).or ((op_neDic (by omega)).or (op_neLen (by omega))))
theorem flat_eq {a b : D} (h : flatEq a b = true) : a = b ∧ ∀ v, Rp k G v a → flatB v = true ∧ ∀ w, Rp k G w b → v = w := by
  cases a <;> cases b <;> simp only [flatEq] at h <;> first
    | (cases h; done)
    | skip
  · exact ⟨rfl, fun v r => ⟨by cases r; rfl, fun w s => by cases r; cases s; rfl⟩⟩
  · have := eq_of_beq h; subst this
    exact ⟨rfl, fun v r => ⟨by cases r; rfl, fun w s => by cases r; cases s; rfl⟩⟩
  · have := eq_of_beq h; subst this
    exact ⟨rfl, fun v r => ⟨by cases r; rfl, fun w s => by cases r; cases s; rfl⟩⟩
  · have := eq_of_beq h; subst this
    exact ⟨rfl, fun v r => ⟨by cases r; rfl, fun w s => by cases r; cases s; rfl⟩⟩
theorem RpD.mem : ∀ {kvs : List (Key × V)} {es : List (Ky × D)} {p : Key × V}, RpD k G kvs es → p ∈ kvs → ∃ q d, p.1 = kk q ∧ (q, d) ∈ es ∧ Rp k G p.2 d
  | _, _, _, .nil, h => by cases h
  | _, _, _, .cons r a, h => by
    rcases List.mem_cons.mp h with e | e
    · subst e; exact ⟨_, _, rfl, List.mem_cons_self, r⟩
    · obtain ⟨q, d, h1, h2, h3⟩ := RpD.mem a e
      exact ⟨q, d, h1, List.mem_cons_of_mem _ h2, h3⟩
theorem same_eq {es fs : List (Ky × D)} {x y : V} (hi : In G H) (h : sameD es fs = true) (px : Rp k G x (.dic es)) (py : Rp k G y (.dic fs)) : DicEq H x y := by
  obtain ⟨a, ks, rfl, h1, h2⟩ := rp_dic px
  obtain ⟨b, ls, rfl, h3, h4⟩ := rp_dic py
  simp only [sameD, Bool.and_eq_true, beq_iff_eq] at h
  refine ⟨a, b, ks, ls, rfl, rfl, hi.rd h1, hi.rd h3, by rw [h2.len, h4.len, h.1], fun p hp => ?_⟩
  obtain ⟨q, d, e1, e2, e3⟩ := h2.mem hp
  have := List.all_eq_true.mp h.2 _ e2
  cases hg : getD fs q with
  | none => simp only [hg] at this; cases this
  | some d' =>
    simp only [hg] at this
    obtain ⟨_, f1⟩ := flat_eq (k := k) (G := G) this
    obtain ⟨g1, g2⟩ := f1 _ e3
    rcases h4.val (q := q) with ⟨_, z⟩ | ⟨v', d'', z1, z2, z3⟩
    · rw [hg] at z; cases z
    · rw [hg] at z2; cases z2
      exact ⟨by rw [e1, z1, g2 _ z3], g1⟩
theorem len_eq {es fs : List (Ky × D)} {x y : V} (hi : In G H) (h : es.length ≠ fs.length) (px : Rp k G x (.dic es)) (py : Rp k G y (.dic fs)) : DicLen H x y := by
  obtain ⟨a, ks, rfl, h1, h2⟩ := rp_dic px
  obtain ⟨b, ls, rfl, h3, h4⟩ := rp_dic py
  exact ⟨a, b, ks, ls, rfl, rfl, hi.rd h1, hi.rd h3, by rw [h2.len, h4.len]; exact h⟩
theorem eqD_cases {a b : D} {r : Bool} (h : eqD a b = some r) : (∀ G (x y : V), Rp k G x a → Rp k G y b → L2.scal x y = true ∧ decide (x = y) = r) ∨ (∃ es fs, a = .dic es ∧ b = .dic fs ∧ (sameD es fs = true ∧ r = true ∨ es.length ≠ fs.length ∧ r = false)) ∨ ∃ p q, py a = some p ∧ py b = some q ∧ SeqAt.shaped p = true ∧ SeqAt.shaped q = true ∧ r = PyData.eqv p q := by
  unfold eqD at h
  split at h
  · cases h
    exact .inl fun G x y p q => by rw [rp_int p, rp_int q]; exact ⟨rfl, by simp⟩
  · cases h
    refine .inl fun G x y p q => ?_
    rename_i i j
    rw [rp_str p, rp_str q]
    refine ⟨rfl, ?_⟩
    by_cases e : i = j
    · subst e; simp
    · have : S i ≠ S j := fun z => e (S_inj z)
      simp [e, this]
  · cases h
    exact .inl fun G x y p q => by rw [rp_bl p, rp_bl q]; exact ⟨rfl, by simp⟩
  · split at h
    · rename_i hs; cases h; exact .inr (.inl ⟨_, _, rfl, rfl, .inl ⟨hs, rfl⟩⟩)
    · split at h
      · cases h
      · rename_i hl; cases h; exact .inr (.inl ⟨_, _, rfl, rfl, .inr ⟨hl, rfl⟩⟩)
  · split at h
    · rename_i p q e1 e2
      split at h
      · rename_i hs
        cases h
        rw [Bool.and_eq_true] at hs
        exact .inr (.inr ⟨p, q, e1, e2, hs.1, hs.2, rfl⟩)
      · cases h
    · cases h
def eqB (a b : D) : Option D := (eqD a b).map .bl
def neB (a b : D) : Option D := (eqD a b).map fun r => .bl (!r)
theorem os_eq : OpS k (qEq k.K) eqB := fun G H x y a b d hi px py' hd Q q => by
  unfold eqB at hd
  simp only [Option.map_eq_some_iff] at hd
  obtain ⟨r, hr, rfl⟩ := hd
  rcases eqD_cases (k := k) hr with h | ⟨es, fs, rfl, rfl, ⟨hs, rfl⟩ | ⟨hs, rfl⟩⟩ | ⟨p, p', e1, e2, s1, s2, rfl⟩
  · obtain ⟨h1, h2⟩ := h G x y px py'
    exact .inl ⟨h1, by rw [h2]; exact q _ G H (Up.refl hi) (.bl _)⟩
  · exact .inr (.inr (.inl ⟨same_eq hi hs px py', q _ G H (Up.refl hi) (.bl _)⟩))
  · exact .inr (.inr (.inr ⟨len_eq hi hs px py', q _ G H (Up.refl hi) (.bl _)⟩))
  · exact .inr (.inl (opv_eqD (K := k.K) s1 s2 G H x y hi (px.z e1) (py'.z e2) Q fun v G2 H2 u z => q v G2 H2 u (of_z (.bl _) (by simp [Y.py]) z)))
theorem os_ne : OpS k (qNe k.K) neB := fun G H x y a b d hi px py' hd Q q => by
  unfold neB at hd
  simp only [Option.map_eq_some_iff] at hd
  obtain ⟨r, hr, rfl⟩ := hd
  rcases eqD_cases (k := k) hr with h | ⟨es, fs, rfl, rfl, ⟨hs, rfl⟩ | ⟨hs, rfl⟩⟩ | ⟨p, p', e1, e2, s1, s2, rfl⟩
  · obtain ⟨h1, h2⟩ := h G x y px py'
    exact .inl ⟨h1, by rw [h2]; exact q _ G H (Up.refl hi) (.bl _)⟩
  · exact .inr (.inr (.inl ⟨same_eq hi hs px py', q _ G H (Up.refl hi) (.bl _)⟩))
  · exact .inr (.inr (.inr ⟨len_eq hi hs px py', q _ G H (Up.refl hi) (.bl _)⟩))
  · exact .inr (.inl (opv_neD (K := k.K) s1 s2 G H x y hi (px.z e1) (py'.z e2) Q fun v G2 H2 u z => q v G2 H2 u (of_z (.bl _) (by simp [Y.py]) z)))
def cop (f : Int → Int → Bool) : D → D → Option D
  | .int i, .int j => some (.bl (f i j))
  | _, _ => none
theorem os_C {f : Int → Int → Bool} : OpS k (rI0 fun i j => .bl (f i j)) (cop f) := fun G H x y a b d hi px py hd Q q => by
  unfold cop at hd
  split at hd
  · cases hd
    rw [rp_int px, rp_int py]
    exact ⟨_, _, rfl, rfl, q _ G H (Up.refl hi) (.bl _)⟩
  · cases hd
def leD (a b : D) : Option D := cop (fun i j => decide (i ≤ j)) a b
def gtD (a b : D) : Option D := cop (fun i j => decide (j < i)) a b
def geD (a b : D) : Option D := cop (fun i j => decide (j ≤ i)) a b
theorem os_le : OpS k (rI0 fun i j => .bl (decide (i ≤ j))) leD := os_C
theorem os_gt : OpS k (rI0 fun i j => .bl (decide (j < i))) gtD := os_C
def inS (a b : List Nat) : Bool := !(Builtin.Str.occurrences (S b) (S a) 0 (S b).length 1).isEmpty
theorem inS_one (c : Nat) (w : List Nat) : inS [c] w = decide (c ∈ w) := by
  have := PySem.StrLaws.found_one (S w) c
  rw [S_cps] at this
  exact this
def flE : D → D → Bool
  | .non, .non => true
  | .bl a, .bl b => a == b
  | .bl a, .int b => (if a then 1 else 0) == b
  | .int a, .bl b => a == (if b then 1 else 0)
  | .int a, .int b => a == b
  | .str a, .str b => a == b
  | _, _ => false
def flat : D → Bool
  | .non => true
  | .bl _ => true
  | .int _ => true
  | .str _ => true
  | _ => false
theorem rp_flat {v : V} {d : D} (h : flat d = true) (r : Rp k G v d) : flatV v = true := by
  cases r <;> first
    | rfl
    | (simp [flat] at h; done)
theorem S_beq (a b : List Nat) : (S a == S b) = (a == b) := by
  by_cases h : a = b
  · subst h; simp
  · have : S a ≠ S b := fun e => h (S_inj e)
    rw [beq_eq_false_iff_ne.mpr this, beq_eq_false_iff_ne.mpr h]
theorem rp_flE {v w : V} {d e : D} (r : Rp k G v d) (s : Rp k G w e) (h1 : flat d = true) (h2 : flat e = true) : eqV v w = flE d e := by
  cases d <;> simp [flat] at h1 <;> cases e <;> simp [flat] at h2 <;> cases r <;> cases s <;> first
    | rfl
    | exact S_beq _ _
theorem any_flE {v : V} {d : D} (r : Rp k G v d) (hd : flat d = true) : ∀ {vs : List V} {ds : List D}, RpA k G vs ds → ds.all flat = true → inV v vs = ds.any (fun y => flE y d) ∧ vs.all flatV = true
  | _, _, .nil, _ => ⟨rfl, rfl⟩
  | _, _, .cons h a, hf => by
    simp only [List.all_cons, Bool.and_eq_true] at hf
    obtain ⟨i1, i2⟩ := any_flE r hd a hf.2
    refine ⟨?_, by simp [rp_flat hf.1 h, i2]⟩
    rename_i v' vs' d' ds'
    have e : inV v (v' :: vs') = (eqV v' v || inV v vs') := rfl
    rw [e, i1, rp_flE h r hf.1 hd]
    rfl
def rNotS : R2 := fun x y H Q => ∃ i j, x = .str i ∧ y = .str j ∧ Q (.bl (!(!(Builtin.Str.occurrences j i 0 j.length 1).isEmpty))) H
def qIn (K : PySem.W.Frag) : R2 := fun x y H Q => rInS x y H Q ∨ rIn K false x y H Q
def qNotIn (K : PySem.W.Frag) : R2 := fun x y H Q => rNotS x y H Q ∨ rIn K true x y H Q
theorem or_in {X : Cx} : OpR X (compareOp .In) (qIn X.K) := OpR.or (r := rInS) op_in_str op_in_seq
theorem or_notin {X : Cx} : OpR X (compareOp .NotIn) (qNotIn X.K) := OpR.or (r := rNotS) op_notin_str op_notIn_seq
def inD : D → D → Option Bool
  | .str a, .str b => some (inS a b)
  | x, .lst ds => if flat x && ds.all flat then some (ds.any fun y => flE y x) else none
  | x, .tup ds => if flat x && ds.all flat then some (ds.any fun y => flE y x) else none
  | _, _ => none
def inB (a b : D) : Option D := (inD a b).map .bl
def notInB (a b : D) : Option D := (inD a b).map fun r => .bl (!r)
theorem in_core {x y : V} {a b : D} {r : Bool} (hi : In G H) (px : Rp k G x a) (py : Rp k G y b) (h : inD a b = some r) (neg : Bool) {Q : VK} (q : Q (.bl (neg ^^ r)) H) : (if neg then rNotS x y H Q ∨ rIn k.K true x y H Q else rInS x y H Q ∨ rIn k.K false x y H Q) := by
  unfold inD at h
  split at h
  · cases h
    rw [rp_str px, rp_str py]
    cases neg with
    | true => rw [if_pos rfl]; exact .inl ⟨_, _, rfl, rfl, by simpa [inS] using q⟩
    | false => rw [if_neg (by simp)]; exact .inl ⟨_, _, rfl, rfl, by simpa [inS] using q⟩
  · split at h
    · rename_i hf
      cases h
      rw [Bool.and_eq_true] at hf
      obtain ⟨p, xs, rfl, h1, h2⟩ := rp_lst py
      obtain ⟨e1, e2⟩ := any_flE px hf.1 h2 hf.2
      cases neg with
      | true => rw [if_pos rfl]; exact .inr ⟨p, xs, rfl, .inl (.inl (.inl (hi.ex h1 rfl))), rp_flat hf.1 px, e2, by rw [e1]; simpa using q⟩
      | false => rw [if_neg (by simp)]; exact .inr ⟨p, xs, rfl, .inl (.inl (.inl (hi.ex h1 rfl))), rp_flat hf.1 px, e2, by rw [e1]; simpa using q⟩
    · cases h
  · split at h
    · rename_i hf
      cases h
      rw [Bool.and_eq_true] at hf
      obtain ⟨p, xs, rfl, h1, h2⟩ := rp_tup py
      obtain ⟨e1, e2⟩ := any_flE px hf.1 h2 hf.2
      cases neg with
      | true => rw [if_pos rfl]; exact .inr ⟨p, xs, rfl, .inr (in_t hi h1), rp_flat hf.1 px, e2, by rw [e1]; simpa using q⟩
      | false => rw [if_neg (by simp)]; exact .inr ⟨p, xs, rfl, .inr (in_t hi h1), rp_flat hf.1 px, e2, by rw [e1]; simpa using q⟩
    · cases h
  · cases h
theorem os_in : OpS k (qIn k.K) inB := fun G H x y a b d hi px py hd Q q => by
  unfold inB at hd
  simp only [Option.map_eq_some_iff] at hd
  obtain ⟨r, hr, rfl⟩ := hd
  have := in_core hi px py hr false (Q := Q) (by simpa using q _ G H (Up.refl hi) (.bl _))
  simpa [qIn] using this
theorem os_notin : OpS k (qNotIn k.K) notInB := fun G H x y a b d hi px py hd Q q => by
  unfold notInB at hd
  simp only [Option.map_eq_some_iff] at hd
  obtain ⟨r, hr, rfl⟩ := hd
  have := in_core hi px py hr true (Q := Q) (by simpa using q _ G H (Up.refl hi) (.bl _))
  simpa [qNotIn] using this
def isBlD : D → D → Option D
  | .bl a, .bl b => some (.bl (decide (a = b)))
  | _, _ => none
def notBlD : D → D → Option D
  | .bl a, .bl b => some (.bl (!decide (a = b)))
  | _, _ => none
def SO (k : Kx) (E : XK) (t : TO) (f : Env → M (Option Int)) : Prop := ∀ R dr env σ G H n (Q : Option Int → Hp → Prop), Rl k R dr env σ G H n →
  wp dr n (f env) (fun dr n' o => ∀ G2 H2, Le G G2 → Rl k R dr env σ G2 H2 n' → Q o H2) (XP k R G E) → t σ H Q
def eNo : Env → M (Option Int) := fun _ => .ok none
def ePart (fa : Env → M Vl) : Env → M (Option Int) := fun env => (fa env).bind fun x => match x.2 with
  | .int i => .ok (some i)
  | _ => .bad
theorem so_no {E : XK} : SO k E tNoPart eNo := fun R dr env σ G H n Q r w => w G H (Le.refl _) r
theorem so_part {E : XK} {ta : TE} {fa : Env → M Vl} (ha : SE k E ta fa) : SO k E (tPart ta) (ePart fa) := fun R dr env σ G H n Q rl w => by
  refine ha.run rl (wp_bind' w) (fun _ _ _ h => h) fun dr n1 v x G1 H1 w1 l1 r1 s1 => ?_
  split at w1
  · rename_i i e
    exact ⟨i, rs_int r1 e s1, w1 G1 H1 l1 r1⟩
  · exact w1.elim
def qSl (K : PySem.W.Frag) : V → Option Int → Option Int → Hp → VK → Prop := fun x lo hi H Q => rSlS x lo hi H Q ∨ (rSlL K x lo hi H Q ∨ rSlA K x lo hi H Q)
theorem or_sl {X : Cx} : L2.SlR X (qSl X.K) := sl_str.or (sl_list.or sl_tupA)
def slD (d : D) (lo hi : Option Int) : Option D := match d with
  | .str w => if w.length ≤ 10000000 then some (.str (cutL w lo hi)) else none
  | .lst ds => some (.lst (cutL ds lo hi))
  | _ => none
def eSl (fa : Env → M Vl) (fl fh : Env → M (Option Int)) : Env → M Vl := fun env => (fa env).bind fun x => (fl env).bind fun lo => (fh env).bind fun hi => (M.of (slD x.2 lo hi)).bind fun d => fin (isV x) d
theorem RpA.cut {vs : List V} {ds : List D} (h : RpA k G vs ds) (lo hi : Option Int) : RpA k G (cutL vs lo hi) (cutL ds lo hi) := by
  unfold cutL
  rw [h.len]
  exact h.drop.take
theorem se_sl {E : XK} {ta : TE} {fa : Env → M Vl} {tl th : TO} {fl fh : Env → M (Option Int)} (ha : SE k E ta fa) (hl : SO k E tl fl) (hh : SO k E th fh) : SE k E (L2.tSl (qSl k.K) ta tl th) (eSl fa fl fh) := fun R dr env σ G H n Q rl w => by
  refine ha.run rl (wp_bind' w) (fun _ _ _ h => h) fun dr n1 v x G1 H1 w1 l1 r1 s1 => ?_
  refine hl R dr env σ G1 H1 n1 _ r1 (wp_mono (wp_bind' w1) (fun dr n2 lo w2 G2 H2 l2 r2 => ?_) fun _ _ _ h => h.mono l1)
  refine hh R dr env σ G2 H2 n2 _ r2 (wp_mono (wp_bind' w2) (fun dr n3 hi w3 G3 H3 l3 r3 => ?_) fun _ _ _ h => h.mono (l1.trans l2))
  obtain ⟨d, hd, w4⟩ := wp_of.mp (wp_bind' w3)
  refine op_end (P := qSl k.K x lo hi H3 Q) r3 (wp_mono w4 (fun dr n' r q x G5 H5 l5 => q x G5 H5 ((l1.trans (l2.trans l3)).trans l5)) (fun _ _ _ h => h)) fun G' l' i' _ q1 q2 fin => ?_
  have p := q1 x v (fun z => z) (s1.mono (l2.trans l3))
  unfold slD at hd
  split at hd
  · rename_i w' e
    split at hd
    · rename_i hl
      cases hd
      rw [e] at p
      rw [rp_str p]
      refine .inl ⟨S w', rfl, by rw [S_len]; exact Nat.le_trans hl (by decide), ?_⟩
      rw [cutS_S]
      exact fin _ G' H3 (Up.refl i') (.str _)
    · cases hd
  · rename_i ds e
    cases hd
    rw [e] at p
    obtain ⟨a, vs, rfl, h1, h2⟩ := rp_lst p
    refine .inr (.inl ⟨a, vs, rfl, .inl (.inl (i'.ex h1 rfl)), fun r hr => ?_⟩)
    have u := Up.new (o := .lst (cutV vs lo hi)) i' hr
    exact fin _ _ _ u (.lst upd_same ((h2.cut lo hi).mono u.g))
  · cases hd
def revD : D → Option D
  | .str w => if w.length ≤ 1000000 then some (.str w.reverse) else none
  | _ => none
theorem se_rev {E : XK} {ta : TE} {fa : Env → M Vl} (ha : SE k E ta fa) : SE k E (tRevS ta) (eUn revD fa) := by
  refine se_un (r := fun x H1 Q => ∃ z, x = .str z ∧ z.length ≤ sizeLine ∧ Q (.str (revT z)) H1) (fun G H x a d hi px hd Q q => ?_) ha
  unfold revD at hd
  split at hd
  · split at hd
    · rename_i hl
      cases hd
      refine ⟨_, rp_str px, by rw [S_len]; exact Nat.le_trans hl (by decide), ?_⟩
      rw [revT_S]
      exact q _ G H (Up.refl hi) (.str _)
    · cases hd
  · cases hd
end
end Y

namespace Y
open PySem PySem.Spec PyProof.Rows L2 Z
section
variable {k : Kx} {G H : Hp}
def qLen (K : PySem.W.Frag) : List V → Hp → VK → Prop := fun xs H Q => rLenU K xs H Q ∨ rLenDc xs H Q
theorem cr_len {X : Cx} : CallR X (.builtin "len") (qLen X.K) := CallR.or (r := rLenU X.K) call_len cr_lenD
def lenD : List D → Option D
  | [.lst ds] => some (.int ds.length)
  | [.tup ds] => some (.int ds.length)
  | [.dic ds] => some (.int ds.length)
  | [.str w] => if w.length ≤ 10000000 then some (.int w.length) else none
  | [.scr ns] => some (.int ns.length)
  | _ => none
theorem cs_len : CaS k (qLen k.K) lenD := fun G H xs ds d hi px hd Q q => by
  unfold lenD at hd
  split at hd
  · cases hd
    obtain ⟨v, rfl, p⟩ := rpa_one px
    obtain ⟨a, vs, rfl, h1, h2⟩ := rp_lst p
    exact .inl ⟨.ref a, _, rfl, .inl ⟨vs, .inl (.inl (hi.ex h1 rfl)), h2.len.symm⟩, q _ G H (Up.refl hi) (.int _)⟩
  · cases hd
    obtain ⟨v, rfl, p⟩ := rpa_one px
    obtain ⟨a, vs, rfl, h1, h2⟩ := rp_tup p
    exact .inl ⟨.ref a, _, rfl, .inr ⟨vs, in_t hi h1, h2.len.symm⟩, q _ G H (Up.refl hi) (.int _)⟩
  · cases hd
    obtain ⟨v, rfl, p⟩ := rpa_one px
    obtain ⟨a, vs, rfl, h1, h2⟩ := rp_dic p
    exact .inr ⟨a, vs, rfl, hi.rd h1, by rw [h2.len]; exact q _ G H (Up.refl hi) (.int _)⟩
  · split at hd
    · rename_i hl
      cases hd
      obtain ⟨v, rfl, p⟩ := rpa_one px
      rw [rp_str p]
      exact .inl ⟨_, _, rfl, ⟨by rw [S_len]; exact Nat.le_trans hl (by decide), by rw [S_len]⟩, q _ G H (Up.refl hi) (.int _)⟩
    · cases hd
  · cases hd
    obtain ⟨v, rfl, p⟩ := rpa_one px
    cases p with
    | scr hs => exact .inl ⟨_, _, rfl, .inl ⟨_, sql_in hs hi, by rw [List.length_map]⟩, q _ G H (Up.refl hi) (.int _)⟩
  · cases hd
def minD2 : List D → Option D
  | [.int i, .int j] => some (.int (min i j))
  | _ => none
theorem cs_min2 : CaS k rMin2 minD2 := fun G H xs ds d hi px hd Q q => by
  unfold minD2 at hd
  split at hd
  · cases hd
    obtain ⟨v, w, rfl, p, p'⟩ := rpa_two px
    rw [rp_int p, rp_int p']
    exact cav_min2 (K := k.K) G H _ hi (.cons (.int _) (.cons (.int _) .nil)) Q fun v G2 H2 u p => q v G2 H2 u (of_z (.int _) (by simp [Y.py]) p)
  · cases hd
def blsOf : List D → Option (List Bool)
  | [] => some []
  | .bl b :: ds => (blsOf ds).map (b :: ·)
  | _ => none
def intsOf : List D → Option (List Int)
  | [] => some []
  | .int b :: ds => (intsOf ds).map (b :: ·)
  | _ => none
def strsOf : List D → Option (List (List Nat))
  | [] => some []
  | .str b :: ds => (strsOf ds).map (b :: ·)
  | _ => none
@[simp] theorem blsOf_map : ∀ xs : List Bool, blsOf (xs.map .bl) = some xs
  | [] => rfl
  | x :: xs => by simp [blsOf, blsOf_map xs]
@[simp] theorem intsOf_map : ∀ xs : List Int, intsOf (xs.map .int) = some xs
  | [] => rfl
  | x :: xs => by simp [intsOf, intsOf_map xs]
@[simp] theorem strsOf_map : ∀ xs : List (List Nat), strsOf (xs.map .str) = some xs
  | [] => rfl
  | x :: xs => by simp [strsOf, strsOf_map xs]
theorem of_bls : ∀ {ds : List D} {xs : List Bool}, blsOf ds = some xs → ds = xs.map .bl
  | [], xs, h => by cases h; rfl
  | d :: ds, xs, h => by
    cases d <;> simp only [blsOf, Option.map_eq_some_iff] at h <;> first
      | (cases h; done)
      | skip
    obtain ⟨ys, h1, rfl⟩ := h
    rw [of_bls h1]; rfl
theorem of_dints : ∀ {ds : List D} {xs : List Int}, intsOf ds = some xs → ds = xs.map .int
  | [], xs, h => by cases h; rfl
  | d :: ds, xs, h => by
    cases d <;> simp only [intsOf, Option.map_eq_some_iff] at h <;> first
      | (cases h; done)
      | skip
    obtain ⟨ys, h1, rfl⟩ := h
    rw [of_dints h1]; rfl
theorem of_strs : ∀ {ds : List D} {xs : List (List Nat)}, strsOf ds = some xs → ds = xs.map .str
  | [], xs, h => by cases h; rfl
  | d :: ds, xs, h => by
    cases d <;> simp only [strsOf, Option.map_eq_some_iff] at h <;> first
      | (cases h; done)
      | skip
    obtain ⟨ys, h1, rfl⟩ := h
    rw [of_strs h1]; rfl
theorem rpa_bls : ∀ {vs : List V} {xs : List Bool}, RpA k G vs (xs.map .bl) → vs = xs.map .bl
  | vs, [], h => rpa_nil h
  | vs, x :: xs, h => by
    obtain ⟨v, ws, rfl, h1, h2⟩ := rpa_cons h
    rw [rp_bl h1, rpa_bls h2]; rfl
theorem rpa_dints : ∀ {vs : List V} {xs : List Int}, RpA k G vs (xs.map .int) → vs = xs.map .int
  | vs, [], h => rpa_nil h
  | vs, x :: xs, h => by
    obtain ⟨v, ws, rfl, h1, h2⟩ := rpa_cons h
    rw [rp_int h1, rpa_dints h2]; rfl
theorem rpa_strs : ∀ {vs : List V} {xs : List (List Nat)}, RpA k G vs (xs.map .str) → vs = xs.map fun w => .str (S w)
  | vs, [], h => rpa_nil h
  | vs, x :: xs, h => by
    obtain ⟨v, ws, rfl, h1, h2⟩ := rpa_cons h
    rw [rp_str h1, rpa_strs h2]; rfl
theorem strs_rpa : ∀ xs : List (List Nat), RpA k G (xs.map fun w => .str (S w)) (xs.map .str)
  | [] => .nil
  | x :: xs => .cons (.str x) (strs_rpa xs)
theorem ints_rpa' : ∀ xs : List Int, RpA k G (xs.map .int) (xs.map .int)
  | [] => .nil
  | x :: xs => .cons (.int x) (ints_rpa' xs)
theorem pys_strs : ∀ l : List (List Nat), pys (l.map .str) = some (l.map dS)
  | [] => by simp [pys]
  | c :: w => by
    simp only [List.map_cons]
    rw [pys, pys_strs w]
    simp [py]
def allD : List D → Option D
  | [.lst ds] => (blsOf ds).map fun bs => .bl (bs.all id)
  | _ => none
def sumD : List D → Option D
  | [.lst ds] => (intsOf ds).map fun bs => .int bs.sum
  | _ => none
theorem cs_all : CaS k (rAll k.K) allD := fun G H xs ds d hi px hd Q q => by
  unfold allD at hd
  split at hd
  · simp only [Option.map_eq_some_iff] at hd
    obtain ⟨bs, h1, rfl⟩ := hd
    obtain ⟨v, rfl, p⟩ := rpa_one px
    rw [of_bls h1] at p
    obtain ⟨a, vs, rfl, h2, h3⟩ := rp_lst p
    rw [rpa_bls h3] at h2
    exact ⟨a, bs, rfl, .inl (.inl (hi.ex h2 rfl)), q _ G H (Up.refl hi) (.bl _)⟩
  · cases hd
theorem cs_sum : CaS k (rSum k.K) sumD := fun G H xs ds d hi px hd Q q => by
  unfold sumD at hd
  split at hd
  · simp only [Option.map_eq_some_iff] at hd
    obtain ⟨bs, h1, rfl⟩ := hd
    obtain ⟨v, rfl, p⟩ := rpa_one px
    rw [of_dints h1] at p
    obtain ⟨a, vs, rfl, h2, h3⟩ := rp_lst p
    rw [rpa_dints h3] at h2
    exact ⟨a, bs, rfl, .inl (.inl (hi.ex h2 rfl)), q _ G H (Up.refl hi) (.int _)⟩
  · cases hd
def minL : List D → Option D
  | [.lst ds] => match strsOf ds with
    | some (x :: xs) => some (.str (minS (x :: xs)))
    | _ => none
  | _ => none
theorem cs_min : CaS k (rMinD k.K) minL := fun G H xs ds d hi px hd Q q => by
  unfold minL at hd
  split at hd
  · split at hd
    · rename_i x ws h1
      cases hd
      obtain ⟨v, rfl, p⟩ := rpa_one px
      rw [of_strs h1] at p
      have pz : Z.Rp k.K G v (dL dS (x :: ws)) := p.z (by simp only [py, pys_strs]; rfl)
      exact cav_minS (K := k.K) (xs := x :: ws) (by simp) trivial G H _ hi (.cons pz .nil) Q fun v G2 H2 u p => q v G2 H2 u (of_z (.str _) (by simp [Y.py]) p)
    · cases hd
  · cases hd
def sortI (xs : List Int) : List Int := xs.mergeSort fun a b => decide (a ≤ b)
theorem dataLe_str (a b : List Nat) : PySem.W.dataLe false (fun d => d) (dS a) (dS b) = leW a b := by
  have e : PySem.W.dataLe false (fun d => d) (dS a) (dS b) = !PySem.W.dataLt (dS b) (dS a) := rfl
  rw [e, PySem.W.dataLt_str, S_cps, S_cps]
  unfold leW
  by_cases h : b < a
  · rw [decide_eq_true h, decide_eq_false (fun z => absurd h (Std.not_lt.mpr z))]; rfl
  · rw [decide_eq_false h, decide_eq_true (Std.not_lt.mp h)]; rfl
theorem dataLe_int (a b : Int) : PySem.W.dataLe false (fun d => d) (dI a) (dI b) = decide (a ≤ b) := by
  have e : PySem.W.dataLe false (fun d => d) (dI a) (dI b) = !PySem.W.dataLt (dI b) (dI a) := rfl
  rw [e, PySem.W.dataLt_int]
  by_cases h : b < a
  · rw [decide_eq_true h, decide_eq_false (by omega)]; rfl
  · rw [decide_eq_false h, decide_eq_true (by omega)]; rfl
theorem sortD_strs (xs : List (List Nat)) : sortD (xs.map dS) = (sortW xs).map dS := by
  unfold sortD sortW
  rw [List.map_mergeSort]
  intro a _ b _; exact (dataLe_str a b).symm
theorem sortD_ints (xs : List Int) : sortD (xs.map dI) = (sortI xs).map dI := by
  unfold sortD sortI
  rw [List.map_mergeSort]
  intro a _ b _; exact (dataLe_int a b).symm
def sortL (ds : List D) : Option (List D) := match strsOf ds with
  | some ws => some ((sortW ws).map .str)
  | none => match intsOf ds with
    | some is => some ((sortI is).map .int)
    | none => none
def keysOf : List (Ky × D) → Option (List (List Nat))
  | [] => some []
  | (.inr w, _) :: es => (keysOf es).map (w :: ·)
  | _ => none
def sortedD : List D → Option D
  | [.lst ds] => (sortL ds).map .lst
  | [.dic es] => if es.length < 64 then (keysOf es).map fun ws => .lst ((sortW ws).map .str) else none
  | _ => none
def qSorted (K : PySem.W.Frag) : List V → Hp → VK → Prop := fun xs H Q => rSortD K xs H Q ∨ rSortDk xs H Q
theorem cr_sorted {X : Cx} (hc : X.calm = true) (hu : X.A.units + 100 < cLine) : CallR X (.builtin "sorted") (qSorted X.K) := CallR.or (r' := rSortDk) (cr_sortD hu) (call_sortedD hc)
theorem sort_str_ok (xs : List (List Nat)) : PySem.W.AllAlike (xs.map dS) ∧ PySem.W.Sortable (xs.map dS) ∧ (∀ d ∈ xs.map dS, d.depth ≤ 64) := by
  have key : ∀ d ∈ xs.map dS, ∃ l, d = dS l := fun d hd => by
    obtain ⟨l, _, e⟩ := List.mem_map.mp hd
    exact ⟨l, e.symm⟩
  refine ⟨fun a ha b hb => ?_, ?_, fun a ha => ?_⟩
  · obtain ⟨l, rfl⟩ := key a ha
    obtain ⟨m, rfl⟩ := key b hb
    simp [PySem.W.alike]
  · refine .inr fun a ha => ?_
    obtain ⟨l, rfl⟩ := key a ha
    exact ⟨(by intro z; cases z), fun xs z => by cases z⟩
  · obtain ⟨l, rfl⟩ := key a ha
    simp [PyData.depth]
theorem sort_int_ok (xs : List Int) : PySem.W.AllAlike (xs.map dI) ∧ PySem.W.Sortable (xs.map dI) ∧ (∀ d ∈ xs.map dI, d.depth ≤ 64) := by
  have key : ∀ d ∈ xs.map dI, ∃ l, d = dI l := fun d hd => by
    obtain ⟨l, _, e⟩ := List.mem_map.mp hd
    exact ⟨l, e.symm⟩
  refine ⟨fun a ha b hb => ?_, ?_, fun a ha => ?_⟩
  · obtain ⟨l, rfl⟩ := key a ha
    obtain ⟨m, rfl⟩ := key b hb
    simp [PySem.W.alike]
  · refine .inr fun a ha => ?_
    obtain ⟨l, rfl⟩ := key a ha
    exact ⟨(by intro z; cases z), fun xs z => by cases z⟩
  · obtain ⟨l, rfl⟩ := key a ha
    simp [PyData.depth]
theorem dp_of {vs : List V} {ds : List D} {ps : List PyData} (hi : In G H) (h : RpA k G vs ds) (e : pys ds = some ps) (hf : dicFs ps = true) : DpAll k.K H vs ps := (h.z e).dp hi hf
theorem dicFs_I : ∀ xs : List Int, dicFs (xs.map dI) = true
  | [] => by simp [dicFs]
  | x :: xs => by simp only [List.map_cons, dicFs, Bool.and_eq_true]; exact ⟨by simp [dicF], dicFs_I xs⟩
theorem keys_of : ∀ {kvs : List (Key × V)} {es : List (Ky × D)} {ws : List (List Nat)}, RpD k G kvs es → keysOf es = some ws → kvs.map (·.1) = (ws.map S).map Sum.inr
  | _, _, _, .nil, h => by cases h; rfl
  | _, _, _, .cons (q := q) _ a, h => by
    cases q with
    | inl i => cases h
    | inr w =>
      simp only [keysOf, Option.map_eq_some_iff] at h
      obtain ⟨ys, h1, rfl⟩ := h
      simp only [List.map_cons, kk]
      rw [keys_of a h1]
theorem keysOf_len : ∀ {es : List (Ky × D)} {ws : List (List Nat)}, keysOf es = some ws → ws.length = es.length
  | [], _, h => by cases h; rfl
  | (q, _) :: es, ws, h => by
    cases q with
    | inl i => cases h
    | inr w =>
      simp only [keysOf, Option.map_eq_some_iff] at h
      obtain ⟨ys, h1, rfl⟩ := h
      simp [keysOf_len h1]
theorem co_sorted : CaO k (qSorted k.K) sortedD := fun G H xs ds d hi px hd Q q => by
  unfold sortedD at hd
  split at hd
  · rename_i es
    simp only [Option.map_eq_some_iff] at hd
    obtain ⟨rs, h1, rfl⟩ := hd
    obtain ⟨v, rfl, p⟩ := rpa_one px
    obtain ⟨a, vs, rfl, h2, h3⟩ := rp_lst p
    unfold sortL at h1
    split at h1
    · rename_i ws hw
      cases h1
      obtain ⟨o1, o2, o3⟩ := sort_str_ok ws
      have ep : pys es = some (ws.map dS) := by rw [of_strs hw]; exact pys_strs ws
      refine .inl ⟨a, vs, _, rfl, .inl (.inl (hi.ex h2 rfl)), dp_of hi h3 ep (dicFs_S ws), o1, o2, o3, fun p ys hp hy => ?_⟩
      obtain ⟨y1, y2⟩ := hy (fun x d => x = .str (match d with | .str z => z | _ => S [])) (fun i x d hx hd => by
        rw [List.getElem?_map] at hd
        cases hz : ws[i]? with
        | none => rw [hz] at hd; cases hd
        | some z =>
          rw [hz] at hd
          simp only [Option.map_some, Option.some.injEq] at hd
          subst hd
          obtain ⟨v', g1, g2⟩ := h3.get (i := i) (d := .str z) (by rw [of_strs hw, List.getElem?_map, hz]; rfl)
          rw [hx] at g1; cases g1
          exact rp_str g2)
      rw [sortD_strs] at y1 y2
      have ey : ys = (sortW ws).map fun w => .str (S w) := by
        apply List.ext_getElem?
        intro i
        rw [List.getElem?_map]
        cases hz : (sortW ws)[i]? with
        | none =>
          rw [List.getElem?_eq_none_iff] at hz
          rw [List.getElem?_eq_none (by rw [y1, List.length_map]; exact hz)]; rfl
        | some z =>
          have hlt : i < ys.length := by rw [y1, List.length_map]; exact (List.getElem?_eq_some_iff.mp hz).1
          have := y2 i ys[i] (dS z) (List.getElem?_eq_getElem hlt) (by rw [List.getElem?_map, hz]; rfl)
          rw [List.getElem?_eq_getElem hlt, this]; rfl
      rw [ey]
      exact q p _ hp (.lst (strs_rpa _))
    · split at h1
      · rename_i is hw
        cases h1
        obtain ⟨o1, o2, o3⟩ := sort_int_ok is
        have ep : pys es = some (is.map dI) := by rw [of_dints hw]; exact pys_dInts is
        refine .inl ⟨a, vs, _, rfl, .inl (.inl (hi.ex h2 rfl)), dp_of hi h3 ep (dicFs_I is), o1, o2, o3, fun p ys hp hy => ?_⟩
        obtain ⟨y1, y2⟩ := hy (fun x d => x = .int (match d with | .int z => z | _ => 0)) (fun i x d hx hd => by
          rw [List.getElem?_map] at hd
          cases hz : is[i]? with
          | none => rw [hz] at hd; cases hd
          | some z =>
            rw [hz] at hd
            simp only [Option.map_some, Option.some.injEq] at hd
            subst hd
            obtain ⟨v', g1, g2⟩ := h3.get (i := i) (d := .int z) (by rw [of_dints hw, List.getElem?_map, hz]; rfl)
            rw [hx] at g1; cases g1
            exact rp_int g2)
        rw [sortD_ints] at y1 y2
        have ey : ys = (sortI is).map .int := by
          apply List.ext_getElem?
          intro i
          rw [List.getElem?_map]
          cases hz : (sortI is)[i]? with
          | none =>
            rw [List.getElem?_eq_none_iff] at hz
            rw [List.getElem?_eq_none (by rw [y1, List.length_map]; exact hz)]; rfl
          | some z =>
            have hlt : i < ys.length := by rw [y1, List.length_map]; exact (List.getElem?_eq_some_iff.mp hz).1
            have := y2 i ys[i] (dI z) (List.getElem?_eq_getElem hlt) (by rw [List.getElem?_map, hz]; rfl)
            rw [List.getElem?_eq_getElem hlt, this]; rfl
        rw [ey]
        exact q p _ hp (.lst (ints_rpa' _))
      · cases h1
  · rename_i es
    split at hd
    · rename_i hl
      simp only [Option.map_eq_some_iff] at hd
      obtain ⟨ws, h1, rfl⟩ := hd
      obtain ⟨v, rfl, p⟩ := rpa_one px
      obtain ⟨a, vs, rfl, h2, h3⟩ := rp_dic p
      refine .inr ⟨a, vs, ws.map S, rfl, hi.rd h2, keys_of h3 h1, by rw [List.length_map, keysOf_len h1]; exact hl, fun ys r pm so hr => ?_⟩
      have e2 : ys.map (fun y => y.cps.toList) = sortW ws := by
        apply sortW_unique
        · have := pm.map (fun y : Str => y.cps.toList)
          rw [List.map_map] at this
          have e3 : ws.map ((fun y : Str => y.cps.toList) ∘ S) = ws := by
            conv => rhs; rw [← List.map_id ws]
            exact List.map_congr_left fun w _ => S_cps w
          rw [e3] at this
          exact this
        · exact List.pairwise_map.mpr (sorted_pw so)
      have e4 : ys.map V.str = (sortW ws).map fun w => .str (S w) := by
        rw [← e2, List.map_map]
        exact List.map_congr_left fun y _ => by
          show V.str y = V.str (S y.cps.toList)
          rw [S_eta]
      rw [e4]
      exact q r _ hr (.lst (strs_rpa _))
    · cases hd
  · cases hd
def joinD : D → D → Option D
  | .str [], .lst ds => match strsOf ds with
    | some ws => if (ws.map List.length).sum ≤ 10000000 then some (.str ws.flatten) else none
    | none => none
  | _, _ => none
def eJoin (fa fb : Env → M Vl) : Env → M Vl := fun env => (fa env).bind fun x => match x.2 with
  | .str w => (fb env).bind fun y => (M.of (joinD (.str w) y.2)).bind fun d => fin (isV x || isV y) d
  | _ => .bad
theorem se_join {E : XK} {ta tb : TE} {fa fb : Env → M Vl} (ha : SE k E ta fa) (hb : SE k E tb fb) : SE k E (tM1 (rJoin k.K) ta tb) (eJoin fa fb) := fun R dr env σ G H n Q rl w => by
  refine ha.run rl (wp_bind' w) (fun _ _ _ h => h) fun dr n1 v x G1 H1 w1 l1 r1 s1 => ?_
  split at w1
  · rename_i w0 e0
    obtain ⟨G', lg, ig, _, qr, _⟩ := r1.revealA
    have px := qr x v s1
    rw [e0] at px
    refine ⟨⟨_, rp_str px⟩, ?_⟩
    refine hb.run r1 (wp_bind' w1) (fun _ _ _ h => h.mono l1) fun dr n2 v2 y G2 H2 w2 l2 r2 s2 => ?_
    obtain ⟨d, hd, w3⟩ := wp_of.mp (wp_bind' w2)
    refine op_end (P := rJoin k.K x [y] H2 Q) r2 (wp_mono w3 (fun dr n' r q x G3 H3 l3 => q x G3 H3 ((l1.trans l2).trans l3)) (fun _ _ _ h => h)) fun G' l' i' _ q1 q2 fin => ?_
    have py' := q1 y v2 (fun z => by revert z; cases isV v2 <;> simp) s2
    unfold joinD at hd
    split at hd
    · rename_i ds e1 e2
      cases e1
      split at hd
      · rename_i ws hw
        split at hd
        · rename_i hl
          cases hd
          rw [e2, of_strs hw] at py'
          obtain ⟨a, vs, rfl, h1, h2⟩ := rp_lst py'
          rw [rpa_strs h2] at h1
          rw [rp_str px]
          refine ⟨S [], a, ws.map S, rfl, rfl, .inl (.inl (.inl ?_)), ?_, ?_⟩
          · have := i'.ex h1 rfl
            rw [List.map_map]; exact this
          · have e1 : (ws.map S).map (·.length) = ws.map List.length := by
              rw [List.map_map]
              exact List.map_congr_left fun l _ => S_len l
            rw [e1, S_len]
            simp only [List.length_nil, Nat.mul_zero, Nat.add_zero]
            exact Nat.le_trans hl (by decide)
          · rw [Z.join_nil]
            exact fin _ G' H2 (Up.refl i') (.str _)
        · cases hd
      · cases hd
    · cases hd
  · exact w1.elim
end
end Y

namespace Y
open PySem PySem.Spec PyProof.Rows L2 Z
def tyName : D → Option String
  | .non => some "NoneType"
  | .bl _ => some "bool"
  | .int _ => some "int"
  | .str _ => some "str"
  | .lst _ => some "list"
  | .tup _ => some "tuple"
  | .dic _ => some "dict"
  | _ => none
def XTab (k : Kx) (tab : List (Str × Str × Bool)) : Prop := ∀ p ∈ tab, ExcC k.K (k.ca p.1) ∧ PySem.W.kitOne k.K (.ref (k.ca p.1)) (.ref (k.ca p.2.1)) = some p.2.2
def lookX (tab : List (Str × Str × Bool)) (a b : Str) : Option Bool := (tab.find? fun p => decide (p.1 = a ∧ p.2.1 = b)).map (·.2.2)
def isiD (tab : List (Str × Str × Bool)) : List D → Option D
  | [d, .ty c] => (tyName d).bind fun n => (kitB n c).map .bl
  | [.exc C [], .glo B] => (lookX tab C B).map .bl
  | [.exc C (_ :: _), .glo B] => if C = B then some (.bl true) else none
  | _ => none
section
variable {k : Kx} {G H : Hp}
theorem tyX_of {x : V} {d : D} {n : String} (hi : In G H) (p : Rp k G x d) (h : tyName d = some n) : TyX k.K H x (.type n) := by
  cases p with
  | non => cases h; exact .base .non
  | bl b => cases h; exact .base (.bl b)
  | int i => cases h; exact .base (.int i)
  | str s => cases h; exact .base (.str _)
  | lst g _ => cases h; exact .base (.lst (hi.ex g rfl))
  | tup g _ =>
    cases h
    rcases g with q | q
    · rcases q with q | ⟨o, q⟩
      · exact .base (.tup (hi.ex q rfl))
      · exact .fTuple (hi.ex q rfl)
    · obtain ⟨o, its, n, h1, h2, _⟩ := q
      exact .kTuple h1 h2
  | dic g _ =>
    cases h
    rcases hi _ _ g with q | ⟨_, o, q⟩
    · exact .base (.dK q)
    · exact .fDict q
  | _ => cases h
theorem cs_isi {tab : List (Str × Str × Bool)} (ht : XTab k tab) : CaS k (rIsA k.K) (isiD tab) := fun G H xs ds d hi px hd Q q => by
  unfold isiD at hd
  split at hd
  · rename_i d0 c
    simp only [Option.bind_eq_some_iff, Option.map_eq_some_iff] at hd
    obtain ⟨n, h1, b, h2, rfl⟩ := hd
    obtain ⟨v, w, rfl, p1, p2⟩ := rpa_two px
    cases p2
    exact .inl ⟨v, .ty c, .type n, .type c, b, rfl, by constructor, tyX_of hi p1 h1, kit_ty h2, q _ G H (Up.refl hi) (.bl _)⟩
  · rename_i C B
    simp only [Option.map_eq_some_iff] at hd
    obtain ⟨b, h1, rfl⟩ := hd
    obtain ⟨v, w, rfl, p1, p2⟩ := rpa_two px
    unfold lookX at h1
    simp only [Option.map_eq_some_iff] at h1
    obtain ⟨p, hp, rfl⟩ := h1
    have hm := List.mem_of_find?_eq_some hp
    have he := List.find?_some hp
    obtain ⟨e1, e2⟩ := of_decide_eq_true he
    obtain ⟨t1, t2⟩ := ht p hm
    cases p2
    cases p1 with
    | exc g =>
      rw [e1] at t1 t2
      rw [e2] at t2
      exact .inr (.inl ⟨_, k.ca C, .ref (k.ca B), .ref (k.ca B), p.2.2, rfl, hi.ex g rfl, t1, fun u r => r, t2, q _ G H (Up.refl hi) (.bl _)⟩)
    | excF _ _ _ h => exact absurd rfl h
  · split at hd
    · rename_i C f fs B e
      subst e
      cases hd
      obtain ⟨v, w, rfl, p1, p2⟩ := rpa_two px
      cases p2
      cases p1 with
      | excF g _ _ _ => exact .inr (.inr ⟨_, _, _, rfl, hi.ex g rfl, q _ G H (Up.refl hi) (.bl _)⟩)
    · cases hd
  · cases hd
def shw (p : PyData) : List Nat := p.shown.cps.toList
end
end Y

namespace Y
open PySem PySem.Spec PyProof.Rows L2 Z
def tLockP (te : TE) : TE := fun σ H Q => te σ H fun x H1 => (∃ d kvs, x = .ref d ∧ H1 d = some (.dK kvs) ∧ ∀ o, Q x (upd H1 d (.frz o (.dK kvs)))) ∨ Q x H1
theorem pe_lockP {X : Cx} {e : Expr} {te : TE} (he : PE X e te) : PE X e (tLockP te) := by
  refine ⟨fun pins s σ H Q I h => ?_⟩
  refine thn (he.run pins s σ H _ I h) fun u s1 ⟨x, H1, I1, rx, q⟩ => ?_
  rcases q with ⟨d, kvs, rfl, hd, q⟩ | q
  · obtain ⟨o, I2⟩ := I1.lock hd trivial
    exact ⟨_, _, I2, rx, q o⟩
  · exact ⟨x, H1, I1, rx, q⟩
def iAnyD (K : PySem.W.Frag) (te : TE) : TI := fun σ H P => tLockP te σ H fun x H1 => (∃ a, x = .ref a ∧ (∃ xs, SqL K H1 a xs) ∧ P (Itl K a) H1) ∨ (∃ a, x = .ref a ∧ (∃ xs, SqT K H1 a xs) ∧ P (Itt K a) H1) ∨ (∃ z, x = .str z ∧ P (Its z) H1) ∨ ∃ d o kvs, x = .ref d ∧ H1 d = some (.frz o (.dK kvs)) ∧ P (Itk d o kvs) H1
theorem pi_anyD {X : Cx} {tg e : Expr} {te : TE} (he : PE X e te) : PI X tg e (iAnyD X.K te) := by
  refine ⟨fun pins s σ H R I h => ?_⟩
  refine thn ((pe_lockP he).run pins s σ H _ I h) fun v s1 ⟨x, H1, I1, r1, q1⟩ => ?_
  rcases q1 with ⟨a, e, ⟨xs, hq⟩, q⟩ | ⟨a, e, ⟨xs, hq⟩, q⟩ | ⟨z, e, q⟩ | ⟨d, o, kvs, e, hd, q⟩
  · subst e
    cases r1
    obtain ⟨its, rv, p, hz⟩ := I1.list hq
    exact wpAny_pyIter_list p.isList (pi_one (tk := s1.toks) I1 _ (turn_list a _) ⟨_, Heap.get?_push_size _ rfl, rfl, rfl⟩ q)
  · subst e
    cases r1
    obtain ⟨its, rv, p, hz⟩ := I1.tuple hq
    exact wpAny_pyIter_tuple (show s1.heap.IsTuple a its.toArray from p) (pi_one (tk := s1.toks) I1 _ (turn_tuple a _) ⟨_, Heap.get?_push_size _ rfl, rfl, rfl⟩ q)
  · subst e
    obtain ⟨t, rfl⟩ := r1
    cases ha : z.cps.all (· < 128)
    · exact wpAny_pyIter_wide ha (pi_one (tk := s1.toks) I1 _ (turn_str _ z t "str_iterator" (.inr rfl)) ⟨_, Heap.get?_push_size _ rfl, rfl, rfl⟩ q)
    · exact wpAny_pyIter_ascii ha (pi_one (tk := s1.toks) I1 _ (turn_str _ z t "str_ascii_iterator" (.inl rfl)) ⟨_, Heap.get?_push_size _ rfl, rfl, rfl⟩ q)
  · subst e
    obtain rfl : v = Value.ref d := r1
    obtain ⟨hs, hgd, hx, es, ep, vs, hdt, hsz, kv, hm⟩ := I1.frzK hd
    refine iter_keys hs hgd hx hdt (pi_one (tk := s1.toks) I1 _ (turn_keys _ hdt) ⟨_, Heap.get?_push_size _ rfl, rfl, ?_⟩ q)
    rw [hsz] <;> rfl
section
variable {k : Kx} {E : XK} {R : Hp} {dr : Dr} {env : Env} {σ : L2.St} {G G2 H H2 : Hp} {n n' : Nat} {te td : TE} {fe fd : Env → M Vl}
theorem Rl.pin {d : Addr} {kvs : List (Key × V)} {ob : Obj} (r : Rl k R dr env σ G H n) (hg : G d = some (.dK kvs)) (hh : H d = some (.frz ob (.dK kvs))) : Rl k (upd R d (.frz ob (.dK kvs))) dr env σ G H n ∧ Le R (upd R d (.frz ob (.dK kvs))) := by
  have nd : ¬ inDr dr d := fun z => by rw [r.dh d z] at hg; cases hg
  refine ⟨⟨r.i, r.nt, r.tb, r.dd, r.dh, r.dj, fun b u e => ?_, r.sh, fun i d' e => ?_, r.inj, r.len, r.nb, r.so⟩, fun b u e => ?_⟩
  · by_cases hb : b = d
    · subst hb; rw [upd_same] at e; cases e
      exact ⟨hh, fun z => (by cases z), nd, fun ps z => (by cases z)⟩
    · rw [upd_ne hb] at e; exact r.rs b u e
  · obtain ⟨b, e1, u, e2, e3, e4⟩ := r.ow i d' e
    have nb : b ≠ d := fun z => by rw [z] at e4; rw [e4.g] at hg; cases hg
    exact ⟨b, e1, u, e2, e3, e4.g, by rw [upd_ne nb]; exact e4.r, e4.d⟩
  · by_cases hb : b = d
    · subst hb
      have := (r.rs b u e).1
      rw [hh] at this; cases this
      exact upd_same
    · rw [upd_ne hb]; exact e
def keyOf : Ky → D
  | .inl i => .int i
  | .inr w => .str w
theorem rp_key (q : Ky) : Rp k G (kV (kk q)) (keyOf q) := by
  cases q with
  | inl i => exact .int i
  | inr w => exact .str w
theorem RpD.at : ∀ {kvs : List (Key × V)} {es : List (Ky × D)} {i : Nat} {q : Ky} {d : D}, RpD k G kvs es → es[i]? = some (q, d) → ∃ v, kvs[i]? = some (kk q, v) ∧ Rp k G v d
  | _, _, _, _, _, .nil, e => by simp at e
  | _, _, 0, _, _, .cons h _, e => by simp at e; obtain ⟨rfl, rfl⟩ := e; exact ⟨_, rfl, h⟩
  | _, _, i + 1, _, _, .cons _ a, e => by
    obtain ⟨v, h1, h2⟩ := RpD.at (i := i) a (by simpa using e)
    exact ⟨v, by simpa using h1, h2⟩
theorem wk_keys {d : Addr} {o : Obj} {kvs : List (Key × V)} {es : List (Ky × D)} (hR : R d = some (.frz o (.dK kvs))) (r : RpD k G kvs es) : Wk k R (Itk d o kvs) G (es.map fun e => keyOf e.1) := fun G' H' l i pin => by
  have e := pin d _ hR
  refine ⟨⟨e, by rw [r.len, List.length_map]; exact Nat.le_refl _⟩, fun j x hx => ?_⟩
  rw [List.getElem?_map] at hx
  cases hz : es[j]? with
  | none => rw [hz] at hx; cases hx
  | some p =>
    rw [hz] at hx; cases hx
    obtain ⟨q, d'⟩ := p
    obtain ⟨v, g1, g2⟩ := r.at hz
    have hj : j < kvs.length := (List.getElem?_eq_some_iff.mp g1).1
    refine ⟨⟨e, hj⟩, fun x H2 y => ?_⟩
    obtain ⟨rfl, k', v', e1, rfl⟩ := y
    rw [g1] at e1; cases e1
    exact ⟨G', Up.refl i, rp_key q⟩
def itA : D → Option (List D)
  | .dic es => some (es.map fun e => keyOf e.1)
  | d => itD d
def eItA (fe : Env → M Vl) : Env → M (List D) := fun env => (fe env).bind fun x => if isV x then .bad else M.of (itA x.2)
theorem lock_at (r : Rl k R dr env σ G H n) {a : Addr} {kvs : List (Key × V)} (hg : G a = some (.dK kvs)) (P : VK) (h : ∀ o Rx H2, Le R Rx → Rx a = some (.frz o (.dK kvs)) → H2 a = some (.frz o (.dK kvs)) → Rl k Rx dr env σ G H2 n → P (.ref a) H2) : (∃ d kvs, V.ref a = .ref d ∧ H d = some (.dK kvs) ∧ ∀ o, P (.ref a) (upd H d (.frz o (.dK kvs)))) ∨ P (.ref a) H := by
  rcases r.i a _ hg with z | ⟨_, o, z⟩
  · refine .inl ⟨a, kvs, rfl, z, fun o => ?_⟩
    obtain ⟨r2, l2⟩ := r.lock (ob := o) hg z
    exact h o _ _ l2 upd_same upd_same r2
  · refine .inr ?_
    obtain ⟨r2, l2⟩ := r.pin hg z
    exact h o _ _ l2 upd_same z r2
theorem si_anyD (he : SE k E te fe) : SI k E (iAnyD k.K te) (eItA fe) := fun R dr env σ G H n P rl w => by
  refine he.run rl (wp_bind' w) (fun _ _ _ h => h) fun dr n1 v x G1 H1 w1 l1 r1 s1 => ?_
  cases hv : isV v with
  | true => rw [hv, if_pos rfl] at w1; exact w1.elim
  | false =>
    rw [hv, if_neg (by simp)] at w1
    have p := rs_s hv s1
    obtain ⟨ds, e, w2⟩ := wp_of.mp w1
    obtain ⟨m, d⟩ := v
    cases d <;> try (simp [itA, itD] at e; done)
    · simp only [itA, itD, Option.some.injEq] at e
      subst e
      exact .inr (.inr (.inr (.inl ⟨_, rp_str p, w2 _ R G1 H1 (Le.refl _) l1 r1 (wk_of rfl (pys_chars _) wk_str)⟩)))
    · simp only [itA, itD, Option.some.injEq] at e
      subst e
      obtain ⟨a, xs, rfl, h1, h2⟩ := rp_lst p
      exact .inr (.inl ⟨a, rfl, ⟨xs, .inl (.inl (r1.i.ex h1 rfl))⟩, w2 _ R G1 H1 (Le.refl _) l1 r1 (wk_lst h1 h2)⟩)
    · simp only [itA, itD, Option.some.injEq] at e
      subst e
      obtain ⟨a, xs, rfl, h1, h2⟩ := rp_tup p
      exact .inr (.inr (.inl ⟨a, rfl, ⟨xs, in_t r1.i h1⟩, w2 _ R G1 H1 (Le.refl _) l1 r1 (wk_tup h1 h2)⟩))
    · simp only [itA, Option.some.injEq] at e
      subst e
      obtain ⟨a, xs, rfl, h1, h2⟩ := rp_dic p
      exact lock_at r1 h1 (fun x H1 => (∃ a, x = .ref a ∧ (∃ xs, SqL k.K H1 a xs) ∧ P (Itl k.K a) H1) ∨ (∃ a, x = .ref a ∧ (∃ xs, SqT k.K H1 a xs) ∧ P (Itt k.K a) H1) ∨ (∃ z, x = .str z ∧ P (Its z) H1) ∨ ∃ d o kvs, x = .ref d ∧ H1 d = some (.frz o (.dK kvs)) ∧ P (Itk d o kvs) H1) fun o Rx H2 lx hR hH r2 => .inr (.inr (.inr ⟨a, o, xs, rfl, hH, w2 _ Rx G1 H2 lx l1 r2 (wk_keys hR h2)⟩))
def itemsD : D → Option (List D)
  | .dic es => some (es.map fun e => .tup [keyOf e.1, e.2])
  | _ => none
def eDNew : Env → M Vl := fun _ => .ok (.o, .dic [])
theorem se_dnew : SE k E tDNewK eDNew := fun R dr env σ G H n Q r w p hp => w _ G _ (Le.refl _) (r.new hp) ⟨p, rfl, (r.newO hp (.dic .nil)).1, (r.newO hp (.dic .nil)).2⟩
theorem RpD.merge : ∀ {kvs : List (Key × V)} {es : List (Ky × D)}, RpD k G kvs es → ∀ {k0 : List (Key × V)} {e0 : List (Ky × D)}, RpD k G k0 e0 → RpD k G (kvs.foldl (fun acc kv => putK acc kv.1 kv.2) k0) (es.foldl (fun acc e => putD acc e.1 e.2) e0)
  | _, _, .nil, _, _, h => h
  | _, _, .cons p a, _, _, h => RpD.merge a (h.put p)
end
end Y

namespace Z
open PySem PySem.Spec PyProof.Rows L2
section
variable {prog : Program} {w : World} {A : Around} {E : Value → Shared → Prop} {s : Shared}
end
end Z

namespace Z
open PySem PySem.Spec PyProof.Rows L2 PySem.W
section
variable {prog : Program} {w : World} {A : Around} {E : Value → Shared → Prop} {s : Shared} {r : Addr} {t u v : Tok} {n : Nat}
end
end Z

namespace Z
open PySem PySem.Spec PyProof.Rows L2
section
variable {P : Program} {w : World} {K : PySem.W.Frag} {mg : Str → Option Value} {base : Heap} {x qual : Str} {params : Arguments} {body : List Stmt} {scope : Scope} {dvs : List V} {kws : List (Str × V)} {f : Addr} {fd : FuncData} {C : CXT} {N ps : List Str} {k : Nat} {sp : Sp}
theorem okC (F : FunD K x qual params body scope dvs kws f fd) (S : FnScope N ps scope) (len : ∀ vs H Q E, sp vs H Q E → vs.length = ps.length)
    (hb : ∀ (cdv : Value) (A : Around) (outer : List Env) (s : Shared) (H : Hp) (vs : List V) (Q : VK) (E : XK), fd.code = cdv → Room k (A.deeper (envOfC qual scope s.heap.objs.size f cdv)) → sp vs H Q E →
      ∃ t, PSs (cxOf C P w K mg base N qual scope f cdv A outer s H E) body t ∧ t { nx := fun _ H' => Q .non H', rt := Q } (start N vs) H) : FnOk P w K mg base C (k + 1) f fd ps sp := by
  obtain ⟨oc, od, dV, kV, doc, pm, an, cdv, ct, osl, rfl, lk, hcd, _, _⟩ := F.ex
  exact fn_of lk hcd S len fun A outer s H vs Q E hr h => hb cdv A outer s H vs Q E rfl hr h
end
end Z

namespace Z
open PySem PySem.Spec PyProof.Rows L2
def rKd (K : PySem.W.Frag) (d : Addr) : R2 := fun x y H Q => ∃ (z : Str) (u0 : Value) (v0 : V), x = .ref d ∧ y = .str z ∧ PySem.W.nsIn K d z = some (some u0) ∧ RelV v0 u0 ∧ Q v0 H
def KTab (K : PySem.W.Frag) (d : Addr) (kvs : List (Str × Str)) : Prop := ∀ p ∈ kvs, ∃ u, PySem.W.nsIn K d p.1 = some (some u) ∧ RelV (.str p.2) u
section
variable {K : PySem.W.Frag} {σ : L2.St} {G : Hp} {te : TE} {d : Addr}
end
theorem op_kd {X : Cx} {d : Addr} {es : Array DictEntry} {n : Nat} (D : KDict X.K X.w d es n) : OpR X getItem (rKd X.K d) := op_item_kd D
end Z

namespace Y
open PySem PySem.Spec PyProof.Rows L2 Z
def rDIn : R2 := fun y x H Q => ∃ a o, x = .ref a ∧ DGet H a y o ∧ Q (.bl o.isSome) H
def rDNotIn : R2 := fun y x H Q => ∃ a o, x = .ref a ∧ DGet H a y o ∧ Q (.bl (!o.isSome)) H
def rDGet : R2 := fun x y H Q => ∃ a v, x = .ref a ∧ DGet H a y (some v) ∧ Q v H
section
variable {X : Cx}
theorem op_din (hu : X.A.units + 1 < cLine) : OpR X (compareOp .In) rDIn := fun pins s σ H y x u v Q I ry rx h => by
  obtain ⟨a, o, rfl, g, q⟩ := h
  obtain rfl : v = Value.ref a := rx
  exact d_in hu I g ry fun s3 I3 => ⟨.bl o.isSome, H, I3, rfl, q⟩
theorem op_dnotin (hu : X.A.units + 1 < cLine) : OpR X (compareOp .NotIn) rDNotIn := fun pins s σ H y x u v Q I ry rx h => by
  obtain ⟨a, o, rfl, g, q⟩ := h
  obtain rfl : v = Value.ref a := rx
  exact d_notIn hu I g ry fun s3 I3 => ⟨.bl (!o.isSome), H, I3, rfl, q⟩
theorem ix_dict (hu : X.A.units + 1 < cLine) : IxR X rDGet := by
  intro value slice pins s σ H x y v u Q I rx ry h hs
  obtain ⟨a, z, rfl, g, q⟩ := h
  obtain rfl : v = Value.ref a := rx
  have hT : s.TypeIs (.ref a) "dict" := dict_typeIs I g
  unfold subscriptTail
  refine wpAny_bind ?_
  rw [getitemInPython_of_ne hT.not_modules]
  refine wpAny_bind (wpAny_specialOf hT PySem.F.slot_dict_getitem.lookup ?_)
  have h2 : wpAny (model X.prog X.w) X.A (getItem (.ref a) u) (EP X pins σ Q) X.xe s := d_getItem hu I g ry fun w' s3 I3 rw' => ⟨z, H, I3, rw', q⟩
  have fin : wpAny (model X.prog X.w) X.A (subscripted slice false (.ref a) u) (fun r s₃ => wpAny (model X.prog X.w) X.A (letTemporaryGo value (.ref a) r >>= fun _ => pure r) (EP X pins σ Q) X.xe s₃) X.xe s := by
    rw [hs]
    exact wpAny_operating (wpAny_mono h2 (fun r s₃ h₃ => wpAny_bind (wpAny_letTemporaryGo (wpAny_pure h₃))) fun _ _ x => x)
  first
    | exact wpAny_pure (wpAny_bind fin)
    | exact wpAny_bind (wpAny_pure (wpAny_bind fin))
    | exact wpAny_bind fin
def qInA (K : PySem.W.Frag) : R2 := fun x y H Q => qIn K x y H Q ∨ rDIn x y H Q
def qNotInA (K : PySem.W.Frag) : R2 := fun x y H Q => qNotIn K x y H Q ∨ rDNotIn x y H Q
def qIxA (K : PySem.W.Frag) : R2 := fun x y H Q => rIx K x y H Q ∨ rDGet x y H Q
theorem or_inA (hu : X.A.units + 100 < cLine) : OpR X (compareOp .In) (qInA X.K) := or_in.or (op_din (by omega))
theorem or_notinA (hu : X.A.units + 100 < cLine) : OpR X (compareOp .NotIn) (qNotInA X.K) := or_notin.or (op_dnotin (by omega))
theorem ix_any (hu : X.A.units + 100 < cLine) : IxR X (qIxA X.K) := ix_seq.or (ix_dict (by omega))
end
section
variable {k : Kx} {E : XK} {R : Hp} {dr : Dr} {env : Env} {σ : L2.St} {G H : Hp} {n : Nat}
theorem sets_run2 {is : List Nat} {ta : TA} {fa : Env → M (List Vl)} {D : Ends} {Q : List V → Hp → Prop} (ha : SAo k E ta fa) (rl : Rl k R dr env σ G H n) (w : wp dr n (bSets is fa env) (OP k R G D) (XP k R G E)) (hq : ∀ vs H1, vs.length = is.length → (∀ p o, H1 p = none → D.nx (setsV σ is vs) (upd H1 p o)) → Q vs H1) : ta σ H Q := by
  refine ha R dr env σ G H n _ rl (wp_mono (wp_bind' w) (fun dr n1 vs w1 xs G1 H1 l1 r1 rs => ?_) fun _ _ _ h => h)
  obtain ⟨e, h1, w2⟩ := wp_of.mp (wp_bind' w1)
  obtain ⟨h2, r2⟩ := sets_ok is xs vs r1 h1 ⟨R, env, σ, rs, fun a f1 f2 => ⟨f1, f2⟩⟩
  have hl : ∀ (is : List Nat) (rs : List Vl) (env : Env), setsE env is rs = some e → rs.length = is.length := by
    intro is
    induction is with
    | nil => intro rs env h; cases rs with | nil => rfl | cons _ _ => cases h
    | cons i is ih =>
      intro rs env h
      cases rs with
      | nil => cases h
      | cons v rs =>
        obtain ⟨m, d⟩ := v
        cases m with
        | s => simp [ih rs _ h]
        | o => simp [ih rs _ h]
        | v j => cases h
  exact hq _ _ (h2.trans (hl _ _ _ h1)) fun p o hp => w2 _ G1 _ l1 (r2.new hp)
end
def inA : D → D → Option Bool
  | x, .dic es => (keyD x).map fun q => (getD es q).isSome
  | x, y => inD x y
def inAB (a b : D) : Option D := (inA a b).map .bl
def notInAB (a b : D) : Option D := (inA a b).map fun r => .bl (!r)
section
variable {k : Kx} {E : XK} {G H : Hp}
theorem os_inA : OpS k (qInA k.K) inAB := fun G H x y a b d hi px py hd Q q => by
  unfold inAB at hd
  simp only [Option.map_eq_some_iff] at hd
  obtain ⟨r, hr, rfl⟩ := hd
  cases b <;> first
    | exact .inl (os_in G H x y a _ _ hi px py (by unfold inB; rw [show inD a _ = some r from hr]; rfl) Q q)
    | skip
  rename_i es
  simp only [inA, Option.map_eq_some_iff] at hr
  obtain ⟨q0, e1, rfl⟩ := hr
  obtain ⟨p, kvs, rfl, h1, h2⟩ := rp_dic py
  refine .inr ⟨p, valV kvs (kk q0), rfl, .inl ⟨kvs, kk q0, hi.rd h1, key_kV e1 px, rfl⟩, ?_⟩
  rw [h2.isSome]
  exact q _ G H (Up.refl hi) (.bl _)
theorem os_notinA : OpS k (qNotInA k.K) notInAB := fun G H x y a b d hi px py hd Q q => by
  unfold notInAB at hd
  simp only [Option.map_eq_some_iff] at hd
  obtain ⟨r, hr, rfl⟩ := hd
  cases b <;> first
    | exact .inl (os_notin G H x y a _ _ hi px py (by unfold notInB; rw [show inD a _ = some r from hr]; rfl) Q q)
    | skip
  rename_i es
  simp only [inA, Option.map_eq_some_iff] at hr
  obtain ⟨q0, e1, rfl⟩ := hr
  obtain ⟨p, kvs, rfl, h1, h2⟩ := rp_dic py
  refine .inr ⟨p, valV kvs (kk q0), rfl, .inl ⟨kvs, kk q0, hi.rd h1, key_kV e1 px, rfl⟩, ?_⟩
  rw [h2.isSome]
  exact q _ G H (Up.refl hi) (.bl _)
theorem ix_core {R : Hp} {dr : Dr} {env : Env} {σ : L2.St} {n : Nat} {x y : V} {v v2 : Vl} {d : D} {Q : VK} (r2 : Rl k R dr env σ G H n) (s1 : RS k env σ G x v) (s2 : RS k env σ G y v2) (hd : ixD v.2 v2.2 = some d) (fin : ∀ v' G3 H3, Up G H G3 H3 → Rp k G3 v' d → Q v' H3) : rIx k.K x y H Q := by
  unfold ixD at hd
  split at hd
  · rename_i ds i e1 e2
    obtain ⟨a, vs, rfl, h1, h2⟩ := lst_view r2 e1 s1
    obtain ⟨v', g1, g2⟩ := h2.at hd
    exact .inl ⟨a, vs, i, v', rfl, rs_int r2 e2 s2, h1, g1, fin v' G H (Up.refl r2.i) g2⟩
  · rename_i ds i e1 e2
    obtain ⟨m, dd⟩ := v
    have e1 : dd = .tup ds := e1
    subst e1
    have key : Rp k G x (.tup ds) → rIx k.K x y H Q := fun p => by
      obtain ⟨a, vs, rfl, h1, h2⟩ := rp_tup p
      obtain ⟨v', g1, g2⟩ := h2.at hd
      exact .inr (.inl ⟨a, vs, i, v', rfl, rs_int r2 e2 s2, in_t r2.i h1, g1, fin v' G H (Up.refl r2.i) g2⟩)
    cases m with
    | s => exact key s1
    | o => exact key s1
    | v j =>
      obtain ⟨h1, h2⟩ := s1
      obtain ⟨a, f1, o, f2, f3, f4⟩ := r2.ow j _ h2
      cases f3
  · rename_i w' i e1 e2
    split at hd
    · rename_i hl
      simp only [Option.map_eq_some_iff] at hd
      obtain ⟨c, hc, rfl⟩ := hd
      obtain ⟨m, dd⟩ := v
      have e1 : dd = .str w' := e1
      subst e1
      have key : Rp k G x (.str w') → rIx k.K x y H Q := fun p =>
        opv_ixS (K := k.K) hl hc G H x y r2.i (by rw [rp_str p]; exact .str _) (by rw [rs_int r2 e2 s2]; exact .int _) Q fun v' G3 H3 u3 p3 => fin v' G3 H3 u3 (of_z (.str [c]) (by simp [py]) p3)
      cases m with
      | s => exact key s1
      | o => exact key s1
      | v j =>
        obtain ⟨h1, h2⟩ := s1
        obtain ⟨a, f1, o, f2, f3, f4⟩ := r2.ow j _ h2
        cases f3
    · cases hd
  · cases hd
def ixA : D → D → Option D
  | .dic es, x => (keyD x).bind fun q => getD es q
  | x, y => ixD x y
def eIxA (fa fb : Env → M Vl) : Env → M Vl := fun env => (fa env).bind fun x => (fb env).bind fun y => (M.of (ixA x.2 y.2)).bind fun d => .ok (.s, d)
theorem se_ixA {ta tb : TE} {fa fb : Env → M Vl} (ha : SE k E ta fa) (hb : SE k E tb fb) : SE k E (tOp (qIxA k.K) ta tb) (eIxA fa fb) := fun R dr env σ G H n Q rl w => by
  refine ha.run rl (wp_bind' w) (fun _ _ _ h => h) fun dr n1 v x G1 H1 w1 l1 r1 s1 => ?_
  refine hb.run r1 (wp_bind' w1) (fun _ _ _ h => h.mono l1) fun dr n2 v2 y G2 H2 w2 l2 r2 s2 => ?_
  obtain ⟨d, hd, w3⟩ := wp_of.mp (wp_bind' w2)
  by_cases hdic : ∃ es, v.2 = .dic es
  · obtain ⟨es, e1⟩ := hdic
    have hd' : (keyD v2.2).bind (fun q => getD es q) = some d := by rw [e1] at hd; exact hd
    simp only [Option.bind_eq_some_iff] at hd'
    obtain ⟨q, e2, e3⟩ := hd'
    obtain ⟨a, vs, rfl, h1, h2⟩ := dic_view r2 e1 (s1.mono l2)
    rcases h2.val (q := q) with ⟨_, z⟩ | ⟨v', d', z1, z2, z3⟩
    · rw [e3] at z; cases z
    · rw [e3] at z2; cases z2
      exact .inr ⟨a, v', rfl, .inl ⟨vs, kk q, h1, rs_key r2 e2 s2, z1.symm⟩, w3 v' G2 H2 (l1.trans l2) r2 z3⟩
  · have hd' : ixD v.2 v2.2 = some d := by
      cases hv : v.2 <;> rw [hv] at hd <;> first
        | exact hd
        | exact absurd ⟨_, hv⟩ hdic
    exact .inl (ix_core r2 (s1.mono l2) s2 hd' fun v' G3 H3 u p => by
      obtain ⟨r3, l3⟩ := r2.up u
      exact w3 v' _ H3 ((l1.trans l2).trans l3) r3 p.clean)
def lookW (tab : List (List Nat × List Nat)) (w : List Nat) : Option (List Nat) := (tab.find? fun p => decide (p.1 = w)).map (·.2)
def kdD (tab : List (List Nat × List Nat)) : D → Option D
  | .str w => (lookW tab w).map .str
  | _ => none
def eKd (tab : List (List Nat × List Nat)) (fe : Env → M Vl) : Env → M Vl := eUn (kdD tab) fe
theorem se_kd {te : TE} {fe : Env → M Vl} {d : Addr} {tab : List (List Nat × List Nat)} (ht : KTab k.K d (tab.map fun p => (S p.1, S p.2))) (he : SE k E te fe) : SE k E (tOp (rKd k.K d) (tC (.ref d)) te) (eKd tab fe) := by
  have h : SE k E (tUn (fun y H Q => rKd k.K d (.ref d) y H Q) te) (eKd tab fe) := se_un (fun G H x a e hi px hd Q q => ?_) he
  · exact h
  · unfold kdD at hd
    split at hd
    · simp only [Option.map_eq_some_iff] at hd
      obtain ⟨z, h1, rfl⟩ := hd
      unfold lookW at h1
      simp only [Option.map_eq_some_iff] at h1
      obtain ⟨p, hp, rfl⟩ := h1
      have hm := List.mem_of_find?_eq_some hp
      have he := List.find?_some hp
      simp only [decide_eq_true_eq] at he
      obtain ⟨u, e1, e2⟩ := ht (S p.1, S p.2) (List.mem_map.mpr ⟨p, hm, rfl⟩)
      rw [rp_str px]
      refine ⟨S p.1, u, .str (S p.2), rfl, by rw [he], e1, e2, q _ G H (Up.refl hi) (.str _)⟩
    · cases hd
def enumL (ds : List D) : List D := ds.zipIdx.map fun p => .tup [.int (p.2 : Int), p.1]
theorem enumL_get {ds : List D} {i : Nat} {d : D} (h : (enumL ds)[i]? = some d) : ∃ e, ds[i]? = some e ∧ d = .tup [.int (i : Int), e] := by
  unfold enumL at h
  rw [List.getElem?_map, List.getElem?_zipIdx] at h
  cases q : ds[i]? with
  | none => rw [q] at h; cases h
  | some e =>
    rw [q] at h
    refine ⟨e, rfl, ?_⟩
    simpa using h.symm
theorem ss_parT {i j : Nat} {ta : TA} {fa : Env → M (List Vl)} (ha : SAo k E ta fa) : SS k E (tAsg (tTup ta) (gTL k.K 2 (gCons (gName i) (gCons (gName j) gNil)))) (bSets [i, j] fa) := fun R dr env σ G H n D rl w =>
  sets_run2 ha rl w fun vs H1 hl q => match vs, hl, q with
    | [v, w], _, q => ⟨by show 2 ≤ sizeLine; decide, fun p hp => .inl ⟨p, _, rfl, .inl (.inl upd_same), rfl, _, _, rfl, _, _, rfl, rfl, q p _ hp⟩⟩
end
end Y

namespace Y
open PySem PySem.Spec PyProof.Rows L2 Z
section
variable {k : Kx} {E : XK} {G : Hp}
end
section
variable {X : Cx}
theorem pg_tl {tg : Expr} {g g' : TG} (h : PG X tg g) (h' : PG X tg g') : PG X tg (fun v σ H Q => g v σ H Q ∨ g' v σ H Q) := ⟨fun pins s σ H v u Q I r q => q.elim (h.run pins s σ H v u Q I r) (h'.run pins s σ H v u Q I r)⟩
theorem ix_kd {d : Addr} {es : Array DictEntry} {n : Nat} (D : KDict X.K X.w d es n) : IxR X (rKd X.K d) := by
  intro value slice pins s σ H x y v u Q I rx ry h hs
  have h2 := op_kd D pins s σ H x y v u Q I rx ry h
  obtain ⟨z, u0, v0, rfl, rfl, e, r, q⟩ := h
  obtain rfl : v = Value.ref d := rx
  have hT : s.TypeIs (.ref d) "dict" := kd_type D I
  unfold subscriptTail
  refine wpAny_bind ?_
  rw [getitemInPython_of_ne hT.not_modules]
  refine wpAny_bind (wpAny_specialOf hT PySem.F.slot_dict_getitem.lookup ?_)
  have fin : wpAny (model X.prog X.w) X.A (subscripted slice false (.ref d) u) (fun r s₃ => wpAny (model X.prog X.w) X.A (letTemporaryGo value (.ref d) r >>= fun _ => pure r) (EP X pins σ Q) X.xe s₃) X.xe s := by
    rw [hs]
    exact wpAny_operating (wpAny_mono h2 (fun r s₃ h₃ => wpAny_bind (wpAny_letTemporaryGo (wpAny_pure h₃))) fun _ _ x => x)
  first
    | exact wpAny_pure (wpAny_bind fin)
    | exact wpAny_bind (wpAny_pure (wpAny_bind fin))
    | exact wpAny_bind fin
theorem pe_kd {x : Str} {d : Addr} {b : Expr} {tb : TE} {p pos : Pos} (D : ∃ es n, KDict X.K X.w d es n) (hg : Gl X x) (hm : X.mg x = some (.ref d)) (hb : PE X b tb) (hd : (x == ("__debug__" : Str)) = false := by decide) (hs : PlainIx b := by exact fun _ _ => rfl) : PE X (.Subscript (.Name x p) b pos) (tOp (rKd X.K d) (tC (.ref d)) tb) := by
  obtain ⟨es, n, D⟩ := D
  exact pe_ix (ix_kd D) (pe_glob hg hm rfl hd) hb hs
end
end Y

namespace Y
open PySem PySem.Spec PyProof.Rows L2 Z
theorem law_sp {k : Kx} {m : List D → M Vl} {a : Addr} {ns : List Int} {H : Hp} (hT : LamX.Tabs k.T H) (hS : SqL k.K H a (ns.map .int)) (hw : wp [] 1000000000000 (m [.scr ns]) (fun _ _ r => r = (.s, .bl true)) (fun _ _ _ => False)) : spM k m [.ref a] H (fun v _ => v = .bl true) (fun _ _ _ => False) := by
  have in0 : In (clean fun b => if b = a then H a else none) H := fun b o e => by
    obtain ⟨e, _⟩ := of_clean e
    by_cases hb : b = a
    · subst hb; simp only [if_true] at e; exact .inl e
    · simp only [if_neg hb] at e; cases e
  have sq0 : SqL k.K (clean fun b => if b = a then H a else none) a (ns.map .int) := by
    rcases hS with q | q
    · rcases q with q | ⟨o, q⟩
      · exact .inl (.inl (clean_some (by simp only [if_true]; exact q) (by intro ps z; cases z)))
      · exact .inl (.inr ⟨o, clean_some (by simp only [if_true]; exact q) (by intro ps z; cases z)⟩)
    · exact .inr q
  refine ⟨fun _ => none, [], _, 1000000000000, [.scr ns], ⟨in0, clean_noT _, hT, fun q hq => (by cases hq), fun b ⟨q, hq, _⟩ => (by cases hq), .nil, fun b o e => (by cases e), fun i d e => by simp at e, fun i d e => by simp at e, fun i j b d d' e => by simp at e, Nat.le_refl _, Nat.le_refl _, fun b d hb => (by cases hb)⟩, .cons (.scr sq0) .nil, wp_mono hw (fun _ _ r e x G2 H2 _ _ rv => ?_) fun _ _ _ z => z.elim⟩
  subst e
  exact rp_bl rv
end Y

namespace Y
open PySem PySem.W
def ft (b : Bool) (f : String → Bool) (s : String) : Bool := match decide (s = "special-get-raises") with
  | true => b
  | false => f s
def updW (b : Bool) (w : World) : World := { w with params := { w.params with followText := ft b w.params.followText } }
theorem ft_eq (f : String → Bool) : ft (f "special-get-raises") f = f := by
  funext s
  unfold ft
  by_cases h : s = "special-get-raises"
  · rw [decide_eq_true h, h]
  · rw [decide_eq_false h]
theorem updW_eq (w : World) : updW (w.params.followText "special-get-raises") w = w := by
  unfold updW
  rw [ft_eq]
theorem run_updW {r : OpenRow} {q : Program} {H : Hook} {ob : SharedT → H.α} {M : Nat} {loose : List PySem.Str} (h0 : ∀ w, HandSHeadRun.RunEq r q H ob M loose (updW false w)) (h1 : ∀ w, HandSHeadRun.RunEq r q H ob M loose (updW true w)) (w : World) : HandSHeadRun.RunEq r q H ob M loose w := by
  rw [← updW_eq w]
  cases w.params.followText "special-get-raises"
  · exact h0 w
  · exact h1 w
end Y

namespace Z
open PySem PySem.Spec PyProof.Rows L2
theorem atI_mod {l : W} {i : Int} (h : l ≠ []) : (atI l (Int.fmod i (List.length l : Int))).isSome = true := by
  have hp : 0 < l.length := List.length_pos_iff.mpr h
  have e : Int.fmod i (l.length : Int) = i % (l.length : Int) := Int.fmod_eq_emod_of_nonneg _ (by omega)
  have h0 := Int.emod_nonneg i (b := (l.length : Int)) (by omega)
  have h1 := Int.emod_lt_of_pos i (b := (l.length : Int)) (by omega)
  unfold atI ixN
  rw [e, if_pos h0, if_pos h1]
  have : (i % (l.length : Int)).toNat < l.length := by omega
  simp [this]
theorem len_ne {l : W} (h : l ≠ []) : (List.length l : Int) ≠ 0 := by
  have hp : 0 < l.length := List.length_pos_iff.mpr h
  omega
theorem word_ne {l : W} (h : wordB l = true) : l ≠ [] := by
  intro e; subst e; revert h; decide
theorem rng_mem {a lo : Int} {n : Nat} (h : a ∈ rng lo n) : lo ≤ a ∧ a < lo + n := by
  unfold rng at h
  obtain ⟨i, hi, e⟩ := List.mem_map.mp h
  have := List.mem_range.mp hi
  omega
theorem map_rng_ne {β : Type} {f : Int → β} {l : W} (h : l ≠ []) : List.map f (rng 0 (List.length l : Int).toNat) ≠ [] := by
  have hp : 0 < l.length := List.length_pos_iff.mpr h
  intro e
  have := congrArg List.length e
  rw [List.length_map, rng_len, List.length_nil] at this
  omega
theorem ne_of_rng {l : W} {a : Int} (h : a ∈ rng 0 (List.length l : Int).toNat) : l ≠ [] := by
  intro e
  subst e
  have := rng_mem h
  simp at this
  omega
theorem fdiv_le {n k : Int} (h0 : 0 ≤ n) (h : 1 ≤ k) : 0 ≤ Int.fdiv n k ∧ Int.fdiv n k ≤ n := by
  rw [Int.fdiv_eq_ediv_of_nonneg _ (by omega)]
  exact ⟨Int.ediv_nonneg h0 (by omega), Int.ediv_le_self _ h0⟩
theorem fdiv_bd {l : W} {k : Int} (h : List.length l ≤ 2000) (hk : 1 ≤ k) : -1000000 ≤ Int.fdiv (List.length l : Int) k ∧ Int.fdiv (List.length l : Int) k ≤ 1000000 := by
  have := fdiv_le (n := (List.length l : Int)) (k := k) (by omega) hk
  omega
theorem fdiv_mul {l : W} {a b : Option Int} {k : Int} (h : List.length l ≤ 2000) (hk : 1 ≤ k) : (cutL l a b).length * (Int.fdiv (List.length l : Int) k).toNat ≤ 10000000 := by
  have h1 := fdiv_le (n := (List.length l : Int)) (k := k) (by omega) hk
  have h2 := cutL_le l a b
  have h3 : (Int.fdiv (List.length l : Int) k).toNat ≤ 2000 := by omega
  exact Nat.le_trans (Nat.mul_le_mul (Nat.le_trans h2 h) h3) (by decide)
local macro_rules | `(tactic| walk_at "sd") => `(tactic| (first | assumption | omega | (simp only [rng_len, List.length_map]; omega) | (exact Nat.le_trans (cutL_le _ _ _) (by omega)) | (exact Nat.le_trans (Nat.add_le_add (cutL_le _ _ _) (cutL_le _ _ _)) (by omega)) | (exact len_ne (by assumption)) | (exact atI_mod (by assumption)) | (exact trivial) | (have hm := rng_mem (by assumption); omega) | (have hm := rng_mem (by assumption); refine ⟨by omega, by omega⟩) | (have hm := rng_mem (by assumption); exact fdiv_bd (by omega) (by omega)) | (have hm := rng_mem (by assumption); exact fdiv_mul (by omega) (by omega)) | (exact word_ne (by assumption)) | (exact map_rng_ne (by assumption)) | (exact (rng_mem (by assumption)).1) | (exact ne_of_rng (by assumption))))

-- places_of
def m_places_of (text_v : W) (piece_v : W) : (List Int) := (List.map (fun at_v => at_v) (List.filter (fun at_v => (decide ((cutL text_v (some at_v) (some (at_v + (List.length piece_v : Int)))) = piece_v))) (rng 0 ((((List.length text_v : Int) - (List.length piece_v : Int)) + (1 : Int))).toNat)))
def sp_places_of (K : PySem.W.Frag) (ca : Str → Addr) : Sp := fun vs H Q E => ∃ (G : Hp) (text_v : W) (piece_v : W), In G H ∧ RpA K G vs [(dS text_v), (dS piece_v)] ∧ (List.length text_v ≤ 10000) ∧ (List.length piece_v ≤ 10000) ∧ Ret K G H Q ((dL dI) (m_places_of text_v piece_v))
def t_places_of (K : PySem.W.Frag) (ca : Str → Addr) (E : XK) : TS := (tRet ((tLc ((iRng1 ((tCons ((tOp (rI0 fun i j => .int (i + j)) ((tOp (rI0 fun i j => .int (i - j)) ((tCB (rLenU K) ((tCons ((tVar 0)) (tNil))))) ((tCB (rLenU K) ((tCons ((tVar 1)) (tNil))))))) (tC (.int 1)))) (tNil))))) ((gName 2)) ((tTest (tOp (rEq) ((tSl (rSlS) ((tVar 0)) ((tPart ((tVar 2)))) ((tPart ((tOp (rI0 fun i j => .int (i + j)) ((tVar 2)) ((tCB (rLenU K) ((tCons ((tVar 1)) (tNil))))))))))) ((tVar 1))))) ((tVar 2)) [2])))
-- occurrences
def m_occurrences (word_v : W) (piece_v : W) : (List Int) := (m_places_of (word_v) (piece_v))
def t_occurrences (K : PySem.W.Frag) (ca : Str → Addr) (E : XK) : TS := (tSeq ((tDrop ((tCall (sp_need_word K ca) [] E ((tCons ((tVar 0)) (tNil))))))) ((tSeq ((tDrop ((tCall (sp_need_word K ca) [] E ((tCons ((tVar 1)) (tNil))))))) ((tRet ((tCall (sp_places_of K ca) [] E ((tCons ((tVar 0)) ((tCons ((tVar 1)) (tNil))))))))))))
-- stretches
def m_stretches (text_v : W) (length_v : Int) : (List W) := (List.map (fun at_v => (cutL text_v (some at_v) (some (at_v + length_v)))) (rng 0 ((((List.length text_v : Int) - length_v) + (1 : Int))).toNat))
def t_stretches (K : PySem.W.Frag) (ca : Str → Addr) (E : XK) : TS := (tRet ((tLc ((iRng1 ((tCons ((tOp (rI0 fun i j => .int (i + j)) ((tOp (rI0 fun i j => .int (i - j)) ((tCB (rLenU K) ((tCons ((tVar 0)) (tNil))))) ((tVar 1)))) (tC (.int 1)))) (tNil))))) ((gName 2)) (tYes) ((tSl (rSlS) ((tVar 0)) ((tPart ((tVar 2)))) ((tPart ((tOp (rI0 fun i j => .int (i + j)) ((tVar 2)) ((tVar 1)))))))) [2])))
-- borders_of
def m_borders_of (text_v : W) : (List Int) := (List.map (fun length_v => length_v) (List.filter (fun length_v => (decide ((cutL text_v none (some length_v)) = (cutL text_v (some ((List.length text_v : Int) - length_v)) none)))) (rng (1 : Int) ((List.length text_v : Int) - (1 : Int)).toNat)))
def sp_borders_of (K : PySem.W.Frag) (ca : Str → Addr) : Sp := fun vs H Q E => ∃ (G : Hp) (text_v : W), In G H ∧ RpA K G vs [(dS text_v)] ∧ (List.length text_v ≤ 10000) ∧ Ret K G H Q ((dL dI) (m_borders_of text_v))
def t_borders_of (K : PySem.W.Frag) (ca : Str → Addr) (E : XK) : TS := (tRet ((tLc ((iRng2 ((tCons (tC (.int 1)) ((tCons ((tCB (rLenU K) ((tCons ((tVar 0)) (tNil))))) (tNil))))))) ((gName 1)) ((tTest (tOp (rEq) ((tSl (rSlS) ((tVar 0)) (tNoPart) ((tPart ((tVar 1)))))) ((tSl (rSlS) ((tVar 0)) ((tPart ((tOp (rI0 fun i j => .int (i - j)) ((tCB (rLenU K) ((tCons ((tVar 0)) (tNil))))) ((tVar 1)))))) (tNoPart)))))) ((tVar 1)) [1])))
-- borders
def m_borders (word_v : W) : (List Int) := (m_borders_of (word_v))
def t_borders (K : PySem.W.Frag) (ca : Str → Addr) (E : XK) : TS := (tSeq ((tDrop ((tCall (sp_need_word K ca) [] E ((tCons ((tVar 0)) (tNil))))))) ((tRet ((tCall (sp_borders_of K ca) [] E ((tCons ((tVar 0)) (tNil))))))))
-- turn_of
def m_turn_of (text_v : W) (number_v : Int) : W := ((cutL text_v (some number_v) none) ++ (cutL text_v none (some number_v)))
def sp_turn_of (K : PySem.W.Frag) (ca : Str → Addr) : Sp := fun vs H Q E => ∃ (G : Hp) (text_v : W) (number_v : Int), In G H ∧ RpA K G vs [(dS text_v), (dI number_v)] ∧ (List.length text_v ≤ 10000) ∧ Ret K G H Q (dS (m_turn_of text_v number_v))
def t_turn_of (K : PySem.W.Frag) (ca : Str → Addr) (E : XK) : TS := (tRet ((tOp (rAddS) ((tSl (rSlS) ((tVar 0)) ((tPart ((tVar 1)))) (tNoPart))) ((tSl (rSlS) ((tVar 0)) (tNoPart) ((tPart ((tVar 1)))))))))
-- least_turn
def m_least_turn (text_v : W) : W := (minS (List.map (fun number_v => (m_turn_of (text_v) (number_v))) (rng 0 ((List.length text_v : Int)).toNat)))
def sp_least_turn (K : PySem.W.Frag) (ca : Str → Addr) : Sp := fun vs H Q E => ∃ (G : Hp) (text_v : W), In G H ∧ RpA K G vs [(dS text_v)] ∧ (List.length text_v ≤ 10000) ∧ (text_v ≠ []) ∧ Ret K G H Q (dS (m_least_turn text_v))
def t_least_turn (K : PySem.W.Frag) (ca : Str → Addr) (E : XK) : TS := (tRet ((tCB (rMinD K) ((tCons ((tLc ((iRng1 ((tCons ((tCB (rLenU K) ((tCons ((tVar 0)) (tNil))))) (tNil))))) ((gName 1)) (tYes) ((tCall (sp_turn_of K ca) [] E0 ((tCons ((tVar 0)) ((tCons ((tVar 1)) (tNil))))))) [1])) (tNil))))))
-- ring_of
def m_ring_of (word_v : W) : W := (m_least_turn (word_v))
def t_ring_of (K : PySem.W.Frag) (ca : Str → Addr) (E : XK) : TS := (tSeq ((tDrop ((tCall (sp_need_word K ca) [] E ((tCons ((tVar 0)) (tNil))))))) ((tRet ((tCall (sp_least_turn K ca) [] E ((tCons ((tVar 0)) (tNil))))))))
-- read_on
def m_read_on (text_v : W) (at_v : Int) (length_v : Int) : W := (List.map (fun step_v => ((atI text_v (Int.fmod (at_v + step_v) (List.length text_v : Int))).getD 0)) (rng 0 (length_v).toNat))
def sp_read_on (K : PySem.W.Frag) (ca : Str → Addr) : Sp := fun vs H Q E => ∃ (G : Hp) (text_v : W) (at_v : Int) (length_v : Int), In G H ∧ RpA K G vs [(dS text_v), (dI at_v), (dI length_v)] ∧ (List.length text_v ≤ 10000) ∧ (text_v ≠ []) ∧ (0 ≤ at_v) ∧ (0 ≤ length_v ∧ length_v ≤ 10000) ∧ Ret K G H Q (dS (m_read_on text_v at_v length_v))
def t_read_on (K : PySem.W.Frag) (ca : Str → Addr) (E : XK) : TS := (tRet ((tM1 (rJoin K) (tC (.str "")) ((tLc ((iRng1 ((tCons ((tVar 2)) (tNil))))) ((gName 3)) (tYes) ((tOp (rIx K) ((tVar 0)) ((tOp (rI (fun _ j => j ≠ 0) fun i j => .int (i.fmod j)) ((tOp (rI0 fun i j => .int (i + j)) ((tVar 1)) ((tVar 3)))) ((tCB (rLenU K) ((tCons ((tVar 0)) (tNil))))))))) [3])))))
-- ring_stretches
def m_ring_stretches (text_v : W) (length_v : Int) : (List W) := (List.map (fun at_v => (m_read_on (text_v) (at_v) (length_v))) (rng 0 ((List.length text_v : Int)).toNat))
def sp_ring_stretches (K : PySem.W.Frag) (ca : Str → Addr) : Sp := fun vs H Q E => ∃ (G : Hp) (text_v : W) (length_v : Int), In G H ∧ RpA K G vs [(dS text_v), (dI length_v)] ∧ (List.length text_v ≤ 10000) ∧ (0 ≤ length_v ∧ length_v ≤ 10000) ∧ Ret K G H Q ((dL dS) (m_ring_stretches text_v length_v))
def t_ring_stretches (K : PySem.W.Frag) (ca : Str → Addr) (E : XK) : TS := (tRet ((tLc ((iRng1 ((tCons ((tCB (rLenU K) ((tCons ((tVar 0)) (tNil))))) (tNil))))) ((gName 2)) (tYes) ((tCall (sp_read_on K ca) [] E0 ((tCons ((tVar 0)) ((tCons ((tVar 2)) ((tCons ((tVar 1)) (tNil))))))))) [2])))
-- root_of
def m_root_of (text_v : W) : (W × Int) := (match List.find? (fun length_v => ((decide ((Int.fmod (List.length text_v : Int) length_v) = (0 : Int))) && (decide ((List.replicate ((Int.fdiv (List.length text_v : Int) length_v)).toNat (cutL text_v none (some length_v))).flatten = text_v)))) (rng (1 : Int) ((List.length text_v : Int) - (1 : Int)).toNat) with | some length_v => ((cutL text_v none (some length_v)), (Int.fdiv (List.length text_v : Int) length_v)) | none => (text_v, (1 : Int)))
def sp_root_of (K : PySem.W.Frag) (ca : Str → Addr) : Sp := fun vs H Q E => ∃ (G : Hp) (text_v : W), In G H ∧ RpA K G vs [(dS text_v)] ∧ (List.length text_v ≤ 2000) ∧ Ret K G H Q ((dP dS dI) (m_root_of text_v))
def t_root_of (K : PySem.W.Frag) (ca : Str → Addr) (E : XK) : TS := (tSeq ((tFor ((iRng2 ((tCons (tC (.int 1)) ((tCons ((tCB (rLenU K) ((tCons ((tVar 0)) (tNil))))) (tNil))))))) ((gName 1)) ((tIfS ((tAnd ((tTest (tOp (rEq) ((tOp (rI (fun _ j => j ≠ 0) fun i j => .int (i.fmod j)) ((tCB (rLenU K) ((tCons ((tVar 0)) (tNil))))) ((tVar 1)))) (tC (.int 0))))) ((tTest (tOp (rEq) ((tOp (rMulS) ((tSl (rSlS) ((tVar 0)) (tNoPart) ((tPart ((tVar 1)))))) ((tOp (rI CDivN fun i j => .int (i.fdiv j)) ((tCB (rLenU K) ((tCons ((tVar 0)) (tNil))))) ((tVar 1)))))) ((tVar 0))))))) ((tRet ((tTup ((tCons ((tSl (rSlS) ((tVar 0)) (tNoPart) ((tPart ((tVar 1)))))) ((tCons ((tOp (rI CDivN fun i j => .int (i.fdiv j)) ((tCB (rLenU K) ((tCons ((tVar 0)) (tNil))))) ((tVar 1)))) (tNil))))))))) (tNext))))) ((tRet ((tTup ((tCons ((tVar 0)) ((tCons (tC (.int 1)) (tNil))))))))))
-- root
def m_root (word_v : W) : (W × Int) := (m_root_of (word_v))
def t_root (K : PySem.W.Frag) (ca : Str → Addr) (E : XK) : TS := (tSeq ((tDrop ((tCall (sp_need_word K ca) [] E ((tCons ((tVar 0)) (tNil))))))) ((tRet ((tCall (sp_root_of K ca) [] E ((tCons ((tVar 0)) (tNil))))))))
-- ring_places
def m_ring_places (text_v : W) (piece_v : W) : (List Int) := (List.map (fun z1_v => z1_v.1) (List.filter (fun z1_v => (decide (z1_v.2 = piece_v))) (enumT (m_ring_stretches (text_v) ((List.length piece_v : Int))))))
def t_ring_places (K : PySem.W.Frag) (ca : Str → Addr) (E : XK) : TS := (tRet ((tLc ((iEnum K ((tCons ((tCall (sp_ring_stretches K ca) [] E ((tCons ((tVar 0)) ((tCons ((tCB (rLenU K) ((tCons ((tVar 1)) (tNil))))) (tNil))))))) (tNil))))) ((gTup K 2 (gCons (gName 2) (gCons (gName 3) gNil)))) ((tTest (tOp (rEq) ((tVar 3)) ((tVar 1))))) ((tVar 2)) [2, 3])))
end Z

namespace Z
open PySem PySem.Spec PyProof.Rows L2
abbrev kS (l : W) : Key := Sum.inr (S l)
def cntS (acc : List (Key × Int)) (x : W) : List (Key × Int) := putE acc (kS x) ((valK acc (kS x)).getD 0 + 1)
def cntE (xs : List W) : List (Key × Int) := xs.foldl cntS []
def m_counted (some_v : List W) : List (Key × Int) := mrgE ((sortKs (cntE some_v)).map fun one_v => (kS one_v, (valK (cntE some_v) (kS one_v)).getD 0))
theorem cnt_len : ∀ (xs : List W) (acc : List (Key × Int)), (xs.foldl cntS acc).length ≤ acc.length + xs.length
  | [], acc => by simp
  | x :: xs, acc => by
    rw [List.foldl_cons]
    have h1 := cnt_len xs (cntS acc x)
    have h2 : (cntS acc x).length ≤ acc.length + 1 := putE_len _ _ _
    rw [List.length_cons]
    omega
def t_counted (K : PySem.W.Frag) (ca : Str → Addr) (E : XK) : TS := (tSeq ((tAsg (tDNewK) (gName 1))) ((tSeq ((tFor ((iList K ((tVar 0)))) ((gName 2)) ((sDPut ((tVar 1)) ((tVar 2)) ((tOp (rI0 fun i j => .int (i + j)) ((tDGet2 ((tVar 1)) ((tVar 2)) (tC (.int 0)))) (tC (.int 1)))))))) ((tRet ((tDc ((iList K ((tCB (rSortDk) ((tCons ((tVar 1)) (tNil))))))) ((gName 2)) (tYes) ((tVar 2)) ((tDGet ((tVar 1)) ((tVar 2)))) [2])))))))
def m_is_ring : PyData → Bool
  | .str s => wordB s.cps.toList && decide (m_least_turn s.cps.toList = s.cps.toList)
  | _ => false
def okR : PyData → Prop
  | .str s => s.cps.toList.length ≤ 10000
  | _ => True
def sp_is_ring (K : PySem.W.Frag) (ca : Str → Addr) : Sp := fun vs H Q E => ∃ (G : Hp) (d : PyData), In G H ∧ RpA K G vs [d] ∧ okR d ∧ Ret K G H Q (.bool (m_is_ring d))
def t_is_ring (K : PySem.W.Frag) (ca : Str → Addr) (E : XK) : TS := (tRet ((tAndV ((tCall (sp_is_word K ca) [] E ((tCons ((tVar 0)) (tNil))))) ((tOp (rEq) ((tCall (sp_least_turn K ca) [] E ((tCons ((tVar 0)) (tNil))))) ((tVar 0)))))))
def t_need_ring (K : PySem.W.Frag) (ca : Str → Addr) (E : XK) : TS := (tIfS ((tNot ((tB ((tCall (sp_is_ring K ca) [] E ((tCons ((tVar 0)) (tNil))))))))) ((tRaise (fun cls d _ H => E cls d H) (fun _ H Q => Q (.ref (ca "BadRing")) none H))) (tNext))
end Z

namespace Z
open PySem PySem.Spec PyProof.Rows L2
def partner (c : Nat) : Nat := if c = 97 then 116 else if c = 99 then 103 else if c = 103 then 99 else 97
def m_strand_of (z : W) : W := z.reverse.map partner
def t_strand_of (K : PySem.W.Frag) (ca : Str → Addr) (E : XK) : TS := tRet (tM1 (rJoin K) (tC (.str "")) (tLc (iStr (tRevS (tVar 0))) (gName 1) tYes (tOp (rKd K (ca "PARTNERS")) (tC (.ref (ca "PARTNERS"))) (tVar 1)) [1]))
end Z

namespace Z
open PySem PySem.Spec PyProof.Rows
section
variable {prog : Program} {w : World} {A : Around} {E : Value → Shared → Prop} {s : Shared} {z TI TO T i1 i2 : Addr} {fp1 fp2 : List Addr} {n1 n2 i : Nat} {P1 P2 : Nat → Value → Prop} {St1 St2 : Nat → Heap → Prop} {f : Bool} {oT : Obj}
end
end Z

namespace Y
open PySem PySem.Spec PyProof.Rows L2 Z
section
variable {X : Cx}
end
end Y

namespace Y
open PySem PySem.Spec PyProof.Rows L2 Z
def scalO : D → Bool
  | .lst ds => ds.all scal
  | .dic es => es.all fun e => scal e.2
  | _ => false
def eCOV (g : List D → Option D) (fa : Env → M (List Vl)) : Env → M Vl := fun env => (fa env).bind fun xs => (M.of (g (dats xs))).bind fun d => if !(xs.any isV) || scalO d then .ok (.o, d) else .bad
section
variable {k : Kx} {E : XK} {R : Hp} {dr : Dr} {env : Env} {σ : L2.St} {G G2 H H2 : Hp} {n n' : Nat} {Q : VK}
theorem rpA_scal : ∀ {xs : List V} {ds : List D}, ds.all scal = true → RpA k G xs ds → RpA k G2 xs ds
  | _, _, _, .nil => .nil
  | _, _, h, .cons a b => by
    simp only [List.all_cons, Bool.and_eq_true] at h
    exact .cons (rp_scal h.1 a) (rpA_scal h.2 b)
theorem rpD_scal : ∀ {xs : List (Key × V)} {ds : List (Ky × D)}, (ds.all fun e => scal e.2) = true → RpD k G xs ds → RpD k G2 xs ds
  | _, _, _, .nil => .nil
  | _, _, h, .cons a b => by
    simp only [List.all_cons, Bool.and_eq_true] at h
    exact .cons (rp_scal h.1 a) (rpD_scal h.2 b)
theorem rpO_scal {o : HO} {d : D} (h : scalO d = true) (r : RpO k G o d) : RpO k G2 o d := by
  cases r with
  | lst a => exact .lst (rpA_scal h a)
  | dic a => exact .dic (rpD_scal h a)
  | ins a => cases h
theorem se_cov {r : List V → Hp → VK → Prop} {g : List D → Option D} {tr : TA} {fr : Env → M (List Vl)} (ho : CaO k r g) (hr : SA k E tr fr) : SE k E (tCB r tr) (eCOV g fr) := fun R dr env σ G H n Q rl w => by
  refine hr R dr env σ G H n _ rl (wp_mono (wp_bind' w) (fun dr n1 vs w1 xs G1 H1 l1 r1 s1 => ?_) fun _ _ _ h => h)
  obtain ⟨d, hd, w3⟩ := wp_of.mp (wp_bind' w1)
  by_cases hc : (!(vs.any isV) || scalO d) = true
  · rw [if_pos hc] at w3
    by_cases hv : vs.any isV = true
    · have hs : scalO d = true := by simpa [hv] using hc
      obtain ⟨G', l, i, _, q1, q2⟩ := r1.revealA
      refine ho G' H1 xs _ d i (q2 xs vs s1) hd Q fun p o hp ro => ?_
      have ro := rpO_scal (G2 := G1) hs ro
      exact w3 _ G1 _ l1 (r1.new hp) ⟨p, rfl, (r1.newO hp ro).1, (r1.newO hp ro).2⟩
    · refine ho G1 H1 xs _ d r1.i (rss_s (by simpa using hv) s1) hd Q fun p o hp ro => ?_
      exact w3 _ G1 _ l1 (r1.new hp) ⟨p, rfl, (r1.newO hp ro).1, (r1.newO hp ro).2⟩
  · rw [if_neg hc] at w3; exact w3.elim
end
end Y

namespace Y
open PySem PySem.Spec PyProof.Rows L2 Z
def Sub (a b : Dr) : Prop := ∀ i ∈ a, i ∈ b
theorem Sub.refl (a : Dr) : Sub a a := fun _ h => h
theorem Sub.trans {a b c : Dr} (h : Sub a b) (g : Sub b c) : Sub a c := fun i hi => g i (h i hi)
structure Dn {α : Type} (q : Tk) (c : Nat) (m : M α) (P : α → Prop) : Prop where
  run : ∀ dr n, .inl q ∈ dr → c ≤ n → wp dr n m (fun dr' n' a => Sub dr dr' ∧ n ≤ n' + c ∧ P a) (fun _ _ _ => False)
section
variable {α β : Type} {q : Tk} {c c' : Nat} {m : M α} {P P' : α → Prop} {R : β → Prop} {f : α → M β}
theorem Dn.ok {a : α} (h : P a) : Dn q c (.ok a) P := ⟨fun dr n _ _ => ⟨Sub.refl _, Nat.le_add_right _ _, h⟩⟩
theorem Dn.mono (h : Dn q c m P) (hp : ∀ a, P a → P' a) : Dn q c m P' := ⟨fun dr n hq hc => wp_mono (h.run dr n hq hc) (fun _ _ _ ⟨a, b, d⟩ => ⟨a, b, hp _ d⟩) fun _ _ _ e => e⟩
theorem Dn.le (h : Dn q c m P) (hc : c ≤ c') : Dn q c' m P := ⟨fun dr n hq hn => wp_mono (h.run dr n hq (Nat.le_trans hc hn)) (fun _ _ _ ⟨a, b, d⟩ => ⟨a, by omega, d⟩) fun _ _ _ e => e⟩
theorem Dn.bind {c1 c2 : Nat} (h : Dn q c1 m P) (hf : ∀ a, P a → Dn q c2 (f a) R) : Dn q (c1 + c2) (m.bind f) R := ⟨fun dr n hq hc => by
  refine wp_bind.mpr (wp_mono (h.run dr n hq (by omega)) (fun dr' n' a ⟨e, b, d⟩ => ?_) fun _ _ _ e => e)
  exact wp_mono ((hf a d).run dr' n' (e _ hq) (by omega)) (fun _ _ _ ⟨a, b, d⟩ => ⟨e.trans a, by omega, d⟩) fun _ _ _ e => e⟩
theorem Dn.take {t : Int} {k : Int → M α} (h0 : 0 < t) (h1 : t < 1000000000) (h : ∀ i, 0 ≤ i → i < t → Dn q c (k i) P) : Dn q (c + 1) (.take q t k) P := ⟨fun dr n hq hc => by
  cases n with
  | zero => omega
  | succ n => exact ⟨hq, h0, h1, n, rfl, fun i a b => wp_mono ((h i a b).run dr n hq (by omega)) (fun _ _ _ ⟨a, b, d⟩ => ⟨a, by omega, d⟩) fun _ _ _ e => e⟩⟩
theorem Dn.nox (h : Dn q c m P) : Dn q c m.nox P := ⟨fun dr n hq hc => wp_nox.mpr (wp_mono (h.run dr n hq hc) (fun _ _ _ x => x) fun _ _ _ e => e)⟩
theorem Dn.tk {t : Int} {f : Vl → M α} (h0 : 0 < t) (h1 : t < 1000000000) (h : ∀ i, 0 ≤ i → i < t → Dn q c (f (.s, .int i)) P) : Dn q (c + 1) ((m_take [.drw q, .int t]).bind f) P := Dn.take h0 h1 h
theorem dn_beg {ns : List Int} {f : Vl → M α} (hl : ns.length ≤ 1000) (h : ∀ q, Dn q c (f (.s, .drw q)) P) {dr : Dr} {n : Nat} (hc : c ≤ n) : wp dr n ((m_begun [.scr ns]).bind f) (fun _ n' a => n ≤ n' + c ∧ P a) (fun _ _ _ => False) := by
  show wp dr n ((if ns.length ≤ 1000 then M.beg fun q => M.ok (Md.s, D.drw q) else M.bad).bind f) _ _
  rw [if_pos hl]
  exact fun q => wp_mono ((h q).run (.inl q :: dr) n (List.mem_cons_self ..) hc) (fun _ _ _ ⟨_, b, d⟩ => ⟨b, d⟩) fun _ _ _ e => e
theorem atI_some {α : Type} {xs : List α} {i : Int} (h0 : 0 ≤ i) (h1 : i < xs.length) : ∃ d, atI xs i = some d ∧ d ∈ xs := by
  obtain ⟨k, rfl⟩ : ∃ k : Nat, i = (k : Int) := ⟨i.toNat, by omega⟩
  have hk : k < xs.length := by omega
  refine ⟨xs[k], ?_, List.getElem_mem hk⟩
  unfold atI ixN
  simp [hk]
theorem Dn.pure {a : α} (e : m = .ok a) (h : P a) : Dn q c m P := e ▸ Dn.ok h
end
section
variable {α : Type} {q : Tk} {c : Nat} {tg : D → Env → Option Env} {fb : Env → M Out} {I : Env → Prop}
theorem Dn.forGo (F : α → D) : ∀ (xs : List α) (env : Env), I env → (∀ x ∈ xs, ∀ e, I e → ∃ e1, tg (F x) e = some e1 ∧ Dn q c (fb e1) fun o => ∃ e2, o = .nx e2 ∧ I e2) → Dn q (xs.length * c) (forGo tg fb (xs.map F) env) fun o => ∃ e, o = .nx e ∧ I e
  | [], env, h, _ => Dn.ok ⟨env, rfl, h⟩
  | x :: xs, env, h, hb => by
    obtain ⟨e1, e, d⟩ := hb x (List.mem_cons_self ..) env h
    have := Dn.bind (c2 := xs.length * c) (f := fun o => match o with | .nx e => Y.forGo tg fb (xs.map F) e | .ct e => Y.forGo tg fb (xs.map F) e | .bk e => .ok (.nx e) | .rt v => .ok (.rt v)) d (R := fun o => ∃ e, o = .nx e ∧ I e) (fun o ho => by
      obtain ⟨e2, rfl, i2⟩ := ho
      exact Dn.forGo F xs e2 i2 fun y hy => hb y (List.mem_cons_of_mem _ hy))
    have e' : Y.forGo tg fb ((x :: xs).map F) env = (fb e1).bind fun o => match o with | .nx e => Y.forGo tg fb (xs.map F) e | .ct e => Y.forGo tg fb (xs.map F) e | .bk e => .ok (.nx e) | .rt v => .ok (.rt v) := by
      show (M.of (tg (F x) env)).bind _ = _
      rw [e]
      rfl
    rw [e']
    exact this.le (by simp only [List.length_cons, Nat.add_mul]; omega)
theorem Dn.forGoR {J : List α → Env → Prop} (F : α → D) (hb : ∀ x r e, J (x :: r) e → ∃ e1, tg (F x) e = some e1 ∧ Dn q c (fb e1) fun o => ∃ e2, o = .nx e2 ∧ J r e2) : ∀ (xs : List α) (env : Env), J xs env → Dn q (xs.length * c) (Y.forGo tg fb (xs.map F) env) fun o => ∃ e, o = .nx e ∧ J [] e
  | [], env, h => Dn.ok ⟨env, rfl, h⟩
  | x :: xs, env, h => by
    obtain ⟨e1, e, d⟩ := hb x xs env h
    have := Dn.bind (c2 := xs.length * c) (f := fun o => match o with | .nx e => Y.forGo tg fb (xs.map F) e | .ct e => Y.forGo tg fb (xs.map F) e | .bk e => .ok (.nx e) | .rt v => .ok (.rt v)) d (R := fun o => ∃ e, o = .nx e ∧ J [] e) (fun o ho => by
      obtain ⟨e2, rfl, i2⟩ := ho
      exact Dn.forGoR F hb xs e2 i2)
    have e' : Y.forGo tg fb ((x :: xs).map F) env = (fb e1).bind fun o => match o with | .nx e => Y.forGo tg fb (xs.map F) e | .ct e => Y.forGo tg fb (xs.map F) e | .bk e => .ok (.nx e) | .rt v => .ok (.rt v) := by
      show (M.of (tg (F x) env)).bind _ = _
      rw [e]
      rfl
    rw [e']
    exact this.le (by simp only [List.length_cons, Nat.add_mul]; omega)
variable {ft : Env → M Bool} {fe : Env → M Vl} {env : Env} {P : D → Prop}
theorem Dn.lcGo (F : α → D) : ∀ (xs : List α), (∀ x ∈ xs, ∃ e1, tg (F x) env = some e1 ∧ ft e1 = .ok true ∧ Dn q c (fe e1) fun r => isV r = false ∧ P r.2) → Dn q (xs.length * c) (lcGo tg ft fe env (xs.map F)) fun rs => rs.length = xs.length ∧ ∀ r ∈ rs, P r
  | [], _ => Dn.ok ⟨rfl, fun r h => nomatch h⟩
  | x :: xs, hb => by
    obtain ⟨e1, e, e2, d⟩ := hb x (List.mem_cons_self ..)
    have ih := Dn.lcGo F xs fun y hy => hb y (List.mem_cons_of_mem _ hy)
    have e' : Y.lcGo tg ft fe env ((x :: xs).map F) = (fe e1).bind fun r => if isV r then .bad else (Y.lcGo tg ft fe env (xs.map F)).bind fun rs => .ok (r.2 :: rs) := by
      simp only [List.map_cons, Y.lcGo, e, e2, of_some, ok_bind, if_true]
    rw [e']
    refine (Dn.bind (c2 := xs.length * c + 0) d fun r ⟨h1, h2⟩ => ?_).le (by simp only [List.length_cons, Nat.add_mul]; omega)
    rw [h1]
    refine Dn.bind ih fun rs ⟨h3, h4⟩ => Dn.ok ⟨by simp [h3], fun z hz => ?_⟩
    rcases List.mem_cons.mp hz with rfl | hz
    · exact h2
    · exact h4 z hz
theorem lc_ok (F g : α → D) (e1 : α → Env) (p : α → Bool) : ∀ (xs : List α), (∀ x ∈ xs, tg (F x) env = some (e1 x) ∧ ft (e1 x) = .ok (p x) ∧ (p x = true → ∃ md, fe (e1 x) = .ok (md, g x) ∧ isV (md, g x) = false)) → lcGo tg ft fe env (xs.map F) = .ok ((xs.filter p).map g)
  | [], _ => rfl
  | x :: xs, h => by
    obtain ⟨h1, h2, h3⟩ := h x (List.mem_cons_self ..)
    have ih := lc_ok F g e1 p xs fun y hy => h y (List.mem_cons_of_mem _ hy)
    simp only [List.map_cons, Y.lcGo, h1, h2, of_some, ok_bind]
    cases hp : p x with
    | false => simp only [Bool.false_eq_true, if_false, ih, List.filter_cons, hp]
    | true =>
      obtain ⟨md, h4, h5⟩ := h3 hp
      simp only [if_true, h4, ok_bind, h5, Bool.false_eq_true, if_false, ih, List.filter_cons, hp, List.map_cons]
theorem lc_map (F g : α → D) (e1 : α → Env) (xs : List α) (h : ∀ x ∈ xs, tg (F x) env = some (e1 x) ∧ ft (e1 x) = .ok true ∧ ∃ md, fe (e1 x) = .ok (md, g x) ∧ isV (md, g x) = false) : lcGo tg ft fe env (xs.map F) = .ok (xs.map g) := by
  have := lc_ok (tg := tg) (ft := ft) (fe := fe) (env := env) F g e1 (fun _ => true) xs fun x hx => ⟨(h x hx).1, (h x hx).2.1, fun _ => (h x hx).2.2⟩
  rw [this, List.filter_eq_self.mpr fun _ _ => rfl]
end
@[simp] theorem strsOf_mapf {α : Type} (g : α → List Nat) (xs : List α) : strsOf (xs.map fun x => .str (g x)) = some (xs.map g) := by
  induction xs with
  | nil => rfl
  | cons x xs ih => simp [strsOf, ih]
@[simp] theorem intsOf_mapf {α : Type} (g : α → Int) (xs : List α) : intsOf (xs.map fun x => .int (g x)) = some (xs.map g) := by
  induction xs with
  | nil => rfl
  | cons x xs ih => simp [intsOf, ih]
@[simp] theorem blsOf_mapf {α : Type} (g : α → Bool) (xs : List α) : blsOf (xs.map fun x => .bl (g x)) = some (xs.map g) := by
  induction xs with
  | nil => rfl
  | cons x xs ih => simp [blsOf, ih]
@[simp] theorem kb_NoneType_int : kitB "NoneType" "int" = some false := by decide +kernel
@[simp] theorem kb_NoneType_bool : kitB "NoneType" "bool" = some false := by decide +kernel
@[simp] theorem kb_NoneType_str : kitB "NoneType" "str" = some false := by decide +kernel
@[simp] theorem kb_NoneType_list : kitB "NoneType" "list" = some false := by decide +kernel
@[simp] theorem kb_NoneType_tuple : kitB "NoneType" "tuple" = some false := by decide +kernel
@[simp] theorem kb_NoneType_dict : kitB "NoneType" "dict" = some false := by decide +kernel
@[simp] theorem kb_bool_int : kitB "bool" "int" = some true := by decide +kernel
@[simp] theorem kb_bool_bool : kitB "bool" "bool" = some true := by decide +kernel
@[simp] theorem kb_bool_str : kitB "bool" "str" = some false := by decide +kernel
@[simp] theorem kb_bool_list : kitB "bool" "list" = some false := by decide +kernel
@[simp] theorem kb_bool_tuple : kitB "bool" "tuple" = some false := by decide +kernel
@[simp] theorem kb_bool_dict : kitB "bool" "dict" = some false := by decide +kernel
@[simp] theorem kb_int_int : kitB "int" "int" = some true := by decide +kernel
@[simp] theorem kb_int_bool : kitB "int" "bool" = some false := by decide +kernel
@[simp] theorem kb_int_str : kitB "int" "str" = some false := by decide +kernel
@[simp] theorem kb_int_list : kitB "int" "list" = some false := by decide +kernel
@[simp] theorem kb_int_tuple : kitB "int" "tuple" = some false := by decide +kernel
@[simp] theorem kb_int_dict : kitB "int" "dict" = some false := by decide +kernel
@[simp] theorem kb_str_int : kitB "str" "int" = some false := by decide +kernel
@[simp] theorem kb_str_bool : kitB "str" "bool" = some false := by decide +kernel
@[simp] theorem kb_str_str : kitB "str" "str" = some true := by decide +kernel
@[simp] theorem kb_str_list : kitB "str" "list" = some false := by decide +kernel
@[simp] theorem kb_str_tuple : kitB "str" "tuple" = some false := by decide +kernel
@[simp] theorem kb_str_dict : kitB "str" "dict" = some false := by decide +kernel
@[simp] theorem kb_list_int : kitB "list" "int" = some false := by decide +kernel
@[simp] theorem kb_list_bool : kitB "list" "bool" = some false := by decide +kernel
@[simp] theorem kb_list_str : kitB "list" "str" = some false := by decide +kernel
@[simp] theorem kb_list_list : kitB "list" "list" = some true := by decide +kernel
@[simp] theorem kb_list_tuple : kitB "list" "tuple" = some false := by decide +kernel
@[simp] theorem kb_list_dict : kitB "list" "dict" = some false := by decide +kernel
@[simp] theorem kb_tuple_int : kitB "tuple" "int" = some false := by decide +kernel
@[simp] theorem kb_tuple_bool : kitB "tuple" "bool" = some false := by decide +kernel
@[simp] theorem kb_tuple_str : kitB "tuple" "str" = some false := by decide +kernel
@[simp] theorem kb_tuple_list : kitB "tuple" "list" = some false := by decide +kernel
@[simp] theorem kb_tuple_tuple : kitB "tuple" "tuple" = some true := by decide +kernel
@[simp] theorem kb_tuple_dict : kitB "tuple" "dict" = some false := by decide +kernel
@[simp] theorem kb_dict_int : kitB "dict" "int" = some false := by decide +kernel
@[simp] theorem kb_dict_bool : kitB "dict" "bool" = some false := by decide +kernel
@[simp] theorem kb_dict_str : kitB "dict" "str" = some false := by decide +kernel
@[simp] theorem kb_dict_list : kitB "dict" "list" = some false := by decide +kernel
@[simp] theorem kb_dict_tuple : kitB "dict" "tuple" = some false := by decide +kernel
@[simp] theorem kb_dict_dict : kitB "dict" "dict" = some true := by decide +kernel
end Y

namespace Y
open PySem PySem.Spec PyProof.Rows L2 Z
def txt : Value → Str
  | .str x _ => x
  | _ => Str.empty
def TxE (P : Program) (w : World) (e : Int × Value) : Prop := ∃ x t, e.2 = Value.str x t ∧ e.1 = (PySem.strKind P w).hash x
structure TxS (P : Program) (w : World) (es : Array (Int × Value)) (t : SetTable) (xs : List Str) : Prop where
  each : ∀ e ∈ es.toList, TxE P w e
  once : xs.Nodup
  perm : (es.toList.map fun e => txt e.2).Perm xs
  few : es.size < scanBound
  fits : t.fits es.size = true
  ris : Ris t.place.toList
  led : w.params.followText "set-order" = true ∨ t.led = true
def Tx (P : Program) (w : World) (h : Heap) (a : Addr) (xs : List Str) : Prop := ∃ o es ep t, h.get? a = some o ∧ o.ExactSet ∧ o.data = .set es ep t ∧ TxS P w es t xs
section
variable {P : Program} {w : World} {A : Around} {E : Value → Shared → Prop} {s : Shared} {a : Addr} {xs : List Str} {es : Array (Int × Value)} {t : SetTable}
theorem txe_elems (g : ∀ e ∈ es.toList, TxE P w e) : ElemsOf (PySem.strKind P w) es.toList := by
  intro e he
  obtain ⟨x, tk, h1, h2⟩ := g e he
  refine ⟨⟨x, ?_, h2⟩, ?_⟩
  · rw [h1]; exact strKind_is P w x tk
  · rw [h1]; rfl
theorem txe_is {e : Int × Value} (g : TxE P w e) (x : Str) : (PySem.strKind P w).is x e.2 = true ↔ txt e.2 = x := by
  obtain ⟨y, tk, h1, _⟩ := g
  rw [h1]
  constructor
  · intro h
    exact (PySem.strKind P w).inj _ _ _ (strKind_is P w y tk) h
  · intro h
    have h : y = x := h
    rw [h]
    exact strKind_is P w x tk
theorem tx_store {h : Heap} {o : Obj} {es es' : Array (Int × Value)} {ep : Nat} {t t' : SetTable} (ho : h.get? a = some o) (hx : o.ExactSet) (hd : o.data = .set es ep t) (T : TxS P w es' t' xs) : Tx P w (h.update a (Obj.putSet es' t')) a xs :=
  ⟨_, es', _, t', L2.store_at ho hd, hx, rfl, T⟩
theorem tx_relay {t : SetTable} {n : Nat} (T : TxS P w es t xs) : TxS P w (relayAll t es n).1 (relayAll t es n).2.1 xs := by
  have pm := relayAll_perm t es n
  have hz : (relayAll t es n).1.size = es.size := by
    have := pm.length_eq
    simpa using this
  exact { each := fun e he => T.each e (pm.mem_iff.mp he), once := T.once, perm := (pm.map _).trans T.perm, few := by rw [hz]; exact T.few, fits := relayAll_fits t es n, ris := relayAll_ris t es n,
          led := by rcases T.led with z | z
                    · exact .inl z
                    · exact .inr ((relayAll_led t es n).trans z) }
theorem tx_lay {t : SetTable} {x : Str} {tk : Tok} (T : TxS P w es t xs) (hx : x ∉ xs) (room : xs.length + 1 < scanBound) :
    TxS P w (layNew t es ((PySem.strKind P w).hash x) (.str x tk)).1 (layNew t es ((PySem.strKind P w).hash x) (.str x tk)).2.1 (x :: xs) := by
  have pm := layNew_perm t es ((PySem.strKind P w).hash x) (.str x tk)
  have pc : (layNew t es ((PySem.strKind P w).hash x) (.str x tk)).1.toList.Perm (((PySem.strKind P w).hash x, Value.str x tk) :: es.toList) := pm.trans (by rw [Array.toList_push]; exact List.perm_append_singleton _ _)
  have hz : es.size = xs.length := by
    have := T.perm.length_eq
    simpa using this
  exact { each := fun e he => by
            rcases List.mem_cons.mp (pc.mem_iff.mp he) with z | z
            · rw [z]; exact ⟨x, tk, rfl, rfl⟩
            · exact T.each e z
          once := List.nodup_cons.mpr ⟨hx, T.once⟩
          perm := (pc.map fun e => txt e.2).trans (List.Perm.cons _ T.perm)
          few := by
            have := pc.length_eq
            simp only [Array.length_toList, List.length_cons] at this
            omega
          fits := layNew_fits _ _ _ _
          ris := layNew_ris t es _ _ T.ris
          led := by rcases T.led with z | z
                    · exact .inl z
                    · exact .inr ((layNew_led t es _ _).trans z) }
theorem tx_add {x : Str} {tk : Tok} {Q : Bool → Shared → Prop} (R : Tx P w s.heap a xs) (room : xs.length + 1 < scanBound)
    (hQ : ∀ h' b, Heap.SameBut a s.heap h' → Tx P w h' a (if x ∈ xs then xs else x :: xs) → Q b { s with heap := h' }) :
    wpAny (model P w) A (setAddHashed a (.str x tk) ((PySem.strKind P w).hash x)) Q E s := by
  obtain ⟨o, es, ep, t, ho, hex, hd, T⟩ := R
  have hel := txe_elems T.each
  have hsc : (Value.str x tk).scannable = true := rfl
  unfold setAddHashed setAddHashedIn
  refine wpAny_holding (wpAny_bind (wpAny_setState_of ho hd T.fits ?_))
  dsimp only
  rw [byScan_of hsc T.few hel]
  simp only [↓reduceIte]
  unfold setAddByScan
  refine wpAny_bind (wpAny_bind (wpAny_rule ?_))
  refine wpAny_bind (wpAny_setScan_of (strKind_is P w x tk) ho hd T.fits hel ?_)
  cases hfi : List.findIdx? (fun e => (PySem.strKind P w).is x e.2) es.toList with
  | some j =>
    dsimp only
    obtain ⟨hj, pj, _⟩ := List.findIdx?_eq_some_iff_getElem.mp hfi
    have hmem := List.getElem_mem hj
    have hx : x ∈ xs := by
      refine T.perm.mem_iff.mp (List.mem_map.mpr ⟨_, hmem, ?_⟩)
      exact (txe_is (T.each _ hmem) x).mp pj
    refine wpAny_pure (wpAny_pure ?_)
    have q := hQ s.heap false (Heap.SameBut.refl a s.heap)
    rw [if_pos hx] at q
    exact q ⟨o, es, ep, t, ho, hex, hd, T⟩
  | none =>
    dsimp only
    have hx : x ∉ xs := fun z => by
      obtain ⟨e, he, q⟩ := List.mem_map.mp (T.perm.mem_iff.mpr z)
      have c := List.findIdx?_eq_none_iff.mp hfi e he
      rw [(txe_is (T.each e he) x).mpr q] at c
      cases c
    have T1 := tx_lay (tk := tk) T hx room
    have q0 := hQ
    simp only [if_neg hx] at q0
    generalize layNew t es ((PySem.strKind P w).hash x) (.str x tk) = Z at T1 ⊢
    obtain ⟨es1, t1, wd, gv⟩ := Z
    dsimp only at T1 ⊢
    have way : ∀ (b : Bool) {s₁ : Shared} {Q' : Unit → Shared → Prop}, Q' () s₁ → wpAny (model P w) A (match b with | true => rule "set.scan.the-table-gave-way" | false => pure ()) Q' E s₁ := by
      intro b s₁ Q' q
      cases b
      · exact wpAny_pure q
      · exact wpAny_rule q
    refine wpAny_bind (way _ ?_)
    have tail : ∀ (g : Bool → Sem Unit), (∀ (b : Bool) (s₁ : Shared) (Q' : Unit → Shared → Prop), Q' () s₁ → wpAny (model P w) A (g b) Q' E s₁) → ∀ (T2 : SetTable), TxS P w es1 T2 (x :: xs) → ∀ (R' : Option Bool → Shared → Prop), (∀ h', Heap.SameBut a s.heap h' → Tx P w h' a (x :: xs) → R' (some true) { s with heap := h' }) →
        wpAny (model P w) A (do
          storeSet a es1 T2
          if (!wd && T2.tooFull) = true then do
              g (relayAll T2 es1 (SetTable.grown es1.size)).2.2
              storeSet a (relayAll T2 es1 (SetTable.grown es1.size)).1 (relayAll T2 es1 (SetTable.grown es1.size)).2.1
              pure (some true)
            else pure (some true)) R' E s := by
      intro g hg T2 h2 R' hR'
      refine wpAny_bind (wpAny_storeSet_of ho hd ?_ (fits_of_scanBound h2.few))
      have o1 := L2.store_at (es' := es1) (t' := T2) ho hd
      have b1 := Heap.SameBut.update s.heap a (Obj.putSet es1 T2)
      split
      · have h3 := tx_relay (n := SetTable.grown es1.size) h2
        generalize relayAll T2 es1 (SetTable.grown es1.size) = Y3 at h3 ⊢
        obtain ⟨es3, t3, g3⟩ := Y3
        dsimp only at h3 ⊢
        refine wpAny_bind (hg _ _ _ ?_)
        refine wpAny_bind (wpAny_storeSet_of o1 rfl ?_ (fits_of_scanBound h3.few))
        exact wpAny_pure (hR' _ (b1.trans (Heap.SameBut.update _ a _)) (tx_store o1 hex rfl h3))
      · exact wpAny_pure (hR' _ b1 (tx_store ho hex hd h2))
    by_cases hp : t1.plain = true
    · simp only [hp, if_true]
      refine wpAny_bind ?_
      rw [hashByValue_scannable 8 hsc]
      refine wpAny_pure ?_
      refine tail _ (fun b s₁ Q' q => by cases b <;> first | exact wpAny_pure q | exact wpAny_rule q) _ ?_ _ fun h' sb r => ?_
      · first | exact T1 | (split <;> first | exact T1 | exact { each := T1.each, once := T1.once, perm := T1.perm, few := T1.few, fits := SetTable.fits_plain_off T1.fits, ris := T1.ris, led := T1.led })
      · dsimp only
        exact wpAny_pure (q0 h' true sb r)
    · simp only [hp, Bool.false_eq_true, if_false]
      refine wpAny_bind (wpAny_pure ?_)
      simp only [↓reduceIte]
      refine tail _ (fun b s₁ Q' q => by cases b <;> first | exact wpAny_pure q | exact wpAny_rule q) _ T1 _ fun h' sb r => ?_
      dsimp only
      exact wpAny_pure (q0 h' true sb r)
abbrev FrS (w : World) : Obj := { cls := .type "set", dict := none, data := .set #[] 0 (.fresh 0 0 (!w.params.followText "set-order")) }
theorem tx_fresh {h : Heap} (ho : h.get? a = some (FrS w)) : Tx P w h a [] := by
  refine ⟨_, #[], 0, _, ho, ⟨rfl, rfl, rfl⟩, rfl, ?_⟩
  exact { each := fun e he => by simp at he, once := List.nodup_nil, perm := by simp, few := by decide, fits := rfl, ris := List.Pairwise.nil,
          led := by show _ ∨ (!w.params.followText "set-order") = true
                    cases w.params.followText "set-order" <;> simp }
theorem Tx.at {h h' : Heap} (R : Tx P w h a xs) (hk : ∀ o, h.get? a = some o → h'.get? a = some o) : Tx P w h' a xs := by
  obtain ⟨o, es, ep, t, ho, z⟩ := R
  exact ⟨o, es, ep, t, hk o ho, z⟩
def Dd (ws : List Str) (i : Nat) (xs : List Str) : Prop := xs.length ≤ i ∧ ∀ x, x ∈ xs ↔ x ∈ ws.take i
theorem Dd.step {ws : List Str} {i : Nat} {x : Str} (h : Dd ws i xs) (hx : ws[i]? = some x) : Dd ws (i + 1) (if x ∈ xs then xs else x :: xs) := by
  have ht : ws.take (i + 1) = ws.take i ++ [x] := by rw [List.take_add_one, hx]; rfl
  obtain ⟨h1, h2⟩ := h
  by_cases hm : x ∈ xs
  · rw [if_pos hm]
    refine ⟨by omega, fun y => ?_⟩
    rw [ht, List.mem_append, List.mem_singleton, h2 y]
    exact ⟨.inl, fun z => z.elim id fun e => e ▸ (h2 x).mp hm⟩
  · rw [if_neg hm]
    refine ⟨by simp only [List.length_cons]; omega, fun y => ?_⟩
    rw [ht, List.mem_append, List.mem_singleton, List.mem_cons, h2 y]
    exact Or.comm
section
variable {I : Addr} {fp wr : List Addr} {G : Array GenState → Array GenState → Prop} {n : Nat} {Pv : Nat → Value → Prop} {St : Nat → Shared → Prop} {R : Result → Shared → Prop}
theorem tx_loop (W : WalksS P w A.in1 I fp wr G n Pv St) (hSf : a ∉ fp) (ws : List Str) (hz : ws.length = n) (hb : n < 4000) (hv : ∀ i v, Pv i v → ∃ x t, ws[i]? = some x ∧ v = .str x t) :
    ∀ (m i : Nat) (xs : List Str) (s : Shared), n - i = m → i ≤ n → St i s → Tx P w s.heap a xs → Dd ws i xs →
      (∀ s' ys, Moved (a :: wr) G s s' → Tx P w s'.heap a ys → Dd ws n ys → R (.ok (.ret .none)) s') →
      codeAny (model P w) A (.builtin "set.update.loop" ⟨[.ref a, .ref I], []⟩) R s := by
  have naw : a ∉ wr := fun z => hSf (W.sub _ z)
  have sb : ∀ b ∈ wr, b ∈ a :: wr := fun b z => List.mem_cons_of_mem _ z
  intro m
  induction m with
  | zero =>
    intro i xs s hm hi st T d hR
    obtain rfl : i = n := by omega
    refine codeAny_builtin PyProof.Rows.F.entry_set_update_loop ?_
    rw [Around.under_plainId PyProof.Rows.F.plain_set_update_loop _]
    show wpAny _ A.in1 (pyNext (.ref I) >>= _) _ _ s
    refine wpAny_bind (W.done s _ _ st fun s' mv => ?_)
    show wpAny _ A.in1 (PySem.ret Value.none) _ _ s'
    exact wpAny_pure (hR s' xs (mv.mono sb) (T.at fun o e => mv.heap a o naw e) d)
  | succ m ih =>
    intro i xs s hm hi st T d hR
    have lt : i < n := by omega
    refine codeAny_builtin PyProof.Rows.F.entry_set_update_loop ?_
    rw [Around.under_plainId PyProof.Rows.F.plain_set_update_loop _]
    show wpAny _ A.in1 (pyNext (.ref I) >>= _) _ _ s
    refine wpAny_bind (W.item i s _ _ lt st fun v s1 hP st1 mv => ?_)
    obtain ⟨x, t, hx, rfl⟩ := hv i v hP
    have T1 := T.at fun o e => mv.heap a o naw e
    show wpAny _ A.in1 (holding [Value.str x t] (setAdd a (.str x t)) >>= _) _ _ s1
    refine wpAny_bind (wpAny_holding ?_)
    unfold setAdd
    refine wpAny_holding (wpAny_bind ((PySem.strKind P w).pyHash (k := x) (strKind_is P w x t) ?_))
    refine tx_add (s := { s1 with toks := s1.toks + 1 }) T1 (by unfold scanBound; have := d.1; omega) fun h' _ same T2 => ?_
    refine wpAny_pure ⟨plainId_quiet PyProof.Rows.F.plain_set_update_loop _, ih (i + 1) _ _ (by omega) lt (W.frame _ s1 _ _ st1 (Nat.le_succ _) fun b z o e => ?_) T2 (d.step hx) fun s2 ys mv2 T3 d3 => ?_⟩
    · have hne : b ≠ a := fun q => hSf (q ▸ z)
      rw [same.2 b hne]; exact e
    · refine hR s2 ys (Moved.trans W.gtrans ((mv.mono sb).then_heap (Nat.le_succ _) fun b o z e => ?_) mv2) T3 d3
      have hne : b ≠ a := fun q => z (q ▸ List.mem_cons_self)
      rw [same.2 b hne]; exact e
end
theorem set_txt {l : Addr} {its : Array Value} {ws : List Str} {Q : Value → Shared → Prop} (hh : A.handled = none) (hl : s.heap.IsList l its) (hi : PyProof.Rows.StrsAre its.toList ws) (hb : ws.length < 4000)
    (h : ∀ (hp' : Heap) (tk : Nat) ys, Tx P w hp' s.heap.objs.size ys → Dd ws ws.length ys → (∀ b o, s.heap.get? b = some o → hp'.get? b = some o) → s.heap.objs.size < hp'.objs.size → Q (.ref s.heap.objs.size) { s with heap := hp', toks := tk }) :
    wpAny (model P w) A (call (.type "set") [.ref l]) Q E s := by
  have hz : ws.length = its.size := by rw [← StrsAre.len_eq hi, Array.length_toList]
  obtain ⟨mc, mt, mro⟩ := PySem.F.called_set.mro
  have made := PySem.F.called_set.made
  have below := PySem.F.called_set.sub
  have no := PySem.F.called_set.notType
  have can := PySem.F.called_set.canCreate
  have one := PySem.F.typeCall_set_1 (.ref l)
  refine wpAny_call (codeAny_of_tree ?_)
  show wpAny (model P w) _ (callAny (.type "set") _) _ _ s
  refine wpAny_pure ⟨Code.quiet_builtin _ (by decide +kernel), codeAny_builtin PySem.F.entry_type_call ?_⟩
  rw [Around.under_plain (weight_type_call_type "set" [.ref l] []) rfl]
  repeat (any_goals (first | assumption | wp_step))
  refine codeAny_mono (code_set_led1 (.ref l) (E := E) (Q₁ := fun v s1 => v = .ref s.heap.objs.size ∧ s1 = { s with heap := s.heap.push (FrS w) }) ⟨rfl, rfl⟩) fun r s1 hr => ?_
  cases r with
  | error e => exact hr
  | ok fl =>
    cases fl with
    | ret v =>
      obtain ⟨rfl, rfl⟩ := hr
      have at0 : (s.heap.push (FrS w)).get? s.heap.objs.size = some (FrS w) := Heap.get?_push_size _ rfl
      have ty0 : Shared.TypeIs { s with heap := s.heap.push (FrS w) } (.ref s.heap.objs.size) "set" := ⟨_, at0, rfl⟩
      have look := PySem.F.called_set.init.lookup
      have bnd := PySem.F.called_set.init.bind (.ref s.heap.objs.size)
      repeat (any_goals (first | assumption | wp_step))
      refine codeAny_mono (codeAny_call_builtin (R := wants (fun r s2 => r = .none ∧ ∃ hp' tk ys, s2 = { s with heap := hp', toks := tk } ∧ Tx P w hp' s.heap.objs.size ys ∧ Dd ws ws.length ys ∧ (∀ b o, s.heap.get? b = some o → hp'.get? b = some o) ∧ s.heap.objs.size < hp'.objs.size) E) PySem.F.called_set.init.plain PySem.F.entry_set_init (check_set_init_1 ty0 ?_)) fun r2 s2 hr2 => ?_
      · obtain ⟨ol, hol, hcl, nl, hdl⟩ := hl
        obtain ⟨c0, d0, dat0, sl0⟩ := ol
        simp only at hcl hdl
        subst hcl; subst hdl
        have lt : l < s.heap.objs.size := Heap.lt_size hol
        have isl : (s.heap.push (FrS w)).IsList l its := ⟨_, Heap.get?_push_of_some _ hol, rfl, nl, rfl⟩
        have hol' := Heap.get?_push_of_some (FrS w) hol
        have n1 := PySem.F.sub_list_set
        have n2 := PySem.F.sub_list_frozenset
        have n3 : (Value.type "list" == Value.type "dict") = false := by decide
        unfold Builtin.«set.__init__» noKeywords Builtin.Frozenset.updateFrom
        generalize e0 : pyIter = pI
        wp_walk
        subst e0
        refine wpAny_pyIter_list isl (wpAny_bind (wpAny_runValue ?_))
        have hd3 : A.in1.in1.in1.handled = none := by simp [hh]
        have sz : (s.heap.push (FrS w)).objs.size = s.heap.objs.size + 1 := Heap.size_push ..
        have neI : l ≠ (s.heap.push (FrS w)).objs.size := sz ▸ Nat.ne_of_lt (Nat.lt_succ_of_lt lt)
        have nf : s.heap.objs.size ∉ [(s.heap.push (FrS w)).objs.size, l] := by
          rw [sz]
          simp only [List.mem_cons, List.not_mem_nil, or_false, not_or]
          exact ⟨Nat.ne_of_lt (Nat.lt_succ_self _), (Nat.ne_of_lt lt).symm⟩
        have val : ∀ (i : Nat) (v : Value), its[i]? = some v → ∃ x t, ws[i]? = some x ∧ v = .str x t := fun i v hv => by
          have hv' : its.toList[i]? = some v := by rw [Array.getElem?_toList]; exact hv
          obtain ⟨t, rfl⟩ := SS.strs_at hi i v hv'
          have hlt : i < its.toList.length := (List.getElem?_eq_some_iff.mp hv').1
          have hlt : i < ws.length := by rw [hz]; simpa using hlt
          refine ⟨_, t, ?_, rfl⟩
          simp [hlt]
        refine tx_loop ((Walks.list hd3 _ l neI its).toS) nf ws hz (by omega) val (its.size - 0) 0 [] _ (by omega) (Nat.zero_le _) ⟨⟨_, Heap.get?_push_size _ rfl, rfl, rfl⟩, isl.push _⟩ (tx_fresh (Heap.get?_push_of_some _ at0)) ⟨Nat.le_refl _, fun x => by simp⟩ fun s' ys mv T d => ?_
        obtain ⟨h2, g2, d2, tk2, os2⟩ := s'
        have e1 : g2 = s.gens := mv.gens
        have e2 : d2 = s.drawn := mv.drawn
        have e3 : os2 = s.os := mv.os
        subst e1; subst e2; subst e3
        show wpAny (model P w) _ _ _ _ _
        refine wpAny_pure ?_
        show wpAny (model P w) _ (PySem.ret Value.none) _ _ _
        refine wpAny_pure ⟨rfl, h2, tk2, ys, rfl, T, by rw [hz]; exact d, fun b o e => ?_, ?_⟩
        · have hb := Heap.lt_size e
          refine mv.heap b o ?_ (Heap.get?_push_of_some _ (Heap.get?_push_of_some _ e))
          rw [sz]
          simp only [List.mem_cons, List.not_mem_nil, or_false, not_or]
          exact ⟨Nat.ne_of_lt hb, Nat.ne_of_lt (Nat.lt_succ_of_lt hb)⟩
        · obtain ⟨o, es, ep, t, ho, _⟩ := T
          exact Heap.lt_size ho
      · cases r2 with
        | error e => exact hr2
        | ok fl2 =>
          cases fl2 with
          | ret r =>
            obtain ⟨rfl, hp', tk, ys, rfl, T, d, kp, lt⟩ := hr2
            repeat (any_goals (first | assumption | wp_step))
            exact h _ _ _ T d kp lt
          | _ => exact hr2.elim
    | _ => exact hr.elim
end
end Y

namespace Y
open PySem PySem.Spec PyProof.Rows L2 Z
section
variable {P : Program} {w : World} {A : Around} {E : Value → Shared → Prop} {s : Shared} {a : Addr} {xs : List Str}
theorem str_ok (xs : List Str) : PySem.W.AllAlike (xs.map PyData.str) ∧ PySem.W.Sortable (xs.map PyData.str) := by
  have key : ∀ d ∈ xs.map PyData.str, ∃ l, d = PyData.str l := fun d hd => by
    obtain ⟨l, _, e⟩ := List.mem_map.mp hd
    exact ⟨l, e.symm⟩
  refine ⟨fun a ha b hb => ?_, .inr fun a ha => ?_⟩
  · obtain ⟨l, rfl⟩ := key a ha
    obtain ⟨m, rfl⟩ := key b hb
    simp [PySem.W.alike]
  · obtain ⟨l, rfl⟩ := key a ha
    exact ⟨(by intro z; cases z), fun xs z => by cases z⟩
end
section
variable {X : Cx}
def ddW : List (List Nat) → List (List Nat)
  | [] => []
  | w :: ws => if w ∈ ddW ws then ddW ws else w :: ddW ws
theorem ddW_mem {x : List Nat} : ∀ {ws : List (List Nat)}, x ∈ ddW ws ↔ x ∈ ws
  | [] => Iff.rfl
  | w :: ws => by
    unfold ddW
    by_cases h : w ∈ ddW ws
    · rw [if_pos h, ddW_mem, List.mem_cons]
      exact ⟨.inr, fun z => z.elim (fun e => e ▸ ddW_mem.mp h) id⟩
    · rw [if_neg h, List.mem_cons, List.mem_cons, ddW_mem]
theorem ddW_nodup : ∀ ws : List (List Nat), (ddW ws).Nodup
  | [] => List.nodup_nil
  | w :: ws => by
    unfold ddW
    by_cases h : w ∈ ddW ws
    · rw [if_pos h]; exact ddW_nodup ws
    · rw [if_neg h]; exact List.nodup_cons.mpr ⟨h, ddW_nodup ws⟩
theorem ddW_len : ∀ ws : List (List Nat), (ddW ws).length ≤ ws.length
  | [] => Nat.le_refl _
  | w :: ws => by
    have := ddW_len ws
    unfold ddW
    split <;> simp only [List.length_cons] <;> omega
theorem nodup_S {xs : List Str} (h : xs.Nodup) : (xs.map fun x => x.cps.toList).Nodup := by
  refine List.Pairwise.map _ (fun a b hne e => hne ?_) h
  cases a with | mk a =>
  cases b with | mk b =>
  cases a; cases b
  simp at e
  rw [e]
end
section
variable {k : Kx}
end
end Y

namespace Y
open PySem PySem.Spec PyProof.Rows L2 Z
def hidO : Option (Bool × D) → Option (Bool × D)
  | some (true, _) => none
  | o => o
def hidE (env : Env) : Env := env.map hidO
theorem hidE_get {env : Env} {i : Nat} {b : Bool} {d : D} (h : (hidE env)[i]? = some (some (b, d))) : b = false ∧ env[i]? = some (some (false, d)) := by
  unfold hidE at h
  rw [List.getElem?_map] at h
  cases e : env[i]? with
  | none => rw [e] at h; cases h
  | some o =>
    rw [e] at h
    cases o with
    | none => simp [hidO] at h
    | some p =>
      obtain ⟨c, d'⟩ := p
      cases c with
      | true => simp [hidO] at h
      | false =>
        simp [hidO] at h
        obtain ⟨rfl, rfl⟩ := h
        exact ⟨rfl, rfl⟩
section
variable {k : Kx} {R : Hp} {dr dr' : Dr} {env : Env} {σ : L2.St} {G G2 H H2 : Hp} {n n' : Nat} {E : XK}
theorem Rl.hide (r : Rl k R dr env σ G H n) : ∃ R', Rl k R' dr (hidE env) σ G H n ∧ ∀ dr' G2 H2 n', Le G G2 → Rl k R' dr' [] [] G2 H2 n' → Rl k R dr' env σ G2 H2 n' := by
  obtain ⟨R', r', _, bk⟩ := r.out
  refine ⟨R', ⟨r'.i, r'.nt, r'.tb, r'.dd, r'.dh, r'.dj, r'.rs, fun i d h => ?_, fun i d h => ?_, fun i j a d d' h => ?_, ?_, r'.nb, r'.so⟩, bk⟩
  · exact r.sh i d (hidE_get h).2
  · cases (hidE_get h).1
  · cases (hidE_get h).1
  · unfold hidE
    rw [List.length_map]
    exact r.len
end
section
variable {k : Kx} {E : XK} {te : TE} {fe : Env → M Vl}
end
end Y

namespace Y
open PySem PySem.Spec PyProof.Rows L2 Z
section
variable {k : Kx} {E : XK} {te : TE} {fe : Env → M Vl} {ta : TA} {fa : Env → M (List Vl)}
end
section
variable {k : Kx} {E : XK}
end
theorem TgS.mono {k : Kx} {vs vs' : List Nat} {g : TG} {tg : D → Env → Option Env} (h : TgS k vs g tg) (hs : ∀ j, j ∈ vs → j ∈ vs') : TgS k vs' g tg := fun R dr env σ G H n x d env1 Q r p e q =>
  h R dr env σ G H n x d env1 Q r p e fun σ1 r1 ag len => q σ1 r1 (fun j hj => ag j fun z => hj (hs j z)) len
end Y

namespace Y
open PySem PySem.Spec PyProof.Rows L2 Z
section
variable {k : Kx} {E : XK}
end
section
variable {k : Kx} {E : XK}
theorem RpF.look {G : Hp} {f : Str} {d : D} : ∀ {fv : List (Str × V)} {fs : List (Str × D)}, RpF k G fv fs → fs.lookup f = some d → ∃ v, fv.lookup f = some v ∧ Rp k G v d
  | _, _, .nil, h => by cases h
  | _, _, .cons (q := q) h a, e => by
    rw [List.lookup_cons] at e ⊢
    cases hq : f == q with
    | true => rw [hq] at e; cases e; exact ⟨_, rfl, h⟩
    | false => rw [hq] at e; exact RpF.look a e
end
end Y

namespace Y
open PySem PySem.Spec PyProof.Rows L2 Z
abbrev asS (g : Addr → Option Obj) (n : Nat) : List Addr := He.asD g n ++ [cStatics, sysModules]
def obS (n : Nat) (fa : List He.Fa) (fn : List He.DefD) (ts : List He.Tab) (tf : List He.Defn) (ex : PySem.W.Frag → Bool) (g : Addr → Option Obj) : He.AlX :=
  let Kg := He.frT g (asS g n)
  (He.obsT fa fn ts Kg, ex Kg && He.tabsB g tf Kg)
theorem says_obS {n : Nat} {fa : List He.Fa} {fn : List He.DefD} {ts : List He.Tab} {tf : List He.Defn} {ex : PySem.W.Frag → Bool} {w : World} {hp : Heap} (e : obS n fa fn ts tf ex hp.get? = He.valX fn ts w) : He.SaysX fa fn ts tf ex w hp (He.frT hp.get? (asS hp.get? n)) := by
  generalize hK : He.frT hp.get? (asS hp.get? n) = Kg
  have e1 : He.obsT fa fn ts Kg = He.valT fn ts w := by rw [← hK]; exact congrArg (fun z : He.AlX => z.1) e
  have e2 : (ex Kg && He.tabsB hp.get? tf Kg) = true := by rw [← hK]; exact congrArg (fun z : He.AlX => z.2) e
  rw [Bool.and_eq_true] at e2
  obtain ⟨h1, h2⟩ := e2
  have key : ∀ p ∈ tf, PySem.W.codeHdIn Kg (He.cT Kg p).1 (He.cT Kg p).2 = true ∧ ∃ o, hp.get? (He.cT Kg p).2 = some o ∧ He.emptyTab o = true := by
    intro p m
    have t := List.all_eq_true.mp h2 p m
    rw [Bool.and_eq_true] at t
    obtain ⟨t1, t2⟩ := t
    cases q : hp.get? (He.cT Kg p).2 with
    | none => simp only [q] at t2; cases t2
    | some o => simp only [q] at t2; exact ⟨t1, o, rfl, t2⟩
  refine ⟨e1, h1, fun p m => (key p m).1, fun p m => ?_, fun p m => ?_⟩
  · obtain ⟨_, o, q, z⟩ := key p m
    rw [← hK] at q ⊢
    exact He.frT_none q z
  · obtain ⟨_, o, q, z⟩ := key p m
    rw [q, He.emptyTab_eq z]
end Y

namespace Y
open PySem PySem.Spec PyProof.Rows L2 Z
section
variable {X : Cx} {pins : List (Addr × Obj)} {σ : L2.St} {H G : Hp} {s : Shared}
end
def reprX : List D → Option D
  | [d] => match py d with
    | some p => if p.showable = true ∧ p.depth ≤ 60 ∧ p.shown.length ≤ 10000000 then some (.str (shw p)) else none
    | none => none
  | _ => none
end Y

namespace Y
open PySem PySem.Spec PyProof.Rows L2 Z
theorem meets_enum1 {v : Value} {o : Obj} {H : Heap → Prop} (B : Begins v o H) :
    Meets (Builtin.«enumerate.__new__» ⟨[.type "enumerate", v], []⟩) (fun _ R s => H s.heap ∧
      R (.ok (.ret (.ref (s.heap.push o).objs.size))) { s with heap := (s.heap.push o).push { cls := .type "enumerate", data := .fields #[.none, .bool false, .ref s.heap.objs.size, rawInt 0, .none, .none] } }) :=
  .of_wp fun prog w A R s h => by
    obtain ⟨hp, g, d, tk, os⟩ := s; obtain ⟨h1, h⟩ := h
    have hsub := sub_enumerate
    have q1 : ∀ {A' : Around} {E : Value → Shared → Prop} {Q : Value → Shared → Prop}, Q (.ref hp.objs.size) ⟨hp.push o, g, d, tk, os⟩ → wpAny (model prog w) A' (pyIter v) Q E ⟨hp, g, d, tk, os⟩ :=
      fun q => B.iter prog w _ _ ⟨hp, g, d, tk, os⟩ _ h1 q
    wp_walk using q1
    refine wpAny_stack_any fun st => wpAny_pure ?_
    split
    · rename_i c _ _ _ _ _
      cases (c == Value.type "enumerate")
      · wp_walk using q1
        exact ⟨_, rfl, h⟩
      · wp_walk using q1
        exact ⟨_, rfl, h⟩
    · wp_walk using q1
      exact ⟨_, rfl, h⟩
section
variable {prog : Program} {w : World} {A : Around} {E : Value → Shared → Prop} {s : Shared}
theorem enum_one {v : Value} {o : Obj} {H : Heap → Prop} {Q : Value → Shared → Prop} (B : Begins v o H) (h1 : H s.heap)
    (h : ∀ h', IsEnum h' (s.heap.objs.size + 1) s.heap.objs.size 0 .none → h'.get? s.heap.objs.size = some o → h'.objs.size = s.heap.objs.size + 2 →
      (∀ b o, s.heap.get? b = some o → h'.get? b = some o) → Q (.ref (s.heap.objs.size + 1)) { s with heap := h' }) :
    wpAny (model prog w) A (call (.type "enumerate") [v]) Q E s := by
  refine callType_new F.called_enumerate (by decide) (F.typeCall_enumerate_1 _) (F.newCall_enumerate_1 _) (fun obj => F.args_object_init_2 obj _) F.entry_enumerate_new
    (meets_enum1 B) ⟨h1, ?_⟩
  have hz : (s.heap.push o).objs.size = s.heap.objs.size + 1 := Heap.size_push ..
  show _ ∧ _
  rw [hz]
  have he : IsEnum ((s.heap.push o).push { cls := .type "enumerate", data := .fields #[.none, .bool false, .ref s.heap.objs.size, rawInt 0, .none, .none] }) (s.heap.objs.size + 1) s.heap.objs.size 0 .none := by
    have := Heap.get?_push_size (s.heap.push o) (o := { cls := .type "enumerate", data := .fields #[.none, .bool false, .ref s.heap.objs.size, rawInt 0, .none, .none] }) rfl
    rw [hz] at this; exact this
  refine ⟨⟨_, he, rfl⟩, h _ he (Heap.get?_push_of_some _ (Heap.get?_push_size _ B.free)) (by rw [Heap.size_push, hz]) fun b o x => Heap.get?_push_of_some _ (Heap.get?_push_of_some _ x)⟩
end
def IteT (K : PySem.W.Frag) (a : Addr) : It :=
  ⟨fun i H => ∃ (xs : List V) (x : V), SqT K H a xs ∧ xs[i]? = some x, fun i H v H' => ∃ T x, v = .ref T ∧ H T = none ∧ H' = upd H T (.tup [.int (i : Nat), x]) ∧ ∀ xs, SqT K H a xs → xs[i]? = some x, fun i H => ∃ xs : List V, SqT K H a xs ∧ xs.length = i⟩
def IteS (z : Str) : It :=
  ⟨fun i _ => i < z.cps.size, fun i H v H' => ∃ T c, v = .ref T ∧ H T = none ∧ H' = upd H T (.tup [.int (i : Nat), .str ⟨#[c]⟩]) ∧ z.cps[i]? = some c, fun i _ => z.cps.size = i⟩
theorem enum_turn {X : Cx} {pins : List (Addr × Obj)} {s : Shared} {σ : L2.St} {H : Hp} {e it : Addr} {i : Nat} {x : V} {u : Value} {h' : Heap} {tk : Nat} (hel : e < s.heap.objs.size) (hil : it < s.heap.objs.size) (hne : e ≠ it)
    (I : Inv X pins σ H s) (hf : ∀ b ∈ [e, it], FpOk X pins H b) (ru : RelV x u) (ho : IsEnumOut h' e it ((i : Int) + 1) u s.heap.objs.size)
    (hT : h'.get? s.heap.objs.size = some { cls := .type "tuple", data := .seq #[.int i tk, u] }) (hk : ∀ b o, b ≠ e → b ≠ it → s.heap.get? b = some o → h'.get? b = some o)
    {elts : List Expr} {kk : Nat} {tpos : Pos} {E : Value → Shared → Prop} {Q : V → Hp → Shared → Prop}
    (q : ∀ h'', IsEnum h'' e it ((i + 1 : Nat) : Int) u → (∀ b o, b ≠ e → h'.get? b = some o → h''.get? b = some o) → Inv X pins σ (upd H s.heap.objs.size (.tup [.int (i : Nat), x])) { s with heap := h'', toks := tk + 1 } → (∀ b ∈ [e, it], upd H s.heap.objs.size (.tup [.int (i : Nat), x]) b = none) → H s.heap.objs.size = none → Q (.ref s.heap.objs.size) (upd H s.heap.objs.size (.tup [.int (i : Nat), x])) { s with heap := h'', toks := tk + 1 }) :
    wpAny (model X.prog X.w) X.A (letOwnedTupleGo (.Tuple elts kk tpos) (.ref e) (.ref s.heap.objs.size)) (fun _ s2 => ∃ y H', RelV y (.ref s.heap.objs.size) ∧ Q y H' s2) E { s with heap := h', toks := tk + 1 } := by
  refine wpAny_letOwnedTupleGo_enum (s := { s with heap := h', toks := tk + 1 }) ho fun h'' he' sb => ?_
  have hT2 : h''.get? s.heap.objs.size = some { cls := .type "tuple", data := .seq #[.int i tk, u] } := (sb.2 _ (Nat.ne_of_gt hel)).trans hT
  have new : ObjOk X.prog X.w (upd H s.heap.objs.size (.tup [.int (i : Nat), x])) h'' s.heap.objs.size (.tup [.int (i : Nat), x]) :=
    ⟨by show 2 ≤ sizeLine; decide, [.int i tk, u], .cons ⟨_, rfl⟩ (.cons ru .nil), ⟨_, hT2, rfl, _, rfl⟩⟩
  have I1 : Inv X pins σ (upd H s.heap.objs.size (.tup [.int (i : Nat), x])) { s with heap := h'', toks := tk + 1 } :=
    I.turnedNew (ch := [e, it]) (fun b ob hb q => (sb.2 b (fun z => hb (by simp [z]))).trans (hk b ob (fun z => hb (by simp [z])) (fun z => hb (by simp [z])) q)) hf (Nat.le_refl _) new
  refine ⟨.ref s.heap.objs.size, _, rfl, q h'' ?_ (fun b o hb z => (sb.2 b hb).trans z) I1 (fun b hb => ?_) (I.hok.fresh (Nat.le_refl _))⟩
  · have e1 : ((i + 1 : Nat) : Int) = (i : Int) + 1 := by omega
    rw [e1]; exact he'
  · have hb' : b < s.heap.objs.size := by
      have e' : b = e ∨ b = it := by simpa using hb
      rcases e' with z | z
      · rw [z]; exact hel
      · rw [z]; exact hil
    rw [upd_ne (Nat.ne_of_lt hb')]
    exact (hf b hb).1
theorem turn_enumT {P : Program} {w : World} {K : PySem.W.Frag} {elts : List Expr} {kk : Nat} {tpos : Pos} (a e it : Addr) :
    Turn P w K (.Tuple elts kk tpos) (IteT K a) [e, it] e (fun i h => (∃ old, IsEnum h e it ((i : Nat) : Int) old) ∧ h.IsTupleIter it a i ∧ e ≠ it) where
  mem := by simp
  obj := fun i h st b hb => by
    obtain ⟨⟨old, he⟩, ⟨o, ho, hc, hd⟩, _⟩ := st
    have e' : b = e ∨ b = it := by simpa using hb
    rcases e' with z | z
    · rw [z]; exact ⟨_, he, fun v q => nomatch q⟩
    · rw [z]; exact ⟨o, ho, fun v q => by rw [hd] at q; cases q⟩
  keep := fun i h h' st k => let ⟨⟨old, he⟩, hi, hne⟩ := st; ⟨⟨old, k e (by simp) _ he⟩, hi.at fun o q => k it (by simp) o q, hne⟩
  item := by
    intro X hP hw hK hc i pins s σ H E I hf st hg
    subst hP hw hK
    obtain ⟨⟨old, he⟩, hit, hne⟩ := st
    obtain ⟨xs, x, hq, hx⟩ := hg
    obtain ⟨its, rv, p, hz⟩ := I.tuple hq
    obtain ⟨u, hu, ru⟩ := rv.get hx
    have p : s.heap.IsTuple a its.toArray := p
    have hel : e < s.heap.objs.size := Heap.lt_size he
    have hil : it < s.heap.objs.size := by obtain ⟨_, q, _⟩ := hit; exact Heap.lt_size q
    have hai : a ≠ it := fun z => by
      obtain ⟨o1, q1, q2, _⟩ := hit
      obtain ⟨o2, q3, q4, _⟩ := p
      rw [z, q1] at q3; cases q3
      rw [q2] at q4
      exact absurd q4 (by simp)
    have hae : a ≠ e := fun z => by
      obtain ⟨o2, q3, q4, _⟩ := p
      rw [z, he] at q3; cases q3
      exact absurd q4 (by simp)
    have hlt : i < its.toArray.size := by
      have := (List.getElem?_eq_some_iff.mp hu).1
      simpa using this
    refine wpAny_pyNext_enum_itemD (Draws.tuple (A := X.A.in1) (I.ok.hd hc) it a hai its.toArray) he ⟨hit, p⟩ hlt hne (by simp [hne, Ne.symm hae]) fun y h' tk hP ho hs' hT hsz hk => ?_
    have ey : y = u := by
      have : its.toArray[i]? = some u := by simpa using hu
      rw [this] at hP; cases hP; rfl
    subst ey
    refine ⟨_, rfl, thn (enum_turn (x := x) hel hil hne I hf ru ho hT hk (Q := fun y H' s2 => Inv X pins σ H' s2 ∧ (IteT X.K a).yld i H y H' ∧ ((∃ old, IsEnum s2.heap e it ((i + 1 : Nat) : Int) old) ∧ s2.heap.IsTupleIter it a (i + 1) ∧ e ≠ it) ∧ ∀ b ∈ [e, it], H' b = none) fun h'' q1 q2 q3 q4 q5 => ⟨q3, ⟨_, x, rfl, q5, rfl, fun ys hy => by rw [I.tuple_inj hy hq]; exact hx⟩, ⟨⟨_, q1⟩, hs'.1.at fun o q => q2 it o (Ne.symm hne) q, hne⟩, q4⟩) fun _ s2 ⟨y, H', r1, r2, r3, r4, r5⟩ => ⟨y, H', r2, r1, r3, r4, r5⟩⟩
  done := by
    intro X hP hw hK hc i pins s σ H E I hf st hg
    subst hP hw hK
    obtain ⟨⟨old, he⟩, hit, hne⟩ := st
    obtain ⟨xs, hq, hx⟩ := hg
    obtain ⟨its, rv, p, hz⟩ := I.tuple hq
    have p : s.heap.IsTuple a its.toArray := p
    have hai : a ≠ it := fun z => by
      obtain ⟨o1, q1, q2, _⟩ := hit
      obtain ⟨o2, q3, q4, _⟩ := p
      rw [z, q1] at q3; cases q3
      rw [q2] at q4
      exact absurd q4 (by simp)
    obtain ⟨f0, f1, f2, f3, f4, f5⟩ := hf it (by simp)
    have hl := rv.length
    have hi : i = its.toArray.size := by simp; omega
    subst hi
    exact wpAny_pyNext_enum_endD (Draws.tuple (A := X.A.in1) (I.ok.hd hc) it a hai its.toArray) he ⟨hit, p⟩ fun h' eb => ⟨rfl, I.turned (t' := s.toks) (fun b o hb q => eb b o hb q) f0 f1 f3 f4 f5⟩
  self := fun A i s Q E st h => let ⟨⟨_, he⟩, _⟩ := st; wpAny_pyIter_enum he h
theorem turn_enumS {P : Program} {w : World} {K : PySem.W.Frag} {elts : List Expr} {kk : Nat} {tpos : Pos} (z : Str) (t : Tok) (e it : Addr) :
    Turn P w K (.Tuple elts kk tpos) (IteS z) [e, it] e (fun i h => (∃ old, IsEnum h e it ((i : Nat) : Int) old) ∧ h.IsStrIter it (strIterType z) z t i ∧ e ≠ it) where
  mem := by simp
  obj := fun i h st b hb => by
    obtain ⟨⟨old, he⟩, ⟨o, ho, hc, hd⟩, _⟩ := st
    have e' : b = e ∨ b = it := by simpa using hb
    rcases e' with z | z
    · rw [z]; exact ⟨_, he, fun v q => nomatch q⟩
    · rw [z]; exact ⟨o, ho, fun v q => by rw [hd] at q; cases q⟩
  keep := fun i h h' st k => let ⟨⟨old, he⟩, ⟨o, ho, r⟩, hne⟩ := st; ⟨⟨old, k e (by simp) _ he⟩, ⟨o, k it (by simp) o ho, r⟩, hne⟩
  item := by
    intro X hP hw hK hc i pins s σ H E I hf st hg
    subst hP hw hK
    obtain ⟨⟨old, he⟩, hit, hne⟩ := st
    have hel : e < s.heap.objs.size := Heap.lt_size he
    have hil : it < s.heap.objs.size := by obtain ⟨_, q, _⟩ := hit; exact Heap.lt_size q
    refine wpAny_pyNext_enum_itemD (Draws.text (A := X.A.in1) (I.ok.hd hc) it z t) he hit hg hne (by simp [hne]) fun y h' tk hP ho hs' hT hsz hk => ?_
    obtain ⟨c, u, hcx, rfl⟩ := hP
    refine ⟨_, rfl, thn (enum_turn (x := .str ⟨#[c]⟩) hel hil hne I hf ⟨u, rfl⟩ ho hT hk (Q := fun y H' s2 => Inv X pins σ H' s2 ∧ (IteS z).yld i H y H' ∧ ((∃ old, IsEnum s2.heap e it ((i + 1 : Nat) : Int) old) ∧ s2.heap.IsStrIter it (strIterType z) z t (i + 1) ∧ e ≠ it) ∧ ∀ b ∈ [e, it], H' b = none) fun h'' q1 q2 q3 q4 q5 => ⟨q3, ⟨_, c, rfl, q5, rfl, hcx⟩, ⟨⟨_, q1⟩, (let ⟨o, ho, r⟩ := hs'; ⟨o, q2 it o (Ne.symm hne) ho, r⟩), hne⟩, q4⟩) fun _ s2 ⟨y, H', r1, r2, r3, r4, r5⟩ => ⟨y, H', r2, r1, r3, r4, r5⟩⟩
  done := by
    intro X hP hw hK hc i pins s σ H E I hf st hg
    subst hP hw hK
    obtain ⟨⟨old, he⟩, hit, hne⟩ := st
    obtain ⟨f0, f1, f2, f3, f4, f5⟩ := hf it (by simp)
    have hi : z.cps.size = i := hg
    subst hi
    exact wpAny_pyNext_enum_endD (Draws.text (A := X.A.in1) (I.ok.hd hc) it z t) he hit fun h' eb => ⟨rfl, I.turned (t' := s.toks) (fun b o hb q => eb b o hb q) f0 f1 f3 f4 f5⟩
  self := fun A i s Q E st h => let ⟨⟨_, he⟩, _⟩ := st; wpAny_pyIter_enum he h
def iEnumA (K : PySem.W.Frag) (ta : TA) : TI := fun σ H R => ta σ H fun vs H1 => (∃ a xs, vs = [.ref a] ∧ SqL K H1 a xs ∧ R (Ite K a) H1) ∨ (∃ a xs, vs = [.ref a] ∧ SqT K H1 a xs ∧ R (IteT K a) H1) ∨ ∃ z, vs = [.str z] ∧ R (IteS z) H1
theorem pi_enumA {X : Cx} {e : Expr} {ta : TA} {p pos tpos : Pos} {elts : List Expr} {kk : Nat} (hg : Gl X "enumerate") (hm : X.mg "enumerate" = none) (ha : PA X [e] ta) (hs : starEach [e] X.env = [(false, eval e X.env)] := by rfl) :
    PI X (.Tuple elts kk tpos) (.Call (.Name "enumerate" p) [e] [] pos) (iEnumA X.K ta) := by
  refine ⟨fun pins s σ H R I h => ?_⟩
  refine Call_ (ld_blt I hg hm boot_enumerate (PyProof.Rows.callWith_type1 (thn (ha.run pos pins s σ H _ I h) fun us s1 ⟨vs, H1, I1, r1, q1⟩ => ?_) hs rfl))
  have fp : ∀ b ∈ [s1.heap.objs.size + 1, s1.heap.objs.size], FpOk X pins H1 b := fun b hb => by
    have e' : b = s1.heap.objs.size + 1 ∨ b = s1.heap.objs.size := by simpa using hb
    have hle : s1.heap.objs.size ≤ b := by
      rcases e' with z | z
      · rw [z]; exact Nat.le_add_right _ _
      · rw [z]; exact Nat.le_refl _
    exact I1.fpOk hle (I1.hok.fresh hle)
  rcases q1 with ⟨a, xs, ex, hq, q⟩ | ⟨a, xs, ex, hq, q⟩ | ⟨z, ex, q⟩
  · subst ex
    cases r1 with
    | cons r rr =>
      cases rr
      cases r
      obtain ⟨its, rv, p', hz⟩ := I1.list hq
      refine call_enumerate_list p'.isList fun h' he hit hsz hk => wpAny_pyIter_enum he ?_
      have I2 : Inv X pins σ H1 { s1 with heap := h' } := I1.kept (t' := s1.toks) hk
      exact ⟨s1.heap.objs.size + 1, [s1.heap.objs.size + 1, s1.heap.objs.size], _, _, H1, rfl, I2, turn_enum a (s1.heap.objs.size + 1) s1.heap.objs.size, ⟨⟨.none, he⟩, hit, Nat.succ_ne_self _⟩, fp, q⟩
  · subst ex
    cases r1 with
    | cons r rr =>
      cases rr
      cases r
      obtain ⟨its, rv, p', hz⟩ := I1.tuple hq
      have p' : s1.heap.IsTuple a its.toArray := p'
      refine enum_one (begins_tuple a its.toArray) p' fun h' he hit hsz hk => wpAny_pyIter_enum he ?_
      have I2 : Inv X pins σ H1 { s1 with heap := h' } := I1.kept (t' := s1.toks) hk
      exact ⟨s1.heap.objs.size + 1, [s1.heap.objs.size + 1, s1.heap.objs.size], _, _, H1, rfl, I2, turn_enumT a (s1.heap.objs.size + 1) s1.heap.objs.size, ⟨⟨.none, he⟩, ⟨_, hit, rfl, rfl⟩, Nat.succ_ne_self _⟩, fp, q⟩
  · subst ex
    cases r1 with
    | cons r rr =>
      cases rr
      obtain ⟨t, rfl⟩ := r
      refine enum_one (begins_text z t) trivial fun h' he hit hsz hk => wpAny_pyIter_enum he ?_
      have I2 : Inv X pins σ H1 { s1 with heap := h' } := I1.kept (t' := s1.toks) hk
      exact ⟨s1.heap.objs.size + 1, [s1.heap.objs.size + 1, s1.heap.objs.size], _, _, H1, rfl, I2, turn_enumS z t (s1.heap.objs.size + 1) s1.heap.objs.size, ⟨⟨.none, he⟩, ⟨_, hit, rfl, rfl⟩, Nat.succ_ne_self _⟩, fp, q⟩
def enumB : List D → Option (List D)
  | [.lst ds] => some (enumL ds)
  | [.tup ds] => some (enumL ds)
  | [.str w] => some (enumL (chars w))
  | _ => none
section
variable {k : Kx} {E : XK}
theorem si_enumA {tr : TA} {fr : Env → M (List Vl)} (hr : SA k E tr fr) : SI k E (iEnumA k.K tr) (eRng enumB fr) := fun R dr env σ G H n P rl w => by
  refine hr R dr env σ G H n _ rl (wp_mono (wp_bind' w) (fun dr n1 vs w1 xs G1 H1 l1 r1 s1 => ?_) fun _ _ _ h => h)
  cases hv : vs.any isV with
  | true => rw [hv, if_pos rfl] at w1; exact w1.elim
  | false =>
    rw [hv, if_neg (by simp)] at w1
    have p : RpA k G1 xs (dats vs) := rss_s hv s1
    obtain ⟨ds, e, w2⟩ := wp_of.mp w1
    unfold enumB at e
    split at e
    · rename_i es heq
      cases e
      rw [heq] at p
      obtain ⟨x, rfl, px⟩ := rpa_one p
      obtain ⟨a, ys, rfl, h1, h2⟩ := rp_lst px
      refine .inl ⟨a, ys, rfl, .inl (.inl (r1.i.ex h1 rfl)), w2 _ R G1 H1 (Le.refl _) l1 r1 fun G' H' l' i' _ => ?_⟩
      have e : SqL k.K H' a ys := .inl (.inl (i'.ex (l' _ _ h1) rfl))
      have W := walk_enum (K := k.K) (a := a) (xs := ys)
      refine ⟨by have := W.stops H' e; rw [h2.len] at this; simpa [enumL] using this, fun j d hd => ?_⟩
      obtain ⟨f, hf, rfl⟩ := enumL_get hd
      obtain ⟨v, g1, g2⟩ := h2.get hf
      have hj : j < ys.length := (List.getElem?_eq_some_iff.mp g1).1
      refine ⟨W.goes j H' hj e, fun x H2 y => ?_⟩
      obtain ⟨T, x1, x2, rfl, hT, rfl, e1, e2⟩ := W.yields j H' x H2 hj e y
      cases e1
      have e2 : ys[j]? = some x2 := e2
      rw [g1] at e2
      cases e2
      have u3 := Up.new (o := .tup [V.int (j : Int), v]) i' hT
      exact ⟨_, u3, .tup (.inl (.inl upd_same)) (.cons (.int _) (.cons (g2.mono (l'.trans u3.g)) .nil))⟩
    · rename_i es heq
      cases e
      rw [heq] at p
      obtain ⟨x, rfl, px⟩ := rpa_one p
      obtain ⟨a, ys, rfl, h1, h2⟩ := rp_tup px
      refine .inr (.inl ⟨a, ys, rfl, in_t r1.i h1, w2 _ R G1 H1 (Le.refl _) l1 r1 fun G' H' l' i' _ => ?_⟩)
      have e : SqT k.K H' a ys := in_t i' (le_t l' h1)
      refine ⟨⟨ys, e, by rw [h2.len]; simp [enumL]⟩, fun j d hd => ?_⟩
      obtain ⟨f, hf, rfl⟩ := enumL_get hd
      obtain ⟨v, g1, g2⟩ := h2.get hf
      refine ⟨⟨ys, v, e, g1⟩, fun x H2 y => ?_⟩
      obtain ⟨T, x1, rfl, hT, rfl, e2⟩ := y
      have e2 := e2 ys e
      rw [g1] at e2
      cases e2
      have u3 := Up.new (o := .tup [V.int (j : Int), v]) i' hT
      exact ⟨_, u3, .tup (.inl (.inl upd_same)) (.cons (.int _) (.cons (g2.mono (l'.trans u3.g)) .nil))⟩
    · rename_i z heq
      cases e
      rw [heq] at p
      obtain ⟨x, rfl, px⟩ := rpa_one p
      rw [rp_str px]
      refine .inr (.inr ⟨S z, rfl, w2 _ R G1 H1 (Le.refl _) l1 r1 fun G' H' l' i' _ => ?_⟩)
      have hz : (S z).cps.size = z.length := by rw [← Array.length_toList, S_cps]
      refine ⟨by show (S z).cps.size = _; rw [hz]; simp [enumL, chars], fun j d hd => ?_⟩
      obtain ⟨f, hf, rfl⟩ := enumL_get hd
      obtain ⟨c, g1, rfl⟩ : ∃ c, z[j]? = some c ∧ f = .str [c] := by
        unfold chars at hf
        rw [List.getElem?_map] at hf
        cases q : z[j]? with
        | none => rw [q] at hf; cases hf
        | some c => rw [q] at hf; exact ⟨c, rfl, by simpa using hf.symm⟩
      have hj : j < z.length := (List.getElem?_eq_some_iff.mp g1).1
      refine ⟨by show j < (S z).cps.size; omega, fun x H2 y => ?_⟩
      obtain ⟨T, c', rfl, hT, rfl, e2⟩ := y
      have e2 : (S z).cps.toList[j]? = some c' := by simpa using e2
      rw [S_cps, g1] at e2
      cases e2
      have u3 := Up.new (o := .tup [V.int (j : Int), .str ⟨#[c]⟩]) i' hT
      exact ⟨_, u3, .tup (.inl (.inl upd_same)) (.cons (.int _) (.cons (.str [c]) .nil))⟩
    · cases e
end
end Y

namespace Y
open PySem PySem.Spec PyProof.Rows L2 Z
section
variable {k : Kx} {R : Hp} {dr : Dr} {env : Env} {σ : L2.St} {G H : Hp} {n : Nat} {a : Addr} {d e : D} {o : HO}
theorem Rl.dis (r : Rl k R dr env σ G H n) {i j : Im} (hi : i ∈ dr) (hj : j ∈ dr) (hn : i ≠ j) {b : Addr} (h1 : isDr i b) : ¬ isDr j b := by
  obtain ⟨x, hx, ex⟩ := List.getElem_of_mem hi
  obtain ⟨y, hy, ey⟩ := List.getElem_of_mem hj
  have pw := List.pairwise_iff_getElem.mp r.dj
  have nij : x ≠ y := fun z => by subst z; exact hn (ex.symm.trans ey)
  intro h2
  rcases Nat.lt_or_gt_of_ne nij with z | z
  · exact pw x y hx hy z b (by rw [ex]; exact h1) (by rw [ey]; exact h2)
  · exact pw y x hy hx z b (by rw [ey]; exact h2) (by rw [ex]; exact h1)
def putI (a : Addr) (d : D) : Im → Im
  | .inl q => .inl q
  | .inr p => if p.1 = a then .inr (p.1, d) else .inr p
theorem putS_eq : putS dr a d = dr.map (putI a d) := by
  unfold putS
  apply List.map_congr_left
  intro i _
  cases i <;> rfl
theorem isDr_putI {i : Im} {b : Addr} : isDr (putI a d i) b ↔ isDr i b := by
  cases i with
  | inl q => exact Iff.rfl
  | inr p =>
    unfold putI
    by_cases h : p.1 = a
    · simp only [if_pos h]; exact Iff.rfl
    · simp only [if_neg h]
theorem inDr_putS {b : Addr} : inDr (putS dr a d) b ↔ inDr dr b := by
  rw [putS_eq]
  constructor
  · rintro ⟨i, hi, h⟩
    obtain ⟨j, hj, rfl⟩ := List.mem_map.mp hi
    exact ⟨j, hj, isDr_putI.mp h⟩
  · rintro ⟨i, hi, h⟩
    exact ⟨_, List.mem_map_of_mem hi, isDr_putI.mpr h⟩
theorem mem_putS {i : Im} (h : i ∈ putS dr a d) : (∃ q, i = .inl q ∧ .inl q ∈ dr) ∨ (∃ e, i = .inr (a, d) ∧ .inr (a, e) ∈ dr) ∨ ∃ b e, b ≠ a ∧ i = .inr (b, e) ∧ .inr (b, e) ∈ dr := by
  rw [putS_eq] at h
  obtain ⟨j, hj, rfl⟩ := List.mem_map.mp h
  cases j with
  | inl q => exact .inl ⟨q, rfl, hj⟩
  | inr p =>
    obtain ⟨b, e⟩ := p
    by_cases hb : b = a
    · subst hb
      exact .inr (.inl ⟨e, by simp [putI], hj⟩)
    · exact .inr (.inr ⟨b, e, hb, by simp [putI, hb], hj⟩)
theorem Rl.putS (r : Rl k R dr env σ G H n) (h : .inr (a, e) ∈ dr) (ro : RpO k G o d) : Rl k R (Y.putS dr a d) env σ G (upd H a o) n := by
  obtain ⟨o0, h0, ro0⟩ := r.so a e h
  have ia := in_st h
  have own : ∀ b, ¬ inDr dr b → b ≠ a := fun b hb z => hb (by rw [z]; exact ia)
  refine ⟨r.i.mut (r.dh a ia), r.nt, fun p hp => ?_, fun i hi => ?_, fun b hb => r.dh b (inDr_putS.mp hb), ?_, fun b u hb => ?_, r.sh, fun j x q => ?_, r.inj, r.len, r.nb, fun b x hb => ?_⟩
  · obtain ⟨ps, t1, t2, t3⟩ := r.tb p hp
    have n1 : p.1 ≠ a := fun z => by rw [z, h0] at t1; cases t1; exact ro0.nt ps rfl
    refine ⟨ps, by rw [upd_ne n1]; exact t1, t2, fun pos cv hc => ?_⟩
    obtain ⟨c, a1, a2⟩ := t3 pos cv hc
    have n2 : c ≠ a := fun z => by
      rw [z, h0] at a2
      cases ro0 <;> cases a2
    exact ⟨c, a1, by rw [upd_ne n2]; exact a2⟩
  · rcases mem_putS hi with ⟨q, rfl, hq⟩ | ⟨x, rfl, hx⟩ | ⟨b, x, hb, rfl, hx⟩
    · exact (r.dd _ hq).ext fun b hb u hu => by
        rw [upd_ne (fun z => r.dis hq h (fun z => nomatch z) hb z)]
        exact hu
    · exact ⟨o, upd_same, ro.nt⟩
    · obtain ⟨u, h1, h2⟩ := r.so b x hx
      exact ⟨u, by rw [upd_ne hb]; exact h1, h2.nt⟩
  · rw [putS_eq, List.pairwise_map]
    exact r.dj.imp fun {i j} hij b h1 h2 => hij b (isDr_putI.mp h1) (isDr_putI.mp h2)
  · obtain ⟨g1, g2, g3, g4⟩ := r.rs b u hb
    exact ⟨by rw [upd_ne (own b g3)]; exact g1, g2, fun z => g3 (inDr_putS.mp z), g4⟩
  · obtain ⟨b, g1, u, g2, g3, g4⟩ := r.ow j x q
    exact ⟨b, g1, u, by rw [upd_ne (own b g4.d)]; exact g2, g3, g4.g, g4.r, fun z => g4.d (inDr_putS.mp z)⟩
  · rcases mem_putS hb with ⟨q, z, _⟩ | ⟨y, z, _⟩ | ⟨c, y, hc, z, hy⟩
    · cases z
    · cases z
      exact ⟨o, upd_same, ro⟩
    · cases z
      obtain ⟨u, h1, h2⟩ := r.so _ _ hy
      exact ⟨u, by rw [upd_ne hc]; exact h1, h2⟩
end
end Y

namespace Y
open PySem PySem.Spec PyProof.Rows L2 Z
def cont (d : D) (f : D → M β) : M β := match d with
  | .rf a => .get a f
  | d => f d
def putFD (f : Str) (d : D) : List (Str × D) → List (Str × D)
  | [] => [(f, d)]
  | (g, x) :: r => if g = f then (g, d) :: r else (g, x) :: putFD f d r
def isC (C : Str) : D → Bool
  | .ins D _ => decide (D = C)
  | _ => false
section
variable {k : Kx} {E : XK} {R : Hp} {dr : Dr} {env : Env} {σ : L2.St} {G G2 H H2 : Hp} {n n' : Nat} {te tx tj to : TE} {fe fx fj fo : Env → M Vl} {t : TS} {f : Env → M Out} {tr : TA} {fr : Env → M (List Vl)}
theorem RpF.put {G : Hp} {f : Str} {v : V} {d : D} (p : Rp k G v d) : ∀ {fv : List (Str × V)} {fs : List (Str × D)}, RpF k G fv fs → RpF k G (putF f v fv) (putFD f d fs)
  | _, _, .nil => .cons p .nil
  | _, _, .cons (q := q) h a => by
    unfold putF putFD
    by_cases hq : q = f
    · simp only [if_pos hq]; exact .cons p a
    · simp only [if_neg hq]; exact .cons h (RpF.put p a)
theorem RpF.len {G : Hp} : ∀ {fv : List (Str × V)} {fs : List (Str × D)}, RpF k G fv fs → fv.length = fs.length
  | _, _, .nil => rfl
  | _, _, .cons _ a => by rw [List.length_cons, List.length_cons, RpF.len a]
theorem RpF.none {G : Hp} {f : Str} : ∀ {fv : List (Str × V)} {fs : List (Str × D)}, RpF k G fv fs → fs.lookup f = none → fv.lookup f = none
  | _, _, .nil, _ => rfl
  | _, _, .cons (q := q) h a, e => by
    rw [List.lookup_cons] at e ⊢
    cases hq : f == q with
    | true => rw [hq] at e; cases e
    | false => rw [hq] at e; exact RpF.none a e
end
end Y

namespace Y
open PySem PySem.Spec PyProof.Rows L2 Z
section
variable {X : Cx} {k : Nat} {C : Addr} {m x : Str} {ps : List Str} {sp : Sp} {E : XK} {o e : Expr} {es : List Expr} {ta : TE} {t : TA} {p apos pos : Pos}
end
end Y

namespace Y
open PySem PySem.Spec PyProof.Rows L2 Z
section
variable {k : Kx} {E : XK} {R : Hp} {dr : Dr} {env : Env} {σ : L2.St} {G G2 H H2 : Hp} {n n' : Nat} {to : TE} {fo : Env → M Vl} {ta : TA} {fa : Env → M (List Vl)} {tab : List (Str × Str)} {f g : Str}
end
end Y

namespace Y
open PySem PySem.Spec PyProof.Rows L2 Z
section
variable {k : Kx} {E : XK} {R : Hp} {dr : Dr} {env : Env} {σ : L2.St} {G G2 H H2 : Hp} {n n' : Nat} {te tn : TE} {fe fn : Env → M Vl} {t : TA} {fr : Env → M (List Vl)}
end
section
variable {k : Kx} {E : XK} {R : Hp} {dr : Dr} {env : Env} {σ : L2.St} {G G2 H H2 : Hp} {n n' : Nat} {tx ty tz te : TE} {fx fy fz fe : Env → M Vl}
end
end Y

namespace Y
open PySem PySem.Spec PyProof.Rows L2 Z
section
variable {X : Cx} {k : Nat} {C : Addr} {m x : Str} {ps ks : List Str} {is : List Nat} {sp : Sp} {E : XK} {o e : Expr} {kws : List Keyword} {ta : TE} {t tk : TA} {p apos pos : Pos}
end
section
variable {k : Kx} {E : XK} {R : Hp} {dr : Dr} {env : Env} {σ : L2.St} {G G2 H H2 : Hp} {n n' : Nat} {to : TE} {fo : Env → M Vl} {tk : TA} {fk : Env → M (List Vl)}
end
end Y

namespace Y
open PySem PySem.Spec PyProof.Rows L2 Z
def rLenSetT (K : PySem.W.Frag) : List V → Hp → VK → Prop := fun vs H Q => ∃ (l : Addr) (ws : List (List Nat)), vs = [.ref l] ∧ SqL K H l (ws.map fun w => .str (S w)) ∧ ws.length < 4000 ∧ Q (.int ((ddW ws).length : Nat)) H
theorem pe_lenSetT {X : Cx} {e : Expr} {ta : TE} {p p2 q pos : Pos} (hc : X.calm = true) (hg : Gl X "len") (hm : X.mg "len" = none) (hg2 : Gl X "set") (hm2 : X.mg "set" = none) (ha : PE X e ta)
    (na : starEach [e] X.env = (false, eval e X.env) :: starEach [] X.env := by rfl) : PE X (.Call (.Name "len" p) [.Call (.Name "set" p2) [e] [] q] [] pos) (tCB (rLenSetT X.K) (tCons ta tNil)) := by
  refine ⟨fun pins s σ H Q I h => ?_⟩
  refine wpAny_Call_Name_kw (ld_blt (u := .builtin "len") I hg hm (by decide +kernel) ?_ (by decide) (by decide))
  refine PyProof.Rows.callWith_builtin1 (PyProof.Rows.args_cons ?_ rfl) rfl rfl
  refine wpAny_Call_Name_kw (ld_blt (u := .type "set") I hg2 hm2 (by decide +kernel) ?_ (by decide) (by decide))
  refine PyProof.Rows.callWith_type1 (PyProof.Rows.args_cons (thn (ha.run pins s σ H _ I h) fun v s1 ⟨x, H1, I1, r1, q1⟩ => PyProof.Rows.args_nil ?_) na) na rfl
  obtain ⟨l, ws, ex, hq, hl, q1⟩ := q1
  cases ex
  cases r1
  obtain ⟨its, rv, pl, hz⟩ := I1.list hq
  have e0 : (ws.map fun w => V.str (S w)) = (ws.map S).map V.str := by simp
  rw [e0] at rv
  refine set_txt (I1.ok.hd hc) pl.isList (by simpa using L2.strsAre_of rv) (by simpa using hl) fun h2 tk ys T d kp lt => ?_
  refine PyProof.Rows.args_nil ?_
  have I2 : Inv X pins σ H1 { s1 with heap := h2, toks := tk } := I1.kept kp
  obtain ⟨o, es, ep, t, ho, hx, hd, TS⟩ := T
  have hn : es.size = (ddW ws).length := by
    have h1 : es.size = ys.length := by
      have := TS.perm.length_eq
      simpa using this
    rw [h1]
    have hp : (ys.map fun x => x.cps.toList).Perm (ddW ws) := by
      refine (List.perm_ext_iff_of_nodup (nodup_S TS.once) (ddW_nodup ws)).mpr fun x => ?_
      rw [ddW_mem]
      constructor
      · intro hx
        obtain ⟨y, hy, rfl⟩ := List.mem_map.mp hx
        have h1 := (d.2 y).mp hy
        rw [List.take_of_length_le (by simp)] at h1
        obtain ⟨w, hw, rfl⟩ := List.mem_map.mp h1
        rw [S_cps]; exact hw
      · intro hx
        refine List.mem_map.mpr ⟨S x, (d.2 _).mpr ?_, S_cps x⟩
        rw [List.take_of_length_le (by simp)]
        exact List.mem_map_of_mem hx
    have := hp.length_eq
    simpa using this
  have hle := ddW_len ws
  exact call_len_set ho hx hd TS.fits (by rw [hn]; omega) ⟨.int ((ddW ws).length : Nat), H1, I2.tok _, ⟨_, by rw [hn]⟩, q1⟩
def lenSetD : List D → Option D
  | [.lst ds] => (strsOf ds).bind fun ws => if ws.length < 4000 then some (.int ((ddW ws).length : Nat)) else none
  | _ => none
theorem cs_lenSet {k : Kx} : CaS k (rLenSetT k.K) lenSetD := fun G H xs ds d hi px hd Q q => by
  unfold lenSetD at hd
  split at hd
  · rename_i es
    obtain ⟨ws, h1, h2⟩ := Option.bind_eq_some_iff.mp hd
    by_cases hl : ws.length < 4000
    · rw [if_pos hl] at h2
      cases h2
      obtain ⟨v, rfl, p⟩ := rpa_one px
      obtain ⟨a, vs, rfl, h2, h3⟩ := rp_lst p
      have ee := of_strs h1
      subst ee
      have e := rpa_strs h3
      rw [e] at h2
      exact ⟨a, ws, rfl, .inl (.inl (hi.ex h2 rfl)), hl, q _ G H (Up.refl hi) (.int _)⟩
    · rw [if_neg hl] at h2; cases h2
  · cases hd
end Y

namespace Y
open PySem PySem.Spec PyProof.Rows L2 Z
section
variable {β : Type} {k : Kx} {dr : Dr} {n : Nat} {Q : Dr → Nat → β → Prop} {X : Dr → Nat → Ex → Prop}
end
section
variable {k : Kx} {E : XK} {R : Hp} {dr : Dr} {env : Env} {σ : L2.St} {G H : Hp} {n : Nat} {tr : TA} {fr : Env → M (List Vl)}
end
end Y

namespace Y
open PySem PySem.Spec PyProof.Rows L2 Z
structure GtD where
  C : Str
  m : Str
  params : Arguments
  body : List Stmt
  scope : Scope
def gAd (K : PySem.W.Frag) (C m : Str) : Addr := match PySem.W.recIn K (He.ma K (He.ga K C) m) "property" with
  | some (.ref g :: _) => g
  | _ => 0
def gtW (K : PySem.W.Frag) (d : GtD) : He.FnW := match K.lookup (gAd K d.C d.m) with
  | some ⟨_, _, .func fd, _⟩ => some (fd.name, fd.qualname, fd.params, fd.body, fd.scope, fd.globals, fd.closure, fd.builtins)
  | _ => none
def GtD.qual (d : GtD) : Str := d.C ++ "." ++ d.m
def GtD.val (d : GtD) : He.FnW := some (d.m, d.qual, d.params, .stmts d.body, d.scope, mainGlobals, [], builtinsNs)
def recB : Option (List Value) → Addr → Bool
  | some (.ref a :: _), g => decide (a = g)
  | _, _ => false
def GtD.ok (K : PySem.W.Frag) (d : GtD) : Bool := PySem.W.keepIn K (.ref (gAd K d.C d.m)) && ((match K.lookup (gAd K d.C d.m) with
  | some ⟨_, _, .func fd, _⟩ => PySem.W.codeIn K fd.code d.qual && (He.dflB K fd.defaults [] && He.kwdB K fd.kwdefaults [])
  | _ => false) && (He.eqO (PySem.W.findIn K (.ref (He.ga K d.C)) d.m) (some (some (.ref (He.ma K (He.ga K d.C) d.m)))) && (He.eqO (PySem.W.specialIn K (.ref (He.ma K (He.ga K d.C) d.m)) "__get__") (some (some (.builtin "property.__get__"))) && (decide (PySem.W.takesIn K (.ref (He.ma K (He.ga K d.C) d.m)) = some true) && recB (PySem.W.recIn K (He.ma K (He.ga K d.C) d.m) "property") (gAd K d.C d.m)))))
theorem gand {a b : Bool} (h : (a && b) = true) : a = true ∧ b = true := by rwa [Bool.and_eq_true] at h
theorem GtD.propOf {K : PySem.W.Frag} {d : GtD} (c : d.ok K = true) : PropOf K (He.ga K d.C) d.m (He.ma K (He.ga K d.C) d.m) (gAd K d.C d.m) := by
  obtain ⟨_, c⟩ := gand c
  obtain ⟨_, c⟩ := gand c
  obtain ⟨h1, c⟩ := gand c
  obtain ⟨h2, c⟩ := gand c
  obtain ⟨h3, h4⟩ := gand c
  refine ⟨He.eqO_ok h1, He.eqO_ok h2, of_decide_eq_true h3, ?_⟩
  cases e : PySem.W.recIn K (He.ma K (He.ga K d.C) d.m) "property" with
  | none => rw [e] at h4; cases h4
  | some l =>
    rw [e] at h4
    cases l with
    | nil => cases h4
    | cons v r =>
      cases v with
      | ref a =>
        have : a = gAd K d.C d.m := of_decide_eq_true h4
        subst this
        exact ⟨r, rfl⟩
      | _ => cases h4
theorem GtD.funD {K : PySem.W.Frag} {d : GtD} (e : gtW K d = d.val) (c : d.ok K = true) : ∃ fd, FunD K d.m d.qual d.params d.body d.scope [] [] (gAd K d.C d.m) fd := by
  obtain ⟨kp, c1⟩ := gand c
  obtain ⟨c2, _⟩ := gand c1
  unfold gtW at e
  cases q : K.lookup (gAd K d.C d.m) with
  | none =>
    rw [q] at c2
    cases c2
  | some o =>
    obtain ⟨oc, od, dt, osl⟩ := o
    rw [q] at c2 e
    cases dt with
    | func fd =>
      obtain ⟨n1, n2, n3, n4, n5, n6, n7, n8, n9, n10, n11, n12, n13, n14, n15⟩ := fd
      have e2 : (some (n1, n2, n3, n4, n5, n6, n7, n15) : He.FnW) = some (d.m, d.qual, d.params, .stmts d.body, d.scope, mainGlobals, [], builtinsNs) := e
      simp only [Option.some.injEq, Prod.mk.injEq] at e2
      obtain ⟨h1, h2, h3, h4, h5, h6, h7, h8⟩ := e2
      subst h1 h2 h3 h4 h5 h6 h7 h8
      have c3 : (PySem.W.codeIn K n13 d.qual && (He.dflB K n8 [] && He.kwdB K n9 [])) = true := c2
      obtain ⟨k1, k2⟩ := gand c3
      obtain ⟨k3, k4⟩ := gand k2
      exact ⟨_, ⟨oc, od, n8, n9, n10, n11, n12, n13, n14, osl, rfl, q, k1, He.dflB_ok k3, He.kwdB_ok k4⟩, kp⟩
    | _ => cases c2
abbrev AlP : Type := He.AlX × Bool × List He.FnW
def obP (n : Nat) (fa : List He.Fa) (fn : List He.DefD) (ts : List He.Tab) (tf : List He.Defn) (gs : List GtD) (ex : PySem.W.Frag → Bool) (g : Addr → Option Obj) : AlP :=
  let Kg := He.frT g (asS g n)
  ((He.obsT fa fn ts Kg, ex Kg && He.tabsB g tf Kg), gs.all (fun d => d.ok Kg), gs.map (gtW Kg))
def valP (fn : List He.DefD) (ts : List He.Tab) (gs : List GtD) (w : World) : AlP := (He.valX fn ts w, true, gs.map GtD.val)
structure SaysP (fa : List He.Fa) (fn : List He.DefD) (ts : List He.Tab) (tf : List He.Defn) (gs : List GtD) (ex : PySem.W.Frag → Bool) (w : World) (h : Heap) (K : PySem.W.Frag) : Prop where
  x : He.SaysX fa fn ts tf ex w h K
  gok : gs.all (fun d => d.ok K) = true
  gw : gs.map (gtW K) = gs.map GtD.val
theorem says_obP {n : Nat} {fa : List He.Fa} {fn : List He.DefD} {ts : List He.Tab} {tf : List He.Defn} {gs : List GtD} {ex : PySem.W.Frag → Bool} {w : World} {hp : Heap} (e : obP n fa fn ts tf gs ex hp.get? = valP fn ts gs w) : SaysP fa fn ts tf gs ex w hp (He.frT hp.get? (asS hp.get? n)) := by
  have e1 : obS n fa fn ts tf ex hp.get? = He.valX fn ts w := congrArg (fun z : AlP => z.1) e
  have e2 : gs.all (fun d => d.ok (He.frT hp.get? (asS hp.get? n))) = true := congrArg (fun z : AlP => z.2.1) e
  have e3 : gs.map (gtW (He.frT hp.get? (asS hp.get? n))) = gs.map GtD.val := congrArg (fun z : AlP => z.2.2) e
  exact ⟨says_obS e1, e2, e3⟩
def hookP (n : Nat) (fa : List He.Fa) (fn : List He.DefD) (ts : List He.Tab) (tf : List He.Defn) (gs : List GtD) (ex : PySem.W.Frag → Bool) : PySem.W.Hook where
  α := AlP
  obs := fun s => obP n fa fn ts tf gs ex s.heap.get?
  val := fun w => valP fn ts gs w
  says := fun w hp => ∃ Kg : PySem.W.Frag, Kg.In hp ∧ SaysP fa fn ts tf gs ex w hp Kg
  of := fun _ _ e => ⟨_, He.frT_in, says_obP e⟩
  keeps := fun _ _ _ ⟨Kg, hi, c⟩ kp => ⟨Kg, hi.keeps kp, ⟨c.x.t, c.x.more, c.x.hd, c.x.out, fun p m => kp _ _ (c.x.empty p m)⟩, c.gok, c.gw⟩
theorem obP_eq {n : Nat} {fa : List He.Fa} {fn : List He.DefD} {ts : List He.Tab} {tf : List He.Defn} {gs : List GtD} {ex : PySem.W.Frag → Bool} {g : Addr → Option Obj} {s : Shared} (h : ∀ a, g a = s.heap.get? a) : obP n fa fn ts tf gs ex g = (hookP n fa fn ts tf gs ex).obs s := by
  rw [funext h]
  rfl
theorem SaysP.get {fa : List He.Fa} {fn : List He.DefD} {ts : List He.Tab} {tf : List He.Defn} {gs : List GtD} {ex : PySem.W.Frag → Bool} {w : World} {h : Heap} {K : PySem.W.Frag} (c : SaysP fa fn ts tf gs ex w h K) (i : Nat) {d : GtD} (hi : gs[i]? = some d := by rfl) :
    PropOf K (He.ga K d.C) d.m (He.ma K (He.ga K d.C) d.m) (gAd K d.C d.m) ∧ ∃ fd, FunD K d.m d.qual d.params d.body d.scope [] [] (gAd K d.C d.m) fd := by
  have h1 := List.all_eq_true.mp c.gok d (List.mem_of_getElem? hi)
  have h2 : (gs.map (gtW K))[i]? = (gs.map GtD.val)[i]? := by rw [c.gw]
  rw [List.getElem?_map, List.getElem?_map, hi] at h2
  exact ⟨GtD.propOf h1, GtD.funD (Option.some.inj h2) h1⟩
end Y

namespace Y
open PySem PySem.Spec PyProof.Rows L2 Z
section
variable {M : Model} {prog : Program} {w : World} {A : Around} {E : Value → Shared → Prop} {s : Shared} {K : PySem.W.Frag} {x C f L : Addr} {ox : Obj} {od : Option Obj} {b tb : Value} {h₀ : Heap} {m : Str → Option Value}
end
section
variable {X : Cx} {n : Nat} {C : Addr} {sp : Sp} {E : XK}
end
def okTy (C : Str) (d : D) : Bool := (tyName d).isSome || isC C d
def eOwn (C : Str) (neg : Bool) (mm : List D → M Vl) (fa fb : Env → M Vl) : Env → M Vl := fun env => (fa env).bind fun x => (fb env).bind fun y => if isV x || isV y then .bad else cont x.2 fun d => if isC C d && okTy C y.2 then (mm [x.2, y.2]).bind fun r => match r with
  | (.s, .bl b) => .ok (.s, .bl (neg != b))
  | _ => .bad
  else .bad
section
variable {k : Kx} {E : XK} {ta tb : TE} {fa fb : Env → M Vl}
end
end Y

namespace Y
open PySem PySem.Spec PyProof.Rows L2 Z
section
variable {k : Kx} {E : XK} {ta : TE} {fa : Env → M Vl}
end
section
variable {k : Kx} {E : XK} {tr : TA} {fr : Env → M (List Vl)}
end
end Y

namespace Y
open PySem PySem.Spec PyProof.Rows L2 Z LamX
section
variable {X : Cx} {pins : List (Addr × Obj)} {σ : L2.St} {H H1 : Hp} {s : Shared}
end
end Y

namespace Y
open PySem PySem.Spec PyProof.Rows L2 Z LamX
section
variable {X : Cx} {elt tg iter : Expr} {ifs : List Expr} {scope : Scope} {own : List (Str × Nat)} {pos : Pos} {wi : TI} {g : TG} {tt : L2.St → TT} {te : TE}
end
end Y

namespace Y
open PySem PySem.Spec PyProof.Rows L2 Z LamX
section
variable {X : Cx}
end
end Y

namespace Y
open PySem PySem.Spec PyProof.Rows L2 Z LamX
section
variable {k : Kx} {R : Hp} {dr : Dr} {env : Env} {σ : L2.St} {G H : Hp} {n : Nat}
end
structure Lms (q : Str) (LF : Nat → Addr → Addr → HO → Prop) (R G : Hp) (p : Addr) (fs : List (Addr × Addr × HO)) : Prop where
  hp : R p = some (.lst (fs.map fun t => .ref t.1))
  hf : ∀ j t, fs[j]? = some t → LF j t.1 t.2.1 t.2.2 ∧ R t.1 = some t.2.2 ∧ (R t.2.1 = some (CodeO t.2.1 q) ∨ G t.2.1 = some (CodeO t.2.1 q))
def FrzL (LF : Nat → Addr → Addr → HO → Prop) : Prop := ∀ j f c o, LF j f c o → ∃ ob u, o = .frz ob u
theorem Lms.mono {q : Str} {LF : Nat → Addr → Addr → HO → Prop} {R G G' : Hp} {p : Addr} {fs : List (Addr × Addr × HO)} (m : Lms q LF R G p fs) (l : Le G G') : Lms q LF R G' p fs :=
  ⟨m.hp, fun j t h => ⟨(m.hf j t h).1, (m.hf j t h).2.1, (m.hf j t h).2.2.imp id fun z => l _ _ z⟩⟩
theorem Lms.step {q : Str} {LF : Nat → Addr → Addr → HO → Prop} {R R' G : Hp} {p : Addr} {fs : List (Addr × Addr × HO)} {t : Addr × Addr × HO} (hF : FrzL LF) (m : Lms q LF R G p fs) (hL : LF fs.length t.1 t.2.1 t.2.2) (h1 : R' p = some (.lst ((fs ++ [t]).map fun t => .ref t.1))) (h2 : R' t.1 = some t.2.2) (h3 : R' t.2.1 = some (CodeO t.2.1 q) ∨ G t.2.1 = some (CodeO t.2.1 q))
    (h4 : ∀ b o, b ≠ p → R b = some o → R' b = some o) : Lms q LF R' G p (fs ++ [t]) := by
  refine ⟨h1, fun j u h => ?_⟩
  by_cases hj : j < fs.length
  · rw [List.getElem?_append_left hj] at h
    obtain ⟨g1, g2, g3⟩ := m.hf j u h
    refine ⟨g1, h4 _ _ (fun z => ?_) g2, g3.imp (fun z => h4 _ _ (fun y => ?_) z) id⟩
    · obtain ⟨ob, v, e⟩ := hF _ _ _ _ g1
      rw [z, m.hp, e] at g2
      cases g2
    · rw [y, m.hp] at z
      unfold CodeO at z
      cases z
  · have hl : j = fs.length := by
      have := (List.getElem?_eq_some_iff.mp h).1
      rw [List.length_append] at this
      simp at this
      omega
    subst hl
    rw [List.getElem?_append_right (Nat.le_refl _)] at h
    simp at h
    subst h
    exact ⟨hL, h2, h3⟩
section
variable {k : Kx} {E : XK} {q : Str} {LF : Nat → Addr → Addr → HO → Prop} {ts : Nat → XK → TE} {i iw : Nat} {B : Str} {cat : List Str} {tab : List (Str × Str × Bool)} {fbs : List (Env → M Vl)}
end
end Y

namespace Y
open PySem PySem.Spec PyProof.Rows L2 Z LamX
theorem all_nil {k : Kx} : ∀ (j : Nat) (t : XK → TE) (f : Env → M Vl), ([] : List (XK → TE))[j]? = some t → ([] : List (Env → M Vl))[j]? = some f → ∀ E, SE k E (t E) f := fun j t f h => by simp at h
theorem all_cons {k : Kx} {t0 : XK → TE} {f0 : Env → M Vl} {T : List (XK → TE)} {F : List (Env → M Vl)} (h0 : ∀ E, SE k E (t0 E) f0) (h : ∀ (j : Nat) (t : XK → TE) (f : Env → M Vl), T[j]? = some t → F[j]? = some f → ∀ E, SE k E (t E) f) : ∀ (j : Nat) (t : XK → TE) (f : Env → M Vl), (t0 :: T)[j]? = some t → (f0 :: F)[j]? = some f → ∀ E, SE k E (t E) f
  | 0, t, f, h1, h2 => by
    simp at h1 h2
    subst h1 h2
    exact h0
  | j + 1, t, f, h1, h2 => h j t f (by simpa using h1) (by simpa using h2)
end Y

namespace Z
open PySem PySem.Spec PyProof.Rows L2
abbrev Tb := List (Addr × Str)
theorem extN_le {H H2 : Hp} (l : Le H H2) : LamX.ExtN H H2 := LamX.ExtN.of l
theorem tabs_le {T : Tb} {H H2 : Hp} (t : LamX.Tabs T H) (l : Le H H2) : LamX.Tabs T H2 := t.ext l
end Z

namespace Z
open PySem PySem.Spec PyProof.Rows L2
theorem cut_from {α : Type} {t : List α} {i : Int} (h : 0 ≤ i) : cutL t (some i) none = t.drop i.toNat := by
  unfold cutL
  have e1 : HT.sIx t.length t.length none = t.length := rfl
  have e0 : HT.sIx t.length 0 (some i) = min i.toNat t.length := by
    unfold HT.sIx
    simp
    omega
  rw [e1, e0]
  by_cases hc : i.toNat ≤ t.length
  · rw [Nat.min_eq_left hc]
    refine List.take_of_length_le ?_
    rw [List.length_drop]; omega
  · rw [Nat.min_eq_right (by omega), List.drop_eq_nil_of_le (Nat.le_refl _), List.drop_eq_nil_of_le (by omega)]
    simp
end Z

namespace Z
open PySem PySem.Spec PyProof.Rows L2
@[reducible] def dU {α : Type} (D : α → PyData) (xs : List α) : PyData := .tuple (xs.map D)
section
variable {K : PySem.W.Frag} {σ : L2.St} {G H : Hp} {te : TE}
end
end Z

namespace Y
open PySem PySem.Spec PyProof.Rows L2 Z
section
variable {prog : Program} {w : World} {A : Around} {E : Value → Shared → Prop} {s : Shared}
open PySem.W in
end
section
variable {X : Cx}
end
end Y

namespace Z
open PySem PySem.Spec PyProof.Rows L2 PySem.W
section
variable {prog : Program} {w : World} {A : Around} {E : Value → Shared → Prop} {s : Shared}
end
end Z
namespace Y
open PySem PySem.Spec PyProof.Rows L2 Z
section
variable {k : Kx} {E : XK} {R : Hp} {dr : Dr} {env : Env} {σ : L2.St} {G G2 H H2 : Hp} {n n' : Nat} {tn : TE} {fn : Env → M Vl}
end
end Y

namespace Y
open PySem PySem.Spec PyProof.Rows L2 Z
section
variable {k : Kx} {E : XK}
end
end Y

namespace Y
open PySem PySem.Spec PyProof.Rows L2 Z
section
variable {k : Kx} {E : XK}
end
end Y

namespace Y
open PySem PySem.Spec PyProof.Rows L2 Z
section
variable {X : Cx}
end
def mergeD (es fs : List (Ky × D)) : List (Ky × D) := fs.foldl (fun acc p => putD acc p.1 p.2) es
section
variable {k : Kx} {E : XK} {R : Hp} {dr : Dr} {env : Env} {σ : L2.St} {G G2 H H2 : Hp} {n n' : Nat} {tx te : TE} {fx fe : Env → M Vl}
end
end Y
namespace Y
open PySem PySem.Spec PyProof.Rows L2 Z PySem.W
section
variable {k : Kx} {E : XK} {tr : TA} {fr : Env → M (List Vl)}
end
end Y

namespace Y
open PySem PySem.Spec PyProof.Rows L2 Z
def rDictP (K : PySem.W.Frag) : List V → Hp → VK → Prop := fun xs H Q => ∃ (a : Addr) (ps : List Addr) (kvs : List (Key × V)), xs = [.ref a] ∧ SqL K H a (ps.map V.ref) ∧ Paired (fun p kv => SqT K H p [kV kv.1, kv.2]) ps kvs ∧
    ∀ p, H p = none → Q (.ref p) (upd H p (.dK (mergeK [] kvs)))
theorem cr_dictP {X : Cx} (hc : X.calm = true) : CallR X (.type "dict") (rDictP X.K) := call_dictP hc
def kvPairs : List D → Option (List (Ky × D))
  | [] => some []
  | .tup [x, y] :: r => (keyD x).bind fun q => (kvPairs r).map fun es => (q, y) :: es
  | _ => none
def dictPD : List D → Option D
  | [.lst ds] => (kvPairs ds).map fun es => .dic (mergeD [] es)
  | _ => none
section
variable {k : Kx} {G H : Hp}
theorem kvp_rp (hi : In G H) : ∀ {ds : List D} {es : List (Ky × D)} {vs : List V}, kvPairs ds = some es → RpA k G vs ds → ∃ (ps : List Addr) (kvs : List (Key × V)), vs = ps.map V.ref ∧ Paired (fun p kv => SqT k.K H p [kV kv.1, kv.2]) ps kvs ∧ RpD k G kvs es
  | [], es, vs, h, r => by
    cases h
    exact ⟨[], [], rpa_nil r, .nil, .nil⟩
  | d :: ds, es, vs, h, r => by
    unfold kvPairs at h
    split at h
    · rename_i e
      cases e
    · rename_i x y rest e
      cases e
      obtain ⟨q, hq, h⟩ := Option.bind_eq_some_iff.mp h
      obtain ⟨es2, h2, h3⟩ := Option.map_eq_some_iff.mp h
      cases h3
      obtain ⟨v, us, rfl, g1, g2⟩ := rpa_cons r
      obtain ⟨ps, kvs, rfl, pp, rr⟩ := kvp_rp hi h2 g2
      obtain ⟨p, xs, rfl, t1, t2⟩ := rp_tup g1
      obtain ⟨v1, u1, rfl, a1, a2⟩ := rpa_cons t2
      obtain ⟨v2, u2, rfl, b1, b2⟩ := rpa_cons a2
      obtain rfl := rpa_nil b2
      have ek := key_kV hq a1
      subst ek
      exact ⟨p :: ps, (kk q, v2) :: kvs, rfl, .cons (in_t hi t1) pp, .cons b1 rr⟩
    · cases h
theorem co_dictP : CaO k (rDictP k.K) dictPD := fun G H xs ds d hi px hd Q q => by
  unfold dictPD at hd
  split at hd
  · rename_i es
    obtain ⟨ws, h1, h2⟩ := Option.map_eq_some_iff.mp hd
    cases h2
    obtain ⟨v, rfl, p⟩ := rpa_one px
    obtain ⟨a, vs, rfl, h2, h3⟩ := rp_lst p
    obtain ⟨ps, kvs, rfl, pp, rr⟩ := kvp_rp hi h1 h3
    exact ⟨a, ps, kvs, rfl, .inl (hi.rd h2), pp, fun p hp => q p _ hp (.dic (RpD.merge rr .nil))⟩
  · cases hd
end
end Y

namespace Y
open PySem PySem.Spec PyProof.Rows L2 Z
section
variable {P : Program} {w : World} {A : Around} {E : Value → Shared → Prop} {s : Shared} {a b : Addr} {x : Str}
theorem entry_set_ne : entryFor table "set.__ne__" = some Builtin.«frozenset.__ne__» := entryFor_alias (id' := "frozenset.__ne__") (by kernel_rfl) rfl (by decide +kernel) (by kernel_rfl)
theorem txs_one {es : Array (Int × Value)} {t : SetTable} (T : TxS P w es t [x]) : ∃ tk, es = #[((PySem.strKind P w).hash x, Value.str x tk)] := by
  have hl := T.perm.length_eq
  simp only [List.length_map, List.length_cons, List.length_nil, Nat.zero_add] at hl
  obtain ⟨l⟩ := es
  simp only at hl
  match l, hl with
  | [e], _ =>
    obtain ⟨y, tk, h1, h2⟩ := T.each e (by simp)
    have h3 := T.perm.mem_iff (a := x)
    simp only [List.map_cons, List.map_nil, List.mem_singleton, iff_true] at h3
    rw [h1] at h3
    have h3 : x = y := h3
    subst h3
    refine ⟨tk, ?_⟩
    obtain ⟨e1, e2⟩ := e
    dsimp only at h1 h2
    rw [h1, h2]
theorem ne_one {Q : Value → Shared → Prop} (ta : Tx P w s.heap a [x]) (sb : s.heap.SetOf (PySem.strKind P w) b (fun k => decide (k = x)) 1) (hu : A.units < cLine) (h : Q (.bool false) s) : wpAny (model P w) A (richCompare .NotEq (.ref a) (.ref b)) Q E s := by
  obtain ⟨oa, ea, pa, ra, ha1, ha2, ha3, TA⟩ := ta
  have sb' := sb
  obtain ⟨ob, eb, pb, rb, hb1, hb2, hb3, hel, hmem, hfew, hfit, hn⟩ := sb'
  have tya : s.TypeIs (.ref a) "set" := ⟨oa, ha1, ha2.1⟩
  have tyb : s.TypeIs (.ref b) "set" := ⟨ob, hb1, hb2.1⟩
  obtain ⟨tka, hea⟩ := txs_one TA
  obtain ⟨hb, tkb, heb⟩ : ∃ hb tkb, eb = #[(hb, Value.str x tkb)] := by
    obtain ⟨l⟩ := eb
    simp only [List.size_toArray] at hn
    match l, hn with
    | [e], _ =>
      obtain ⟨e1, e2⟩ := e
      obtain ⟨f, hf, hk⟩ := (hmem x).mp (decide_eq_true rfl)
      simp only [List.mem_singleton] at hf
      subst hf
      obtain ⟨t, rfl⟩ := Value.isStrOf_shape hk
      exact ⟨e1, t, rfl⟩
  refine wpAny_richCompare_same_room (op := .NotEq) tya tyb PySem.F.slot_set_ne (wpAny_call_entry PySem.F.slot_set_ne tya entry_set_ne ?_ (PySem.F.args_set_ne_2 _ _)) hu
  unfold Builtin.«frozenset.__ne__»
  show wpAny _ _ (Builtin.Frozenset.slot1 "__ne__" ⟨[.ref a, .ref b], []⟩ >>= _) _ _ s
  refine wpAny_bind ?_
  show wpAny _ _ (pure (Value.ref a, Value.ref b)) _ _ s
  refine wpAny_pure ?_
  refine wpAny_bind ?_
  show wpAny _ _ (Builtin.Frozenset.isAnySet (.ref b)) _ _ s
  unfold Builtin.Frozenset.isAnySet
  refine wpAny_bind (wpAny_isInstance (T := "set") tyb PySem.F.sub_set_set ?_)
  simp only [if_true]
  refine wpAny_pure ?_
  simp only [Bool.not_true, Bool.false_eq_true, if_false]
  subst hea heb
  have szA : ∀ {B : Around} {R : Nat → Shared → Prop}, R 1 s → wpAny (model P w) B (Builtin.Frozenset.sizeOf a) R E s := fun h => by
    unfold Builtin.Frozenset.sizeOf
    exact wpAny_bind (wpAny_setEntries_of ha1 ha3 TA.fits (wpAny_pure h))
  have szB : ∀ {B : Around} {R : Nat → Shared → Prop}, R 1 s → wpAny (model P w) B (Builtin.Frozenset.sizeOf b) R E s := fun h => by
    unfold Builtin.Frozenset.sizeOf
    exact wpAny_bind (wpAny_setEntries_of hb1 hb3 hfit (wpAny_pure h))
  refine wpAny_bind ?_
  show wpAny _ _ (pure a) _ _ s
  refine wpAny_pure (wpAny_bind ?_)
  show wpAny _ _ (pure b) _ _ s
  refine wpAny_pure (wpAny_bind (szA (wpAny_bind (szB ?_))))
  refine wpAny_bind ?_
  rw [if_neg (by decide)]
  refine wpAny_bind ?_
  refine wpAny_bind (wpAny_isInstance (T := "set") tya PySem.F.sub_set_frozenset ?_)
  refine wpAny_pure ?_
  rw [if_neg Bool.false_ne_true]
  unfold Builtin.Frozenset.subsetOf
  refine wpAny_bind (szA (wpAny_bind (szB ?_)))
  rw [if_neg (by decide)]
  refine wpAny_bind (wpAny_setEpoch_of ha1 ha3 TA.fits ?_)
  refine wpAny_bind ?_
  unfold Builtin.Frozenset.walkUnseen
  refine wpAny_bind (wpAny_setEntries_of ha1 ha3 TA.fits ?_)
  refine wpAny_bind (wpAny_setEntries_of hb1 hb3 hfit ?_)
  show wpAny _ _ (do
    let r ← forIn [((PySem.strKind P w).hash x, Value.str x tka), (hb, Value.str x tkb)] _ _
    _) _ _ s
  have qt : ∀ {tk : Tok} {B : Around} {R : Bool → Shared → Prop}, R true s → wpAny (model P w) B (Builtin.Frozenset.quietEq (Value.str x tk)) R E s := fun h => wpAny_pure h
  rw [List.forIn_cons]
  refine wpAny_bind (wpAny_bind ?_)
  refine wpAny_bind (qt ?_)
  rw [if_neg (by decide)]
  refine wpAny_pure ?_
  dsimp only
  rw [List.forIn_cons]
  refine wpAny_bind ?_
  refine wpAny_bind (qt ?_)
  rw [if_neg (by decide)]
  refine wpAny_pure ?_
  dsimp only
  rw [List.forIn_nil]
  refine wpAny_pure ?_
  dsimp only
  refine wpAny_pure ?_
  show wpAny _ _ (do
    let r ← forIn [((PySem.strKind P w).hash x, Value.str x tka)] _ _
    _) _ _ s
  rw [List.forIn_cons]
  refine wpAny_bind (wpAny_bind ?_)
  refine wpAny_bind (wpAny_holding (wpAny_setFind_of (knd := PySem.strKind P w) (k := x) (strKind_is P w x tka) rfl sb fun r hr => ?_))
  have hr : r.isNone = false := by
    cases r with
    | none => simp at hr
    | some _ => rfl
  rw [hr, if_neg Bool.false_ne_true]
  refine wpAny_bind ?_
  unfold Builtin.Frozenset.unchanged
  refine wpAny_bind (wpAny_setEpoch_of ha1 ha3 TA.fits ?_)
  rw [if_neg (by simp)]
  refine wpAny_pure (wpAny_pure ?_)
  dsimp only
  rw [List.forIn_nil]
  refine wpAny_pure ?_
  dsimp only
  refine wpAny_pure ?_
  exact wpAny_pure ⟨_, rfl, ⟨fun z => (by cases z), h⟩⟩
end
section
variable {X : Cx} {pins : List (Addr × Obj)} {σ : L2.St} {H : Hp} {s : Shared}
theorem Inv.addPin (I : L2.Inv X pins σ H s) {a : Addr} {o : Obj} (h1 : s.heap.get? a = some o) (h2 : H a = none) (h3 : a ≠ X.env.locals) (h4 : a ∉ X.fs) (h5 : ∀ v, o.data ≠ .cell v) : L2.Inv X ((a, o) :: pins) σ H s :=
  have hpin : ∀ p ∈ X.pn ++ (a, o) :: pins, s.heap.get? p.1 = some p.2 ∧ H p.1 = none ∧ p.1 ≠ X.env.locals ∧ p.1 ∉ X.fs ∧ ∀ v, p.2.data ≠ .cell v := fun p hp => by
    rw [List.mem_append, List.mem_cons] at hp
    rcases hp with hp | rfl | hp
    · exact I.pin p (List.mem_append_left _ hp)
    · exact ⟨h1, h2, h3, h4, h5⟩
    · exact I.pin p (List.mem_append_right _ hp)
  { I with pin := hpin }
theorem Inv.dropPin {q : Addr × Obj} (I : L2.Inv X (q :: pins) σ H s) : L2.Inv X pins σ H s :=
  have hpin : ∀ p ∈ X.pn ++ pins, s.heap.get? p.1 = some p.2 ∧ H p.1 = none ∧ p.1 ≠ X.env.locals ∧ p.1 ∉ X.fs ∧ ∀ v, p.2.data ≠ .cell v := fun p hp => by
    rw [List.mem_append] at hp
    rcases hp with hp | hp
    · exact I.pin p (List.mem_append_left _ hp)
    · exact I.pin p (List.mem_append_right _ (List.mem_cons_of_mem _ hp))
  { I with pin := hpin }
def tSetNe (K : PySem.W.Frag) (ta tb : TE) : TE := fun σ H Q => ta σ H fun x H1 => ∃ (ws : List (List Nat)) (a : Addr), x = .ref a ∧ SqL K H1 a (ws.map fun w => .str (S w)) ∧ ws.length < 4000 ∧ tb σ H1 fun y H2 => ∃ w, y = .str (S w) ∧ ws ≠ [] ∧ (∀ z ∈ ws, z = w) ∧ Q (.bl false) H2
theorem kds_of {K : PySem.W.Frag} {x qual : Str} {params : Arguments} {body : List Stmt} {scope : Scope} {dvs : List V} {kws : List (Str × V)} {f : Addr} {fd : FuncData} (F : FunD K x qual params body scope dvs kws f fd) : PySem.W.kdsCode K fd.code = true := by
  obtain ⟨oc, od, dV, kV, doc, pm, an, cdv, ct, osl, rfl, lk, hcd, _, _⟩ := F.ex
  exact kdsCode_of hcd
theorem pc_setNe {e f : Expr} {ta tb : TE} {p2 q q2 : Pos} (hc : X.calm = true) (hg2 : Gl X "set") (hm2 : X.mg "set" = none) (hu : X.A.units + 100 < cLine) (hcd : PySem.W.kdsCode X.K X.env.code = true) (hp : PySem.W.kdsPlain f = true) (ha : PE X e ta) (hb : PE X f tb)
    (na : starEach [e] X.env = (false, eval e X.env) :: starEach [] X.env := by rfl) : PC X .NotEq (.Call (.Name "set" p2) [e] [] q) (.Set [f] 0 q2) (tSetNe X.K ta tb) := by
  refine ⟨fun pins s σ H Q I h => ?_⟩
  refine wpAny_Call_Name_kw (ld_blt (u := .type "set") I hg2 hm2 (by decide +kernel) ?_ (by decide) (by decide))
  refine PyProof.Rows.callWith_type1 (PyProof.Rows.args_cons (thn (ha.run pins s σ H _ I h) fun v s1 ⟨x, H1, I1, r1, q1⟩ => PyProof.Rows.args_nil ?_) na) na rfl
  obtain ⟨ws, a, ex, hq, hl, q1⟩ := q1
  cases ex
  cases r1
  obtain ⟨its, rv, pl, hz⟩ := I1.list hq
  have e0 : (ws.map fun w => V.str (S w)) = (ws.map S).map V.str := by simp
  rw [e0] at rv
  refine set_txt (I1.ok.hd hc) pl.isList (by simpa using L2.strsAre_of rv) (by simpa using hl) fun h2 tk ys T d kp lt => ?_
  have I2 : Inv X pins σ H1 { s1 with heap := h2, toks := tk } := I1.kept kp
  obtain ⟨o, es, ep, t, ho, hx, hd, TS⟩ := T
  have fr1 : H1 s1.heap.objs.size = none := I1.hok.fresh (Nat.le_refl _)
  have ne1 : s1.heap.objs.size ≠ X.env.locals := Nat.ne_of_gt I1.lt
  have nf1 : s1.heap.objs.size ∉ X.fs := I1.nofs (Nat.le_refl _)
  have I3 := Inv.addPin I2 ho fr1 ne1 nf1 (fun v z => by rw [hd] at z; cases z)
  rw [arm_eval_Set]
  refine wpAny_bind (wpAny_standAt ?_)
  refine wpAny_bind (PySem.W.kds_main I3.kIn hcd fun b => ?_)
  rw [PySem.W.kds_star [f] (by simp [hp]), List.map_map]
  refine PySem.W.kds_core (ts := (evalEach [f] X.env).map fun t => do let v ← t; standAt q2; pure v) (road0 [f]) ?_ ?_ ?_ fun led => ?_
  · refine List.findIdx?_eq_none_iff.mpr fun x hx => ?_
    obtain ⟨t, _, rfl⟩ := List.mem_map.mp hx
    rfl
  · rw [List.length_map, PySem.W.kds_len]
    exact Nat.le_of_ble_eq_true rfl
  · rw [List.map_map]
    try rfl
  · refine PySem.W.kds_all q2 [f] _ _ ?_
    have at0 := Heap.get?_push_size h2 (o := { cls := .type "set", dict := none, data := .set #[] 0 (.fresh 0 0 led) }) rfl
    have I4 : Inv X ((s1.heap.objs.size, o) :: pins) σ H1 { s1 with heap := h2.push { cls := .type "set", dict := none, data := .set #[] 0 (.fresh 0 0 led) }, toks := tk } := I3.kept (t' := tk) fun b u e => Heap.get?_push_of_some _ e
    have I5 := Inv.addPin I4 at0 (I3.hok.fresh (Nat.le_refl _)) (Nat.ne_of_gt I3.lt) (I3.nofs (Nat.le_refl _)) (fun v z => by cases z)
    show wpAny _ _ (eval f X.env) _ _ _
    refine thn (hb.run _ _ σ H1 _ I5 q1) fun u s2 ⟨y, H2, I6, r2, w, ey, hne, hall, q2⟩ => ?_
    subst ey
    obtain ⟨t2, rfl⟩ := r2
    show PySem.W.KdsFill _ _ _ _ _ _ [_] _
    have g1 := (I6.pin _ (List.mem_append_right _ (List.mem_cons_of_mem _ (List.mem_cons_self ..)))).1
    have g2 := (I6.pin _ (List.mem_append_right _ (List.mem_cons_self ..))).1
    have f2 := (I6.pin _ (List.mem_append_right _ (List.mem_cons_self ..))).2
    have lab : s1.heap.objs.size ≠ h2.objs.size := Nat.ne_of_lt lt
    refine PySem.W.kds_fill_cons ?_
    unfold setAdd
    refine wpAny_holding (wpAny_bind ((strKind X.prog X.w).pyHash (k := S w) (strKind_is _ _ _ _) ?_))
    have hS0 : s2.heap.SetOf (strKind X.prog X.w) h2.objs.size (fun _ => false) 0 := (setObjOf_fresh (knd := strKind X.prog X.w) led).setOf g2 (by decide)
    refine wpAny_setAddHashed_of (knd := strKind X.prog X.w) (s := { s2 with toks := s2.toks + 1 }) (strKind_is _ _ _ _) rfl hS0 (by unfold scanBound; omega) fun h' sbt hS' => ?_
    have hS'' : h'.SetOf (strKind X.prog X.w) h2.objs.size (fun k => decide (k = S w)) 1 := SetOf_congr hS' (fun x => by simp) rfl
    have eys : ys = [S w] := by
      have hmem : ∀ y, y ∈ ys ↔ y = S w := fun y => by
        rw [d.2 y, List.take_of_length_le (by simp), List.mem_map]
        constructor
        · rintro ⟨z, hz, rfl⟩
          rw [hall z hz]
        · rintro rfl
          obtain ⟨z, hz⟩ := List.exists_mem_of_ne_nil _ hne
          exact ⟨z, hz, by rw [hall z hz]⟩
      have once := TS.once
      match ys, once, hmem with
      | [], _, hm => exact absurd ((hm (S w)).mpr rfl) (by simp)
      | [y], _, hm => rw [(hm y).mp (by simp)]
      | y :: z :: r, on, hm =>
        have e1 := (hm y).mp (by simp)
        have e2 := (hm z).mp (by simp)
        subst e1
        simp [e2] at on
    subst eys
    have fin2 : ∀ h3 : Heap, h3.SetOf (strKind X.prog X.w) h2.objs.size (fun k => decide (k = S w)) 1 → (∀ b o, b ≠ h2.objs.size → s2.heap.get? b = some o → h3.get? b = some o) → wpAny (model X.prog X.w) X.A (compareOp CmpOp.NotEq (Value.ref s1.heap.objs.size) (Value.ref h2.objs.size)) (EP X pins σ Q) X.xe { s2 with heap := h3, toks := s2.toks + 1 } := fun h3 hS3 kp3 => by
      refine ne_one (s := { s2 with heap := h3, toks := s2.toks + 1 }) (x := S w) ⟨o, es, ep, t, kp3 _ _ lab g1, hx, hd, TS⟩ hS3 (by omega) ?_
      refine ⟨.bl false, H2, ?_, rfl, q2⟩
      refine Inv.turned (it := h2.objs.size) (Inv.dropPin (Inv.dropPin I6)) kp3 f2.1 f2.2.1 (.inr I3.sz) (fun x c e z => ?_) (fun p hp z => ?_)
      · obtain ⟨v, hv⟩ := I3.cell x c e
        obtain ⟨oc, hoc, _⟩ := hv
        have := Heap.lt_size hoc
        rw [z] at this
        exact Nat.lt_irrefl _ this
      · have h1 := (I3.pin p (by
          rw [List.mem_append] at hp ⊢
          exact hp.imp id fun z => List.mem_cons_of_mem _ z)).1
        have := Heap.lt_size h1
        rw [z] at this
        exact Nat.lt_irrefl _ this
    cases hu : (displayRoad 0 [f] == DisplayRoad.unsure) with
    | false => exact PySem.W.kds_fill_nil rfl (fin2 h' hS'' fun b o hb e => (sbt.2 b hb).trans e)
    | true => exact PySem.W.kds_fill_unled rfl (unledS (s := { s2 with heap := h', toks := s2.toks + 1 }) hS'' fun h3 hS3 sb => fin2 h3 hS3 fun b o hb e => sb b o hb ((sbt.2 b hb).trans e))
end
def eSetNe (fa fb : Env → M Vl) : Env → M Vl := fun env => (fa env).bind fun x => match x.2 with
  | .lst ds => match strsOf ds with
    | some ws => if isV x || decide (4000 ≤ ws.length) then .bad else (fb env).bind fun y => match y.2 with
      | .str w => if isV y || !(!ws.isEmpty && ws.all fun z => decide (z = w)) then .bad else .ok (.s, .bl false)
      | _ => .bad
    | none => .bad
  | _ => .bad
section
variable {k : Kx} {E : XK} {ta tb : TE} {fa fb : Env → M Vl}
theorem se_setNe (ha : SE k E ta fa) (hb : SE k E tb fb) : SE k E (tSetNe k.K ta tb) (eSetNe fa fb) := fun R dr env σ G H n Q rl w => by
  refine ha.run rl (wp_bind' w) (fun _ _ _ h => h) fun dr n1 v x G1 H1 w1 l1 r1 s1 => ?_
  split at w1
  · rename_i ds hds
    split at w1
    · rename_i ws hws
      cases hv : (isV v || decide (4000 ≤ ws.length)) with
      | true => rw [hv, if_pos rfl] at w1; exact w1.elim
      | false =>
        rw [hv, if_neg Bool.false_ne_true] at w1
        simp only [Bool.or_eq_false_iff, decide_eq_false_iff_not] at hv
        have p := rs_s hv.1 s1
        rw [hds] at p
        obtain ⟨a, vs, rfl, g1, g2⟩ := rp_lst p
        have e := of_strs hws
        subst e
        have e := rpa_strs g2
        rw [e] at g1
        refine ⟨ws, a, rfl, .inl (r1.i.rd g1), by omega, ?_⟩
        refine hb.run r1 (wp_bind' w1) (fun _ _ _ h => h.mono l1) fun dr n2 u y G2 H2 w2 l2 r2 s2 => ?_
        split at w2
        · rename_i w hw
          cases hv2 : (isV u || !(!ws.isEmpty && ws.all fun z => decide (z = w))) with
          | true => rw [hv2, if_pos rfl] at w2; exact w2.elim
          | false =>
            rw [hv2, if_neg Bool.false_ne_true] at w2
            simp only [Bool.or_eq_false_iff, Bool.not_eq_false', Bool.and_eq_true, Bool.not_eq_true', List.all_eq_true, decide_eq_true_eq] at hv2
            have p2 := rs_s hv2.1 s2
            rw [hw] at p2
            refine ⟨w, rp_str p2, fun z => ?_, hv2.2.2, w2 _ G2 H2 (l1.trans l2) r2 (Rp.bl _)⟩
            subst z
            simp at hv2
        · exact w2.elim
    · exact w1.elim
  · exact w1.elim
end
end Y

namespace Y
open PySem PySem.Spec PyProof.Rows L2 Z
def rRevL (K : PySem.W.Frag) : List V → Hp → VK → Prop := fun vs H Q => ∃ a xs, vs = [.ref a] ∧ SqL K H a xs ∧ ∀ p, H p = none → Q (.ref p) (upd H p (.lst xs.reverse))
theorem pe_revL {X : Cx} {e : Expr} {te : TE} {k : Nat} {p1 p2 p3 pos : Pos} (he : PE X e te) : PE X (.Subscript e (.Slice none none (some (.UnaryOp .USub (.Constant (.int 1) k p1) p2)) p3) pos) (tCB (rRevL X.K) (tCons te tNil)) := by
  refine ⟨fun pins s σ H Q I h => ?_⟩
  refine Subscript_ (thn (he.run pins s σ H _ I h) fun v s1 ⟨x, H1, I1, r1, q1⟩ => ?_)
  obtain ⟨a, xs, ex, hx, q⟩ := q1
  cases ex
  cases r1
  have st : PO X (some (.UnaryOp .USub (.Constant (.int 1) k p1) p2)) (tPart (tUn (rU fun i => .int (-i)) (tC (.int 1)))) := po_some (pe_un un_neg pe_int)
  refine wpAny_Slice (thn (po_none.run pins s1 σ H1 (fun o H2 => o = none ∧ H2 = H1) I1 ⟨rfl, rfl⟩) fun vl s2 ⟨l, H2, I2, pl, el, e2⟩ => ?_)
  subst el e2
  refine thn (po_none.run pins s2 σ H2 (fun o H3 => o = none ∧ H3 = H2) I2 ⟨rfl, rfl⟩) fun vu s3 ⟨u, H3, I3, pu, eu, e3⟩ => ?_
  subst eu e3
  refine thn (st.run pins s3 σ H3 (fun o H4 => o = some (-1) ∧ H4 = H3) I3 ⟨1, rfl, -1, rfl, rfl, rfl⟩) fun vs s4 ⟨o, H4, I4, ps, eo, e4⟩ => ?_
  subst eo e4
  have I5 : Inv X pins σ H4 { s4 with heap := s4.heap.push { cls := .type "slice", data := .fields #[vl, vu, vs] } } := I4.kept (t' := s4.toks) fun b ob q => Heap.get?_push_of_some _ q
  show wpAny (model X.prog X.w) X.A (subscriptTail e (.Slice none none (some (.UnaryOp .USub (.Constant (.int 1) k p1) p2)) p3) (.ref a) (.ref s4.heap.objs.size)) (EP X pins σ Q) X.xe { s4 with heap := s4.heap.push { cls := .type "slice", data := .fields #[vl, vu, vs] } }
  obtain ⟨its, r, ht, hz⟩ := I5.list hx
  refine tail_any (ops := _) ht.isList.typeIs slot_list_getitem.lookup ?_ (by with_unfolding_all rfl)
  have hlen := r.length
  refine wpAny_getItem_list_slice ht.isList (Heap.IsSliceOf.new ..) pl pu ps (by decide) ?_ (by rw [List.size_toArray] <;> omega)
  rw [PySem.W.krv_pick]
  refine ⟨.ref _, _, I5.laid (t' := s4.toks) (o := .lst xs.reverse) (fun b ob q => Heap.get?_push_of_some _ q) (Nat.le_refl _) ?_, rfl, q _ (I5.hok.fresh (Nat.le_refl _))⟩
  exact ⟨by rw [List.length_reverse]; exact hz, _, 0, r.reverse, Heap.get?_push_size _ rfl⟩
def revLD : List D → Option D
  | [.lst ds] => some (.lst ds.reverse)
  | _ => none
section
variable {k : Kx} {G : Hp}
theorem rpa_app : ∀ {xs : List V} {ds : List D} {ys : List V} {es : List D}, RpA k G xs ds → RpA k G ys es → RpA k G (xs ++ ys) (ds ++ es)
  | [], ds, ys, es, h, h2 => by cases h; exact h2
  | x :: xs, _, ys, es, h, h2 => by
    cases h with
    | cons a b => exact .cons a (rpa_app b h2)
theorem rpa_rev : ∀ {xs : List V} {ds : List D}, RpA k G xs ds → RpA k G xs.reverse ds.reverse
  | [], _, h => by cases h; exact .nil
  | x :: xs, _, h => by
    cases h with
    | cons a b =>
      rw [List.reverse_cons, List.reverse_cons]
      exact rpa_app (rpa_rev b) (.cons a .nil)
theorem co_revL : CaO k (rRevL k.K) revLD := fun G H xs ds d hi px hd Q q => by
  unfold revLD at hd
  split at hd
  · rename_i es
    cases hd
    obtain ⟨v, rfl, p⟩ := rpa_one px
    obtain ⟨a, vs, rfl, h2, h3⟩ := rp_lst p
    exact ⟨a, vs, rfl, .inl (hi.rd h2), fun p hp => q p _ hp (.lst (rpa_rev h3))⟩
  · cases hd
end
end Y

namespace Y
open PySem PySem.Spec PyProof.Rows L2 Z
def XT : List (Str × Str × Bool) := []
def t_is_integer (k : Kx) (E : XK) : TS := (tRet ((tAndV ((tCB (rIsA k.K) ((tCons (tVar 0) ((tCons (tC (.ty "int")) (tNil))))))) ((tNotV ((tCB (rIsA k.K) ((tCons (tVar 0) ((tCons (tC (.ty "bool")) (tNil))))))))))))
-- is_integer: 0 value
def b_is_integer : Env → M Out := (bRet ((eAndV ((eCB (isiD XT) ((eCons (eVar 0) ((eCons (eC (.ty "int")) (eNil))))))) ((eNotV ((eCB (isiD XT) ((eCons (eVar 0) ((eCons (eC (.ty "bool")) (eNil))))))))))))
def m_is_integer : List D → M Vl := bodyM 1 1 b_is_integer
theorem s_is_integer {k : Kx} (hXT : XTab k XT) (E : XK) : SS k E (t_is_integer k E) b_is_integer := (ss_ret (se_andV (se_cb (cs_isi hXT) (sa_cons se_var (sa_cons se_ty sa_nil))) (se_notV (se_cb (cs_isi hXT) (sa_cons se_var (sa_cons se_ty sa_nil))))))
def t_is_between (k : Kx) (E : XK) : TS := (tRet ((tAndV ((tCall (spM k m_is_integer) [] E ((tCons (tVar 0) (tNil))))) ((tChain (rI0 fun i j => .bl (decide (i ≤ j))) (rI0 fun i j => .bl (decide (i ≤ j))) (tVar 1) (tVar 0) (tVar 2))))))
-- is_between: 0 value 1 least 2 most
def b_is_between : Env → M Out := (bRet ((eAndV ((eCall m_is_integer ((eCons (eVar 0) (eNil))))) ((eChain leD leD (eVar 1) (eVar 0) (eVar 2))))))
def m_is_between : List D → M Vl := bodyM 3 3 b_is_between
theorem s_is_between {k : Kx} (E : XK) : SS k E (t_is_between k E) b_is_between := (ss_ret (se_andV (se_call (sa_cons se_var sa_nil)) (se_chain os_le os_le se_var se_var se_var)))
def t_is_line (k : Kx) (E : XK) : TS := (tRet ((tAndV ((tCB (rIsA k.K) ((tCons (tVar 0) ((tCons (tC (.ty "str")) (tNil))))))) ((tCB (rAll k.K) ((tCons ((tLc ((iAnyD k.K (tVar 0))) ((gName 1)) (tYes) ((tOp (qInA k.K) (tVar 1) (tC (.str "acgt")))) [1])) (tNil))))))))
-- is_line: 0 value 1 sign
def b_is_line : Env → M Out := (bRet ((eAndV ((eCB (isiD XT) ((eCons (eVar 0) ((eCons (eC (.ty "str")) (eNil))))))) ((eCB allD ((eCons ((eLc ((eItA (eVar 0))) ((eTgN 1)) (eYes) ((eOp inAB (eVar 1) (eC (.str [97, 99, 103, 116])))) [1])) (eNil))))))))
def m_is_line : List D → M Vl := bodyM 1 2 b_is_line
theorem s_is_line {k : Kx} (hXT : XTab k XT) (E : XK) : SS k E (t_is_line k E) b_is_line := (ss_ret (se_andV (se_cb (cs_isi hXT) (sa_cons se_var (sa_cons se_ty sa_nil))) (se_cb cs_all (sa_cons (se_lc (si_anyD se_var) tg_name st_yes (se_op os_inA se_var (se_str (by decide +kernel)))) sa_nil))))
def t_is_word (k : Kx) (E : XK) : TS := (tRet ((tAndV ((tCall (spM k m_is_line) [] E ((tCons (tVar 0) (tNil))))) ((tOp (rI0 fun i j => .bl (decide (j < i))) ((tCB (qLen k.K) ((tCons (tVar 0) (tNil))))) (tC (.int 0)))))))
-- is_word: 0 value
def b_is_word : Env → M Out := (bRet ((eAndV ((eCall m_is_line ((eCons (eVar 0) (eNil))))) ((eOp gtD ((eCB lenD ((eCons (eVar 0) (eNil))))) (eC (.int 0)))))))
def m_is_word : List D → M Vl := bodyM 1 1 b_is_word
theorem s_is_word {k : Kx} (E : XK) : SS k E (t_is_word k E) b_is_word := (ss_ret (se_andV (se_call (sa_cons se_var sa_nil)) (se_op os_gt (se_cb cs_len (sa_cons se_var sa_nil)) se_int)))
def t_need_word (k : Kx) (E : XK) : TS := (tIfS ((tNot ((tB ((tCall (spM k m_is_word) [] E ((tCons (tVar 0) (tNil))))))))) ((tRaise (fun cls d _ H => E cls d H) (fun _ H Q => Q (.ref (k.ca "BadWord")) none H))) (tNext))
-- need_word: 0 word
def b_need_word : Env → M Out := (bIf ((eNot ((eB ((eCall m_is_word ((eCons (eVar 0) (eNil))))))))) ((bRaise "BadWord")) (bNext))
def m_need_word : List D → M Vl := bodyM 1 1 b_need_word
theorem s_need_word {k : Kx} (E : XK) : SS k E (t_need_word k E) b_need_word := (ss_if (st_not (st_b (se_call (sa_cons se_var sa_nil)))) ss_raise ss_next)
def t_need_length (k : Kx) (E : XK) : TS := (tIfS ((tNot ((tB ((tCall (spM k m_is_between) [] E ((tCons (tVar 0) ((tCons (tC (.int 1)) ((tCons (tC (.int 120)) (tNil))))))))))))) ((tRaise (fun cls d _ H => E cls d H) (fun _ H Q => Q (.ref (k.ca "BadLength")) none H))) (tNext))
-- need_length: 0 length
def b_need_length : Env → M Out := (bIf ((eNot ((eB ((eCall m_is_between ((eCons (eVar 0) ((eCons (eC (.int 1)) ((eCons (eC (.int 120)) (eNil))))))))))))) ((bRaise "BadLength")) (bNext))
def m_need_length : List D → M Vl := bodyM 1 1 b_need_length
theorem s_need_length {k : Kx} (E : XK) : SS k E (t_need_length k E) b_need_length := (ss_if (st_not (st_b (se_call (sa_cons se_var (sa_cons se_int (sa_cons se_int sa_nil)))))) ss_raise ss_next)
def t_places_of (k : Kx) (E : XK) : TS := (tRet ((tLc ((iRng1 ((tCons ((tOp (qAdd k.K) ((tOp (rI0 fun i j => .int (i - j)) ((tCB (qLen k.K) ((tCons (tVar 0) (tNil))))) ((tCB (qLen k.K) ((tCons (tVar 1) (tNil))))))) (tC (.int 1)))) (tNil))))) ((gName 2)) ((tTest (tOp (qEq k.K) ((L2.tSl (qSl k.K) (tVar 0) ((tPart (tVar 2))) ((tPart ((tOp (qAdd k.K) (tVar 2) ((tCB (qLen k.K) ((tCons (tVar 1) (tNil))))))))))) (tVar 1)))) (tVar 2) [2])))
-- places_of: 0 text 1 piece 2 at
def b_places_of : Env → M Out := (bRet ((eLc ((eRng rngD1 ((eCons ((eOp addD ((eOp subD ((eCB lenD ((eCons (eVar 0) (eNil))))) ((eCB lenD ((eCons (eVar 1) (eNil))))))) (eC (.int 1)))) (eNil))))) ((eTgN 2)) ((eB (eOp eqB ((eSl (eVar 0) ((ePart (eVar 2))) ((ePart ((eOp addD (eVar 2) ((eCB lenD ((eCons (eVar 1) (eNil))))))))))) (eVar 1)))) (eVar 2) [2])))
def m_places_of : List D → M Vl := bodyM 2 3 b_places_of
theorem s_places_of {k : Kx} (E : XK) : SS k E (t_places_of k E) b_places_of := (ss_ret (se_lc (si_rng1 (sa_cons (se_op os_add (se_op os_sub (se_cb cs_len (sa_cons se_var sa_nil)) (se_cb cs_len (sa_cons se_var sa_nil))) se_int) sa_nil)) tg_name (st_test (se_op os_eq (se_sl se_var (so_part se_var) (so_part (se_op os_add se_var (se_cb cs_len (sa_cons se_var sa_nil))))) se_var)) se_var))
def t_occurrences (k : Kx) (E : XK) : TS := (tSeq ((tDrop ((tCall (spM k m_need_word) [] E ((tCons (tVar 0) (tNil))))))) ((tSeq ((tDrop ((tCall (spM k m_need_word) [] E ((tCons (tVar 1) (tNil))))))) ((tRet ((tCall (spM k m_places_of) [] E ((tCons (tVar 0) ((tCons (tVar 1) (tNil))))))))))))
-- occurrences: 0 word 1 piece
def b_occurrences : Env → M Out := (bSeq ((bDrop ((eCall m_need_word ((eCons (eVar 0) (eNil))))))) ((bSeq ((bDrop ((eCall m_need_word ((eCons (eVar 1) (eNil))))))) ((bRet ((eCall m_places_of ((eCons (eVar 0) ((eCons (eVar 1) (eNil))))))))))))
def m_occurrences : List D → M Vl := bodyM 2 2 b_occurrences
theorem s_occurrences {k : Kx} (E : XK) : SS k E (t_occurrences k E) b_occurrences := (ss_seq (ss_drop (se_call (sa_cons se_var sa_nil))) (ss_seq (ss_drop (se_call (sa_cons se_var sa_nil))) (ss_ret (se_call (sa_cons se_var (sa_cons se_var sa_nil))))))
def t_counted (k : Kx) (E : XK) : TS := (tSeq ((tAsg (tDNewK) (gName 1))) ((tSeq ((tFor ((iAnyD k.K (tVar 0))) ((gName 2)) ((sDPut (tVar 1) (tVar 2) ((tOp (qAdd k.K) ((tDGet2 (tVar 1) (tVar 2) (tC (.int 0)))) (tC (.int 1)))))))) ((tRet ((tDc ((iAnyD k.K ((tCB (qSorted k.K) ((tCons (tVar 1) (tNil))))))) ((gName 2)) (tYes) (tVar 2) ((tOp (qIxA k.K) (tVar 1) (tVar 2))) [2])))))))
-- counted: 0 some 1 found 2 one
def b_counted : Env → M Out := (bSeq ((bSet 1 (eDNew))) ((bSeq ((bFor ((eItA (eVar 0))) ((eTgN 2)) ((bDPut 1 (eVar 2) ((eOp addD ((eDGet2 (eVar 1) (eVar 2) (eC (.int 0)))) (eC (.int 1)))))))) ((bFrz [1] ((bRet ((eDc ((eItA ((eCOV sortedD ((eCons (eVar 1) (eNil))))))) ((eTgN 2)) (eYes) (eVar 2) ((eIxA (eVar 1) (eVar 2))) [2])))))))))
def m_counted : List D → M Vl := bodyM 1 3 b_counted
theorem s_counted {k : Kx} (E : XK) : SS k E (t_counted k E) b_counted := (ss_seq (ss_set se_dnew) (ss_seq (ss_for (si_anyD se_var) tg_name (ss_dput se_var (se_op os_add (se_dget2 se_var se_var se_int) se_int))) (ss_frz (ss_ret (se_dc (si_anyD (se_cov co_sorted (sa_cons se_var sa_nil))) tg_name st_yes se_var (se_ixA se_var se_var))))))
def t_stretches (k : Kx) (E : XK) : TS := (tRet ((tLc ((iRng1 ((tCons ((tOp (qAdd k.K) ((tOp (rI0 fun i j => .int (i - j)) ((tCB (qLen k.K) ((tCons (tVar 0) (tNil))))) (tVar 1))) (tC (.int 1)))) (tNil))))) ((gName 2)) (tYes) ((L2.tSl (qSl k.K) (tVar 0) ((tPart (tVar 2))) ((tPart ((tOp (qAdd k.K) (tVar 2) (tVar 1))))))) [2])))
-- stretches: 0 text 1 length 2 at
def b_stretches : Env → M Out := (bRet ((eLc ((eRng rngD1 ((eCons ((eOp addD ((eOp subD ((eCB lenD ((eCons (eVar 0) (eNil))))) (eVar 1))) (eC (.int 1)))) (eNil))))) ((eTgN 2)) (eYes) ((eSl (eVar 0) ((ePart (eVar 2))) ((ePart ((eOp addD (eVar 2) (eVar 1))))))) [2])))
def m_stretches : List D → M Vl := bodyM 2 3 b_stretches
theorem s_stretches {k : Kx} (E : XK) : SS k E (t_stretches k E) b_stretches := (ss_ret (se_lc (si_rng1 (sa_cons (se_op os_add (se_op os_sub (se_cb cs_len (sa_cons se_var sa_nil)) se_var) se_int) sa_nil)) tg_name st_yes (se_sl se_var (so_part se_var) (so_part (se_op os_add se_var se_var)))))
def t_pieces (k : Kx) (E : XK) : TS := (tSeq ((tDrop ((tCall (spM k m_need_word) [] E ((tCons (tVar 0) (tNil))))))) ((tSeq ((tDrop ((tCall (spM k m_need_length) [] E ((tCons (tVar 1) (tNil))))))) ((tRet ((tCall (spM k m_counted) [] E ((tCons ((tCall (spM k m_stretches) [] E ((tCons (tVar 0) ((tCons (tVar 1) (tNil))))))) (tNil))))))))))
-- pieces: 0 word 1 length
def b_pieces : Env → M Out := (bSeq ((bDrop ((eCall m_need_word ((eCons (eVar 0) (eNil))))))) ((bSeq ((bDrop ((eCall m_need_length ((eCons (eVar 1) (eNil))))))) ((bRet ((eCall m_counted ((eCons ((eCall m_stretches ((eCons (eVar 0) ((eCons (eVar 1) (eNil))))))) (eNil))))))))))
def m_pieces : List D → M Vl := bodyM 2 2 b_pieces
theorem s_pieces {k : Kx} (E : XK) : SS k E (t_pieces k E) b_pieces := (ss_seq (ss_drop (se_call (sa_cons se_var sa_nil))) (ss_seq (ss_drop (se_call (sa_cons se_var sa_nil))) (ss_ret (se_call (sa_cons (se_call (sa_cons se_var (sa_cons se_var sa_nil))) sa_nil)))))
def t_strand_of (k : Kx) (E : XK) : TS := (tRet ((tM1 (rJoin k.K) (tC (.str "")) ((tLc ((iAnyD k.K ((tRevS (tVar 0))))) ((gName 1)) (tYes) ((tOp (rKd k.K (k.ca "PARTNERS")) (tC (.ref (k.ca "PARTNERS"))) (tVar 1))) [1])))))
-- strand_of: 0 text 1 sign
def b_strand_of : Env → M Out := (bRet ((eJoin (eC (.str [])) ((eLc ((eItA ((eUn revD (eVar 0))))) ((eTgN 1)) (eYes) ((eKd [([97], [116]), ([99], [103]), ([103], [99]), ([116], [97])] (eVar 1))) [1])))))
def m_strand_of : List D → M Vl := bodyM 1 2 b_strand_of
theorem s_strand_of {k : Kx} (KT_PARTNERS : KTab k.K (k.ca "PARTNERS") ([([97], [116]), ([99], [103]), ([103], [99]), ([116], [97])].map fun p : List Nat × List Nat => (S p.1, S p.2))) (E : XK) : SS k E (t_strand_of k E) b_strand_of := (ss_ret (se_join (se_str (by decide +kernel)) (se_lc (si_anyD (se_rev se_var)) tg_name st_yes (se_kd KT_PARTNERS se_var))))
def t_other_strand (k : Kx) (E : XK) : TS := (tSeq ((tDrop ((tCall (spM k m_need_word) [] E ((tCons (tVar 0) (tNil))))))) ((tRet ((tCall (spM k m_strand_of) [] E ((tCons (tVar 0) (tNil))))))))
-- other_strand: 0 word
def b_other_strand : Env → M Out := (bSeq ((bDrop ((eCall m_need_word ((eCons (eVar 0) (eNil))))))) ((bRet ((eCall m_strand_of ((eCons (eVar 0) (eNil))))))))
def m_other_strand : List D → M Vl := bodyM 1 1 b_other_strand
theorem s_other_strand {k : Kx} (E : XK) : SS k E (t_other_strand k E) b_other_strand := (ss_seq (ss_drop (se_call (sa_cons se_var sa_nil))) (ss_ret (se_call (sa_cons se_var sa_nil))))
def t_borders_of (k : Kx) (E : XK) : TS := (tRet ((tLc ((iRng2 ((tCons (tC (.int 1)) ((tCons ((tCB (qLen k.K) ((tCons (tVar 0) (tNil))))) (tNil))))))) ((gName 1)) ((tTest (tOp (qEq k.K) ((L2.tSl (qSl k.K) (tVar 0) (tNoPart) ((tPart (tVar 1))))) ((L2.tSl (qSl k.K) (tVar 0) ((tPart ((tOp (rI0 fun i j => .int (i - j)) ((tCB (qLen k.K) ((tCons (tVar 0) (tNil))))) (tVar 1))))) (tNoPart)))))) (tVar 1) [1])))
-- borders_of: 0 text 1 length
def b_borders_of : Env → M Out := (bRet ((eLc ((eRng rngD2 ((eCons (eC (.int 1)) ((eCons ((eCB lenD ((eCons (eVar 0) (eNil))))) (eNil))))))) ((eTgN 1)) ((eB (eOp eqB ((eSl (eVar 0) (eNo) ((ePart (eVar 1))))) ((eSl (eVar 0) ((ePart ((eOp subD ((eCB lenD ((eCons (eVar 0) (eNil))))) (eVar 1))))) (eNo)))))) (eVar 1) [1])))
def m_borders_of : List D → M Vl := bodyM 1 2 b_borders_of
theorem s_borders_of {k : Kx} (E : XK) : SS k E (t_borders_of k E) b_borders_of := (ss_ret (se_lc (si_rng2 (sa_cons se_int (sa_cons (se_cb cs_len (sa_cons se_var sa_nil)) sa_nil))) tg_name (st_test (se_op os_eq (se_sl se_var so_no (so_part se_var)) (se_sl se_var (so_part (se_op os_sub (se_cb cs_len (sa_cons se_var sa_nil)) se_var)) so_no))) se_var))
def t_borders (k : Kx) (E : XK) : TS := (tSeq ((tDrop ((tCall (spM k m_need_word) [] E ((tCons (tVar 0) (tNil))))))) ((tRet ((tCall (spM k m_borders_of) [] E ((tCons (tVar 0) (tNil))))))))
-- borders: 0 word
def b_borders : Env → M Out := (bSeq ((bDrop ((eCall m_need_word ((eCons (eVar 0) (eNil))))))) ((bRet ((eCall m_borders_of ((eCons (eVar 0) (eNil))))))))
def m_borders : List D → M Vl := bodyM 1 1 b_borders
theorem s_borders {k : Kx} (E : XK) : SS k E (t_borders k E) b_borders := (ss_seq (ss_drop (se_call (sa_cons se_var sa_nil))) (ss_ret (se_call (sa_cons se_var sa_nil))))
def t_root_of (k : Kx) (E : XK) : TS := (tSeq ((tFor ((iRng2 ((tCons (tC (.int 1)) ((tCons ((tCB (qLen k.K) ((tCons (tVar 0) (tNil))))) (tNil))))))) ((gName 1)) ((tIfS ((tAnd ((tTest (tOp (qEq k.K) ((tOp (rI (fun _ j => j ≠ 0) fun i j => .int (i.fmod j)) ((tCB (qLen k.K) ((tCons (tVar 0) (tNil))))) (tVar 1))) (tC (.int 0))))) ((tTest (tOp (qEq k.K) ((tOp (qMul) ((L2.tSl (qSl k.K) (tVar 0) (tNoPart) ((tPart (tVar 1))))) ((tOp (rI CDivN fun i j => .int (i.fdiv j)) ((tCB (qLen k.K) ((tCons (tVar 0) (tNil))))) (tVar 1))))) (tVar 0)))))) ((tRet ((tTup ((tCons ((L2.tSl (qSl k.K) (tVar 0) (tNoPart) ((tPart (tVar 1))))) ((tCons ((tOp (rI CDivN fun i j => .int (i.fdiv j)) ((tCB (qLen k.K) ((tCons (tVar 0) (tNil))))) (tVar 1))) (tNil))))))))) (tNext))))) ((tRet ((tTup ((tCons (tVar 0) ((tCons (tC (.int 1)) (tNil))))))))))
-- root_of: 0 text 1 length
def b_root_of : Env → M Out := (bSeq ((bFor ((eRng rngD2 ((eCons (eC (.int 1)) ((eCons ((eCB lenD ((eCons (eVar 0) (eNil))))) (eNil))))))) ((eTgN 1)) ((bIf ((eAnd ((eB (eOp eqB ((eOp modD ((eCB lenD ((eCons (eVar 0) (eNil))))) (eVar 1))) (eC (.int 0))))) ((eB (eOp eqB ((eOp mulD ((eSl (eVar 0) (eNo) ((ePart (eVar 1))))) ((eOp fdivD ((eCB lenD ((eCons (eVar 0) (eNil))))) (eVar 1))))) (eVar 0)))))) ((bRet ((eTup ((eCons ((eSl (eVar 0) (eNo) ((ePart (eVar 1))))) ((eCons ((eOp fdivD ((eCB lenD ((eCons (eVar 0) (eNil))))) (eVar 1))) (eNil))))))))) (bNext))))) ((bRet ((eTup ((eCons (eVar 0) ((eCons (eC (.int 1)) (eNil))))))))))
def m_root_of : List D → M Vl := bodyM 1 2 b_root_of
theorem s_root_of {k : Kx} (E : XK) : SS k E (t_root_of k E) b_root_of := (ss_seq (ss_for (si_rng2 (sa_cons se_int (sa_cons (se_cb cs_len (sa_cons se_var sa_nil)) sa_nil))) tg_name (ss_if (st_and (st_test (se_op os_eq (se_op os_mod (se_cb cs_len (sa_cons se_var sa_nil)) se_var) se_int)) (st_test (se_op os_eq (se_op os_mul (se_sl se_var so_no (so_part se_var)) (se_op os_fdiv (se_cb cs_len (sa_cons se_var sa_nil)) se_var)) se_var))) (ss_ret (se_tup (sa_cons (se_sl se_var so_no (so_part se_var)) (sa_cons (se_op os_fdiv (se_cb cs_len (sa_cons se_var sa_nil)) se_var) sa_nil)))) ss_next)) (ss_ret (se_tup (sa_cons se_var (sa_cons se_int sa_nil)))))
def t_root (k : Kx) (E : XK) : TS := (tSeq ((tDrop ((tCall (spM k m_need_word) [] E ((tCons (tVar 0) (tNil))))))) ((tRet ((tCall (spM k m_root_of) [] E ((tCons (tVar 0) (tNil))))))))
-- root: 0 word
def b_root : Env → M Out := (bSeq ((bDrop ((eCall m_need_word ((eCons (eVar 0) (eNil))))))) ((bRet ((eCall m_root_of ((eCons (eVar 0) (eNil))))))))
def m_root : List D → M Vl := bodyM 1 1 b_root
theorem s_root {k : Kx} (E : XK) : SS k E (t_root k E) b_root := (ss_seq (ss_drop (se_call (sa_cons se_var sa_nil))) (ss_ret (se_call (sa_cons se_var sa_nil))))
def t_longest_common (k : Kx) (E : XK) : TS := (tSeq ((tDrop ((tCall (spM k m_need_word) [] E ((tCons (tVar 0) (tNil))))))) ((tSeq ((tDrop ((tCall (spM k m_need_word) [] E ((tCons (tVar 1) (tNil))))))) ((tSeq ((tFor ((iRng3 ((tCons ((tCB (rMin2) ((tCons ((tCB (qLen k.K) ((tCons (tVar 0) (tNil))))) ((tCons ((tCB (qLen k.K) ((tCons (tVar 1) (tNil))))) (tNil))))))) ((tCons (tC (.int 0)) ((tCons ((tUn (rU fun i => .int (-i)) (tC (.int 1)))) (tNil))))))))) ((gName 2)) ((tSeq ((tAsg ((tDc ((iAnyD k.K ((tCall (spM k m_stretches) [] E ((tCons (tVar 1) ((tCons (tVar 2) (tNil))))))))) ((gName 5)) (tYes) (tVar 5) (tC (.bl true)) [5])) (gName 3))) ((tSeq ((tAsg (tDc ((iAnyD k.K ((tCall (spM k m_stretches) [] E ((tCons (tVar 0) ((tCons (tVar 2) (tNil))))))))) ((gName 5)) ((tTest (tOp (qInA k.K) (tVar 5) (tVar 3)))) (tVar 5) (tC (.bl true)) [5]) (gName 4))) ((tIfS ((tTest (tOp (rI0 fun i j => .bl (decide (j < i))) ((tCB (qLen k.K) ((tCons (tVar 4) (tNil))))) (tC (.int 0))))) ((tRet ((tCB (qSorted k.K) ((tCons (tVar 4) (tNil))))))) (tNext))))))))) ((tRet ((tLst (tNil))))))))))
-- longest_common: 0 one 1 other 2 length 3 known 4 found 5 piece
def b_longest_common : Env → M Out := (bSeq ((bDrop ((eCall m_need_word ((eCons (eVar 0) (eNil))))))) ((bSeq ((bDrop ((eCall m_need_word ((eCons (eVar 1) (eNil))))))) ((bSeq ((bFor ((eRng rngD3 ((eCons ((eCB minD2 ((eCons ((eCB lenD ((eCons (eVar 0) (eNil))))) ((eCons ((eCB lenD ((eCons (eVar 1) (eNil))))) (eNil))))))) ((eCons (eC (.int 0)) ((eCons ((eUn negD (eC (.int 1)))) (eNil))))))))) ((eTgN 2)) ((bSeq ((bSet 3 ((eDc ((eItA ((eCall m_stretches ((eCons (eVar 1) ((eCons (eVar 2) (eNil))))))))) ((eTgN 5)) (eYes) (eVar 5) (eC (.bl true)) [5])))) ((bSeq ((bFrz [3] ((bSet 4 (eDc ((eItA ((eCall m_stretches ((eCons (eVar 0) ((eCons (eVar 2) (eNil))))))))) ((eTgN 5)) ((eB (eOp inAB (eVar 5) (eVar 3)))) (eVar 5) (eC (.bl true)) [5]))))) ((bFrz [4] ((bIf ((eB (eOp gtD ((eCB lenD ((eCons (eVar 4) (eNil))))) (eC (.int 0))))) ((bFrz [4] ((bRet ((eCOV sortedD ((eCons (eVar 4) (eNil))))))))) (bNext))))))))))) ((bRet ((eLst (eNil))))))))))
def m_longest_common : List D → M Vl := bodyM 2 6 b_longest_common
theorem s_longest_common {k : Kx} (E : XK) : SS k E (t_longest_common k E) b_longest_common := (ss_seq (ss_drop (se_call (sa_cons se_var sa_nil))) (ss_seq (ss_drop (se_call (sa_cons se_var sa_nil))) (ss_seq (ss_for (si_rng3 (sa_cons (se_cb cs_min2 (sa_cons (se_cb cs_len (sa_cons se_var sa_nil)) (sa_cons (se_cb cs_len (sa_cons se_var sa_nil)) sa_nil))) (sa_cons se_int (sa_cons (se_un us_neg se_int) sa_nil)))) tg_name (ss_seq (ss_set (se_dc (si_anyD (se_call (sa_cons se_var (sa_cons se_var sa_nil)))) tg_name st_yes se_var se_bl)) (ss_seq (ss_frz (ss_set (se_dc (si_anyD (se_call (sa_cons se_var (sa_cons se_var sa_nil)))) tg_name (st_test (se_op os_inA se_var se_var)) se_var se_bl))) (ss_frz (ss_if (st_test (se_op os_gt (se_cb cs_len (sa_cons se_var sa_nil)) se_int)) (ss_frz (ss_ret (se_cov co_sorted (sa_cons se_var sa_nil)))) ss_next))))) (ss_ret (se_lst sa_nil)))))
def t_turn_of (k : Kx) (E : XK) : TS := (tRet ((tOp (qAdd k.K) ((L2.tSl (qSl k.K) (tVar 0) ((tPart (tVar 1))) (tNoPart))) ((L2.tSl (qSl k.K) (tVar 0) (tNoPart) ((tPart (tVar 1))))))))
-- turn_of: 0 text 1 number
def b_turn_of : Env → M Out := (bRet ((eOp addD ((eSl (eVar 0) ((ePart (eVar 1))) (eNo))) ((eSl (eVar 0) (eNo) ((ePart (eVar 1))))))))
def m_turn_of : List D → M Vl := bodyM 2 2 b_turn_of
theorem s_turn_of {k : Kx} (E : XK) : SS k E (t_turn_of k E) b_turn_of := (ss_ret (se_op os_add (se_sl se_var (so_part se_var) so_no) (se_sl se_var so_no (so_part se_var))))
def t_least_turn (k : Kx) (E : XK) : TS := (tRet ((tCB (rMinD k.K) ((tCons ((tLc ((iRng1 ((tCons ((tCB (qLen k.K) ((tCons (tVar 0) (tNil))))) (tNil))))) ((gName 1)) (tYes) ((tCall (spM k m_turn_of) [] L2.E0 ((tCons (tVar 0) ((tCons (tVar 1) (tNil))))))) [1])) (tNil))))))
-- least_turn: 0 text 1 number
def b_least_turn : Env → M Out := (bRet ((eCB minL ((eCons ((eLc ((eRng rngD1 ((eCons ((eCB lenD ((eCons (eVar 0) (eNil))))) (eNil))))) ((eTgN 1)) (eYes) ((eCall m_turn_of ((eCons (eVar 0) ((eCons (eVar 1) (eNil))))))) [1])) (eNil))))))
def m_least_turn : List D → M Vl := bodyM 1 2 b_least_turn
theorem s_least_turn {k : Kx} (E : XK) : SS k E (t_least_turn k E) b_least_turn := (ss_ret (se_cb cs_min (sa_cons (se_lc (si_rng1 (sa_cons (se_cb cs_len (sa_cons se_var sa_nil)) sa_nil)) tg_name st_yes (se_call (sa_cons se_var (sa_cons se_var sa_nil)))) sa_nil)))
def t_is_ring (k : Kx) (E : XK) : TS := (tRet ((tAndV ((tCall (spM k m_is_word) [] E ((tCons (tVar 0) (tNil))))) ((tOp (qEq k.K) ((tCall (spM k m_least_turn) [] E ((tCons (tVar 0) (tNil))))) (tVar 0))))))
-- is_ring: 0 value
def b_is_ring : Env → M Out := (bRet ((eAndV ((eCall m_is_word ((eCons (eVar 0) (eNil))))) ((eOp eqB ((eCall m_least_turn ((eCons (eVar 0) (eNil))))) (eVar 0))))))
def m_is_ring : List D → M Vl := bodyM 1 1 b_is_ring
theorem s_is_ring {k : Kx} (E : XK) : SS k E (t_is_ring k E) b_is_ring := (ss_ret (se_andV (se_call (sa_cons se_var sa_nil)) (se_op os_eq (se_call (sa_cons se_var sa_nil)) se_var)))
def t_need_ring (k : Kx) (E : XK) : TS := (tIfS ((tNot ((tB ((tCall (spM k m_is_ring) [] E ((tCons (tVar 0) (tNil))))))))) ((tRaise (fun cls d _ H => E cls d H) (fun _ H Q => Q (.ref (k.ca "BadRing")) none H))) (tNext))
-- need_ring: 0 ring
def b_need_ring : Env → M Out := (bIf ((eNot ((eB ((eCall m_is_ring ((eCons (eVar 0) (eNil))))))))) ((bRaise "BadRing")) (bNext))
def m_need_ring : List D → M Vl := bodyM 1 1 b_need_ring
theorem s_need_ring {k : Kx} (E : XK) : SS k E (t_need_ring k E) b_need_ring := (ss_if (st_not (st_b (se_call (sa_cons se_var sa_nil)))) ss_raise ss_next)
def t_turn (k : Kx) (E : XK) : TS := (tSeq ((tDrop ((tCall (spM k m_need_word) [] E ((tCons (tVar 0) (tNil))))))) ((tSeq ((tIfS ((tNot ((tB ((tCall (spM k m_is_between) [] E ((tCons (tVar 1) ((tCons (tC (.int 0)) ((tCons ((tOp (rI0 fun i j => .int (i - j)) ((tCB (qLen k.K) ((tCons (tVar 0) (tNil))))) (tC (.int 1)))) (tNil))))))))))))) ((tRaise (fun cls d _ H => E cls d H) (fun _ H Q => Q (.ref (k.ca "BadIndex")) none H))) (tNext))) ((tRet ((tCall (spM k m_turn_of) [] E ((tCons (tVar 0) ((tCons (tVar 1) (tNil))))))))))))
-- turn: 0 word 1 number
def b_turn : Env → M Out := (bSeq ((bDrop ((eCall m_need_word ((eCons (eVar 0) (eNil))))))) ((bSeq ((bIf ((eNot ((eB ((eCall m_is_between ((eCons (eVar 1) ((eCons (eC (.int 0)) ((eCons ((eOp subD ((eCB lenD ((eCons (eVar 0) (eNil))))) (eC (.int 1)))) (eNil))))))))))))) ((bRaise "BadIndex")) (bNext))) ((bRet ((eCall m_turn_of ((eCons (eVar 0) ((eCons (eVar 1) (eNil))))))))))))
def m_turn : List D → M Vl := bodyM 2 2 b_turn
theorem s_turn {k : Kx} (E : XK) : SS k E (t_turn k E) b_turn := (ss_seq (ss_drop (se_call (sa_cons se_var sa_nil))) (ss_seq (ss_if (st_not (st_b (se_call (sa_cons se_var (sa_cons se_int (sa_cons (se_op os_sub (se_cb cs_len (sa_cons se_var sa_nil)) se_int) sa_nil)))))) ss_raise ss_next) (ss_ret (se_call (sa_cons se_var (sa_cons se_var sa_nil))))))
def t_ring_of (k : Kx) (E : XK) : TS := (tSeq ((tDrop ((tCall (spM k m_need_word) [] E ((tCons (tVar 0) (tNil))))))) ((tRet ((tCall (spM k m_least_turn) [] E ((tCons (tVar 0) (tNil))))))))
-- ring_of: 0 word
def b_ring_of : Env → M Out := (bSeq ((bDrop ((eCall m_need_word ((eCons (eVar 0) (eNil))))))) ((bRet ((eCall m_least_turn ((eCons (eVar 0) (eNil))))))))
def m_ring_of : List D → M Vl := bodyM 1 1 b_ring_of
theorem s_ring_of {k : Kx} (E : XK) : SS k E (t_ring_of k E) b_ring_of := (ss_seq (ss_drop (se_call (sa_cons se_var sa_nil))) (ss_ret (se_call (sa_cons se_var sa_nil))))
def t_read_on (k : Kx) (E : XK) : TS := (tRet ((tM1 (rJoin k.K) (tC (.str "")) ((tLc ((iRng1 ((tCons (tVar 2) (tNil))))) ((gName 3)) (tYes) ((tOp (qIxA k.K) (tVar 0) ((tOp (rI (fun _ j => j ≠ 0) fun i j => .int (i.fmod j)) ((tOp (qAdd k.K) (tVar 1) (tVar 3))) ((tCB (qLen k.K) ((tCons (tVar 0) (tNil))))))))) [3])))))
-- read_on: 0 text 1 at 2 length 3 step
def b_read_on : Env → M Out := (bRet ((eJoin (eC (.str [])) ((eLc ((eRng rngD1 ((eCons (eVar 2) (eNil))))) ((eTgN 3)) (eYes) ((eIxA (eVar 0) ((eOp modD ((eOp addD (eVar 1) (eVar 3))) ((eCB lenD ((eCons (eVar 0) (eNil))))))))) [3])))))
def m_read_on : List D → M Vl := bodyM 3 4 b_read_on
theorem s_read_on {k : Kx} (E : XK) : SS k E (t_read_on k E) b_read_on := (ss_ret (se_join (se_str (by decide +kernel)) (se_lc (si_rng1 (sa_cons se_var sa_nil)) tg_name st_yes (se_ixA se_var (se_op os_mod (se_op os_add se_var se_var) (se_cb cs_len (sa_cons se_var sa_nil)))))))
def t_ring_stretches (k : Kx) (E : XK) : TS := (tRet ((tLc ((iRng1 ((tCons ((tCB (qLen k.K) ((tCons (tVar 0) (tNil))))) (tNil))))) ((gName 2)) (tYes) ((tCall (spM k m_read_on) [] L2.E0 ((tCons (tVar 0) ((tCons (tVar 2) ((tCons (tVar 1) (tNil))))))))) [2])))
-- ring_stretches: 0 text 1 length 2 at
def b_ring_stretches : Env → M Out := (bRet ((eLc ((eRng rngD1 ((eCons ((eCB lenD ((eCons (eVar 0) (eNil))))) (eNil))))) ((eTgN 2)) (eYes) ((eCall m_read_on ((eCons (eVar 0) ((eCons (eVar 2) ((eCons (eVar 1) (eNil))))))))) [2])))
def m_ring_stretches : List D → M Vl := bodyM 2 3 b_ring_stretches
theorem s_ring_stretches {k : Kx} (E : XK) : SS k E (t_ring_stretches k E) b_ring_stretches := (ss_ret (se_lc (si_rng1 (sa_cons (se_cb cs_len (sa_cons se_var sa_nil)) sa_nil)) tg_name st_yes (se_call (sa_cons se_var (sa_cons se_var (sa_cons se_var sa_nil))))))
def t_ring_places (k : Kx) (E : XK) : TS := (tRet ((tLc ((iEnumA k.K ((tCons ((tCall (spM k m_ring_stretches) [] E ((tCons (tVar 0) ((tCons ((tCB (qLen k.K) ((tCons (tVar 1) (tNil))))) (tNil))))))) (tNil))))) ((gTL k.K 2 (gCons (gName 2) (gCons (gName 3) gNil)))) ((tTest (tOp (qEq k.K) (tVar 3) (tVar 1)))) (tVar 2) [2, 3])))
-- ring_places: 0 text 1 piece 2 at 3 stretch
def b_ring_places : Env → M Out := (bRet ((eLc ((eRng enumB ((eCons ((eCall m_ring_stretches ((eCons (eVar 0) ((eCons ((eCB lenD ((eCons (eVar 1) (eNil))))) (eNil))))))) (eNil))))) ((eTgT 2 (eTgCons (eTgN 2) (eTgCons (eTgN 3) eTgNil)))) ((eB (eOp eqB (eVar 3) (eVar 1)))) (eVar 2) [2, 3])))
def m_ring_places : List D → M Vl := bodyM 2 4 b_ring_places
theorem s_ring_places {k : Kx} (E : XK) : SS k E (t_ring_places k E) b_ring_places := (ss_ret (se_lc (si_enumA (sa_cons (se_call (sa_cons se_var (sa_cons (se_cb cs_len (sa_cons se_var sa_nil)) sa_nil))) sa_nil)) (tg_tl (tg_cons tg_name (tg_cons tg_name tg_nil))) (st_test (se_op os_eq se_var se_var)) se_var))
def t_ring_occurrences (k : Kx) (E : XK) : TS := (tSeq ((tDrop ((tCall (spM k m_need_ring) [] E ((tCons (tVar 0) (tNil))))))) ((tSeq ((tDrop ((tCall (spM k m_need_word) [] E ((tCons (tVar 1) (tNil))))))) ((tRet ((tCall (spM k m_ring_places) [] E ((tCons (tVar 0) ((tCons (tVar 1) (tNil))))))))))))
-- ring_occurrences: 0 ring 1 piece
def b_ring_occurrences : Env → M Out := (bSeq ((bDrop ((eCall m_need_ring ((eCons (eVar 0) (eNil))))))) ((bSeq ((bDrop ((eCall m_need_word ((eCons (eVar 1) (eNil))))))) ((bRet ((eCall m_ring_places ((eCons (eVar 0) ((eCons (eVar 1) (eNil))))))))))))
def m_ring_occurrences : List D → M Vl := bodyM 2 2 b_ring_occurrences
theorem s_ring_occurrences {k : Kx} (E : XK) : SS k E (t_ring_occurrences k E) b_ring_occurrences := (ss_seq (ss_drop (se_call (sa_cons se_var sa_nil))) (ss_seq (ss_drop (se_call (sa_cons se_var sa_nil))) (ss_ret (se_call (sa_cons se_var (sa_cons se_var sa_nil))))))
def t_ring_pieces (k : Kx) (E : XK) : TS := (tSeq ((tDrop ((tCall (spM k m_need_ring) [] E ((tCons (tVar 0) (tNil))))))) ((tSeq ((tDrop ((tCall (spM k m_need_length) [] E ((tCons (tVar 1) (tNil))))))) ((tRet ((tCall (spM k m_counted) [] E ((tCons ((tCall (spM k m_ring_stretches) [] E ((tCons (tVar 0) ((tCons (tVar 1) (tNil))))))) (tNil))))))))))
-- ring_pieces: 0 ring 1 length
def b_ring_pieces : Env → M Out := (bSeq ((bDrop ((eCall m_need_ring ((eCons (eVar 0) (eNil))))))) ((bSeq ((bDrop ((eCall m_need_length ((eCons (eVar 1) (eNil))))))) ((bRet ((eCall m_counted ((eCons ((eCall m_ring_stretches ((eCons (eVar 0) ((eCons (eVar 1) (eNil))))))) (eNil))))))))))
def m_ring_pieces : List D → M Vl := bodyM 2 2 b_ring_pieces
theorem s_ring_pieces {k : Kx} (E : XK) : SS k E (t_ring_pieces k E) b_ring_pieces := (ss_seq (ss_drop (se_call (sa_cons se_var sa_nil))) (ss_seq (ss_drop (se_call (sa_cons se_var sa_nil))) (ss_ret (se_call (sa_cons (se_call (sa_cons se_var (sa_cons se_var sa_nil))) sa_nil)))))
def t_ring_strand (k : Kx) (E : XK) : TS := (tSeq ((tDrop ((tCall (spM k m_need_ring) [] E ((tCons (tVar 0) (tNil))))))) ((tRet ((tCall (spM k m_least_turn) [] E ((tCons ((tCall (spM k m_strand_of) [] E ((tCons (tVar 0) (tNil))))) (tNil))))))))
-- ring_strand: 0 ring
def b_ring_strand : Env → M Out := (bSeq ((bDrop ((eCall m_need_ring ((eCons (eVar 0) (eNil))))))) ((bRet ((eCall m_least_turn ((eCons ((eCall m_strand_of ((eCons (eVar 0) (eNil))))) (eNil))))))))
def m_ring_strand : List D → M Vl := bodyM 1 1 b_ring_strand
theorem s_ring_strand {k : Kx} (E : XK) : SS k E (t_ring_strand k E) b_ring_strand := (ss_seq (ss_drop (se_call (sa_cons se_var sa_nil))) (ss_ret (se_call (sa_cons (se_call (sa_cons se_var sa_nil)) sa_nil))))
def t__law_pick (k : Kx) (E : XK) : TS := (tRet ((tOp (qIxA k.K) (tVar 1) ((tCall (spM k m_take) [] E ((tCons (tVar 0) ((tCons ((tCB (qLen k.K) ((tCons (tVar 1) (tNil))))) (tNil))))))))))
-- _law_pick: 0 _law_draw 1 _law_some
def b__law_pick : Env → M Out := (bRet ((eIxA (eVar 1) ((eCall m_take ((eCons (eVar 0) ((eCons ((eCB lenD ((eCons (eVar 1) (eNil))))) (eNil))))))))))
def m__law_pick : List D → M Vl := bodyM 2 2 b__law_pick
theorem s__law_pick {k : Kx} (E : XK) : SS k E (t__law_pick k E) b__law_pick := (ss_ret (se_ixA se_var (se_call (sa_cons se_var (sa_cons (se_cb cs_len (sa_cons se_var sa_nil)) sa_nil)))))
def t__law_signs (k : Kx) (E : XK) : TS := (tRet ((tCall (spM k m__law_pick) [] E ((tCons (tVar 0) ((tCons ((tLst ((tCons (tC (.str "a")) ((tCons (tC (.str "ac")) ((tCons (tC (.str "ag")) ((tCons (tC (.str "ct")) ((tCons (tC (.str "aac")) ((tCons (tC (.str "acg")) ((tCons (tC (.str "acgt")) ((tCons (tC (.str "acgt")) ((tCons (tC (.str "gt")) ((tCons (tC (.str "aaact")) (tNil))))))))))))))))))))))) (tNil))))))))
-- _law_signs: 0 _law_draw
def b__law_signs : Env → M Out := (bRet ((eCall m__law_pick ((eCons (eVar 0) ((eCons ((eLst ((eCons (eC (.str [97])) ((eCons (eC (.str [97, 99])) ((eCons (eC (.str [97, 103])) ((eCons (eC (.str [99, 116])) ((eCons (eC (.str [97, 97, 99])) ((eCons (eC (.str [97, 99, 103])) ((eCons (eC (.str [97, 99, 103, 116])) ((eCons (eC (.str [97, 99, 103, 116])) ((eCons (eC (.str [103, 116])) ((eCons (eC (.str [97, 97, 97, 99, 116])) (eNil))))))))))))))))))))))) (eNil))))))))
def m__law_signs : List D → M Vl := bodyM 1 1 b__law_signs
theorem s__law_signs {k : Kx} (E : XK) : SS k E (t__law_signs k E) b__law_signs := (ss_ret (se_call (sa_cons se_var (sa_cons (se_lst (sa_cons (se_str (by decide +kernel)) (sa_cons (se_str (by decide +kernel)) (sa_cons (se_str (by decide +kernel)) (sa_cons (se_str (by decide +kernel)) (sa_cons (se_str (by decide +kernel)) (sa_cons (se_str (by decide +kernel)) (sa_cons (se_str (by decide +kernel)) (sa_cons (se_str (by decide +kernel)) (sa_cons (se_str (by decide +kernel)) (sa_cons (se_str (by decide +kernel)) sa_nil))))))))))) sa_nil))))
def t__law_letters (k : Kx) (E : XK) : TS := (tRet ((tM1 (rJoin k.K) (tC (.str "")) ((tLc ((iRng1 ((tCons (tVar 2) (tNil))))) ((gName 3)) (tYes) ((tCall (spM k m__law_pick) [] L2.E0 ((tCons (tVar 0) ((tCons (tVar 1) (tNil))))))) [3])))))
-- _law_letters: 0 _law_draw 1 _law_signs_here 2 _law_many 3 _law_lap
def b__law_letters : Env → M Out := (bRet ((eJoin (eC (.str [])) ((eLc ((eRng rngD1 ((eCons (eVar 2) (eNil))))) ((eTgN 3)) (eYes) ((eCall m__law_pick ((eCons (eVar 0) ((eCons (eVar 1) (eNil))))))) [3])))))
def m__law_letters : List D → M Vl := bodyM 3 4 b__law_letters
theorem s__law_letters {k : Kx} (E : XK) : SS k E (t__law_letters k E) b__law_letters := (ss_ret (se_join (se_str (by decide +kernel)) (se_lc (si_rng1 (sa_cons se_var sa_nil)) tg_name st_yes (se_call (sa_cons se_var (sa_cons se_var sa_nil))))))
def t__law_text (k : Kx) (E : XK) : TS := (tSeq ((tAsg (tTup ((tCons ((tCall (spM k m__law_signs) [] E ((tCons (tVar 0) (tNil))))) ((tCons ((tOp (qAdd k.K) (tC (.int 1)) ((tCall (spM k m_take) [] E ((tCons (tVar 0) ((tCons (tVar 1) (tNil))))))))) (tNil)))))) (gTL k.K 2 (gCons (gName 2) (gCons (gName 3) gNil))))) ((tSeq ((tIfS ((tTest (tOp (rI0 fun i j => .bl (decide (j < i))) ((tCall (spM k m_take) [] E ((tCons (tVar 0) ((tCons (tC (.int 3)) (tNil))))))) (tC (.int 0))))) ((tRet ((tCall (spM k m__law_letters) [] E ((tCons (tVar 0) ((tCons (tVar 2) ((tCons (tVar 3) (tNil))))))))))) (tNext))) ((tSeq ((tPar 4 5 ((tCons ((tLc ((iRng1 ((tCons (tC (.int 2)) (tNil))))) ((gName 6)) (tYes) ((tCall (spM k m__law_letters) [] L2.E0 ((tCons (tVar 0) ((tCons (tVar 2) ((tCons ((tOp (qAdd k.K) (tC (.int 1)) ((tCall (spM k m_take) [] L2.E0 ((tCons (tVar 0) ((tCons (tC (.int 4)) (tNil))))))))) (tNil))))))))) [6])) ((tCons (tC (.str "")) (tNil))))))) ((tSeq ((tFor ((iRng1 ((tCons (tVar 3) (tNil))))) ((gName 6)) ((tAsg ((tOp (qAdd k.K) (tVar 5) ((tCall (spM k m__law_pick) [] E ((tCons (tVar 0) ((tCons (tVar 4) (tNil))))))))) (gName 5))))) ((tRet ((L2.tSl (qSl k.K) (tVar 5) (tNoPart) ((tPart (tVar 3))))))))))))))
-- _law_text: 0 _law_draw 1 _law_most 2 _law_signs_here 3 _law_many 4 _law_some 5 _law_found 6 _law_lap
def b__law_text : Env → M Out := (bSeq ((bSets [2, 3] ((eCons ((eCall m__law_signs ((eCons (eVar 0) (eNil))))) ((eCons ((eOp addD (eC (.int 1)) ((eCall m_take ((eCons (eVar 0) ((eCons (eVar 1) (eNil))))))))) (eNil))))))) ((bSeq ((bIf ((eB (eOp gtD ((eCall m_take ((eCons (eVar 0) ((eCons (eC (.int 3)) (eNil))))))) (eC (.int 0))))) ((bFrz [2] ((bRet ((eCall m__law_letters ((eCons (eVar 0) ((eCons (eVar 2) ((eCons (eVar 3) (eNil))))))))))))) (bNext))) ((bSeq ((bFrz [2] ((bSets [4, 5] ((eCons ((eLc ((eRng rngD1 ((eCons (eC (.int 2)) (eNil))))) ((eTgN 6)) (eYes) ((eCall m__law_letters ((eCons (eVar 0) ((eCons (eVar 2) ((eCons ((eOp addD (eC (.int 1)) ((eCall m_take ((eCons (eVar 0) ((eCons (eC (.int 4)) (eNil))))))))) (eNil))))))))) [6])) ((eCons (eC (.str [])) (eNil))))))))) ((bSeq ((bFor ((eRng rngD1 ((eCons (eVar 3) (eNil))))) ((eTgN 6)) ((bFrz [4] ((bSet 5 ((eOp addD (eVar 5) ((eCall m__law_pick ((eCons (eVar 0) ((eCons (eVar 4) (eNil))))))))))))))) ((bRet ((eSl (eVar 5) (eNo) ((ePart (eVar 3))))))))))))))
def m__law_text : List D → M Vl := bodyM 2 7 b__law_text
theorem s__law_text {k : Kx} (E : XK) : SS k E (t__law_text k E) b__law_text := (ss_seq (ss_parT (sao_cons (se_call (sa_cons se_var sa_nil)) (sao_cons (se_op os_add se_int (se_call (sa_cons se_var (sa_cons se_var sa_nil)))) sao_nil))) (ss_seq (ss_if (st_test (se_op os_gt (se_call (sa_cons se_var (sa_cons se_int sa_nil))) se_int)) (ss_frz (ss_ret (se_call (sa_cons se_var (sa_cons se_var (sa_cons se_var sa_nil)))))) ss_next) (ss_seq (ss_frz (ss_par (sao_cons (se_lc (si_rng1 (sa_cons se_int sa_nil)) tg_name st_yes (se_call (sa_cons se_var (sa_cons se_var (sa_cons (se_op os_add se_int (se_call (sa_cons se_var (sa_cons se_int sa_nil)))) sa_nil))))) (sao_cons (se_str (by decide +kernel)) sao_nil)))) (ss_seq (ss_for (si_rng1 (sa_cons se_var sa_nil)) tg_name (ss_frz (ss_set (se_op os_add se_var (se_call (sa_cons se_var (sa_cons se_var sa_nil))))))) (ss_ret (se_sl se_var so_no (so_part se_var)))))))
def t__law_counted (k : Kx) (E : XK) : TS := (tSeq ((tAsg (tDNewK) (gName 1))) ((tSeq ((tFor ((iAnyD k.K ((tCB (qSorted k.K) ((tCons (tVar 0) (tNil))))))) ((gName 2)) ((sDPut (tVar 1) (tVar 2) ((tOp (qAdd k.K) ((tDGet2 (tVar 1) (tVar 2) (tC (.int 0)))) (tC (.int 1)))))))) ((tRet (tVar 1))))))
-- _law_counted: 0 _law_some 1 _law_found 2 _law_one
def b__law_counted : Env → M Out := (bSeq ((bSet 1 (eDNew))) ((bSeq ((bFor ((eItA ((eCOV sortedD ((eCons (eVar 0) (eNil))))))) ((eTgN 2)) ((bDPut 1 (eVar 2) ((eOp addD ((eDGet2 (eVar 1) (eVar 2) (eC (.int 0)))) (eC (.int 1)))))))) ((bRet (eVar 1))))))
def m__law_counted : List D → M Vl := bodyM 1 3 b__law_counted
theorem s__law_counted {k : Kx} (E : XK) : SS k E (t__law_counted k E) b__law_counted := (ss_seq (ss_set se_dnew) (ss_seq (ss_for (si_anyD (se_cov co_sorted (sa_cons se_var sa_nil))) tg_name (ss_dput se_var (se_op os_add (se_dget2 se_var se_var se_int) se_int))) (ss_ret se_var)))
def t__law_strands_right (k : Kx) (E : XK) : TS := (tSeq ((tPar 2 3 ((tCons ((tCall (spM k m_other_strand) [] E ((tCons (tVar 0) (tNil))))) ((tCons ((tCall (spM k m_other_strand) [] E ((tCons (tVar 1) (tNil))))) (tNil))))))) ((tSeq ((tIfS ((tOr ((tTest (tOp (qNe k.K) ((tCall (spM k m_other_strand) [] E ((tCons (tVar 2) (tNil))))) (tVar 0)))) ((tOr ((tNot ((tB ((tCall (spM k m_is_word) [] E ((tCons (tVar 2) (tNil))))))))) ((tTest (tOp (qNe k.K) ((tCall (spM k m_borders) [] E ((tCons (tVar 2) (tNil))))) ((tCall (spM k m_borders) [] E ((tCons (tVar 0) (tNil)))))))))))) ((tRet (tC (.bl false)))) (tNext))) ((tSeq ((tAsg ((tCB (rRevL k.K) (tCons ((tLc ((iAnyD k.K ((tCall (spM k m_occurrences) [] E ((tCons (tVar 0) ((tCons (tVar 1) (tNil))))))))) ((gName 5)) (tYes) ((tOp (rI0 fun i j => .int (i - j)) ((tOp (rI0 fun i j => .int (i - j)) ((tCB (qLen k.K) ((tCons (tVar 0) (tNil))))) ((tCB (qLen k.K) ((tCons (tVar 1) (tNil))))))) (tVar 5))) [5])) tNil))) (gName 4))) ((tSeq ((tIfS ((tOr ((tTest (tOp (qNe k.K) ((tCall (spM k m_occurrences) [] E ((tCons (tVar 2) ((tCons (tVar 3) (tNil))))))) (tVar 4)))) ((tTest (tOp (qNe k.K) ((tCall (spM k m_root) [] E ((tCons (tVar 2) (tNil))))) ((tTup ((tCons ((tCall (spM k m_other_strand) [] E ((tCons ((tOp (qIxA k.K) ((tCall (spM k m_root) [] E ((tCons (tVar 0) (tNil))))) (tC (.int 0)))) (tNil))))) ((tCons ((tOp (qIxA k.K) ((tCall (spM k m_root) [] E ((tCons (tVar 0) (tNil))))) (tC (.int 1)))) (tNil)))))))))))) ((tRet (tC (.bl false)))) (tNext))) ((tSeq ((tFor ((iRng2 ((tCons (tC (.int 1)) ((tCons ((tOp (qAdd k.K) ((tCB (rMin2) ((tCons ((tCB (qLen k.K) ((tCons (tVar 0) (tNil))))) ((tCons (tC (.int 5)) (tNil))))))) (tC (.int 1)))) (tNil))))))) ((gName 6)) ((tSeq ((tAsg (tTup ((tCons ((tCall (spM k m_pieces) [] E ((tCons (tVar 0) ((tCons (tVar 6) (tNil))))))) ((tCons ((tCall (spM k m_pieces) [] E ((tCons (tVar 2) ((tCons (tVar 6) (tNil))))))) (tNil)))))) (gTL k.K 2 (gCons (gName 7) (gCons (gName 8) gNil))))) ((tSeq ((tIfS ((tTest (tOp (qNe k.K) ((tCB (rDictP k.K) (tCons ((tLc ((iAnyD k.K (tVar 7))) ((gName 9)) (tYes) ((tTup ((tCons ((tCall (spM k m_other_strand) [] L2.E0 ((tCons (tVar 9) (tNil))))) ((tCons ((tOp (qIxA k.K) (tVar 7) (tVar 9))) (tNil))))))) [9])) tNil))) (tVar 8)))) ((tRet (tC (.bl false)))) (tNext))) ((tIfS ((tTest (tOp (qNe k.K) ((tCB (rSum k.K) ((tCons ((tLc ((iAnyD k.K (tVar 7))) ((gName 9)) (tYes) ((tOp (qIxA k.K) (tVar 7) (tVar 9))) [9])) (tNil))))) ((tOp (rI0 fun i j => .int (i - j)) ((tOp (qAdd k.K) ((tCB (qLen k.K) ((tCons (tVar 0) (tNil))))) (tC (.int 1)))) (tVar 6)))))) ((tRet (tC (.bl false)))) (tNext))))))))) ((tRet (tC (.bl true)))))))))))))
-- _law_strands_right: 0 _law_text_here 1 _law_part 2 _law_back 3 _law_mate 4 _law_mirrored 5 _law_at 6 _law_width 7 _law_told 8 _law_far 9 _law_one_here
def b__law_strands_right_1 : Env → M Out := (bSeq ((bFrz [2] ((bSets [7, 8] ((eCons ((eCall m_pieces ((eCons (eVar 0) ((eCons (eVar 6) (eNil))))))) ((eCons ((eCall m_pieces ((eCons (eVar 2) ((eCons (eVar 6) (eNil))))))) (eNil))))))))) ((bSeq ((bFrz [7, 8] ((bIf ((eB (eOp neB ((eCOV dictPD (eCons ((eLc ((eItA (eVar 7))) ((eTgN 9)) (eYes) ((eTup ((eCons ((eCall m_other_strand ((eCons (eVar 9) (eNil))))) ((eCons ((eIxA (eVar 7) (eVar 9))) (eNil))))))) [9])) eNil))) (eVar 8)))) ((bRet (eC (.bl false)))) (bNext))))) ((bFrz [7] ((bIf ((eB (eOp neB ((eCB sumD ((eCons ((eLc ((eItA (eVar 7))) ((eTgN 9)) (eYes) ((eIxA (eVar 7) (eVar 9))) [9])) (eNil))))) ((eOp subD ((eOp addD ((eCB lenD ((eCons (eVar 0) (eNil))))) (eC (.int 1)))) (eVar 6)))))) ((bRet (eC (.bl false)))) (bNext))))))))
def b__law_strands_right : Env → M Out := (bSeq ((bSets [2, 3] ((eCons ((eCall m_other_strand ((eCons (eVar 0) (eNil))))) ((eCons ((eCall m_other_strand ((eCons (eVar 1) (eNil))))) (eNil))))))) ((bSeq ((bFrz [2] ((bIf ((eOr ((eB (eOp neB ((eCall m_other_strand ((eCons (eVar 2) (eNil))))) (eVar 0)))) ((eOr ((eNot ((eB ((eCall m_is_word ((eCons (eVar 2) (eNil))))))))) ((eB (eOp neB ((eCall m_borders ((eCons (eVar 2) (eNil))))) ((eCall m_borders ((eCons (eVar 0) (eNil)))))))))))) ((bRet (eC (.bl false)))) (bNext))))) ((bSeq ((bSet 4 ((eCOV revLD (eCons ((eLc ((eItA ((eCall m_occurrences ((eCons (eVar 0) ((eCons (eVar 1) (eNil))))))))) ((eTgN 5)) (eYes) ((eOp subD ((eOp subD ((eCB lenD ((eCons (eVar 0) (eNil))))) ((eCB lenD ((eCons (eVar 1) (eNil))))))) (eVar 5))) [5])) eNil))))) ((bSeq ((bFrz [2, 3] ((bIf ((eOr ((eB (eOp neB ((eCall m_occurrences ((eCons (eVar 2) ((eCons (eVar 3) (eNil))))))) (eVar 4)))) ((eB (eOp neB ((eCall m_root ((eCons (eVar 2) (eNil))))) ((eTup ((eCons ((eCall m_other_strand ((eCons ((eIxA ((eCall m_root ((eCons (eVar 0) (eNil))))) (eC (.int 0)))) (eNil))))) ((eCons ((eIxA ((eCall m_root ((eCons (eVar 0) (eNil))))) (eC (.int 1)))) (eNil)))))))))))) ((bRet (eC (.bl false)))) (bNext))))) ((bSeq ((bFor ((eRng rngD2 ((eCons (eC (.int 1)) ((eCons ((eOp addD ((eCB minD2 ((eCons ((eCB lenD ((eCons (eVar 0) (eNil))))) ((eCons (eC (.int 5)) (eNil))))))) (eC (.int 1)))) (eNil))))))) ((eTgN 6)) (b__law_strands_right_1))) ((bRet (eC (.bl true)))))))))))))
def m__law_strands_right : List D → M Vl := bodyM 2 10 b__law_strands_right
theorem s__law_strands_right {k : Kx} (E : XK) : SS k E (t__law_strands_right k E) b__law_strands_right := (ss_seq (ss_par (sao_cons (se_call (sa_cons se_var sa_nil)) (sao_cons (se_call (sa_cons se_var sa_nil)) sao_nil))) (ss_seq (ss_frz (ss_if (st_or (st_test (se_op os_ne (se_call (sa_cons se_var sa_nil)) se_var)) (st_or (st_not (st_b (se_call (sa_cons se_var sa_nil)))) (st_test (se_op os_ne (se_call (sa_cons se_var sa_nil)) (se_call (sa_cons se_var sa_nil)))))) (ss_ret se_bl) ss_next)) (ss_seq (ss_set (se_cov co_revL (sa_cons (se_lc (si_anyD (se_call (sa_cons se_var (sa_cons se_var sa_nil)))) tg_name st_yes (se_op os_sub (se_op os_sub (se_cb cs_len (sa_cons se_var sa_nil)) (se_cb cs_len (sa_cons se_var sa_nil))) se_var)) sa_nil))) (ss_seq (ss_frz (ss_if (st_or (st_test (se_op os_ne (se_call (sa_cons se_var (sa_cons se_var sa_nil))) se_var)) (st_test (se_op os_ne (se_call (sa_cons se_var sa_nil)) (se_tup (sa_cons (se_call (sa_cons (se_ixA (se_call (sa_cons se_var sa_nil)) se_int) sa_nil)) (sa_cons (se_ixA (se_call (sa_cons se_var sa_nil)) se_int) sa_nil)))))) (ss_ret se_bl) ss_next)) (ss_seq (ss_for (si_rng2 (sa_cons se_int (sa_cons (se_op os_add (se_cb cs_min2 (sa_cons (se_cb cs_len (sa_cons se_var sa_nil)) (sa_cons se_int sa_nil))) se_int) sa_nil))) tg_name (ss_seq (ss_frz (ss_parT (sao_cons (se_call (sa_cons se_var (sa_cons se_var sa_nil))) (sao_cons (se_call (sa_cons se_var (sa_cons se_var sa_nil))) sao_nil)))) (ss_seq (ss_frz (ss_if (st_test (se_op os_ne (se_cov co_dictP (sa_cons (se_lc (si_anyD se_var) tg_name st_yes (se_tup (sa_cons (se_call (sa_cons se_var sa_nil)) (sa_cons (se_ixA se_var se_var) sa_nil)))) sa_nil)) se_var)) (ss_ret se_bl) ss_next)) (ss_frz (ss_if (st_test (se_op os_ne (se_cb cs_sum (sa_cons (se_lc (si_anyD se_var) tg_name st_yes (se_ixA se_var se_var)) sa_nil)) (se_op os_sub (se_op os_add (se_cb cs_len (sa_cons se_var sa_nil)) se_int) se_var))) (ss_ret se_bl) ss_next))))) (ss_ret se_bl))))))
def t__law_rings_right (k : Kx) (E : XK) : TS := (tSeq ((tAsg (tLc ((iRng1 ((tCons ((tCB (qLen k.K) ((tCons (tVar 0) (tNil))))) (tNil))))) ((gName 4)) (tYes) ((tCall (spM k m_turn) [] L2.E0 ((tCons (tVar 0) ((tCons (tVar 4) (tNil))))))) [4]) (gName 3))) ((tSeq ((tAsg ((tCall (spM k m_root) [] E ((tCons (tVar 0) (tNil))))) (gTL k.K 2 (gCons (gName 5) (gCons (gName 6) gNil))))) ((tSeq ((tIfS ((tOr ((tTest (tOp (qNe k.K) ((tCB (rLenSetT k.K) (tCons (tVar 3) tNil))) ((tCB (qLen k.K) ((tCons (tVar 5) (tNil)))))))) ((tOr ((tTest (tOp (qNe k.K) ((tOp (qMul) (tVar 5) (tVar 6))) (tVar 0)))) ((tTest (tOp (qNe k.K) ((tCall (spM k m_root) [] E ((tCons (tVar 5) (tNil))))) ((tTup ((tCons (tVar 5) ((tCons (tC (.int 1)) (tNil)))))))))))))) ((tRet (tC (.bl false)))) (tNext))) ((tSeq ((tIfS ((tOr ((tB (tSetNe k.K ((tLc ((iAnyD k.K (tVar 3))) ((gName 7)) (tYes) ((tCall (spM k m_ring_of) [] L2.E0 ((tCons (tVar 7) (tNil))))) [7])) ((tCall (spM k m_ring_of) [] E ((tCons (tVar 0) (tNil)))))))) ((tTest (tOp (qNotInA k.K) ((tCall (spM k m_ring_of) [] E ((tCons (tVar 0) (tNil))))) (tVar 3)))))) ((tRet (tC (.bl false)))) (tNext))) ((tSeq ((tAsg ((tCall (spM k m_ring_of) [] E ((tCons (tVar 0) (tNil))))) (gName 8))) ((tSeq ((tIfS ((tOr ((tTest (tOp (qNe k.K) ((tCall (spM k m_ring_strand) [] E ((tCons (tVar 8) (tNil))))) ((tCall (spM k m_ring_of) [] E ((tCons ((tCall (spM k m_other_strand) [] E ((tCons (tVar 0) (tNil))))) (tNil)))))))) ((tTest (tOp (qNe k.K) ((tCall (spM k m_ring_strand) [] E ((tCons ((tCall (spM k m_ring_strand) [] E ((tCons (tVar 8) (tNil))))) (tNil))))) (tVar 8)))))) ((tRet (tC (.bl false)))) (tNext))) ((tSeq ((tPar 9 10 ((tCons ((tCall (spM k m_ring_occurrences) [] E ((tCons (tVar 8) ((tCons (tVar 1) (tNil))))))) ((tCons ((tCall (spM k m_ring_occurrences) [] E ((tCons ((tCall (spM k m_ring_of) [] E ((tCons ((tOp (qMul) (tVar 0) (tVar 2))) (tNil))))) ((tCons (tVar 1) (tNil))))))) (tNil))))))) ((tSeq ((tIfS ((tOr ((tTest (tOp (qNe k.K) ((tCB (qLen k.K) ((tCons (tVar 10) (tNil))))) ((tOp (qMul) (tVar 2) ((tCB (qLen k.K) ((tCons (tVar 9) (tNil)))))))))) ((tTest (tOp (qNe k.K) ((tCall (spM k m_ring_of) [] E ((tCons ((tOp (qMul) (tVar 0) (tVar 2))) (tNil))))) ((tOp (qMul) (tVar 8) (tVar 2)))))))) ((tRet (tC (.bl false)))) (tNext))) ((tSeq ((tFor ((iRng2 ((tCons (tC (.int 1)) ((tCons ((tOp (qAdd k.K) ((tCB (qLen k.K) ((tCons (tVar 0) (tNil))))) (tC (.int 2)))) (tNil))))))) ((gName 11)) ((tSeq ((tAsg (tLc ((iRng1 ((tCons ((tCB (qLen k.K) ((tCons (tVar 0) (tNil))))) (tNil))))) ((gName 4)) (tYes) ((L2.tSl (qSl k.K) ((tOp (qMul) (tVar 0) ((tOp (qAdd k.K) (tVar 11) (tC (.int 1)))))) ((tPart (tVar 4))) ((tPart ((tOp (qAdd k.K) (tVar 4) (tVar 11))))))) [4]) (gName 12))) ((tIfS ((tTest (tOp (qNe k.K) ((tCall (spM k m_ring_pieces) [] E ((tCons (tVar 8) ((tCons (tVar 11) (tNil))))))) ((tCall (spM k m__law_counted) [] E ((tCons (tVar 12) (tNil)))))))) ((tRet (tC (.bl false)))) (tNext))))))) ((tRet (tC (.bl true)))))))))))))))))))))
-- _law_rings_right: 0 _law_text_here 1 _law_part 2 _law_many 3 _law_some 4 _law_at 5 _law_short 6 _law_often 7 _law_each 8 _law_ring_here 9 _law_told 10 _law_more 11 _law_width 12 _law_over
def b__law_rings_right_1 : Env → M Out := (bSeq ((bSet 12 (eLc ((eRng rngD1 ((eCons ((eCB lenD ((eCons (eVar 0) (eNil))))) (eNil))))) ((eTgN 4)) (eYes) ((eSl ((eOp mulD (eVar 0) ((eOp addD (eVar 11) (eC (.int 1)))))) ((ePart (eVar 4))) ((ePart ((eOp addD (eVar 4) (eVar 11))))))) [4]))) ((bFrz [8, 12] ((bIf ((eB (eOp neB ((eCall m_ring_pieces ((eCons (eVar 8) ((eCons (eVar 11) (eNil))))))) ((eCall m__law_counted ((eCons (eVar 12) (eNil)))))))) ((bRet (eC (.bl false)))) (bNext))))))
def b__law_rings_right : Env → M Out := (bSeq ((bSet 3 (eLc ((eRng rngD1 ((eCons ((eCB lenD ((eCons (eVar 0) (eNil))))) (eNil))))) ((eTgN 4)) (eYes) ((eCall m_turn ((eCons (eVar 0) ((eCons (eVar 4) (eNil))))))) [4]))) ((bSeq ((bAsg (eTgT 2 (eTgCons (eTgN 5) (eTgCons (eTgN 6) eTgNil))) ((eCall m_root ((eCons (eVar 0) (eNil))))))) ((bSeq ((bFrz [3] ((bIf ((eOr ((eB (eOp neB ((eCB lenSetD (eCons (eVar 3) eNil))) ((eCB lenD ((eCons (eVar 5) (eNil)))))))) ((eOr ((eB (eOp neB ((eOp mulD (eVar 5) (eVar 6))) (eVar 0)))) ((eB (eOp neB ((eCall m_root ((eCons (eVar 5) (eNil))))) ((eTup ((eCons (eVar 5) ((eCons (eC (.int 1)) (eNil)))))))))))))) ((bRet (eC (.bl false)))) (bNext))))) ((bSeq ((bFrz [3] ((bIf ((eOr ((eB (eSetNe ((eLc ((eItA (eVar 3))) ((eTgN 7)) (eYes) ((eCall m_ring_of ((eCons (eVar 7) (eNil))))) [7])) ((eCall m_ring_of ((eCons (eVar 0) (eNil)))))))) ((eB (eOp notInAB ((eCall m_ring_of ((eCons (eVar 0) (eNil))))) (eVar 3)))))) ((bRet (eC (.bl false)))) (bNext))))) ((bSeq ((bSet 8 ((eCall m_ring_of ((eCons (eVar 0) (eNil))))))) ((bSeq ((bFrz [8] ((bIf ((eOr ((eB (eOp neB ((eCall m_ring_strand ((eCons (eVar 8) (eNil))))) ((eCall m_ring_of ((eCons ((eCall m_other_strand ((eCons (eVar 0) (eNil))))) (eNil)))))))) ((eB (eOp neB ((eCall m_ring_strand ((eCons ((eCall m_ring_strand ((eCons (eVar 8) (eNil))))) (eNil))))) (eVar 8)))))) ((bRet (eC (.bl false)))) (bNext))))) ((bSeq ((bFrz [8] ((bSets [9, 10] ((eCons ((eCall m_ring_occurrences ((eCons (eVar 8) ((eCons (eVar 1) (eNil))))))) ((eCons ((eCall m_ring_occurrences ((eCons ((eCall m_ring_of ((eCons ((eOp mulD (eVar 0) (eVar 2))) (eNil))))) ((eCons (eVar 1) (eNil))))))) (eNil))))))))) ((bSeq ((bFrz [8, 9, 10] ((bIf ((eOr ((eB (eOp neB ((eCB lenD ((eCons (eVar 10) (eNil))))) ((eOp mulD (eVar 2) ((eCB lenD ((eCons (eVar 9) (eNil)))))))))) ((eB (eOp neB ((eCall m_ring_of ((eCons ((eOp mulD (eVar 0) (eVar 2))) (eNil))))) ((eOp mulD (eVar 8) (eVar 2)))))))) ((bRet (eC (.bl false)))) (bNext))))) ((bSeq ((bFor ((eRng rngD2 ((eCons (eC (.int 1)) ((eCons ((eOp addD ((eCB lenD ((eCons (eVar 0) (eNil))))) (eC (.int 2)))) (eNil))))))) ((eTgN 11)) (b__law_rings_right_1))) ((bRet (eC (.bl true)))))))))))))))))))))
def m__law_rings_right : List D → M Vl := bodyM 3 13 b__law_rings_right
theorem s__law_rings_right {k : Kx} (E : XK) : SS k E (t__law_rings_right k E) b__law_rings_right := (ss_seq (ss_set (se_lc (si_rng1 (sa_cons (se_cb cs_len (sa_cons se_var sa_nil)) sa_nil)) tg_name st_yes (se_call (sa_cons se_var (sa_cons se_var sa_nil))))) (ss_seq (ss_asg (tg_tl (tg_cons tg_name (tg_cons tg_name tg_nil))) (se_call (sa_cons se_var sa_nil))) (ss_seq (ss_frz (ss_if (st_or (st_test (se_op os_ne (se_cb cs_lenSet (sa_cons se_var sa_nil)) (se_cb cs_len (sa_cons se_var sa_nil)))) (st_or (st_test (se_op os_ne (se_op os_mul se_var se_var) se_var)) (st_test (se_op os_ne (se_call (sa_cons se_var sa_nil)) (se_tup (sa_cons se_var (sa_cons se_int sa_nil))))))) (ss_ret se_bl) ss_next)) (ss_seq (ss_frz (ss_if (st_or (st_b (se_setNe (se_lc (si_anyD se_var) tg_name st_yes (se_call (sa_cons se_var sa_nil))) (se_call (sa_cons se_var sa_nil)))) (st_test (se_op os_notinA (se_call (sa_cons se_var sa_nil)) se_var))) (ss_ret se_bl) ss_next)) (ss_seq (ss_set (se_call (sa_cons se_var sa_nil))) (ss_seq (ss_frz (ss_if (st_or (st_test (se_op os_ne (se_call (sa_cons se_var sa_nil)) (se_call (sa_cons (se_call (sa_cons se_var sa_nil)) sa_nil)))) (st_test (se_op os_ne (se_call (sa_cons (se_call (sa_cons se_var sa_nil)) sa_nil)) se_var))) (ss_ret se_bl) ss_next)) (ss_seq (ss_frz (ss_par (sao_cons (se_call (sa_cons se_var (sa_cons se_var sa_nil))) (sao_cons (se_call (sa_cons (se_call (sa_cons (se_op os_mul se_var se_var) sa_nil)) (sa_cons se_var sa_nil))) sao_nil)))) (ss_seq (ss_frz (ss_if (st_or (st_test (se_op os_ne (se_cb cs_len (sa_cons se_var sa_nil)) (se_op os_mul se_var (se_cb cs_len (sa_cons se_var sa_nil))))) (st_test (se_op os_ne (se_call (sa_cons (se_op os_mul se_var se_var) sa_nil)) (se_op os_mul se_var se_var)))) (ss_ret se_bl) ss_next)) (ss_seq (ss_for (si_rng2 (sa_cons se_int (sa_cons (se_op os_add (se_cb cs_len (sa_cons se_var sa_nil)) se_int) sa_nil))) tg_name (ss_seq (ss_set (se_lc (si_rng1 (sa_cons (se_cb cs_len (sa_cons se_var sa_nil)) sa_nil)) tg_name st_yes (se_sl (se_op os_mul se_var (se_op os_add se_var se_int)) (so_part se_var) (so_part (se_op os_add se_var se_var))))) (ss_frz (ss_if (st_test (se_op os_ne (se_call (sa_cons se_var (sa_cons se_var sa_nil))) (se_call (sa_cons se_var sa_nil)))) (ss_ret se_bl) ss_next)))) (ss_ret se_bl))))))))))
def t_law (k : Kx) (E : XK) : TS := (tSeq ((tAsg ((tCall (spM k m_begun) [] E ((tCons (tVar 0) (tNil))))) (gName 1))) ((tSeq ((tFor ((iRng1 ((tCons ((tOp (qAdd k.K) (tC (.int 3)) ((tCB (rMin2) ((tCons ((tCB (qLen k.K) ((tCons (tVar 0) (tNil))))) ((tCons (tC (.int 10)) (tNil))))))))) (tNil))))) ((gName 2)) ((tSeq ((tAsg ((tOp (qMul) ((tCall (spM k m__law_text) [] E ((tCons (tVar 1) ((tCons (tC (.int 10)) (tNil))))))) ((tCall (spM k m__law_pick) [] E ((tCons (tVar 1) ((tCons ((tLst ((tCons (tC (.int 1)) ((tCons (tC (.int 1)) ((tCons (tC (.int 2)) (tNil))))))))) (tNil))))))))) (gName 3))) ((tSeq ((tAsg ((tCall (spM k m_take) [] E ((tCons (tVar 1) ((tCons ((tCB (qLen k.K) ((tCons (tVar 3) (tNil))))) (tNil))))))) (gName 4))) ((tSeq ((tAsg ((tCall (spM k m__law_pick) [] E ((tCons (tVar 1) ((tCons ((tLst ((tCons ((L2.tSl (qSl k.K) (tVar 3) ((tPart (tVar 4))) ((tPart ((tOp (qAdd k.K) ((tOp (qAdd k.K) (tVar 4) (tC (.int 1)))) ((tCall (spM k m_take) [] E ((tCons (tVar 1) ((tCons (tC (.int 5)) (tNil))))))))))))) ((tCons ((tCall (spM k m__law_text) [] E ((tCons (tVar 1) ((tCons (tC (.int 3)) (tNil))))))) (tNil))))))) (tNil))))))) (gName 5))) ((tSeq ((tIfS ((tOr ((tNot ((tB ((tCall (spM k m__law_strands_right) [] E ((tCons (tVar 3) ((tCons (tVar 5) (tNil))))))))))) ((tNot ((tB ((tCall (spM k m__law_rings_right) [] E ((tCons (tVar 3) ((tCons (tVar 5) ((tCons ((tOp (qAdd k.K) (tC (.int 2)) ((tCall (spM k m_take) [] E ((tCons (tVar 1) ((tCons (tC (.int 2)) (tNil))))))))) (tNil))))))))))))))) ((tRet (tC (.bl false)))) (tNext))) ((tSeq ((tFor ((iRng2 ((tCons (tC (.int 1)) ((tCons ((tCB (qLen k.K) ((tCons (tVar 3) (tNil))))) (tNil))))))) ((gName 6)) ((tSeq ((tAsg ((tOp (qEq k.K) ((L2.tSl (qSl k.K) (tVar 3) ((tPart (tVar 6))) (tNoPart))) ((L2.tSl (qSl k.K) (tVar 3) (tNoPart) ((tPart ((tOp (rI0 fun i j => .int (i - j)) ((tCB (qLen k.K) ((tCons (tVar 3) (tNil))))) (tVar 6))))))))) (gName 7))) ((tIfS ((tTest (tOp (qNe k.K) ((tOp (qInA k.K) ((tOp (rI0 fun i j => .int (i - j)) ((tCB (qLen k.K) ((tCons (tVar 3) (tNil))))) (tVar 6))) ((tCall (spM k m_borders) [] E ((tCons (tVar 3) (tNil))))))) (tVar 7)))) ((tRet (tC (.bl false)))) (tNext))))))) ((tIfS ((tTest (tOp (qNe k.K) ((tCall (spM k m_longest_common) [] E ((tCons (tVar 3) ((tCons ((tCall (spM k m_other_strand) [] E ((tCons ((tCall (spM k m_other_strand) [] E ((tCons (tVar 3) (tNil))))) (tNil))))) (tNil))))))) ((tLst ((tCons (tVar 3) (tNil)))))))) ((tRet (tC (.bl false)))) (tNext))))))))))))))) ((tRet (tC (.bl true)))))))
-- law: 0 _law_script 1 _law_draw 2 _law_lap 3 _law_text_here 4 _law_low 5 _law_part 6 _law_step 7 _law_is_same
def b_law_1 : Env → M Out := (bSeq ((bSet 7 ((eOp eqB ((eSl (eVar 3) ((ePart (eVar 6))) (eNo))) ((eSl (eVar 3) (eNo) ((ePart ((eOp subD ((eCB lenD ((eCons (eVar 3) (eNil))))) (eVar 6))))))))))) ((bIf ((eB (eOp neB ((eOp inAB ((eOp subD ((eCB lenD ((eCons (eVar 3) (eNil))))) (eVar 6))) ((eCall m_borders ((eCons (eVar 3) (eNil))))))) (eVar 7)))) ((bRet (eC (.bl false)))) (bNext))))
def b_law_2 : Env → M Out := (bSeq ((bFrz [1] ((bSet 3 ((eOp mulD ((eCall m__law_text ((eCons (eVar 1) ((eCons (eC (.int 10)) (eNil))))))) ((eCall m__law_pick ((eCons (eVar 1) ((eCons ((eLst ((eCons (eC (.int 1)) ((eCons (eC (.int 1)) ((eCons (eC (.int 2)) (eNil))))))))) (eNil))))))))))))) ((bSeq ((bFrz [1] ((bSet 4 ((eCall m_take ((eCons (eVar 1) ((eCons ((eCB lenD ((eCons (eVar 3) (eNil))))) (eNil))))))))))) ((bSeq ((bFrz [1, 4] ((bSet 5 ((eCall m__law_pick ((eCons (eVar 1) ((eCons ((eLst ((eCons ((eSl (eVar 3) ((ePart (eVar 4))) ((ePart ((eOp addD ((eOp addD (eVar 4) (eC (.int 1)))) ((eCall m_take ((eCons (eVar 1) ((eCons (eC (.int 5)) (eNil))))))))))))) ((eCons ((eCall m__law_text ((eCons (eVar 1) ((eCons (eC (.int 3)) (eNil))))))) (eNil))))))) (eNil))))))))))) ((bSeq ((bFrz [1, 5] ((bIf ((eOr ((eNot ((eB ((eCall m__law_strands_right ((eCons (eVar 3) ((eCons (eVar 5) (eNil))))))))))) ((eNot ((eB ((eCall m__law_rings_right ((eCons (eVar 3) ((eCons (eVar 5) ((eCons ((eOp addD (eC (.int 2)) ((eCall m_take ((eCons (eVar 1) ((eCons (eC (.int 2)) (eNil))))))))) (eNil))))))))))))))) ((bRet (eC (.bl false)))) (bNext))))) ((bSeq ((bFor ((eRng rngD2 ((eCons (eC (.int 1)) ((eCons ((eCB lenD ((eCons (eVar 3) (eNil))))) (eNil))))))) ((eTgN 6)) (b_law_1))) ((bIf ((eB (eOp neB ((eCall m_longest_common ((eCons (eVar 3) ((eCons ((eCall m_other_strand ((eCons ((eCall m_other_strand ((eCons (eVar 3) (eNil))))) (eNil))))) (eNil))))))) ((eLst ((eCons (eVar 3) (eNil)))))))) ((bRet (eC (.bl false)))) (bNext))))))))))))
def b_law : Env → M Out := (bSeq ((bSet 1 ((eCall m_begun ((eCons (eVar 0) (eNil))))))) ((bSeq ((bFor ((eRng rngD1 ((eCons ((eOp addD (eC (.int 3)) ((eCB minD2 ((eCons ((eCB lenD ((eCons (eVar 0) (eNil))))) ((eCons (eC (.int 10)) (eNil))))))))) (eNil))))) ((eTgN 2)) (b_law_2))) ((bRet (eC (.bl true)))))))
def m_law : List D → M Vl := bodyM 1 8 b_law
theorem s_law {k : Kx} (E : XK) : SS k E (t_law k E) b_law := (ss_seq (ss_set (se_call (sa_cons se_var sa_nil))) (ss_seq (ss_for (si_rng1 (sa_cons (se_op os_add se_int (se_cb cs_min2 (sa_cons (se_cb cs_len (sa_cons se_var sa_nil)) (sa_cons se_int sa_nil)))) sa_nil)) tg_name (ss_seq (ss_frz (ss_set (se_op os_mul (se_call (sa_cons se_var (sa_cons se_int sa_nil))) (se_call (sa_cons se_var (sa_cons (se_lst (sa_cons se_int (sa_cons se_int (sa_cons se_int sa_nil)))) sa_nil)))))) (ss_seq (ss_frz (ss_set (se_call (sa_cons se_var (sa_cons (se_cb cs_len (sa_cons se_var sa_nil)) sa_nil))))) (ss_seq (ss_frz (ss_set (se_call (sa_cons se_var (sa_cons (se_lst (sa_cons (se_sl se_var (so_part se_var) (so_part (se_op os_add (se_op os_add se_var se_int) (se_call (sa_cons se_var (sa_cons se_int sa_nil)))))) (sa_cons (se_call (sa_cons se_var (sa_cons se_int sa_nil))) sa_nil))) sa_nil))))) (ss_seq (ss_frz (ss_if (st_or (st_not (st_b (se_call (sa_cons se_var (sa_cons se_var sa_nil))))) (st_not (st_b (se_call (sa_cons se_var (sa_cons se_var (sa_cons (se_op os_add se_int (se_call (sa_cons se_var (sa_cons se_int sa_nil)))) sa_nil))))))) (ss_ret se_bl) ss_next)) (ss_seq (ss_for (si_rng2 (sa_cons se_int (sa_cons (se_cb cs_len (sa_cons se_var sa_nil)) sa_nil))) tg_name (ss_seq (ss_set (se_op os_eq (se_sl se_var (so_part se_var) so_no) (se_sl se_var so_no (so_part (se_op os_sub (se_cb cs_len (sa_cons se_var sa_nil)) se_var))))) (ss_if (st_test (se_op os_ne (se_op os_inA (se_op os_sub (se_cb cs_len (sa_cons se_var sa_nil)) se_var) (se_call (sa_cons se_var sa_nil))) se_var)) (ss_ret se_bl) ss_next))) (ss_if (st_test (se_op os_ne (se_call (sa_cons se_var (sa_cons (se_call (sa_cons (se_call (sa_cons se_var sa_nil)) sa_nil)) sa_nil))) (se_lst (sa_cons se_var sa_nil)))) (ss_ret se_bl) ss_next))))))) (ss_ret se_bl)))
end Y

namespace Y
open PySem PySem.Spec PyProof.Rows L2 Z
def lineI (w : List Nat) : Bool := w.all fun c => inS [c] [97, 99, 103, 116]
def wordI (w : List Nat) : Bool := lineI w && decide (0 < w.length)
def turnW (w : List Nat) (i : Int) : List Nat := cutL w (some i) none ++ cutL w none (some i)
theorem minL_mapf {α : Type} (g : α → List Nat) {xs : List α} (h : xs ≠ []) : minL [.lst (xs.map fun x => .str (g x))] = some (.str (minS (xs.map g))) := by
  cases xs with
  | nil => exact absurd rfl h
  | cons x xs =>
    have := strsOf_mapf g (x :: xs)
    simp only [minL, this]
    rfl
theorem rng0_ne {n : Nat} (h : 0 < n) : rng 0 n ≠ [] := by
  cases n with
  | zero => omega
  | succ n => simp [rng, List.range_succ]
def leastW (w : List Nat) : List Nat := minS ((rng 0 w.length).map (turnW w))
def readW (w : List Nat) (a : Int) (n : Nat) : List Nat := (rng 0 n).map fun s => (atI w ((a + s).fmod w.length)).getD 0
theorem flatten_single {α : Type} (g : α → Nat) (xs : List α) : (xs.map fun x => [g x]).flatten = xs.map g := by
  induction xs with
  | nil => rfl
  | cons x xs ih => simp [ih]
theorem atI_mod' {w : List Nat} {i : Int} (h : 0 < w.length) : atI w (i.fmod (w.length : Int)) = some ((atI w (i.fmod (w.length : Int))).getD 0) := by
  have := atI_mod (l := w) (i := i) (by intro e; simp [e] at h)
  cases e : atI w (i.fmod (w.length : Int)) with
  | none => rw [e] at this; cases this
  | some c => rfl
theorem sum_one {α : Type} (xs : List α) (g : α → List Nat) (h : ∀ x, (g x).length = 1) : ((xs.map g).map List.length).sum = xs.length := by
  induction xs with
  | nil => rfl
  | cons x xs ih => simp only [List.map_cons, List.sum_cons, ih, h, List.length_cons]; omega
theorem pys_mapf {α : Type} (f : α → D) (T : α → PyData) (h : ∀ x, py (f x) = some (T x)) : ∀ xs : List α, pys (xs.map f) = some (xs.map T)
  | [] => rfl
  | x :: xs => by simp [pys, h, pys_mapf f T h xs]
theorem eqD_lst {α : Type} [DecidableEq α] {f : α → D} {T : α → PyData} {ok : α → Prop} {n : Nat} (h : ∀ x, py (f x) = some (T x)) (e : Eqt T ok n) (hn : n ≤ 60) {xs ys : List α} (hx : ∀ x ∈ xs, ok x) (hy : ∀ x ∈ ys, ok x) : eqD (.lst (xs.map f)) (.lst (ys.map f)) = some (decide (xs = ys)) := by
  have e2 := eqt_L e
  have p1 : py (.lst (xs.map f)) = some (dL T xs) := by simp [py, pys_mapf f T h, dL]
  have p2 : py (.lst (ys.map f)) = some (dL T ys) := by simp [py, pys_mapf f T h, dL]
  have s1 : SeqAt.shaped (dL T xs) = true := by
    unfold SeqAt.shaped
    rw [e2.lay xs hx]
    have := e2.dep xs
    simp; omega
  have s2 : SeqAt.shaped (dL T ys) = true := by
    unfold SeqAt.shaped
    rw [e2.lay ys hy]
    have := e2.dep ys
    simp; omega
  show (match py (.lst (xs.map f)), py (.lst (ys.map f)) with
    | some p, some q => if SeqAt.shaped p && SeqAt.shaped q then some (PyData.eqv p q) else none
    | _, _ => none) = _
  rw [p1, p2]
  show (if SeqAt.shaped (dL T xs) && SeqAt.shaped (dL T ys) then some (PyData.eqv (dL T xs) (dL T ys)) else none) = _
  rw [s1, s2, e2.eq]
  rfl
theorem eqD_strs {α : Type} {f g : α → List Nat} {xs ys : List α} (hx : ∀ x ∈ xs, okS (f x)) (hy : ∀ x ∈ ys, okS (g x)) : eqD (.lst (xs.map fun x => .str (f x))) (.lst (ys.map fun x => .str (g x))) = some (decide (xs.map f = ys.map g)) := by
  have := eqD_lst (f := D.str) (T := dS) (fun x => rfl) eqt_S (by decide) (xs := xs.map f) (ys := ys.map g) (by simpa using hx) (by simpa using hy)
  simpa [Function.comp_def] using this
theorem eqD_ints {xs ys : List Int} : eqD (.lst (xs.map .int)) (.lst (ys.map .int)) = some (decide (xs = ys)) :=
  eqD_lst (f := D.int) (T := dI) (fun x => rfl) eqt_I (by decide) (fun _ _ => trivial) (fun _ _ => trivial)
def Ac (w : List Nat) : Prop := ∀ c ∈ w, c ∈ acgt
theorem lineI_iff {w : List Nat} : lineI w = true ↔ Ac w := by
  unfold lineI
  rw [List.all_eq_true]
  constructor
  · intro h c hc; have := h c hc; rw [inS_one] at this; exact of_decide_eq_true this
  · intro h c hc; rw [inS_one]; exact decide_eq_true (h c hc)
theorem wordI_iff {w : List Nat} : wordI w = true ↔ Ac w ∧ 0 < w.length := by
  simp only [wordI, Bool.and_eq_true, lineI_iff, decide_eq_true_eq]
theorem Ac.okS {w : List Nat} (h : Ac w) : okS w := fun c hc => by
  have := h c hc
  simp only [acgt, List.mem_cons, List.not_mem_nil, or_false] at this
  omega
theorem cut_from {α : Type} {t : List α} {i : Nat} : cutL t (some (i : Int)) none = t.drop i := by
  unfold cutL
  rw [HT.sIx_none, HT.sIx_nat]
  by_cases h : i ≤ t.length
  · rw [Nat.min_eq_left h]
    exact List.take_of_length_le (by simp)
  · rw [Nat.min_eq_right (by omega), List.drop_of_length_le (i := i) (by omega)]
    simp
theorem cut_to {α : Type} {t : List α} {i : Nat} : cutL t none (some (i : Int)) = t.take i := by
  unfold cutL
  rw [HT.sIx_none, HT.sIx_nat]
  simp only [List.drop_zero, Nat.sub_zero]
  by_cases h : i ≤ t.length
  · rw [Nat.min_eq_left h]
  · rw [Nat.min_eq_right (by omega), List.take_of_length_le (i := i) (by omega), List.take_of_length_le (Nat.le_refl _)]
def turnN (w : List Nat) (k : Nat) : List Nat := w.drop k ++ w.take k
theorem turnW_nat (w : List Nat) (k : Nat) : turnW w (k : Int) = turnN w k := by
  unfold turnW turnN
  rw [cut_from, cut_to]
theorem turnN_len {w : List Nat} {k : Nat} (h : k ≤ w.length) : (turnN w k).length = w.length := by
  simp only [turnN, List.length_append, List.length_drop, List.length_take]
  omega
theorem turnN_ac {w : List Nat} {k : Nat} (h : Ac w) : Ac (turnN w k) := fun c hc => by
  rcases List.mem_append.mp hc with z | z
  · exact h c (List.mem_of_mem_drop z)
  · exact h c (List.mem_of_mem_take z)
theorem turnN_get {w : List Nat} {k j : Nat} (hk : k < w.length) (hj : j < w.length) : (turnN w k)[j]? = w[(k + j) % w.length]? := by
  unfold turnN
  by_cases h : k + j < w.length
  · rw [List.getElem?_append_left (by simp; omega), List.getElem?_drop, Nat.mod_eq_of_lt h]
  · rw [List.getElem?_append_right (by simp; omega), List.length_drop, List.getElem?_take_of_lt (by omega)]
    have : (k + j) % w.length = k + j - w.length := by
      rw [Nat.mod_eq_sub_mod (by omega), Nat.mod_eq_of_lt (by omega)]
    rw [this]
    congr 1
    omega
theorem turnN_turnN {w : List Nat} {k j : Nat} (hk : k < w.length) (hj : j < w.length) : turnN (turnN w k) j = turnN w ((k + j) % w.length) := by
  have hn : 0 < w.length := by omega
  have l1 := turnN_len (w := w) (k := k) (by omega)
  have hm : (k + j) % w.length < w.length := Nat.mod_lt _ hn
  apply List.ext_getElem?
  intro i
  by_cases hi : i < w.length
  · rw [turnN_get (by rw [l1]; exact hj) (by rw [l1]; exact hi), l1, turnN_get hk (Nat.mod_lt _ hn), turnN_get hm hi]
    congr 1
    rw [Nat.add_mod_mod, Nat.mod_add_mod]
    congr 1
    omega
  · rw [List.getElem?_eq_none, List.getElem?_eq_none]
    · rw [turnN_len (by omega)]; omega
    · rw [turnN_len (by rw [l1]; omega), l1]; omega
theorem fold_min : ∀ (xs : List (List Nat)) (x : List Nat), (xs.foldl (fun a y => if y < a then y else a) x ∈ x :: xs) ∧ ∀ y ∈ x :: xs, ¬ y < xs.foldl (fun a y => if y < a then y else a) x
  | [], x => by
    refine ⟨by simp, fun y hy => ?_⟩
    simp only [List.mem_cons, List.not_mem_nil, or_false] at hy
    subst hy
    exact List.lt_irrefl _
  | z :: xs, x => by
    simp only [List.foldl_cons]
    obtain ⟨h1, h2⟩ := fold_min xs (if z < x then z else x)
    by_cases h : z < x
    · simp only [if_pos h] at h1 h2 ⊢
      refine ⟨?_, fun y hy => ?_⟩
      · rcases List.mem_cons.mp h1 with e | e
        · rw [e]; simp
        · exact List.mem_cons_of_mem _ (List.mem_cons_of_mem _ e)
      · rcases List.mem_cons.mp hy with e | e
        · subst e
          intro hlt
          exact h2 z (List.mem_cons_self ..) (List.lt_trans h hlt)
        · exact h2 y e
    · simp only [if_neg h] at h1 h2 ⊢
      refine ⟨?_, fun y hy => ?_⟩
      · rcases List.mem_cons.mp h1 with e | e
        · rw [e]; simp
        · exact List.mem_cons_of_mem _ (List.mem_cons_of_mem _ e)
      · rcases List.mem_cons.mp hy with e | e
        · subst e
          exact h2 _ (List.mem_cons_self ..)
        · rcases List.mem_cons.mp e with e | e
          · subst e
            intro hlt
            have h3 := h2 x (List.mem_cons_self ..)
            exact h3 (List.lt_of_le_of_lt (List.not_lt.mp h) hlt)
          · exact h2 y (List.mem_cons_of_mem _ e)
theorem minS_mem {xs : List (List Nat)} (h : xs ≠ []) : minS xs ∈ xs := by
  cases xs with
  | nil => exact absurd rfl h
  | cons x xs => exact (fold_min xs x).1
theorem minS_le {xs : List (List Nat)} {y : List Nat} (h : y ∈ xs) : ¬ y < minS xs := by
  cases xs with
  | nil => cases h
  | cons x xs => exact (fold_min xs x).2 y h
theorem minS_ext {xs ys : List (List Nat)} (h1 : xs ≠ []) (h2 : ys ≠ []) (h : ∀ z, z ∈ xs ↔ z ∈ ys) : minS xs = minS ys :=
  List.le_antisymm (List.not_lt.mp (minS_le ((h _).mpr (minS_mem h2)))) (List.not_lt.mp (minS_le ((h _).mp (minS_mem h1))))
theorem turns_eq (w : List Nat) : (rng 0 w.length).map (turnW w) = (List.range w.length).map (turnN w) := by
  unfold rng
  rw [List.map_map]
  apply List.map_congr_left
  intro k _
  show turnW w (0 + (k : Int)) = _
  rw [Int.zero_add, turnW_nat]
theorem range_ne {n : Nat} (h : 0 < n) {α : Type} (f : Nat → α) : (List.range n).map f ≠ [] := by
  intro e
  have := congrArg List.length e
  simp at this
  omega
theorem least_mem {w : List Nat} (h : 0 < w.length) : ∃ k, k < w.length ∧ leastW w = turnN w k := by
  unfold leastW
  rw [turns_eq]
  obtain ⟨k, hk, e⟩ := List.mem_map.mp (minS_mem (range_ne h (turnN w)))
  exact ⟨k, List.mem_range.mp hk, e.symm⟩
theorem least_turnN {w : List Nat} {k : Nat} (hk : k < w.length) : leastW (turnN w k) = leastW w := by
  have hn : 0 < w.length := by omega
  unfold leastW
  rw [turns_eq, turns_eq, turnN_len (by omega)]
  refine minS_ext (range_ne hn _) (range_ne hn _) fun z => ?_
  simp only [List.mem_map, List.mem_range]
  constructor
  · rintro ⟨j, hj, rfl⟩
    exact ⟨(k + j) % w.length, Nat.mod_lt _ hn, (turnN_turnN hk hj).symm⟩
  · rintro ⟨j, hj, rfl⟩
    refine ⟨(j + (w.length - k)) % w.length, Nat.mod_lt _ hn, ?_⟩
    rw [turnN_turnN hk (Nat.mod_lt _ hn)]
    congr 1
    rw [Nat.add_mod_mod, show k + (j + (w.length - k)) = j + w.length by omega, Nat.add_mod_right, Nat.mod_eq_of_lt hj]
theorem least_len {w : List Nat} (h : 0 < w.length) : (leastW w).length = w.length := by
  obtain ⟨k, hk, e⟩ := least_mem h
  rw [e, turnN_len (by omega)]
theorem least_ac {w : List Nat} (h : 0 < w.length) (ha : Ac w) : Ac (leastW w) := by
  obtain ⟨k, hk, e⟩ := least_mem h
  rw [e]; exact turnN_ac ha
theorem least_least {w : List Nat} (h : 0 < w.length) : leastW (leastW w) = leastW w := by
  obtain ⟨k, hk, e⟩ := least_mem h
  rw [e, least_turnN hk, e]
section
variable {q : Tk}
theorem flat_len {α : Type} : ∀ (xs : List (List α)), (∀ x ∈ xs, x.length = 1) → xs.flatten.length = xs.length ∧ (xs.map List.length).sum = xs.length
  | [], _ => ⟨rfl, rfl⟩
  | x :: xs, h => by
    obtain ⟨h1, h2⟩ := flat_len xs fun y hy => h y (List.mem_cons_of_mem _ hy)
    have h3 := h x (List.mem_cons_self ..)
    simp only [List.flatten_cons, List.length_append, List.map_cons, List.sum_cons, List.length_cons]
    omega
end
section
variable {q : Tk}
theorem strs_all : ∀ (rs : List D) (P : List Nat → Prop), (∀ r ∈ rs, ∃ w, r = .str w ∧ P w) → ∃ ws : List (List Nat), rs = ws.map .str ∧ ∀ w ∈ ws, P w
  | [], _, _ => ⟨[], rfl, fun _ h => nomatch h⟩
  | r :: rs, P, h => by
    obtain ⟨w, rfl, hw⟩ := h r (List.mem_cons_self ..)
    obtain ⟨ws, e, hws⟩ := strs_all rs P fun x hx => h x (List.mem_cons_of_mem _ hx)
    refine ⟨w :: ws, by rw [e]; rfl, fun x hx => ?_⟩
    rcases List.mem_cons.mp hx with rfl | hx
    · exact hw
    · exact hws x hx
end
section
variable {q : Tk}
theorem ac_app {a b : List Nat} (ha : Ac a) (hb : Ac b) : Ac (a ++ b) := fun c hc => by
  rcases List.mem_append.mp hc with h | h
  · exact ha c h
  · exact hb c h
end
section
variable {q : Tk}
theorem ac_take {a : List Nat} {n : Nat} (ha : Ac a) : Ac (a.take n) := fun c hc => ha c (List.mem_of_mem_take hc)
end
section
variable {q : Tk}
end
section
variable {q : Tk} {c c1 c2 : Nat} {f g : Env → M Out} {env e' : Env} {P : Out → Prop} {R : Env → Prop}
theorem Dn.seq (h : Dn q c1 (f env) fun o => ∃ e, o = .nx e ∧ R e) (hg : ∀ e, R e → Dn q c2 (g e) P) : Dn q (c1 + c2) (bSeq f g env) P :=
  Dn.bind h fun o ⟨e, eo, r⟩ => by subst eo; exact hg e r
end
section
variable {q : Tk} {c c1 c2 : Nat} {f g : Env → M Out} {env e' : Env} {P : Out → Prop} {R : Env → Prop}
theorem Dn.seqP (h : f env = .ok (.nx e')) (hg : Dn q c (g e') P) : Dn q c (bSeq f g env) P := by
  show Dn q c ((f env).bind _) P
  rw [h]
  exact hg
end
def nf (o : Option D) : Option (Bool × D) := o.map fun d => (false, d)
theorem flat_rep {w : List Nat} (h : Ac w) : ∀ n : Nat, Ac (List.replicate n w).flatten ∧ (List.replicate n w).flatten.length = n * w.length
  | 0 => ⟨fun _ h => (nomatch h), by simp⟩
  | n + 1 => by
    obtain ⟨h1, h2⟩ := flat_rep h n
    rw [List.replicate_succ, List.flatten_cons]
    exact ⟨ac_app h h1, by rw [List.length_append, h2, Nat.add_mul]; omega⟩
section
variable {q : Tk} {ns : List Int}
end
theorem enum_rng (f : Int → D) (n : Nat) : enumL ((rng 0 n).map f) = (rng 0 n).map fun i => D.tup [.int i, f i] := by
  unfold enumL rng
  apply List.ext_getElem?
  intro j
  by_cases h : j < n
  · simp [h]
  · simp [h]
def placesW (w p : List Nat) : List Int := (rng 0 w.length).filter fun i => decide (readW w i p.length = p)
abbrev WI := List (List Nat × Int)
def mp (es : WI) : List (Ky × D) := es.map fun e => (Sum.inr e.1, D.int e.2)
def putT (es : WI) (k : List Nat) (v : Int) : WI := if es.any (fun e => decide (e.1 = k)) then es.map (fun e => if e.1 = k then (e.1, v) else e) else es ++ [(k, v)]
def getT (es : WI) (k : List Nat) : Option Int := (es.find? fun e => decide (e.1 = k)).map (·.2)
def keysT (es : WI) : List (List Nat) := es.map (·.1)
def cnt (es : WI) (x : List Nat) : WI := putT es x ((getT es x).getD 0 + 1)
theorem any_mp (es : WI) (k : List Nat) : (mp es).any (fun e => decide (e.1 = Sum.inr k)) = es.any fun e => decide (e.1 = k) := by
  induction es with
  | nil => rfl
  | cons e es ih =>
    simp only [mp, List.map_cons, List.any_cons] at ih ⊢
    rw [ih]
    simp
theorem mp_put (es : WI) (k : List Nat) (v : Int) : putD (mp es) (.inr k) (.int v) = mp (putT es k v) := by
  unfold putD putT
  rw [any_mp]
  by_cases h : (es.any fun e => decide (e.1 = k)) = true
  · rw [if_pos h, if_pos h]
    unfold mp
    rw [List.map_map, List.map_map]
    apply List.map_congr_left
    intro e _
    by_cases hk : e.1 = k <;> simp [hk]
  · rw [if_neg h, if_neg h]
    simp [mp]
theorem mp_get (es : WI) (k : List Nat) : getD (mp es) (.inr k) = (getT es k).map .int := by
  induction es with
  | nil => rfl
  | cons e es ih =>
    unfold getD getT mp at ih ⊢
    by_cases hk : e.1 = k
    · simp [hk]
    · simp [hk] at ih ⊢
      exact ih
theorem any_keys (es : WI) (k : List Nat) : (es.any fun e => decide (e.1 = k)) = decide (k ∈ keysT es) := by
  induction es with
  | nil => rfl
  | cons e es ih =>
    by_cases hk : e.1 = k
    · simp [keysT, hk]
    · have : ¬ k = e.1 := fun h => hk h.symm
      have e3 : keysT (e :: es) = e.1 :: keysT es := rfl
      rw [List.any_cons, ih, e3]
      simp [hk, this]
theorem keys_put (es : WI) (k : List Nat) (v : Int) : keysT (putT es k v) = if k ∈ keysT es then keysT es else keysT es ++ [k] := by
  unfold putT
  rw [any_keys]
  by_cases h : k ∈ keysT es
  · simp only [h, decide_true, if_true]
    unfold keysT
    rw [List.map_map]
    apply List.map_congr_left
    intro e _
    by_cases hk : e.1 = k <;> simp [hk]
  · simp only [h, decide_false, Bool.false_eq_true, if_false]
    simp [keysT]
theorem get_none {es : WI} {k : List Nat} : getT es k = none ↔ k ∉ keysT es := by
  unfold getT keysT
  simp [List.find?_eq_none]
  constructor
  · intro h b hb; exact h k b hb rfl
  · rintro h a b hab rfl; exact h b hab
theorem get_app (es fs : WI) (k : List Nat) : getT (es ++ fs) k = (getT es k).or (getT fs k) := by
  unfold getT
  rw [List.find?_append]
  cases List.find? (fun e => decide (e.1 = k)) es <;> simp
theorem get_map (es : WI) (k k' : List Nat) (v : Int) : getT (es.map fun e => if e.1 = k then (e.1, v) else e) k' = if k' = k then (getT es k).map fun _ => v else getT es k' := by
  induction es with
  | nil => simp [getT]
  | cons e es ih =>
    unfold getT at ih ⊢
    by_cases h1 : e.1 = k'
    · by_cases h2 : e.1 = k
      · have : k' = k := h1.symm.trans h2
        simp [h1, h2, this]
      · have : ¬ k' = k := fun h => h2 (h1.trans h)
        simp [h1, this]
    · by_cases h2 : e.1 = k
      · have : ¬ k' = k := fun h => h1 (h2.trans h.symm)
        have h3 : ¬ k = k' := fun h => this h.symm
        simp [h2, h3, this] at ih ⊢
        exact ih
      · simp [h1, h2] at ih ⊢
        exact ih
theorem get_put (es : WI) (k k' : List Nat) (v : Int) : getT (putT es k v) k' = if k' = k then some v else getT es k' := by
  unfold putT
  rw [any_keys]
  by_cases h : k ∈ keysT es
  · simp only [h, decide_true, if_true]
    rw [get_map]
    by_cases hk : k' = k
    · simp only [hk, if_true]
      cases hg : getT es k with
      | none => exact absurd h (get_none.mp hg)
      | some z => rfl
    · simp [hk]
  · simp only [h, decide_false, Bool.false_eq_true, if_false]
    rw [get_app]
    by_cases hk : k' = k
    · subst hk
      rw [get_none.mpr h]
      simp [getT]
    · have : ¬ k = k' := fun h => hk h.symm
      simp [hk, getT, this]
theorem cnt_get (k : List Nat) : ∀ (xs : List (List Nat)) (es : WI), (getT (xs.foldl cnt es) k).getD 0 = (getT es k).getD 0 + (xs.count k : Int)
  | [], es => by simp
  | x :: xs, es => by
    rw [List.foldl_cons, cnt_get k xs, cnt, get_put]
    by_cases h : k = x
    · subst h; simp; omega
    · have : ¬ x = k := fun e => h e.symm
      simp [h, this, List.count_cons]
theorem cnt_keys (k : List Nat) : ∀ (xs : List (List Nat)) (es : WI), k ∈ keysT (xs.foldl cnt es) ↔ k ∈ keysT es ∨ k ∈ xs
  | [], es => by simp
  | x :: xs, es => by
    rw [List.foldl_cons, cnt_keys k xs, cnt, keys_put]
    by_cases h : x ∈ keysT es
    · simp only [h, if_true, List.mem_cons]
      constructor
      · rintro (z | z)
        · exact .inl z
        · exact .inr (.inr z)
      · rintro (z | z | z)
        · exact .inl z
        · subst z; exact .inl h
        · exact .inr z
    · simp only [h, if_false, List.mem_append, List.mem_cons, List.not_mem_nil, or_false]
      constructor
      · rintro ((z | z) | z)
        · exact .inl z
        · exact .inr (.inl z)
        · exact .inr (.inr z)
      · rintro (z | z | z)
        · exact .inl (.inl z)
        · exact .inl (.inr z)
        · exact .inr z
theorem cnt_nodup : ∀ (xs : List (List Nat)) (es : WI), (keysT es).Nodup → (keysT (xs.foldl cnt es)).Nodup
  | [], es, h => h
  | x :: xs, es, h => by
    rw [List.foldl_cons]
    refine cnt_nodup xs _ ?_
    rw [cnt, keys_put]
    by_cases hx : x ∈ keysT es
    · simp only [hx, if_true]; exact h
    · simp only [hx, if_false]
      rw [List.nodup_append]
      refine ⟨h, by simp, fun a ha b hb => ?_⟩
      simp at hb
      subst hb
      exact fun e => hx (e ▸ ha)
theorem sum_put (es : WI) (k : List Nat) (v : Int) (hn : (keysT es).Nodup) : ((putT es k v).map (·.2)).sum = (es.map (·.2)).sum - (getT es k).getD 0 + v := by
  unfold putT
  rw [any_keys]
  by_cases h : k ∈ keysT es
  · simp only [h, decide_true, if_true]
    induction es with
    | nil => cases h
    | cons e es ih =>
      have hn' : e.1 ∉ keysT es ∧ (keysT es).Nodup := by simpa [keysT] using hn
      by_cases hk : e.1 = k
      · have hni : ∀ e' ∈ es, ¬ e'.1 = k := fun e' he' hh => hn'.1 (by rw [hk, ← hh]; exact List.mem_map_of_mem he')
        have : es.map (fun e => if e.1 = k then (e.1, v) else e) = es := by
          conv => rhs; rw [← List.map_id es]
          apply List.map_congr_left
          intro e' he'
          simp [hni e' he']
        rw [List.map_cons, this]
        simp [getT, hk]
        omega
      · have hm : k ∈ keysT es := by
          have h' : k = e.1 ∨ k ∈ keysT es := by simpa [keysT] using h
          rcases h' with z | z
          · exact absurd z.symm hk
          · exact z
        have := ih hn'.2 hm
        have hg : getT (e :: es) k = getT es k := by simp [getT, hk]
        rw [hg]
        simp only [List.map_cons, hk, if_false, List.sum_cons, this]
        omega
  · simp only [h, decide_false, Bool.false_eq_true, if_false]
    rw [get_none.mpr h]
    simp
theorem cnt_sum : ∀ (xs : List (List Nat)) (es : WI), (keysT es).Nodup → ((xs.foldl cnt es).map (·.2)).sum = (es.map (·.2)).sum + (xs.length : Int)
  | [], es, h => by simp
  | x :: xs, es, h => by
    rw [List.foldl_cons, cnt_sum xs _ (by simpa using cnt_nodup [x] es h), cnt, sum_put _ _ _ h]
    simp only [List.length_cons]
    omega
theorem of_keys : ∀ (es : WI), (keysT es).Nodup → es = (keysT es).map fun k => (k, (getT es k).getD 0)
  | [], _ => rfl
  | e :: es, h => by
    have hn' : e.1 ∉ keysT es ∧ (keysT es).Nodup := by simpa [keysT] using h
    have ih := of_keys es hn'.2
    have h1 : keysT (e :: es) = e.1 :: keysT es := rfl
    rw [h1, List.map_cons]
    have h2 : getT (e :: es) e.1 = some e.2 := by simp [getT]
    rw [h2]
    congr 1
    rw [ih]
    have h3 : keysT ((keysT es).map fun k => (k, (getT es k).getD 0)) = keysT es := by rw [← ih]
    rw [h3]
    apply List.map_congr_left
    intro k hk
    have hne : ¬ e.1 = k := fun hh => hn'.1 (hh ▸ hk)
    rw [← ih]
    simp [getT, hne]
section
variable {α : Type} {tg : D → Env → Option Env} {fb : Env → M Out} {ft : Env → M Bool} {fk fe : Env → M Vl} {env : Env}
theorem for_okR {J : List α → Env → Prop} (F : α → D) (hb : ∀ x r e, J (x :: r) e → ∃ e1 e2, tg (F x) e = some e1 ∧ fb e1 = .ok (.nx e2) ∧ J r e2) : ∀ (xs : List α) (env : Env), J xs env → ∃ e, Y.forGo tg fb (xs.map F) env = .ok (.nx e) ∧ J [] e
  | [], env, h => ⟨env, rfl, h⟩
  | x :: xs, env, h => by
    obtain ⟨e1, e2, h1, h2, h3⟩ := hb x xs env h
    obtain ⟨e, h4, h5⟩ := for_okR F hb xs e2 h3
    refine ⟨e, ?_, h5⟩
    rw [← h4]
    show (M.of (tg (F x) env)).bind _ = _
    rw [h1]
    show (fb e1).bind _ = _
    rw [h2]
    rfl
end
section
variable {α : Type} {tg : D → Env → Option Env} {fb : Env → M Out} {ft : Env → M Bool} {fk fe : Env → M Vl} {env : Env}
theorem dc_map (F : α → D) (key : α → List Nat) (v : α → D) (e1 : α → Env) : ∀ (xs : List α) (es : List (Ky × D)), (∀ x ∈ xs, tg (F x) env = some (e1 x) ∧ ft (e1 x) = .ok true ∧ fk (e1 x) = .ok (.s, .str (key x)) ∧ fe (e1 x) = .ok (.s, v x)) → (xs.map key).Nodup → (∀ x ∈ xs, ∀ e ∈ es, e.1 ≠ .inr (key x)) → dcGo tg ft fk fe env es (xs.map F) = .ok (es ++ xs.map fun x => (Sum.inr (key x), v x))
  | [], es, _, _, _ => by simp [dcGo]
  | x :: xs, es, h, hn, hd => by
    obtain ⟨h1, h2, h3, h4⟩ := h x (List.mem_cons_self ..)
    have hn' : key x ∉ xs.map key ∧ (xs.map key).Nodup := by simpa using hn
    have hp : putD es (.inr (key x)) (v x) = es ++ [(.inr (key x), v x)] := by
      unfold putD
      rw [if_neg]
      intro ha
      obtain ⟨e, he, h5⟩ := List.any_eq_true.mp ha
      exact hd x (List.mem_cons_self ..) e he (of_decide_eq_true h5)
    have ih := dc_map F key v e1 xs (es ++ [(.inr (key x), v x)]) (fun y hy => h y (List.mem_cons_of_mem _ hy)) hn'.2 (fun y hy e he => by
      rcases List.mem_append.mp he with he | he
      · exact hd y (List.mem_cons_of_mem _ hy) e he
      · simp at he
        subst he
        intro z
        have z : key x = key y := Sum.inr.inj z
        exact hn'.1 (z ▸ List.mem_map_of_mem hy))
    simp only [List.map_cons, dcGo, h1, of_some, ok_bind, h2, if_true, h3, keyD, h4, isV, Bool.or_self, Bool.false_eq_true, if_false]
    rw [hp, ih]
    simp
end
theorem wi_sorted : ∀ (xs : List (List Nat)) (es : WI), (keysT es ++ xs).Pairwise (· ≤ ·) → (keysT (xs.foldl cnt es)).Pairwise (· ≤ ·)
  | [], es, h => by simpa using h
  | x :: xs, es, h => by
    rw [List.foldl_cons]
    refine wi_sorted xs _ ?_
    rw [cnt, keys_put]
    by_cases hx : x ∈ keysT es
    · simp only [hx, if_true]
      exact h.sublist (List.Sublist.append_left (List.sublist_cons_self ..) _)
    · simp only [hx, if_false]
      rw [List.append_assoc]
      exact h
def cntW (xs : List (List Nat)) : WI := (sortW (keysT (xs.foldl cnt []))).map fun k => (k, (xs.count k : Int))
theorem sortW_perm (xs : List (List Nat)) : (sortW xs).Perm xs := List.mergeSort_perm _ _
theorem sortW_pw (xs : List (List Nat)) : (sortW xs).Pairwise (· ≤ ·) := (List.pairwise_mergeSort (le := leW) leW_trans leW_total xs).imp fun h => of_decide_eq_true h
theorem cnt_val (xs : List (List Nat)) (k : List Nat) : (getT (xs.foldl cnt []) k).getD 0 = (xs.count k : Int) := by
  rw [cnt_get]
  simp [getT]
theorem cnt_sorted (xs : List (List Nat)) : (sortW xs).foldl cnt [] = cntW xs := by
  have hn : (keysT ((sortW xs).foldl cnt [])).Nodup := cnt_nodup _ _ (by simp [keysT])
  have hn2 : (keysT (xs.foldl cnt [])).Nodup := cnt_nodup _ _ (by simp [keysT])
  have hk : keysT ((sortW xs).foldl cnt []) = sortW (keysT (xs.foldl cnt [])) := by
    refine sortW_unique ?_ ?_
    · refine (List.perm_ext_iff_of_nodup hn hn2).mpr fun k => ?_
      rw [cnt_keys, cnt_keys]
      simp [keysT, (sortW_perm xs).mem_iff]
    · exact wi_sorted _ _ (by simpa [keysT] using sortW_pw xs)
  rw [of_keys _ hn, hk]
  unfold cntW
  apply List.map_congr_left
  intro k _
  rw [cnt_val, (sortW_perm xs).count_eq]
theorem keysT_cntW (xs : List (List Nat)) : keysT (cntW xs) = sortW (keysT (xs.foldl cnt [])) := by
  unfold cntW
  conv => lhs; unfold keysT
  rw [List.map_map]
  exact List.map_id _
theorem cntW_nodup (xs : List (List Nat)) : (keysT (cntW xs)).Nodup := by
  rw [keysT_cntW]
  exact (sortW_perm _).nodup_iff.mpr (cnt_nodup _ _ (by simp [keysT]))
theorem cntW_sum (xs : List (List Nat)) : ((cntW xs).map (·.2)).sum = (xs.length : Int) := by
  rw [← cnt_sorted, cnt_sum _ _ (by simp [keysT]), (sortW_perm xs).length_eq]
  simp
theorem cnt_len : ∀ (xs : List (List Nat)) (es : WI), (xs.foldl cnt es).length ≤ es.length + xs.length
  | [], es => by simp
  | x :: xs, es => by
    rw [List.foldl_cons]
    have h1 := cnt_len xs (cnt es x)
    have h2 : (cnt es x).length ≤ es.length + 1 := by
      unfold cnt putT
      split <;> simp
    simp only [List.length_cons]
    omega
theorem mp_len (es : WI) : (mp es).length = es.length := by simp [mp]
theorem keysOf_mp : ∀ es : WI, keysOf (mp es) = some (keysT es)
  | [] => rfl
  | e :: es => by
    have := keysOf_mp es
    simp only [mp] at this
    simp [mp, keysOf, keysT, this]
theorem q_cnt_loop (ws : List (List Nat)) (hl : ws.length ≤ 1000) (x0 : Option (Bool × D)) : ∃ o2 : Option D, forGo (eTgN 2) (bDPut 1 (eVar 2) (eOp addD (eDGet2 (eVar 1) (eVar 2) (eC (.int 0))) (eC (.int 1)))) (ws.map D.str) [x0, some (true, .dic []), none] = .ok (.nx [x0, some (true, .dic (mp (ws.foldl cnt []))), nf o2]) := by
  obtain ⟨e, h1, es, o2, h2, h3, h4⟩ := for_okR (tg := eTgN 2) (fb := bDPut 1 (eVar 2) (eOp addD (eDGet2 (eVar 1) (eVar 2) (eC (.int 0))) (eC (.int 1)))) (J := fun r e => ∃ es o2, e = [x0, some (true, .dic (mp es)), nf o2] ∧ r.foldl cnt es = ws.foldl cnt [] ∧ es.length + r.length ≤ 1000) D.str (fun x r e he => by
    obtain ⟨es, o2, rfl, h3, h4⟩ := he
    simp only [List.length_cons] at h4
    refine ⟨_, [x0, some (true, .dic (mp (cnt es x))), some (false, .str x)], rfl, ?_, cnt es x, some (.str x), rfl, h3, ?_⟩
    · have hlt : ¬ 1000000 ≤ (mp es).length := by rw [mp_len]; omega
      have hg : (Option.map D.int (getT es x)).getD (D.int 0) = .int ((getT es x).getD 0) := by cases getT es x <;> rfl
      simp [bodyM, eVar, eC, eOp, eUn, eNil, eCons, eCB, eCO, eCOV, eLst, eTup, eB, eAnd, eOr, eNot, eBv, eAndV, eOrV, eNotV, eIf, eChain, eCall, okA, eTgN, eTgNil, eTgCons, eTgT, eRng, wipeE, noOwn, eLc, eYes, eDc, bNext, bSeq, bRet, bSet, bAsg, bDrop, bIf, bRaise, bFor, frzE, bFrz, setsE, bSets, isiD, tyName, chars, rng_len, eDGet2, eDNew, bApp, ownL, ownD, bDPut, eSl, ePart, eNo, eItA, itA, itD, eIxA, eJoin, isV, iop, cop, subD, modD, fdivD, leD, gtD, geD, eqB, neB, isBlD, notBlD, keyD, isDic, mp_get, addD, hg, hlt, mp_put, fin]
      rfl
    · have := cnt_len [x] es
      simp only [List.foldl_cons, List.foldl_nil, List.length_cons, List.length_nil] at this
      omega) ws [x0, some (true, .dic []), none] ⟨[], none, rfl, rfl, by simpa using hl⟩
  simp only [List.foldl_nil] at h3
  subst h3
  exact ⟨o2, by rw [h1, h2]⟩
theorem get_mem {es : WI} (hn : (keysT es).Nodup) {e : List Nat × Int} (he : e ∈ es) : getT es e.1 = some e.2 := by
  induction es with
  | nil => cases he
  | cons x es ih =>
    have hn' : x.1 ∉ keysT es ∧ (keysT es).Nodup := by simpa [keysT] using hn
    rcases List.mem_cons.mp he with rfl | he
    · simp [getT]
    · have hne : ¬ x.1 = e.1 := fun h => hn'.1 (h ▸ List.mem_map_of_mem he)
      have := ih hn'.2 he
      unfold getT at this ⊢
      simpa [hne] using this
theorem sameD_mp {es : WI} (hn : (keysT es).Nodup) : sameD (mp es) (mp es) = true := by
  unfold sameD
  simp only [beq_self_eq_true, Bool.true_and, List.all_eq_true]
  intro e he
  obtain ⟨x, hx, rfl⟩ := List.mem_map.mp he
  simp [mp_get, get_mem hn hx, flatEq]
def part (c : Nat) : Nat := if c = 97 then 116 else if c = 99 then 103 else if c = 103 then 99 else 97
def strandW (w : List Nat) : List Nat := w.reverse.map part
theorem strand_len (w : List Nat) : (strandW w).length = w.length := by simp [strandW]
theorem part_ac {c : Nat} (h : c ∈ acgt) : part c ∈ acgt := by
  simp only [acgt, List.mem_cons, List.not_mem_nil, or_false] at h
  rcases h with rfl | rfl | rfl | rfl <;> decide
theorem strand_ac {w : List Nat} (h : Ac w) : Ac (strandW w) := fun c hc => by
  obtain ⟨x, hx, rfl⟩ := List.mem_map.mp hc
  exact part_ac (h x (List.mem_reverse.mp hx))
def runsW (w : List Nat) (n : Nat) : List (List Nat) := (rng 0 w.length).map fun i => readW w i n
theorem runsW_str (w : List Nat) (n : Nat) : ((rng 0 w.length).map fun i => D.str (readW w i n)) = (runsW w n).map D.str := by simp [runsW]
theorem runsW_len (w : List Nat) (n : Nat) : (runsW w n).length = w.length := by simp [runsW, rng_len]
end Y

namespace Y
open PySem PySem.Spec PyProof.Rows L2 Z
def subW (w : List Nat) (i n : Nat) : List Nat := (w.drop i).take n
theorem sIx_nat {n d i : Nat} : HT.sIx n d (some (i : Int)) = min i n := by
  unfold HT.sIx
  have : ¬ ((i : Int) < 0) := by omega
  simp only [this, if_false]
  omega
theorem cut_sub (w : List Nat) (i n : Nat) : cutL w (some (i : Int)) (some ((i : Int) + (n : Int))) = subW w i n := by
  unfold cutL subW
  have e : (i : Int) + (n : Int) = ((i + n : Nat) : Int) := by omega
  rw [e, sIx_nat, sIx_nat]
  by_cases h : i ≤ w.length
  · rw [Nat.min_eq_left h]
    by_cases h2 : i + n ≤ w.length
    · rw [Nat.min_eq_left h2]; congr 1; omega
    · rw [Nat.min_eq_right (by omega), List.take_of_length_le (by simp), List.take_of_length_le (by simp; omega)]
  · rw [Nat.min_eq_right (by omega), Nat.min_eq_right (by omega), List.drop_of_length_le (Nat.le_refl _), List.drop_of_length_le (by omega)]
    simp
theorem subW_len {w : List Nat} {i n : Nat} : (subW w i n).length = min n (w.length - i) := by simp [subW]
theorem subW_ac {w : List Nat} {i n : Nat} (h : Ac w) : Ac (subW w i n) := fun c hc => h c (List.mem_of_mem_drop (List.mem_of_mem_take hc))
def strW (w : List Nat) (n : Nat) : List (List Nat) := (List.range (w.length + 1 - n)).map fun i => subW w i n
theorem strW_len (w : List Nat) (n : Nat) : (strW w n).length = w.length + 1 - n := by simp [strW]
theorem strW_mem {w x : List Nat} {n : Nat} : x ∈ strW w n ↔ ∃ i, i + n ≤ w.length ∧ x = subW w i n := by
  unfold strW
  rw [List.mem_map]
  constructor
  · rintro ⟨i, hi, rfl⟩
    exact ⟨i, by have := List.mem_range.mp hi; omega, rfl⟩
  · rintro ⟨i, hi, rfl⟩
    exact ⟨i, List.mem_range.mpr (by omega), rfl⟩
theorem strW_one {w x : List Nat} {n : Nat} (h : x ∈ strW w n) : x.length = n := by
  obtain ⟨i, hi, rfl⟩ := strW_mem.mp h
  rw [subW_len]
  omega
theorem strW_ac {w x : List Nat} {n : Nat} (ha : Ac w) (h : x ∈ strW w n) : Ac x := by
  obtain ⟨i, hi, rfl⟩ := strW_mem.mp h
  exact subW_ac ha
theorem dInts_rng (n : Nat) : dInts (rng 0 n) = (List.range n).map fun i : Nat => D.int (i : Int) := by
  unfold dInts rng
  rw [List.map_map]
  apply List.map_congr_left
  intro i _
  simp
def placesN (w p : List Nat) : List Nat := (List.range w.length).filter fun i => decide (subW w i p.length = p)
theorem places_less {w p : List Nat} (hp : 0 < p.length) : (List.range (w.length + 1 - p.length)).filter (fun i => decide (subW w i p.length = p)) = placesN w p := by
  unfold placesN
  have e : w.length = (w.length + 1 - p.length) + (w.length - (w.length + 1 - p.length)) := by omega
  have hz : ((List.range (w.length - (w.length + 1 - p.length))).map fun x => w.length + 1 - p.length + x).filter (fun i => decide (subW w i p.length = p)) = [] := by
    refine List.filter_eq_nil_iff.mpr fun i hi => ?_
    obtain ⟨j, hj, rfl⟩ := List.mem_map.mp hi
    have hj := List.mem_range.mp hj
    rw [decide_eq_true_eq]
    intro h
    have := congrArg List.length h
    rw [subW_len] at this
    omega
  conv => rhs; rw [e]
  rw [List.range_add, List.filter_append, hz, List.append_nil]
section
variable {α : Type} {tg : D → Env → Option Env} {fb : Env → M Out}
theorem for_find {I : Env → Prop} (F : α → D) (r : α → Option Vl) : ∀ (xs : List α) (env : Env), (∀ x ∈ xs, ∀ e, I e → ∃ e1, tg (F x) e = some e1 ∧ ((∃ v, r x = some v ∧ fb e1 = .ok (.rt v)) ∨ (r x = none ∧ ∃ e2, fb e1 = .ok (.nx e2) ∧ I e2))) → I env →
    (∃ v, xs.findSome? r = some v ∧ Y.forGo tg fb (xs.map F) env = .ok (.rt v)) ∨ (xs.findSome? r = none ∧ ∃ e, Y.forGo tg fb (xs.map F) env = .ok (.nx e) ∧ I e)
  | [], env, _, h => .inr ⟨rfl, env, rfl, h⟩
  | x :: xs, env, hb, h => by
    obtain ⟨e1, h1, h2⟩ := hb x (List.mem_cons_self ..) env h
    have e' : Y.forGo tg fb ((x :: xs).map F) env = (fb e1).bind fun o => match o with | .nx e => Y.forGo tg fb (xs.map F) e | .ct e => Y.forGo tg fb (xs.map F) e | .bk e => .ok (.nx e) | .rt v => .ok (.rt v) := by
      show (M.of (tg (F x) env)).bind _ = _
      rw [h1]
      rfl
    rcases h2 with ⟨v, hr, hv⟩ | ⟨hr, e2, h3, h4⟩
    · exact .inl ⟨v, by simp [hr], by rw [e', hv]; rfl⟩
    · have ih := for_find F r xs e2 (fun y hy => hb y (List.mem_cons_of_mem _ hy)) h4
      have e3 : Y.forGo tg fb ((x :: xs).map F) env = Y.forGo tg fb (xs.map F) e2 := by rw [e', h3]; rfl
      rw [e3, List.findSome?_cons, hr]
      exact ih
end
end Y
namespace Y
open PySem PySem.Spec PyProof.Rows L2 Z
def bordW (w : List Nat) : List Int := (rng 1 (w.length - 1)).filter fun l => decide (cutL w none (some l) = cutL w (some ((w.length : Int) - l)) none)
def rng1 (w : List Nat) : List Nat := (List.range (w.length - 1)).map (· + 1)
theorem rng1_mem {w : List Nat} {i : Nat} (h : i ∈ rng1 w) : 0 < i ∧ i < w.length := by
  obtain ⟨j, hj, rfl⟩ := List.mem_map.mp h
  have := List.mem_range.mp hj
  omega
def rootR (w : List Nat) (i : Nat) : Option Vl := if w.length % i = 0 ∧ (List.replicate (w.length / i) (w.take i)).flatten = w then some (.s, .tup [.str (w.take i), .int ((w.length / i : Nat) : Int)]) else none
theorem rootR_s {w : List Nat} {i : Nat} {v : Vl} (h : rootR w i = some v) : v = (.s, v.2) := by
  unfold rootR at h
  split at h
  · cases h; rfl
  · cases h
theorem find_s {α : Type} {r : α → Option Vl} (hr : ∀ x v, r x = some v → v = (.s, v.2)) {xs : List α} {v : Vl} (h : xs.findSome? r = some v) : v = (.s, v.2) := by
  obtain ⟨x, _, hx⟩ := List.exists_of_findSome?_eq_some h
  exact hr x v hx
def rootD (w : List Nat) : D := match (rng1 w).findSome? (rootR w) with
  | some v => v.2
  | none => .tup [.str w, .int 1]
def rngL (w : List Nat) : List Nat := (List.range w.length).map (· + 1)
def rootB (w : List Nat) (i : Nat) : Bool := decide ((List.replicate (w.length / i) (w.take i)).flatten = w)
theorem rep_len {α : Type} (n : Nat) (u : List α) : (List.replicate n u).flatten.length = n * u.length := by
  induction n with
  | zero => simp
  | succ n ih => rw [List.replicate_succ, List.flatten_cons, List.length_append, ih, Nat.add_mul]; omega
theorem rootB_iff {w : List Nat} {i : Nat} (h0 : 0 < i) (h1 : i < w.length) : rootB w i = true ↔ w.length % i = 0 ∧ (List.replicate (w.length / i) (w.take i)).flatten = w := by
  unfold rootB
  rw [decide_eq_true_eq]
  refine ⟨fun h => ⟨?_, h⟩, fun h => h.2⟩
  have := congrArg List.length h
  rw [rep_len, List.length_take, Nat.min_eq_left (by omega)] at this
  have h2 := Nat.div_add_mod w.length i
  rw [Nat.mul_comm] at h2
  omega
theorem rngL_eq {w : List Nat} (h0 : 0 < w.length) : rngL w = rng1 w ++ [w.length] := by
  unfold rngL rng1
  obtain ⟨n, hn⟩ : ∃ n, w.length = n + 1 := ⟨w.length - 1, by omega⟩
  rw [hn, List.range_succ, List.map_append]
  simp
theorem find_filter {α β : Type} {p : α → Bool} {f : α → β} : ∀ (xs : List α), xs.findSome? (fun x => if p x = true then some (f x) else none) = ((xs.filter p).head?).map f
  | [] => rfl
  | x :: xs => by
    rw [List.findSome?_cons, List.filter_cons]
    by_cases h : p x = true
    · simp [h]
    · simp only [h, if_false]
      rw [find_filter xs]
      simp
theorem root_first {w : List Nat} (h0 : 0 < w.length) : ∃ i, 0 < i ∧ i ≤ w.length ∧ ((rngL w).filter (rootB w)).head? = some i ∧ D.tup [.str (w.take i), .int ((w.length / i : Nat) : Int)] = rootD w := by
  have hlast : rootB w w.length = true := by
    unfold rootB
    rw [Nat.div_self h0]
    simp
  have e : (rng1 w).findSome? (rootR w) = (((rng1 w).filter (rootB w)).head?).map fun i => ((.s, .tup [.str (w.take i), .int ((w.length / i : Nat) : Int)]) : Vl) := by
    rw [← find_filter]
    have : ∀ (xs : List Nat), (∀ i ∈ xs, i ∈ rng1 w) → xs.findSome? (rootR w) = xs.findSome? fun i => if rootB w i = true then some (((.s, .tup [.str (w.take i), .int ((w.length / i : Nat) : Int)])) : Vl) else none := by
      intro xs
      induction xs with
      | nil => intro _; rfl
      | cons x xs ih =>
        intro h
        obtain ⟨x0, x1⟩ := rng1_mem (h x (List.mem_cons_self ..))
        rw [List.findSome?_cons, List.findSome?_cons, ih fun i hi => h i (List.mem_cons_of_mem _ hi)]
        have : rootR w x = if rootB w x = true then some (((.s, .tup [.str (w.take x), .int ((w.length / x : Nat) : Int)])) : Vl) else none := by
          unfold rootR
          by_cases hb : rootB w x = true
          · rw [if_pos hb, if_pos ((rootB_iff x0 x1).mp hb)]
          · rw [if_neg hb, if_neg (fun z => hb ((rootB_iff x0 x1).mpr z))]
        rw [this]
    exact this _ fun _ h => h
  rw [rngL_eq h0, List.filter_append]
  unfold rootD
  rw [e]
  cases hz : (rng1 w).filter (rootB w) with
  | nil =>
    refine ⟨w.length, h0, Nat.le_refl _, by simp [hlast], ?_⟩
    rw [Nat.div_self h0]
    simp
  | cons x xs =>
    have hx : x ∈ rng1 w := (List.mem_filter.mp (show x ∈ (rng1 w).filter (rootB w) by rw [hz]; exact List.mem_cons_self ..)).1
    obtain ⟨x0, x1⟩ := rng1_mem hx
    exact ⟨x, x0, by omega, by simp, by simp⟩
section
variable {env : Env} {fa fb fc : Env → M Vl} {a b : Int}
theorem eRng1_ok (ha : fa env = .ok (.s, .int a)) (h1 : -1000000 ≤ a) (h2 : a ≤ 1000000) : eRng rngD1 (eCons fa eNil) env = .ok (dInts (rng 0 a.toNat)) := by
  have hc : -1000000 ≤ a ∧ a ≤ 1000000 := ⟨h1, h2⟩
  simp only [eRng, eCons, eNil, ha, ok_bind, isV, List.any_cons, List.any_nil, Bool.or_self, Bool.false_eq_true, if_false, dats_cons, dats_nil, rngD1]
  rw [if_pos hc, of_some]
theorem eRng2_ok (ha : fa env = .ok (.s, .int a)) (hb : fb env = .ok (.s, .int b)) (h1 : -1000000 ≤ a) (h2 : a ≤ 1000000) (h3 : -1000000 ≤ b) (h4 : b ≤ 1000000) : eRng rngD2 (eCons fa (eCons fb eNil)) env = .ok (dInts (rng a (b - a).toNat)) := by
  have hc : (-1000000 ≤ a ∧ a ≤ 1000000) ∧ -1000000 ≤ b ∧ b ≤ 1000000 := ⟨⟨h1, h2⟩, h3, h4⟩
  simp only [eRng, eCons, eNil, ha, hb, ok_bind, isV, List.any_cons, List.any_nil, Bool.or_self, Bool.false_eq_true, if_false, dats_cons, dats_nil, rngD2]
  rw [if_pos hc, of_some]
theorem eRng3_ok (ha : fa env = .ok (.s, .int a)) (hb : fb env = .ok (.s, .int b)) (hc : fc env = .ok (.s, .int (-1))) (h1 : -1000000 ≤ a) (h2 : a ≤ 1000000) (h3 : -1000000 ≤ b) (h4 : b ≤ 1000000) : eRng rngD3 (eCons fa (eCons fb (eCons fc eNil))) env = .ok (dInts (rngD a b)) := by
  have hd : True ∧ (-1000000 ≤ a ∧ a ≤ 1000000) ∧ -1000000 ≤ b ∧ b ≤ 1000000 := ⟨trivial, ⟨h1, h2⟩, h3, h4⟩
  simp only [eRng, eCons, eNil, ha, hb, hc, ok_bind, isV, List.any_cons, List.any_nil, Bool.or_self, Bool.false_eq_true, if_false, dats_cons, dats_nil, rngD3]
  rw [if_pos hd, of_some]
end
section
variable {α : Type} {tg : D → Env → Option Env} {ft : Env → M Bool} {fk fe : Env → M Vl} {env : Env}
theorem dc_fold (F : α → D) (key : α → List Nat) (v : α → D) (e1 : α → Env) (p : α → Bool) : ∀ (xs : List α) (es : List (Ky × D)), (∀ x ∈ xs, tg (F x) env = some (e1 x) ∧ ft (e1 x) = .ok (p x) ∧ (p x = true → fk (e1 x) = .ok (.s, .str (key x)) ∧ fe (e1 x) = .ok (.s, v x))) →
    dcGo tg ft fk fe env es (xs.map F) = .ok (xs.foldl (fun es x => if p x = true then putD es (.inr (key x)) (v x) else es) es)
  | [], es, _ => rfl
  | x :: xs, es, h => by
    obtain ⟨h1, h2, h3⟩ := h x (List.mem_cons_self ..)
    have hr := fun y hy => h y (List.mem_cons_of_mem _ hy)
    simp only [List.map_cons, dcGo, h1, of_some, ok_bind, h2, List.foldl_cons]
    by_cases hp : p x = true
    · obtain ⟨h4, h5⟩ := h3 hp
      simp only [hp, if_true, h4, ok_bind, keyD, of_some, h5, isV, Bool.or_self, Bool.false_eq_true, if_false]
      exact dc_fold F key v e1 p xs _ hr
    · simp only [hp, if_false]
      exact dc_fold F key v e1 p xs _ hr
end
def ksB (ks : List (List Nat)) : List (Ky × D) := ks.map fun k => (Sum.inr k, D.bl true)
def addK (ks : List (List Nat)) (k : List Nat) : List (List Nat) := if k ∈ ks then ks else ks ++ [k]
def dedF (xs : List (List Nat)) : List (List Nat) := xs.foldl addK []
theorem putD_ksB (ks : List (List Nat)) (k : List Nat) : putD (ksB ks) (.inr k) (.bl true) = ksB (addK ks k) := by
  unfold putD addK
  have ha : ((ksB ks).any fun e => decide (e.1 = Sum.inr k)) = decide (k ∈ ks) := by
    induction ks with
    | nil => rfl
    | cons x ks ih =>
      have e : ksB (x :: ks) = (Sum.inr x, .bl true) :: ksB ks := rfl
      rw [e, List.any_cons, ih]
      by_cases hx : x = k
      · simp [hx]
      · have hx2 : ¬ k = x := fun z => hx z.symm
        simp [hx, hx2]
  rw [ha]
  by_cases hk : k ∈ ks
  · simp only [hk, decide_true, if_true]
    unfold ksB
    rw [List.map_map]
    apply List.map_congr_left
    intro x _
    by_cases hx : x = k <;> simp [hx]
  · simp [hk, ksB]
theorem dedF_fold (p : List Nat → Bool) : ∀ (xs : List (List Nat)) (ks : List (List Nat)), xs.foldl (fun es x => if p x = true then putD es (.inr x) (.bl true) else es) (ksB ks) = ksB ((xs.filter p).foldl addK ks)
  | [], ks => rfl
  | x :: xs, ks => by
    rw [List.foldl_cons, List.filter_cons]
    by_cases hp : p x = true
    · simp only [hp, if_true, putD_ksB, List.foldl_cons]
      exact dedF_fold p xs _
    · simp only [hp, if_false]
      exact dedF_fold p xs ks
theorem addK_mem {x : List Nat} : ∀ (xs ks : List (List Nat)), x ∈ xs.foldl addK ks ↔ x ∈ ks ∨ x ∈ xs
  | [], ks => by simp
  | y :: xs, ks => by
    rw [List.foldl_cons, addK_mem xs]
    unfold addK
    by_cases hy : y ∈ ks
    · rw [if_pos hy, List.mem_cons]
      constructor
      · rintro (z | z)
        · exact .inl z
        · exact .inr (.inr z)
      · rintro (z | z | z)
        · exact .inl z
        · exact .inl (z ▸ hy)
        · exact .inr z
    · rw [if_neg hy, List.mem_append, List.mem_singleton, List.mem_cons, or_assoc]
theorem dedF_mem {x : List Nat} {xs : List (List Nat)} : x ∈ dedF xs ↔ x ∈ xs := by
  unfold dedF
  rw [addK_mem]
  simp
theorem addK_len : ∀ (xs ks : List (List Nat)), (xs.foldl addK ks).length ≤ ks.length + xs.length
  | [], ks => by simp
  | y :: xs, ks => by
    rw [List.foldl_cons]
    have h1 := addK_len xs (addK ks y)
    have h2 : (addK ks y).length ≤ ks.length + 1 := by unfold addK; split <;> simp
    simp only [List.length_cons]
    omega
theorem dedF_len (xs : List (List Nat)) : (dedF xs).length ≤ xs.length := by
  have := addK_len xs []
  simp only [List.length_nil, Nat.zero_add] at this
  exact this
theorem ksB_keys : ∀ ks : List (List Nat), keysOf (ksB ks) = some ks
  | [] => rfl
  | k :: ks => by
    have := ksB_keys ks
    simp only [ksB] at this
    simp [ksB, keysOf, this]
theorem ksB_len (ks : List (List Nat)) : (ksB ks).length = ks.length := by simp [ksB]
theorem ksB_get (ks : List (List Nat)) (x : List Nat) : (getD (ksB ks) (.inr x)).isSome = decide (x ∈ ks) := by
  induction ks with
  | nil => rfl
  | cons k ks ih =>
    have e : ksB (k :: ks) = (Sum.inr k, .bl true) :: ksB ks := rfl
    rw [e]
    unfold getD at ih ⊢
    by_cases hk : k = x
    · simp [hk]
    · have hk2 : ¬ x = k := fun z => hk z.symm
      rw [List.find?_cons_of_neg (by simpa using hk), ih]
      simp [hk2]
def commW (a b : List Nat) (m : Nat) : List (List Nat) := sortW (dedF ((strW a m).filter fun x => decide (x ∈ strW b m)))
theorem sortW_nil {xs : List (List Nat)} : sortW xs = [] ↔ xs = [] := by
  constructor
  · intro h
    have := (sortW_perm xs).length_eq
    rw [h] at this
    exact List.length_eq_zero_iff.mp this.symm
  · rintro rfl; simp [sortW]
def downL (n : Nat) : List Nat := (List.range n).map fun i => n - i
theorem downL_ints (n : Nat) : dInts (rngD (n : Int) 0) = (downL n).map fun i : Nat => D.int (i : Int) := by
  unfold dInts rngD downL
  rw [List.map_map, List.map_map]
  have : ((n : Int) - 0).toNat = n := by omega
  rw [this]
  apply List.map_congr_left
  intro i hi
  have := List.mem_range.mp hi
  show D.int ((n : Int) - (i : Int)) = D.int ((n - i : Nat) : Int)
  congr 1
  omega
theorem downL_mem {n i : Nat} (h : i ∈ downL n) : 0 < i ∧ i ≤ n := by
  obtain ⟨j, hj, rfl⟩ := List.mem_map.mp h
  have := List.mem_range.mp hj
  omega
def commB (a b : List Nat) (m : Nat) : Bool := !decide (commW a b m = [])
def lcW (a b : List Nat) : List (List Nat) := match ((downL (min a.length b.length)).filter (commB a b)).head? with
  | some m => commW a b m
  | none => []
end Y

namespace Y
open PySem PySem.Spec PyProof.Rows L2 Z
end Y
namespace Y
open PySem PySem.Spec PyProof.Rows L2 Z
end Y
namespace Y
open PySem PySem.Spec PyProof.Rows L2 Z
end Y
namespace Y
open PySem PySem.Spec PyProof.Rows L2 Z
end Y
namespace Y
open PySem PySem.Spec PyProof.Rows L2 Z
end Y

namespace Y
open PySem PySem.Spec PyProof.Rows L2 Z
section
variable {α β : Type} {c p : Prop} {m m' : M α}
end
section
variable {α : Type} {tg : D → Env → Option Env} {ft : Env → M Bool} {fe : Env → M Vl} {env : Env}
end
theorem atI_nat {α : Type} (xs : List α) (i : Nat) : atI xs (i : Int) = xs[i]? := by
  unfold atI ixN
  by_cases h : i < xs.length
  · simp [h]
  · simp [h]
end Y

namespace Y
open PySem PySem.Spec PyProof.Rows L2 Z
section
variable {f g : Env → M Out} {env e' : Env} {R : M Out}
theorem seq_run (h : f env = .ok (.nx e')) (hg : g e' = R) : bSeq f g env = R := by
  show (f env).bind _ = _
  rw [h]
  exact hg
theorem body_run {ar N : Nat} {b : Env → M Out} {ds : List D} {v : Vl} (hl : ds.length = ar) (h : b (ds.map (fun d => some (false, d)) ++ List.replicate (N - ar) none) = .ok (.rt v)) : bodyM ar N b ds = .ok v := by
  unfold bodyM
  rw [if_pos hl, h]
  rfl
end
section
variable {α : Type} {fi : Env → M (List D)} {tg : D → Env → Option Env} {fb : Env → M Out}
end
section
variable {α : Type} {fi : Env → M (List D)} {tg : D → Env → Option Env} {ft : Env → M Bool} {fe : Env → M Vl} {env env' : Env} {vs : List Nat}
theorem eLc_ok {xs : List α} (F g : α → D) (p : α → Bool) (hi : fi env = .ok (xs.map F)) (hl : xs.length ≤ 100000) (hno : noOwn env vs = true) (hw : wipeE env vs = env') (h : ∀ x ∈ xs, ∃ e1, tg (F x) env' = some e1 ∧ ft e1 = .ok (p x) ∧ (p x = true → ∃ md, fe e1 = .ok (md, g x) ∧ isV (md, g x) = false)) : eLc fi tg ft fe vs env = .ok (.o, .lst ((xs.filter p).map g)) := by
  unfold eLc
  rw [hi, ok_bind, List.length_map, if_pos ⟨hl, hno⟩, hw]
  have : ∀ ys : List α, (∀ x ∈ ys, x ∈ xs) → lcGo tg ft fe env' (ys.map F) = .ok ((ys.filter p).map g) := by
    intro ys
    induction ys with
    | nil => intro _; rfl
    | cons y ys ih =>
      intro hy
      obtain ⟨e1, h1, h2, h3⟩ := h y (hy y (List.mem_cons_self ..))
      have ih := ih fun x hx => hy x (List.mem_cons_of_mem _ hx)
      simp only [List.map_cons, lcGo, h1, h2, of_some, ok_bind, List.filter_cons]
      cases hp : p y with
      | false => simp only [Bool.false_eq_true, if_false, ih]
      | true =>
        obtain ⟨md, h4, h5⟩ := h3 hp
        simp only [if_true, h4, ok_bind, h5, Bool.false_eq_true, if_false, ih, List.map_cons]
  rw [this xs fun _ h => h]
  rfl
theorem eLc_all {xs : List α} (F g : α → D) (hi : fi env = .ok (xs.map F)) (hl : xs.length ≤ 100000) (hno : noOwn env vs = true) (hw : wipeE env vs = env') (h : ∀ x ∈ xs, ∃ e1, tg (F x) env' = some e1 ∧ ft e1 = .ok true ∧ ∃ md, fe e1 = .ok (md, g x) ∧ isV (md, g x) = false) : eLc fi tg ft fe vs env = .ok (.o, .lst (xs.map g)) := by
  have := eLc_ok F g (fun _ => true) hi hl hno hw fun x hx => by
    obtain ⟨e1, a, b, c⟩ := h x hx
    exact ⟨e1, a, b, fun _ => c⟩
  rw [this, List.filter_eq_self.mpr fun _ _ => rfl]
end
section
variable {α β : Type} {f0 : Env → M (List D)} {tg tg1 : D → Env → Option Env} {ft ft1 : Env → M Bool} {fi : Env → M (List D)} {fe : Env → M Vl} {env env' : Env} {vs vs1 : List Nat}
end
end Y
namespace Y
open PySem PySem.Spec PyProof.Rows L2 Z
end Y
namespace Y
theorem eqD_ss (i j : List Nat) : eqD (.str i) (.str j) = some (decide (i = j)) := rfl
end Y

namespace Y
open PySem PySem.Spec PyProof.Rows L2 Z
theorem len_app (a b : Str) : (a ++ b).length = a.length + b.length := strLen_append ..
theorem textFrom_le {n : Nat} : ∀ (ts : List Str) (k : Nat) (acc : Str), (∀ t ∈ ts, t.length ≤ n) → (textFrom k acc ts).length ≤ acc.length + ts.length * (n + 2)
  | [], _, _, _ => by simp [textFrom]
  | t :: ts, k, acc, h => by
    have h0 := h t (List.mem_cons_self ..)
    have ih := textFrom_le ts (k + 1) (acc ++ (if k > 0 then ", " else "" : String) ++ t) fun x hx => h x (List.mem_cons_of_mem _ hx)
    have e : (acc ++ (if k > 0 then ", " else "" : String) ++ t).length ≤ acc.length + 2 + t.length := by
      rw [len_app, len_app]
      split
      · exact Nat.le_refl _
      · show acc.length + 0 + t.length ≤ _
        omega
    show (textFrom (k + 1) _ ts).length ≤ _
    simp only [List.length_cons, Nat.add_mul]
    omega
theorem listText_le {n : Nat} {ts : List Str} (h : ∀ t ∈ ts, t.length ≤ n) : (listText ts).length ≤ 2 + ts.length * (n + 2) := by
  have h1 := textFrom_le ts 0 "[" h
  have h2 : (("[" : String) : Str).length = 1 := rfl
  unfold listText
  rw [len_app]
  have h3 : (("]" : String) : Str).length = 1 := rfl
  omega
theorem piled_le {n : Nat} : ∀ {ts : List Str}, (∀ t ∈ ts, t.length ≤ n) → piled ts ≤ ts.length * (n + 2)
  | [], _ => by simp [piled]
  | t :: ts, h => by
    have ih := piled_le fun x hx => h x (List.mem_cons_of_mem _ hx)
    have h0 := h t (List.mem_cons_self ..)
    unfold piled at ih ⊢
    simp only [List.map_cons, List.sum_cons, List.length_cons, Nat.add_mul]
    omega
theorem tupleText_le {n : Nat} {ts : List Str} (h : ∀ t ∈ ts, t.length ≤ n) : (tupleText ts).length ≤ 4 + ts.length * (n + 2) := by
  have h1 : (Str.join ", " ts).length ≤ ts.length * (n + 2) := by
    by_cases ht : ts = []
    · subst ht; exact Nat.le_of_eq (by simp; rfl)
    · have := join_length_add ts ht
      have := piled_le h
      omega
  unfold tupleText
  rw [len_app, len_app]
  have h2 : (("(" : String) : Str).length = 1 := rfl
  have h3 : ((if ts.length == 1 then ",)" else ")" : String) : Str).length ≤ 2 := by
    split
    · exact Nat.le_refl _
    · show 1 ≤ 2
      omega
  omega
structure Shw (d : D) (m n : Nat) : Prop where
  ex : ∃ p, py d = some p ∧ p.showable = true ∧ p.depth ≤ m ∧ p.shown.length ≤ n
theorem Shw.mono {d : D} {m n m' n' : Nat} (h : Shw d m n) (hm : m ≤ m') (hn : n ≤ n') : Shw d m' n' :=
  let ⟨p, a, b, c, e⟩ := h.ex
  ⟨p, a, b, Nat.le_trans c hm, Nat.le_trans e hn⟩
theorem Shw.repr {d : D} {m n : Nat} (h : Shw d m n) (hm : m ≤ 60) (hn : n ≤ 10000000) : ∃ s, reprX [d] = some (.str s) := by
  obtain ⟨p, a, b, c, e⟩ := h.ex
  refine ⟨shw p, ?_⟩
  unfold reprX
  simp only [a]
  rw [if_pos ⟨b, by omega, by omega⟩]
theorem Shw.str {w : List Nat} {n : Nat} (h : ∀ c ∈ w, c < 16 ^ 8) (hn : w.length ≤ n) : Shw (.str w) 0 (10 * n + 2) := by
  refine ⟨.str (S w), rfl, rfl, by simp [PyData.depth], ?_⟩
  have e : (S w).length = w.length := by
    show (S w).cps.size = _
    rw [← Array.length_toList, S_cps]
  have := StrLaws.reprText_len (S w) (by rw [S_cps]; exact h)
  show (reprText (S w)).length ≤ _
  omega
theorem shw_all {m n : Nat} : ∀ {ds : List D}, (∀ d ∈ ds, Shw d m n) → ∃ ps, pys ds = some ps ∧ PyData.showableAll ps = true ∧ PyData.depthAll ps ≤ m ∧ (∀ t ∈ PyData.shownAll ps, t.length ≤ n) ∧ (PyData.shownAll ps).length = ds.length
  | [], _ => ⟨[], rfl, rfl, Nat.zero_le _, fun _ h => (nomatch h), rfl⟩
  | d :: ds, h => by
    obtain ⟨ps, a, b, c, e, f⟩ := shw_all fun x hx => h x (List.mem_cons_of_mem _ hx)
    obtain ⟨p, a1, b1, c1, e1⟩ := (h d (List.mem_cons_self ..)).ex
    refine ⟨p :: ps, by simp [pys, a, a1], by simp [PyData.showableAll, b, b1], by simp only [PyData.depthAll]; omega, fun t ht => ?_, by simp [PyData.shownAll, f]⟩
    simp only [PyData.shownAll, List.mem_cons] at ht
    rcases ht with rfl | ht
    · exact e1
    · exact e t ht
theorem Shw.lst {ds : List D} {m n N : Nat} (h : ∀ d ∈ ds, Shw d m n) (hl : ds.length ≤ N) : Shw (.lst ds) (m + 1) (4 + N * (n + 2)) := by
  obtain ⟨ps, a, b, c, e, f⟩ := shw_all h
  refine ⟨.list ps, by simp [py, a], by simp [PyData.showable, b], by simp only [PyData.depth]; omega, ?_⟩
  have := listText_le e
  rw [f] at this
  show (listText (PyData.shownAll ps)).length ≤ _
  have h2 : ds.length * (n + 2) ≤ N * (n + 2) := Nat.mul_le_mul_right _ hl
  omega
theorem Shw.tup {ds : List D} {m n N : Nat} (h : ∀ d ∈ ds, Shw d m n) (hl : ds.length ≤ N) : Shw (.tup ds) (m + 1) (4 + N * (n + 2)) := by
  obtain ⟨ps, a, b, c, e, f⟩ := shw_all h
  refine ⟨.tuple ps, by simp [py, a], by simp [PyData.showable, b], by simp only [PyData.depth]; omega, ?_⟩
  have := tupleText_le e
  rw [f] at this
  show (tupleText (PyData.shownAll ps)).length ≤ _
  have h2 : ds.length * (n + 2) ≤ N * (n + 2) := Nat.mul_le_mul_right _ hl
  omega
def shwB (d : D) (m n : Nat) : Bool := match py d with
  | some p => p.showable && decide (p.depth ≤ m) && decide (p.shown.length ≤ n)
  | none => false
theorem Shw.of {d : D} {m n : Nat} (h : shwB d m n = true) : Shw d m n := by
  unfold shwB at h
  split at h
  · rename_i p hp
    simp only [Bool.and_eq_true, decide_eq_true_eq] at h
    exact ⟨p, hp, h.1.1, h.1.2, h.2⟩
  · cases h
end Y
namespace Y
open PySem PySem.Spec PyProof.Rows L2 Z
theorem Shw.int {i : Int} {k : Nat} (h0 : 0 ≤ i) (hk : 0 < k) (h : i < 10 ^ k) (hk2 : i < 2 ^ 63) : Shw (.int i) 0 k := by
  refine ⟨.int i, rfl, ?_, by simp [PyData.depth], ?_⟩
  · simp only [PyData.showable, decide_eq_true_eq]
    by_cases hz : i.natAbs = 0
    · rw [hz]
      decide
    · have : i.natAbs.log2 < 63 := (Nat.log2_lt hz).mpr (by omega)
      omega
  · exact PyProof.Rows.toString_length_le h0 hk h
section
variable {α : Type} {tg : D → Env → Option Env} {fb : Env → M Out}
end
end Y
namespace Y
open PySem PySem.Spec PyProof.Rows L2 Z
theorem Dn.ofB {α : Type} {q : Tk} {c : Nat} {m : M α} {P : α → Prop} (h : Dn q c (m.bind M.ok) P) : Dn q c m P := by
  rw [bind_ok] at h
  exact h
end Y

namespace Y
open PySem PySem.Spec PyProof.Rows L2 Z
theorem q_is_line {w : List Nat} (hl : w.length ≤ 10000) : m_is_line [.str w] = .ok (.s, .bl (lineI w)) := by
  have hl' : w.length ≤ 100000 := by omega
  simp [bodyM, eVar, eC, eOp, eUn, eNil, eCons, eCB, eCO, eCOV, eLst, eTup, eB, eAnd, eOr, eNot, eBv, eAndV, eOrV, eNotV, eIf, eChain, eCall, okA, eTgN, eTgNil, eTgCons, eTgT, eRng, wipeE, noOwn, eLc, eYes, eDc, bNext, bSeq, bRet, bSet, bAsg, bDrop, bIf, bRaise, bFor, frzE, bFrz, setsE, bSets, isiD, tyName, chars, rng_len, eDGet2, eDNew, bApp, ownL, ownD, bDPut, eSl, ePart, eNo, eItA, itA, itD, eIxA, eJoin, isV, iop, cop, subD, modD, fdivD, leD, gtD, geD, eqB, neB, isBlD, notBlD, keyD, isDic, m_is_line, b_is_line, hl', allD]
  rw [lc_map (fun c => D.str [c]) (fun c => D.bl (inS [c] [97, 99, 103, 116])) (fun c => [some (false, D.str w), some (false, D.str [c])]) w]
  · simp [lineI, Function.comp_def]
  · exact fun c hc => ⟨rfl, rfl, .s, by simp [bodyM, eVar, eC, eOp, eUn, eNil, eCons, eCB, eCO, eCOV, eLst, eTup, eB, eAnd, eOr, eNot, eBv, eAndV, eOrV, eNotV, eIf, eChain, eCall, okA, eTgN, eTgNil, eTgCons, eTgT, eRng, wipeE, noOwn, eLc, eYes, eDc, bNext, bSeq, bRet, bSet, bAsg, bDrop, bIf, bRaise, bFor, frzE, bFrz, setsE, bSets, isiD, tyName, chars, rng_len, eDGet2, eDNew, bApp, ownL, ownD, bDPut, eSl, ePart, eNo, eItA, itA, itD, eIxA, eJoin, isV, iop, cop, subD, modD, fdivD, leD, gtD, geD, eqB, neB, isBlD, notBlD, keyD, isDic, inAB, inA, inD], rfl⟩
theorem q_is_word {w : List Nat} (hl : w.length ≤ 10000) : m_is_word [.str w] = .ok (.s, .bl (wordI w)) := by
  have hl' : w.length ≤ 10000000 := by omega
  simp [bodyM, eVar, eC, eOp, eUn, eNil, eCons, eCB, eCO, eCOV, eLst, eTup, eB, eAnd, eOr, eNot, eBv, eAndV, eOrV, eNotV, eIf, eChain, eCall, okA, eTgN, eTgNil, eTgCons, eTgT, eRng, wipeE, noOwn, eLc, eYes, eDc, bNext, bSeq, bRet, bSet, bAsg, bDrop, bIf, bRaise, bFor, frzE, bFrz, setsE, bSets, isiD, tyName, chars, rng_len, eDGet2, eDNew, bApp, ownL, ownD, bDPut, eSl, ePart, eNo, eItA, itA, itD, eIxA, eJoin, isV, iop, cop, subD, modD, fdivD, leD, gtD, geD, eqB, neB, isBlD, notBlD, keyD, isDic, m_is_word, b_is_word, q_is_line hl, lenD, hl', wordI]
  cases lineI w <;> simp
theorem q_need_word {w : List Nat} (hl : w.length ≤ 10000) (h : wordI w = true) : m_need_word [.str w] = .ok (.s, .non) := by
  simp [bodyM, eVar, eC, eOp, eUn, eNil, eCons, eCB, eCO, eCOV, eLst, eTup, eB, eAnd, eOr, eNot, eBv, eAndV, eOrV, eNotV, eIf, eChain, eCall, okA, eTgN, eTgNil, eTgCons, eTgT, eRng, wipeE, noOwn, eLc, eYes, eDc, bNext, bSeq, bRet, bSet, bAsg, bDrop, bIf, bRaise, bFor, frzE, bFrz, setsE, bSets, isiD, tyName, chars, rng_len, eDGet2, eDNew, bApp, ownL, ownD, bDPut, eSl, ePart, eNo, eItA, itA, itD, eIxA, eJoin, isV, iop, cop, subD, modD, fdivD, leD, gtD, geD, eqB, neB, isBlD, notBlD, keyD, isDic, m_need_word, b_need_word, q_is_word hl, h]
theorem q_is_between (i lo hi : Int) : m_is_between [.int i, .int lo, .int hi] = .ok (.s, .bl (decide (lo ≤ i) && decide (i ≤ hi))) := by
  simp [bodyM, eVar, eC, eOp, eUn, eNil, eCons, eCB, eCO, eCOV, eLst, eTup, eB, eAnd, eOr, eNot, eBv, eAndV, eOrV, eNotV, eIf, eChain, eCall, okA, eTgN, eTgNil, eTgCons, eTgT, eRng, wipeE, noOwn, eLc, eYes, eDc, bNext, bSeq, bRet, bSet, bAsg, bDrop, bIf, bRaise, bFor, frzE, bFrz, setsE, bSets, isiD, tyName, chars, rng_len, eDGet2, eDNew, bApp, ownL, ownD, bDPut, eSl, ePart, eNo, eItA, itA, itD, eIxA, eJoin, isV, iop, cop, subD, modD, fdivD, leD, gtD, geD, eqB, neB, isBlD, notBlD, keyD, isDic, m_is_between, b_is_between, m_is_integer, b_is_integer]
  by_cases h : lo ≤ i <;> simp [h]
theorem q_turn_of {w : List Nat} {i : Int} (hl : w.length ≤ 10000) : m_turn_of [.str w, .int i] = .ok (.s, .str (turnW w i)) := by
  have hl' : w.length ≤ 10000000 := by omega
  have h1 := cutL_le w (some i) none
  have h2 := cutL_le w none (some i)
  have h3 : (cutL w (some i) none).length + (cutL w none (some i)).length ≤ 10000000 := by omega
  simp [bodyM, eVar, eC, eOp, eUn, eNil, eCons, eCB, eCO, eCOV, eLst, eTup, eB, eAnd, eOr, eNot, eBv, eAndV, eOrV, eNotV, eIf, eChain, eCall, okA, eTgN, eTgNil, eTgCons, eTgT, eRng, wipeE, noOwn, eLc, eYes, eDc, bNext, bSeq, bRet, bSet, bAsg, bDrop, bIf, bRaise, bFor, frzE, bFrz, setsE, bSets, isiD, tyName, chars, rng_len, eDGet2, eDNew, bApp, ownL, ownD, bDPut, eSl, ePart, eNo, eItA, itA, itD, eIxA, eJoin, isV, iop, cop, subD, modD, fdivD, leD, gtD, geD, eqB, neB, isBlD, notBlD, keyD, isDic, m_turn_of, b_turn_of, slD, hl', addD, h3, turnW]
theorem q_least_turn {w : List Nat} (hl : w.length ≤ 10000) (hw : 0 < w.length) : m_least_turn [.str w] = .ok (.s, .str (leastW w)) := by
  have hl' : w.length ≤ 10000000 := by omega
  have h1 : (w.length : Int) ≤ 1000000 := by omega
  have h2 : (-1000000 : Int) ≤ w.length := by omega
  have h3 : w.length ≤ 100000 := by omega
  simp [bodyM, eVar, eC, eOp, eUn, eNil, eCons, eCB, eCO, eCOV, eLst, eTup, eB, eAnd, eOr, eNot, eBv, eAndV, eOrV, eNotV, eIf, eChain, eCall, okA, eTgN, eTgNil, eTgCons, eTgT, eRng, wipeE, noOwn, eLc, eYes, eDc, bNext, bSeq, bRet, bSet, bAsg, bDrop, bIf, bRaise, bFor, frzE, bFrz, setsE, bSets, isiD, tyName, chars, rng_len, eDGet2, eDNew, bApp, ownL, ownD, bDPut, eSl, ePart, eNo, eItA, itA, itD, eIxA, eJoin, isV, iop, cop, subD, modD, fdivD, leD, gtD, geD, eqB, neB, isBlD, notBlD, keyD, isDic, m_least_turn, b_least_turn, lenD, hl', rngD1, h1, h2, dInts, h3]
  rw [lc_map (fun i => D.int i) (fun i => D.str (turnW w i)) (fun i => [some (false, D.str w), some (false, D.int i)]) (rng 0 w.length)]
  · simp [minL_mapf _ (rng0_ne hw), leastW]
  · exact fun i _ => ⟨rfl, rfl, .s, by simp [bodyM, eVar, eC, eOp, eUn, eNil, eCons, eCB, eCO, eCOV, eLst, eTup, eB, eAnd, eOr, eNot, eBv, eAndV, eOrV, eNotV, eIf, eChain, eCall, okA, eTgN, eTgNil, eTgCons, eTgT, eRng, wipeE, noOwn, eLc, eYes, eDc, bNext, bSeq, bRet, bSet, bAsg, bDrop, bIf, bRaise, bFor, frzE, bFrz, setsE, bSets, isiD, tyName, chars, rng_len, eDGet2, eDNew, bApp, ownL, ownD, bDPut, eSl, ePart, eNo, eItA, itA, itD, eIxA, eJoin, isV, iop, cop, subD, modD, fdivD, leD, gtD, geD, eqB, neB, isBlD, notBlD, keyD, isDic, q_turn_of hl], rfl⟩
theorem q_is_ring {w : List Nat} (hl : w.length ≤ 10000) : m_is_ring [.str w] = .ok (.s, .bl (wordI w && decide (leastW w = w))) := by
  cases h : wordI w with
  | false => simp [bodyM, eVar, eC, eOp, eUn, eNil, eCons, eCB, eCO, eCOV, eLst, eTup, eB, eAnd, eOr, eNot, eBv, eAndV, eOrV, eNotV, eIf, eChain, eCall, okA, eTgN, eTgNil, eTgCons, eTgT, eRng, wipeE, noOwn, eLc, eYes, eDc, bNext, bSeq, bRet, bSet, bAsg, bDrop, bIf, bRaise, bFor, frzE, bFrz, setsE, bSets, isiD, tyName, chars, rng_len, eDGet2, eDNew, bApp, ownL, ownD, bDPut, eSl, ePart, eNo, eItA, itA, itD, eIxA, eJoin, isV, iop, cop, subD, modD, fdivD, leD, gtD, geD, eqB, neB, isBlD, notBlD, keyD, isDic, m_is_ring, b_is_ring, q_is_word hl, h]
  | true =>
    have hw : 0 < w.length := by simp [wordI] at h; exact h.2
    simp [bodyM, eVar, eC, eOp, eUn, eNil, eCons, eCB, eCO, eCOV, eLst, eTup, eB, eAnd, eOr, eNot, eBv, eAndV, eOrV, eNotV, eIf, eChain, eCall, okA, eTgN, eTgNil, eTgCons, eTgT, eRng, wipeE, noOwn, eLc, eYes, eDc, bNext, bSeq, bRet, bSet, bAsg, bDrop, bIf, bRaise, bFor, frzE, bFrz, setsE, bSets, isiD, tyName, chars, rng_len, eDGet2, eDNew, bApp, ownL, ownD, bDPut, eSl, ePart, eNo, eItA, itA, itD, eIxA, eJoin, isV, iop, cop, subD, modD, fdivD, leD, gtD, geD, eqB, neB, isBlD, notBlD, keyD, isDic, m_is_ring, b_is_ring, q_is_word hl, h, q_least_turn hl hw, eqD]
theorem q_need_ring {w : List Nat} (hl : w.length ≤ 10000) (h : wordI w = true) (hr : leastW w = w) : m_need_ring [.str w] = .ok (.s, .non) := by
  simp [bodyM, eVar, eC, eOp, eUn, eNil, eCons, eCB, eCO, eCOV, eLst, eTup, eB, eAnd, eOr, eNot, eBv, eAndV, eOrV, eNotV, eIf, eChain, eCall, okA, eTgN, eTgNil, eTgCons, eTgT, eRng, wipeE, noOwn, eLc, eYes, eDc, bNext, bSeq, bRet, bSet, bAsg, bDrop, bIf, bRaise, bFor, frzE, bFrz, setsE, bSets, isiD, tyName, chars, rng_len, eDGet2, eDNew, bApp, ownL, ownD, bDPut, eSl, ePart, eNo, eItA, itA, itD, eIxA, eJoin, isV, iop, cop, subD, modD, fdivD, leD, gtD, geD, eqB, neB, isBlD, notBlD, keyD, isDic, m_need_ring, b_need_ring, q_is_ring hl, h, hr]
theorem q_turn {w : List Nat} {i : Int} (hl : w.length ≤ 10000) (h : wordI w = true) (h0 : 0 ≤ i) (h1 : i < w.length) : m_turn [.str w, .int i] = .ok (.s, .str (turnW w i)) := by
  have hl' : w.length ≤ 10000000 := by omega
  have h2 : i ≤ (w.length : Int) - 1 := by omega
  simp [bodyM, eVar, eC, eOp, eUn, eNil, eCons, eCB, eCO, eCOV, eLst, eTup, eB, eAnd, eOr, eNot, eBv, eAndV, eOrV, eNotV, eIf, eChain, eCall, okA, eTgN, eTgNil, eTgCons, eTgT, eRng, wipeE, noOwn, eLc, eYes, eDc, bNext, bSeq, bRet, bSet, bAsg, bDrop, bIf, bRaise, bFor, frzE, bFrz, setsE, bSets, isiD, tyName, chars, rng_len, eDGet2, eDNew, bApp, ownL, ownD, bDPut, eSl, ePart, eNo, eItA, itA, itD, eIxA, eJoin, isV, iop, cop, subD, modD, fdivD, leD, gtD, geD, eqB, neB, isBlD, notBlD, keyD, isDic, m_turn, b_turn, q_need_word hl h, lenD, hl', q_is_between, h0, h2, q_turn_of hl]
theorem q_ring_of {w : List Nat} (hl : w.length ≤ 10000) (h : wordI w = true) : m_ring_of [.str w] = .ok (.s, .str (leastW w)) := by
  have hw : 0 < w.length := by simp [wordI] at h; exact h.2
  simp [bodyM, eVar, eC, eOp, eUn, eNil, eCons, eCB, eCO, eCOV, eLst, eTup, eB, eAnd, eOr, eNot, eBv, eAndV, eOrV, eNotV, eIf, eChain, eCall, okA, eTgN, eTgNil, eTgCons, eTgT, eRng, wipeE, noOwn, eLc, eYes, eDc, bNext, bSeq, bRet, bSet, bAsg, bDrop, bIf, bRaise, bFor, frzE, bFrz, setsE, bSets, isiD, tyName, chars, rng_len, eDGet2, eDNew, bApp, ownL, ownD, bDPut, eSl, ePart, eNo, eItA, itA, itD, eIxA, eJoin, isV, iop, cop, subD, modD, fdivD, leD, gtD, geD, eqB, neB, isBlD, notBlD, keyD, isDic, m_ring_of, b_ring_of, q_need_word hl h, q_least_turn hl hw]
theorem q_read_on {w : List Nat} {a : Int} {n : Nat} (hl : w.length ≤ 10000) (hw : 0 < w.length) (hn : n ≤ 10000) : m_read_on [.str w, .int a, .int n] = .ok (.s, .str (readW w a n)) := by
  have hl' : w.length ≤ 10000000 := by omega
  have h1 : (n : Int) ≤ 1000000 := by omega
  have h2 : (-1000000 : Int) ≤ n := by omega
  have h3 : n ≤ 100000 := by omega
  have h4 : ¬ w = [] := by intro e; simp [e] at hw
  simp [bodyM, eVar, eC, eOp, eUn, eNil, eCons, eCB, eCO, eCOV, eLst, eTup, eB, eAnd, eOr, eNot, eBv, eAndV, eOrV, eNotV, eIf, eChain, eCall, okA, eTgN, eTgNil, eTgCons, eTgT, eRng, wipeE, noOwn, eLc, eYes, eDc, bNext, bSeq, bRet, bSet, bAsg, bDrop, bIf, bRaise, bFor, frzE, bFrz, setsE, bSets, isiD, tyName, chars, rng_len, eDGet2, eDNew, bApp, ownL, ownD, bDPut, eSl, ePart, eNo, eItA, itA, itD, eIxA, eJoin, isV, iop, cop, subD, modD, fdivD, leD, gtD, geD, eqB, neB, isBlD, notBlD, keyD, isDic, m_read_on, b_read_on, lenD, hl', rngD1, h1, h2, dInts, h3]
  rw [lc_map (fun i => D.int i) (fun s => D.str [(atI w ((a + s).fmod w.length)).getD 0]) (fun i => [some (false, D.str w), some (false, D.int a), some (false, .int n), some (false, D.int i)]) (rng 0 n)]
  · have e : ((rng 0 n).map (List.length ∘ fun s => [(atI w ((a + s).fmod w.length)).getD 0])).sum ≤ 10000000 := by
      rw [← List.map_map, sum_one _ _ fun _ => rfl, rng_len]; omega
    simp [joinD, e, flatten_single, readW]
  · refine fun i _ => ⟨rfl, rfl, .s, ?_, rfl⟩
    simp [bodyM, eVar, eC, eOp, eUn, eNil, eCons, eCB, eCO, eCOV, eLst, eTup, eB, eAnd, eOr, eNot, eBv, eAndV, eOrV, eNotV, eIf, eChain, eCall, okA, eTgN, eTgNil, eTgCons, eTgT, eRng, wipeE, noOwn, eLc, eYes, eDc, bNext, bSeq, bRet, bSet, bAsg, bDrop, bIf, bRaise, bFor, frzE, bFrz, setsE, bSets, isiD, tyName, chars, rng_len, eDGet2, eDNew, bApp, ownL, ownD, bDPut, eSl, ePart, eNo, eItA, itA, itD, eIxA, eJoin, isV, iop, cop, subD, modD, fdivD, leD, gtD, geD, eqB, neB, isBlD, notBlD, keyD, isDic, addD, lenD, hl', h4, ixA, ixD]
    rw [atI_mod' hw]
    rfl
section
variable {α : Type} {q : Tk} {c : Nat} {P : α → Prop} {f : Vl → M α}
theorem q_pickL (q : Tk) (ds : List D) : m__law_pick [.drw q, .lst ds] = .take q ds.length fun i => (M.of (atI ds i)).bind fun d => .ok (.s, d) := by
  simp [bodyM, eVar, eC, eOp, eUn, eNil, eCons, eCB, eCO, eCOV, eLst, eTup, eB, eAnd, eOr, eNot, eBv, eAndV, eOrV, eNotV, eIf, eChain, eCall, okA, eTgN, eTgNil, eTgCons, eTgT, eRng, wipeE, noOwn, eLc, eYes, eDc, bNext, bSeq, bRet, bSet, bAsg, bDrop, bIf, bRaise, bFor, frzE, bFrz, setsE, bSets, isiD, tyName, chars, rng_len, eDGet2, eDNew, bApp, ownL, ownD, bDPut, eSl, ePart, eNo, eItA, itA, itD, eIxA, eJoin, isV, iop, cop, subD, modD, fdivD, leD, gtD, geD, eqB, neB, isBlD, notBlD, keyD, isDic, m__law_pick, b__law_pick, lenD, m_take, ixA, ixD]
end
section
variable {α : Type} {q : Tk} {c : Nat} {P : α → Prop} {f : Vl → M α}
theorem q_pickS (q : Tk) {w : List Nat} (hl : w.length ≤ 10000) : m__law_pick [.drw q, .str w] = .take q w.length fun i => (M.of ((atI w i).map fun c => .str [c])).bind fun d => .ok (.s, d) := by
  have hl' : w.length ≤ 10000000 := by omega
  simp [bodyM, eVar, eC, eOp, eUn, eNil, eCons, eCB, eCO, eCOV, eLst, eTup, eB, eAnd, eOr, eNot, eBv, eAndV, eOrV, eNotV, eIf, eChain, eCall, okA, eTgN, eTgNil, eTgCons, eTgT, eRng, wipeE, noOwn, eLc, eYes, eDc, bNext, bSeq, bRet, bSet, bAsg, bDrop, bIf, bRaise, bFor, frzE, bFrz, setsE, bSets, isiD, tyName, chars, rng_len, eDGet2, eDNew, bApp, ownL, ownD, bDPut, eSl, ePart, eNo, eItA, itA, itD, eIxA, eJoin, isV, iop, cop, subD, modD, fdivD, leD, gtD, geD, eqB, neB, isBlD, notBlD, keyD, isDic, m__law_pick, b__law_pick, lenD, m_take, ixA, ixD, hl']
end
section
variable {α : Type} {q : Tk} {c : Nat} {P : α → Prop} {f : Vl → M α}
theorem Dn.pickL {ds : List D} (h0 : ds ≠ []) (hl : ds.length < 1000000000) (h : ∀ d ∈ ds, Dn q c (f (.s, d)) P) : Dn q (c + 1) ((m__law_pick [.drw q, .lst ds]).bind f) P := by
  rw [q_pickL]
  have hp : 0 < ds.length := List.length_pos_iff.mpr h0
  refine Dn.take (by omega) (by omega) fun i a b => ?_
  obtain ⟨d, e, hd⟩ := atI_some a b
  simp only [e]
  exact h d hd
end
section
variable {α : Type} {q : Tk} {c : Nat} {P : α → Prop} {f : Vl → M α}
theorem Dn.pickS {w : List Nat} (h0 : 0 < w.length) (hl : w.length ≤ 10000) (h : ∀ x ∈ w, Dn q c (f (.s, .str [x])) P) : Dn q (c + 1) ((m__law_pick [.drw q, .str w]).bind f) P := by
  rw [q_pickS q hl]
  refine Dn.take (by omega) (by omega) fun i a b => ?_
  obtain ⟨d, e, hd⟩ := atI_some a b
  simp only [e]
  exact h d hd
end
section
variable {q : Tk}
theorem d_signs : Dn q 1 (m__law_signs [.drw q]) fun r => ∃ w, r = (.s, .str w) ∧ Ac w ∧ 0 < w.length ∧ w.length ≤ 10 := by
  simp [bodyM, eVar, eC, eOp, eUn, eNil, eCons, eCB, eCO, eCOV, eLst, eTup, eB, eAnd, eOr, eNot, eBv, eAndV, eOrV, eNotV, eIf, eChain, eCall, okA, eTgN, eTgNil, eTgCons, eTgT, eRng, wipeE, noOwn, eLc, eYes, eDc, bNext, bSeq, bRet, bSet, bAsg, bDrop, bIf, bRaise, bFor, frzE, bFrz, setsE, bSets, isiD, tyName, chars, rng_len, eDGet2, eDNew, bApp, ownL, ownD, bDPut, eSl, ePart, eNo, eItA, itA, itD, eIxA, eJoin, isV, iop, cop, subD, modD, fdivD, leD, gtD, geD, eqB, neB, isBlD, notBlD, keyD, isDic, m__law_signs, b__law_signs]
  refine Dn.pickL (c := 0) (by simp) (by simp) fun d hd => Dn.ok ?_
  simp only [List.mem_cons, List.not_mem_nil, or_false] at hd
  rcases hd with rfl | rfl | rfl | rfl | rfl | rfl | rfl | rfl | rfl | rfl
  all_goals exact ⟨_, rfl, by unfold Ac; decide, by decide, by decide⟩
end
section
variable {q : Tk}
theorem d_letters {w : List Nat} {n : Nat} (hw : Ac w) (h0 : 0 < w.length) (hl : w.length ≤ 1000) (hn : n ≤ 1000) : Dn q n (m__law_letters [.drw q, .str w, .int n]) fun r => ∃ z, r = (.s, .str z) ∧ Ac z ∧ z.length = n := by
  have h1 : (n : Int) ≤ 1000000 := by omega
  have h2 : (-1000000 : Int) ≤ n := by omega
  have h3 : n ≤ 100000 := by omega
  simp [bodyM, eVar, eC, eOp, eUn, eNil, eCons, eCB, eCO, eCOV, eLst, eTup, eB, eAnd, eOr, eNot, eBv, eAndV, eOrV, eNotV, eIf, eChain, eCall, okA, eTgN, eTgNil, eTgCons, eTgT, eRng, wipeE, noOwn, eLc, eYes, eDc, bNext, bSeq, bRet, bSet, bAsg, bDrop, bIf, bRaise, bFor, frzE, bFrz, setsE, bSets, isiD, tyName, chars, rng_len, eDGet2, eDNew, bApp, ownL, ownD, bDPut, eSl, ePart, eNo, eItA, itA, itD, eIxA, eJoin, isV, iop, cop, subD, modD, fdivD, leD, gtD, geD, eqB, neB, isBlD, notBlD, keyD, isDic, m__law_letters, b__law_letters, rngD1, h1, h2, dInts, h3]
  refine (Dn.bind (c1 := (rng 0 n).length * 1) (c2 := 0) (Dn.nox (Dn.lcGo (P := fun d => ∃ z, d = .str z ∧ Ac z ∧ z.length = 1) (fun i => D.int i) (rng 0 n) fun i _ => ⟨_, rfl, rfl, ?_⟩)) fun rs hrs => ?_).le (by rw [rng_len]; omega)
  · simp [bodyM, eVar, eC, eOp, eUn, eNil, eCons, eCB, eCO, eCOV, eLst, eTup, eB, eAnd, eOr, eNot, eBv, eAndV, eOrV, eNotV, eIf, eChain, eCall, okA, eTgN, eTgNil, eTgCons, eTgT, eRng, wipeE, noOwn, eLc, eYes, eDc, bNext, bSeq, bRet, bSet, bAsg, bDrop, bIf, bRaise, bFor, frzE, bFrz, setsE, bSets, isiD, tyName, chars, rng_len, eDGet2, eDNew, bApp, ownL, ownD, bDPut, eSl, ePart, eNo, eItA, itA, itD, eIxA, eJoin, isV, iop, cop, subD, modD, fdivD, leD, gtD, geD, eqB, neB, isBlD, notBlD, keyD, isDic]
    exact Dn.ofB <| Dn.pickS (c := 0) h0 (by omega) fun x hx => Dn.ok ⟨rfl, [x], rfl, fun y hy => by simp at hy; rw [hy]; exact hw x hx, rfl⟩
  · obtain ⟨hlen, hall⟩ := hrs
    obtain ⟨ws, rfl, hws⟩ := strs_all rs _ hall
    obtain ⟨f1, f2⟩ := flat_len ws fun x hx => (hws x hx).2
    have f3 : ws.length = n := by rw [← rng_len 0 n, ← hlen]; simp
    have f4 : (ws.map List.length).sum ≤ 10000000 := by omega
    refine Dn.pure (a := (.s, .str ws.flatten)) ?_ ⟨_, rfl, fun c hc => ?_, by omega⟩
    · simp [bodyM, eVar, eC, eOp, eUn, eNil, eCons, eCB, eCO, eCOV, eLst, eTup, eB, eAnd, eOr, eNot, eBv, eAndV, eOrV, eNotV, eIf, eChain, eCall, okA, eTgN, eTgNil, eTgCons, eTgT, eRng, wipeE, noOwn, eLc, eYes, eDc, bNext, bSeq, bRet, bSet, bAsg, bDrop, bIf, bRaise, bFor, frzE, bFrz, setsE, bSets, isiD, tyName, chars, rng_len, eDGet2, eDNew, bApp, ownL, ownD, bDPut, eSl, ePart, eNo, eItA, itA, itD, eIxA, eJoin, isV, iop, cop, subD, modD, fdivD, leD, gtD, geD, eqB, neB, isBlD, notBlD, keyD, isDic, joinD, f4]
    · obtain ⟨x, hx, hc⟩ := List.mem_flatten.mp hc
      exact (hws x hx).1 c hc
end
section
variable {q : Tk}
theorem d_text {most : Nat} (h0 : 0 < most) (hm : most ≤ 100) : Dn q 400 (m__law_text [.drw q, .int most]) fun r => ∃ w, r = (.s, .str w) ∧ Ac w ∧ 0 < w.length ∧ w.length ≤ most := by
  simp [bodyM, eVar, eC, eOp, eUn, eNil, eCons, eCB, eCO, eCOV, eLst, eTup, eB, eAnd, eOr, eNot, eBv, eAndV, eOrV, eNotV, eIf, eChain, eCall, okA, eTgN, eTgNil, eTgCons, eTgT, eRng, wipeE, noOwn, eLc, eYes, eDc, bNext, bSeq, bRet, bSet, bAsg, bDrop, bIf, bRaise, bFor, frzE, bFrz, setsE, bSets, isiD, tyName, chars, rng_len, eDGet2, eDNew, bApp, ownL, ownD, bDPut, eSl, ePart, eNo, eItA, itA, itD, eIxA, eJoin, isV, iop, cop, subD, modD, fdivD, leD, gtD, geD, eqB, neB, isBlD, notBlD, keyD, isDic, m__law_text, b__law_text]
  refine (Dn.bind (c2 := 399) d_signs fun r hr => ?_).le (by omega)
  obtain ⟨z, rfl, hz, hz0, hz1⟩ := hr
  refine Dn.tk (c := 398) (by omega) (by omega) fun i a b => ?_
  obtain ⟨i, rfl⟩ : ∃ k : Nat, i = (k : Int) := ⟨i.toNat, by omega⟩
  have hn : (1 : Int) + (i : Int) = ((1 + i : Nat) : Int) := by omega
  simp [bodyM, eVar, eC, eOp, eUn, eNil, eCons, eCB, eCO, eCOV, eLst, eTup, eB, eAnd, eOr, eNot, eBv, eAndV, eOrV, eNotV, eIf, eChain, eCall, okA, eTgN, eTgNil, eTgCons, eTgT, eRng, wipeE, noOwn, eLc, eYes, eDc, bNext, bSeq, bRet, bSet, bAsg, bDrop, bIf, bRaise, bFor, frzE, bFrz, setsE, bSets, isiD, tyName, chars, rng_len, eDGet2, eDNew, bApp, ownL, ownD, bDPut, eSl, ePart, eNo, eItA, itA, itD, eIxA, eJoin, isV, iop, cop, subD, modD, fdivD, leD, gtD, geD, eqB, neB, isBlD, notBlD, keyD, isDic, addD]
  rw [hn]
  generalize hN : 1 + i = N
  have hN0 : 0 < N := by omega
  have hN1 : N ≤ most := by omega
  refine Dn.tk (c := 397) (by omega) (by omega) fun j a2 b2 => ?_
  simp [bodyM, eVar, eC, eOp, eUn, eNil, eCons, eCB, eCO, eCOV, eLst, eTup, eB, eAnd, eOr, eNot, eBv, eAndV, eOrV, eNotV, eIf, eChain, eCall, okA, eTgN, eTgNil, eTgCons, eTgT, eRng, wipeE, noOwn, eLc, eYes, eDc, bNext, bSeq, bRet, bSet, bAsg, bDrop, bIf, bRaise, bFor, frzE, bFrz, setsE, bSets, isiD, tyName, chars, rng_len, eDGet2, eDNew, bApp, ownL, ownD, bDPut, eSl, ePart, eNo, eItA, itA, itD, eIxA, eJoin, isV, iop, cop, subD, modD, fdivD, leD, gtD, geD, eqB, neB, isBlD, notBlD, keyD, isDic]
  by_cases hj : 0 < j
  · simp [bodyM, eVar, eC, eOp, eUn, eNil, eCons, eCB, eCO, eCOV, eLst, eTup, eB, eAnd, eOr, eNot, eBv, eAndV, eOrV, eNotV, eIf, eChain, eCall, okA, eTgN, eTgNil, eTgCons, eTgT, eRng, wipeE, noOwn, eLc, eYes, eDc, bNext, bSeq, bRet, bSet, bAsg, bDrop, bIf, bRaise, bFor, frzE, bFrz, setsE, bSets, isiD, tyName, chars, rng_len, eDGet2, eDNew, bApp, ownL, ownD, bDPut, eSl, ePart, eNo, eItA, itA, itD, eIxA, eJoin, isV, iop, cop, subD, modD, fdivD, leD, gtD, geD, eqB, neB, isBlD, notBlD, keyD, isDic, hj]
    refine (Dn.bind (c2 := 0) (d_letters (n := N) hz hz0 (by omega) (by omega)) fun r hr => ?_).le (by omega)
    obtain ⟨w, rfl, h1, h2⟩ := hr
    simp [bodyM, eVar, eC, eOp, eUn, eNil, eCons, eCB, eCO, eCOV, eLst, eTup, eB, eAnd, eOr, eNot, eBv, eAndV, eOrV, eNotV, eIf, eChain, eCall, okA, eTgN, eTgNil, eTgCons, eTgT, eRng, wipeE, noOwn, eLc, eYes, eDc, bNext, bSeq, bRet, bSet, bAsg, bDrop, bIf, bRaise, bFor, frzE, bFrz, setsE, bSets, isiD, tyName, chars, rng_len, eDGet2, eDNew, bApp, ownL, ownD, bDPut, eSl, ePart, eNo, eItA, itA, itD, eIxA, eJoin, isV, iop, cop, subD, modD, fdivD, leD, gtD, geD, eqB, neB, isBlD, notBlD, keyD, isDic]
    exact Dn.ok ⟨w, rfl, h1, by omega, by omega⟩
  · simp [bodyM, eVar, eC, eOp, eUn, eNil, eCons, eCB, eCO, eCOV, eLst, eTup, eB, eAnd, eOr, eNot, eBv, eAndV, eOrV, eNotV, eIf, eChain, eCall, okA, eTgN, eTgNil, eTgCons, eTgT, eRng, wipeE, noOwn, eLc, eYes, eDc, bNext, bSeq, bRet, bSet, bAsg, bDrop, bIf, bRaise, bFor, frzE, bFrz, setsE, bSets, isiD, tyName, chars, rng_len, eDGet2, eDNew, bApp, ownL, ownD, bDPut, eSl, ePart, eNo, eItA, itA, itD, eIxA, eJoin, isV, iop, cop, subD, modD, fdivD, leD, gtD, geD, eqB, neB, isBlD, notBlD, keyD, isDic, hj, rngD1, dInts]
    refine (Dn.bind (c1 := (rng 0 2).length * 6) (c2 := 300) (Dn.nox (Dn.lcGo (c := 6) (P := fun d => ∃ z, d = .str z ∧ Ac z ∧ 0 < z.length ∧ z.length ≤ 4) (fun i => D.int i) (rng 0 2) fun i _ => ⟨_, rfl, rfl, ?_⟩)) fun rs hrs => ?_).le (by rw [rng_len]; omega)
    · simp [bodyM, eVar, eC, eOp, eUn, eNil, eCons, eCB, eCO, eCOV, eLst, eTup, eB, eAnd, eOr, eNot, eBv, eAndV, eOrV, eNotV, eIf, eChain, eCall, okA, eTgN, eTgNil, eTgCons, eTgT, eRng, wipeE, noOwn, eLc, eYes, eDc, bNext, bSeq, bRet, bSet, bAsg, bDrop, bIf, bRaise, bFor, frzE, bFrz, setsE, bSets, isiD, tyName, chars, rng_len, eDGet2, eDNew, bApp, ownL, ownD, bDPut, eSl, ePart, eNo, eItA, itA, itD, eIxA, eJoin, isV, iop, cop, subD, modD, fdivD, leD, gtD, geD, eqB, neB, isBlD, notBlD, keyD, isDic]
      refine Dn.tk (c := 5) (by omega) (by omega) fun i a b => ?_
      obtain ⟨i, rfl⟩ : ∃ k : Nat, i = (k : Int) := ⟨i.toNat, by omega⟩
      have hn : (1 : Int) + (i : Int) = ((1 + i : Nat) : Int) := by omega
      simp [bodyM, eVar, eC, eOp, eUn, eNil, eCons, eCB, eCO, eCOV, eLst, eTup, eB, eAnd, eOr, eNot, eBv, eAndV, eOrV, eNotV, eIf, eChain, eCall, okA, eTgN, eTgNil, eTgCons, eTgT, eRng, wipeE, noOwn, eLc, eYes, eDc, bNext, bSeq, bRet, bSet, bAsg, bDrop, bIf, bRaise, bFor, frzE, bFrz, setsE, bSets, isiD, tyName, chars, rng_len, eDGet2, eDNew, bApp, ownL, ownD, bDPut, eSl, ePart, eNo, eItA, itA, itD, eIxA, eJoin, isV, iop, cop, subD, modD, fdivD, leD, gtD, geD, eqB, neB, isBlD, notBlD, keyD, isDic, addD]
      rw [hn]
      refine Dn.le (c := 1 + i + 0) ?_ (by omega)
      refine Dn.ofB <| Dn.bind (d_letters (n := 1 + i) hz hz0 (by omega) (by omega)) fun r hr => ?_
      obtain ⟨w, rfl, h1, h2⟩ := hr
      exact Dn.ok ⟨rfl, w, rfl, h1, by omega, by omega⟩
    · obtain ⟨hlen, hall⟩ := hrs
      rw [rng_len] at hlen
      obtain ⟨ws, rfl, hws⟩ := strs_all rs _ hall
      have hN' : (N : Int) ≤ 1000000 := by omega
      simp [bodyM, eVar, eC, eOp, eUn, eNil, eCons, eCB, eCO, eCOV, eLst, eTup, eB, eAnd, eOr, eNot, eBv, eAndV, eOrV, eNotV, eIf, eChain, eCall, okA, eTgN, eTgNil, eTgCons, eTgT, eRng, wipeE, noOwn, eLc, eYes, eDc, bNext, bSeq, bRet, bSet, bAsg, bDrop, bIf, bRaise, bFor, frzE, bFrz, setsE, bSets, isiD, tyName, chars, rng_len, eDGet2, eDNew, bApp, ownL, ownD, bDPut, eSl, ePart, eNo, eItA, itA, itD, eIxA, eJoin, isV, iop, cop, subD, modD, fdivD, leD, gtD, geD, eqB, neB, isBlD, notBlD, keyD, isDic, hN']
      refine (Dn.bind (c1 := (rng 0 N).length * 1) (c2 := 0) (Dn.forGoR (J := fun r e => ∃ b4 f o6, e = [some (false, D.drw q), some (false, D.int most), some (false, D.str z), some (false, D.int N), some (b4, D.lst (ws.map .str)), some (false, D.str f), o6] ∧ Ac f ∧ N ≤ f.length + r.length ∧ f.length + 4 * r.length ≤ 4 * N) D.int (fun x r e he => ?_) (rng 0 N) _ ⟨true, [], none, rfl, fun _ h => (nomatch h), by rw [rng_len]; simp, by rw [rng_len]; simp⟩) fun o ho => ?_).le (by rw [rng_len]; omega)
      · obtain ⟨b4, f, o6, rfl, hf, hf1, hf2⟩ := he
        simp only [List.length_cons] at hf1 hf2
        refine ⟨_, rfl, ?_⟩
        have hws2 : ws.map D.str ≠ [] := by intro e; rw [e] at hlen; simp at hlen
        cases b4 <;> (conv => arg 3; simp [bodyM, eVar, eC, eOp, eUn, eNil, eCons, eCB, eCO, eCOV, eLst, eTup, eB, eAnd, eOr, eNot, eBv, eAndV, eOrV, eNotV, eIf, eChain, eCall, okA, eTgN, eTgNil, eTgCons, eTgT, eRng, wipeE, noOwn, eLc, eYes, eDc, bNext, bSeq, bRet, bSet, bAsg, bDrop, bIf, bRaise, bFor, frzE, bFrz, setsE, bSets, isiD, tyName, chars, rng_len, eDGet2, eDNew, bApp, ownL, ownD, bDPut, eSl, ePart, eNo, eItA, itA, itD, eIxA, eJoin, isV, iop, cop, subD, modD, fdivD, leD, gtD, geD, eqB, neB, isBlD, notBlD, keyD, isDic])
        all_goals
          refine Dn.pickL (c := 0) hws2 (by rw [hlen]; omega) fun d hd => ?_
          obtain ⟨w, hw, rfl⟩ := List.mem_map.mp hd
          obtain ⟨g1, g2, g3⟩ := hws w hw
          have g4 : f.length + w.length ≤ 10000000 := by omega
          (conv => arg 3; simp [bodyM, eVar, eC, eOp, eUn, eNil, eCons, eCB, eCO, eCOV, eLst, eTup, eB, eAnd, eOr, eNot, eBv, eAndV, eOrV, eNotV, eIf, eChain, eCall, okA, eTgN, eTgNil, eTgCons, eTgT, eRng, wipeE, noOwn, eLc, eYes, eDc, bNext, bSeq, bRet, bSet, bAsg, bDrop, bIf, bRaise, bFor, frzE, bFrz, setsE, bSets, isiD, tyName, chars, rng_len, eDGet2, eDNew, bApp, ownL, ownD, bDPut, eSl, ePart, eNo, eItA, itA, itD, eIxA, eJoin, isV, iop, cop, subD, modD, fdivD, leD, gtD, geD, eqB, neB, isBlD, notBlD, keyD, isDic, addD, g4])
          exact Dn.ok ⟨_, rfl, _, _, _, rfl, ac_app hf g1, by simp; omega, by simp; omega⟩
      · obtain ⟨e, rfl, b4, f, o6, rfl, hf, hf1, hf2⟩ := ho
        simp only [List.length_nil] at hf1 hf2
        have g4 : f.length ≤ 10000000 := by omega
        (conv => arg 3; simp [bodyM, eVar, eC, eOp, eUn, eNil, eCons, eCB, eCO, eCOV, eLst, eTup, eB, eAnd, eOr, eNot, eBv, eAndV, eOrV, eNotV, eIf, eChain, eCall, okA, eTgN, eTgNil, eTgCons, eTgT, eRng, wipeE, noOwn, eLc, eYes, eDc, bNext, bSeq, bRet, bSet, bAsg, bDrop, bIf, bRaise, bFor, frzE, bFrz, setsE, bSets, isiD, tyName, chars, rng_len, eDGet2, eDNew, bApp, ownL, ownD, bDPut, eSl, ePart, eNo, eItA, itA, itD, eIxA, eJoin, isV, iop, cop, subD, modD, fdivD, leD, gtD, geD, eqB, neB, isBlD, notBlD, keyD, isDic, slD, g4, cut_to])
        exact Dn.ok ⟨_, rfl, ac_take hf, by simp; omega, by simp; omega⟩
end
theorem q_ring_stretches {w : List Nat} {n : Nat} (hl : w.length ≤ 10000) (hw : 0 < w.length) (hn : n ≤ 10000) : m_ring_stretches [.str w, .int n] = .ok (.o, .lst ((rng 0 w.length).map fun i => .str (readW w i n))) := by
  have hl' : w.length ≤ 10000000 := by omega
  have h1 : (w.length : Int) ≤ 1000000 := by omega
  have h2 : (-1000000 : Int) ≤ w.length := by omega
  have h3 : w.length ≤ 100000 := by omega
  simp [bodyM, eVar, eC, eOp, eUn, eNil, eCons, eCB, eCO, eCOV, eLst, eTup, eB, eAnd, eOr, eNot, eBv, eAndV, eOrV, eNotV, eIf, eChain, eCall, okA, eTgN, eTgNil, eTgCons, eTgT, eRng, wipeE, noOwn, eLc, eYes, eDc, bNext, bSeq, bRet, bSet, bAsg, bDrop, bIf, bRaise, bFor, frzE, bFrz, setsE, bSets, isiD, tyName, chars, rng_len, eDGet2, eDNew, bApp, ownL, ownD, bDPut, eSl, ePart, eNo, eItA, itA, itD, eIxA, eJoin, isV, iop, cop, subD, modD, fdivD, leD, gtD, geD, eqB, neB, isBlD, notBlD, keyD, isDic, m_ring_stretches, b_ring_stretches, lenD, hl', rngD1, h1, h2, dInts, h3]
  rw [lc_map (fun i => D.int i) (fun i => D.str (readW w i n)) (fun i => [some (false, D.str w), some (false, D.int n), some (false, D.int i)]) (rng 0 w.length)]
  · simp
  · exact fun i _ => ⟨rfl, rfl, .s, by simp [bodyM, eVar, eC, eOp, eUn, eNil, eCons, eCB, eCO, eCOV, eLst, eTup, eB, eAnd, eOr, eNot, eBv, eAndV, eOrV, eNotV, eIf, eChain, eCall, okA, eTgN, eTgNil, eTgCons, eTgT, eRng, wipeE, noOwn, eLc, eYes, eDc, bNext, bSeq, bRet, bSet, bAsg, bDrop, bIf, bRaise, bFor, frzE, bFrz, setsE, bSets, isiD, tyName, chars, rng_len, eDGet2, eDNew, bApp, ownL, ownD, bDPut, eSl, ePart, eNo, eItA, itA, itD, eIxA, eJoin, isV, iop, cop, subD, modD, fdivD, leD, gtD, geD, eqB, neB, isBlD, notBlD, keyD, isDic, q_read_on hl hw hn], rfl⟩
theorem q_ring_places {w p : List Nat} (hl : w.length ≤ 10000) (hw : 0 < w.length) (hp : p.length ≤ 10000) : m_ring_places [.str w, .str p] = .ok (.o, .lst ((placesW w p).map .int)) := by
  have hl' : p.length ≤ 10000000 := by omega
  have h3 : w.length ≤ 100000 := by omega
  simp [bodyM, eVar, eC, eOp, eUn, eNil, eCons, eCB, eCO, eCOV, eLst, eTup, eB, eAnd, eOr, eNot, eBv, eAndV, eOrV, eNotV, eIf, eChain, eCall, okA, eTgN, eTgNil, eTgCons, eTgT, eRng, wipeE, noOwn, eLc, eYes, eDc, bNext, bSeq, bRet, bSet, bAsg, bDrop, bIf, bRaise, bFor, frzE, bFrz, setsE, bSets, isiD, tyName, chars, rng_len, eDGet2, eDNew, bApp, ownL, ownD, bDPut, eSl, ePart, eNo, eItA, itA, itD, eIxA, eJoin, isV, iop, cop, subD, modD, fdivD, leD, gtD, geD, eqB, neB, isBlD, notBlD, keyD, isDic, m_ring_places, b_ring_places, lenD, hl', q_ring_stretches hl hw hp, enumB, enum_rng, h3]
  rw [lc_ok (fun i => D.tup [.int i, .str (readW w i p.length)]) (fun i => D.int i) (fun i => [some (false, D.str w), some (false, D.str p), some (false, D.int i), some (false, D.str (readW w i p.length))]) (fun i => decide (readW w i p.length = p)) (rng 0 w.length)]
  · simp [placesW]
  · exact fun i _ => ⟨by simp [eTgT, eTgCons, eTgN, eTgNil], by simp [bodyM, eVar, eC, eOp, eUn, eNil, eCons, eCB, eCO, eCOV, eLst, eTup, eB, eAnd, eOr, eNot, eBv, eAndV, eOrV, eNotV, eIf, eChain, eCall, okA, eTgN, eTgNil, eTgCons, eTgT, eRng, wipeE, noOwn, eLc, eYes, eDc, bNext, bSeq, bRet, bSet, bAsg, bDrop, bIf, bRaise, bFor, frzE, bFrz, setsE, bSets, isiD, tyName, chars, rng_len, eDGet2, eDNew, bApp, ownL, ownD, bDPut, eSl, ePart, eNo, eItA, itA, itD, eIxA, eJoin, isV, iop, cop, subD, modD, fdivD, leD, gtD, geD, eqB, neB, isBlD, notBlD, keyD, isDic, eqD], fun _ => ⟨.s, by simp [bodyM, eVar, eC, eOp, eUn, eNil, eCons, eCB, eCO, eCOV, eLst, eTup, eB, eAnd, eOr, eNot, eBv, eAndV, eOrV, eNotV, eIf, eChain, eCall, okA, eTgN, eTgNil, eTgCons, eTgT, eRng, wipeE, noOwn, eLc, eYes, eDc, bNext, bSeq, bRet, bSet, bAsg, bDrop, bIf, bRaise, bFor, frzE, bFrz, setsE, bSets, isiD, tyName, chars, rng_len, eDGet2, eDNew, bApp, ownL, ownD, bDPut, eSl, ePart, eNo, eItA, itA, itD, eIxA, eJoin, isV, iop, cop, subD, modD, fdivD, leD, gtD, geD, eqB, neB, isBlD, notBlD, keyD, isDic], rfl⟩⟩
theorem q_ring_occurrences {w p : List Nat} (hl : w.length ≤ 10000) (hw : wordI w = true) (hr : leastW w = w) (hp : p.length ≤ 10000) (hpw : wordI p = true) : m_ring_occurrences [.str w, .str p] = .ok (.o, .lst ((placesW w p).map .int)) := by
  have w0 := (wordI_iff.mp hw).2
  simp [bodyM, eVar, eC, eOp, eUn, eNil, eCons, eCB, eCO, eCOV, eLst, eTup, eB, eAnd, eOr, eNot, eBv, eAndV, eOrV, eNotV, eIf, eChain, eCall, okA, eTgN, eTgNil, eTgCons, eTgT, eRng, wipeE, noOwn, eLc, eYes, eDc, bNext, bSeq, bRet, bSet, bAsg, bDrop, bIf, bRaise, bFor, frzE, bFrz, setsE, bSets, isiD, tyName, chars, rng_len, eDGet2, eDNew, bApp, ownL, ownD, bDPut, eSl, ePart, eNo, eItA, itA, itD, eIxA, eJoin, isV, iop, cop, subD, modD, fdivD, leD, gtD, geD, eqB, neB, isBlD, notBlD, keyD, isDic, m_ring_occurrences, b_ring_occurrences, q_need_ring hl hw hr, q_need_word hp hpw, q_ring_places hl w0 hp]
theorem q_counted {ws : List (List Nat)} (hl : ws.length ≤ 60) : m_counted [.lst (ws.map D.str)] = .ok (.o, .dic (mp (cntW ws))) := by
  obtain ⟨o2, h⟩ := q_cnt_loop ws (by omega) (some (false, .lst (ws.map D.str)))
  have hlen := cnt_len ws []
  have h63 : (mp (ws.foldl cnt [])).length < 64 := by rw [mp_len]; simp at hlen; omega
  have hn : (keysT (ws.foldl cnt [])).Nodup := cnt_nodup _ _ (by simp [keysT])
  have hpn := (sortW_perm (keysT (ws.foldl cnt []))).nodup_iff.mpr hn
  have hk5 : (sortW (keysT (ws.foldl cnt []))).length ≤ 100000 := by rw [(sortW_perm _).length_eq]; simp [keysT]; simp at hlen; omega
  simp [bodyM, eVar, eC, eOp, eUn, eNil, eCons, eCB, eCO, eCOV, eLst, eTup, eB, eAnd, eOr, eNot, eBv, eAndV, eOrV, eNotV, eIf, eChain, eCall, okA, eTgN, eTgNil, eTgCons, eTgT, eRng, wipeE, noOwn, eLc, eYes, eDc, bNext, bSeq, bRet, bSet, bAsg, bDrop, bIf, bRaise, bFor, frzE, bFrz, setsE, bSets, isiD, tyName, chars, rng_len, eDGet2, eDNew, bApp, ownL, ownD, bDPut, eSl, ePart, eNo, eItA, itA, itD, eIxA, eJoin, isV, iop, cop, subD, modD, fdivD, leD, gtD, geD, eqB, neB, isBlD, notBlD, keyD, isDic, m_counted, b_counted]
  rw [h]
  have hno : noOwn [some (false, .lst (ws.map D.str)), some (false, .dic (mp (ws.foldl cnt []))), nf o2] [2] = true := by cases o2 <;> rfl
  simp [bodyM, eVar, eC, eOp, eUn, eNil, eCons, eCB, eCO, eCOV, eLst, eTup, eB, eAnd, eOr, eNot, eBv, eAndV, eOrV, eNotV, eIf, eChain, eCall, okA, eTgN, eTgNil, eTgCons, eTgT, eRng, wipeE, noOwn, eLc, eYes, eDc, bNext, bSeq, bRet, bSet, bAsg, bDrop, bIf, bRaise, bFor, frzE, bFrz, setsE, bSets, isiD, tyName, chars, rng_len, eDGet2, eDNew, bApp, ownL, ownD, bDPut, eSl, ePart, eNo, eItA, itA, itD, eIxA, eJoin, isV, iop, cop, subD, modD, fdivD, leD, gtD, geD, eqB, neB, isBlD, notBlD, keyD, isDic, sortedD, h63, keysOf_mp, scalO, hk5, -noOwn, hno]
  rw [dc_map (fun k => D.str k) id (fun k => D.int (ws.count k : Int)) (fun k => [some (false, .lst (ws.map D.str)), some (false, .dic (mp (ws.foldl cnt []))), some (false, .str k)]) (sortW (keysT (ws.foldl cnt []))) []]
  · cases o2 <;> simp [cntW, mp, nf, Function.comp_def]
  · intro k hk
    refine ⟨rfl, rfl, by simp [bodyM, eVar, eC, eOp, eUn, eNil, eCons, eCB, eCO, eCOV, eLst, eTup, eB, eAnd, eOr, eNot, eBv, eAndV, eOrV, eNotV, eIf, eChain, eCall, okA, eTgN, eTgNil, eTgCons, eTgT, eRng, wipeE, noOwn, eLc, eYes, eDc, bNext, bSeq, bRet, bSet, bAsg, bDrop, bIf, bRaise, bFor, frzE, bFrz, setsE, bSets, isiD, tyName, chars, rng_len, eDGet2, eDNew, bApp, ownL, ownD, bDPut, eSl, ePart, eNo, eItA, itA, itD, eIxA, eJoin, isV, iop, cop, subD, modD, fdivD, leD, gtD, geD, eqB, neB, isBlD, notBlD, keyD, isDic], ?_⟩
    have hm : k ∈ keysT (ws.foldl cnt []) := (sortW_perm _).mem_iff.mp hk
    have hv := cnt_val ws k
    cases hg : getT (ws.foldl cnt []) k with
    | none => exact absurd hm (get_none.mp hg)
    | some v =>
      rw [hg] at hv
      have hv : v = (ws.count k : Int) := hv
      simp [bodyM, eVar, eC, eOp, eUn, eNil, eCons, eCB, eCO, eCOV, eLst, eTup, eB, eAnd, eOr, eNot, eBv, eAndV, eOrV, eNotV, eIf, eChain, eCall, okA, eTgN, eTgNil, eTgCons, eTgT, eRng, wipeE, noOwn, eLc, eYes, eDc, bNext, bSeq, bRet, bSet, bAsg, bDrop, bIf, bRaise, bFor, frzE, bFrz, setsE, bSets, isiD, tyName, chars, rng_len, eDGet2, eDNew, bApp, ownL, ownD, bDPut, eSl, ePart, eNo, eItA, itA, itD, eIxA, eJoin, isV, iop, cop, subD, modD, fdivD, leD, gtD, geD, eqB, neB, isBlD, notBlD, keyD, isDic, ixA, mp_get, hg, hv]
  · simpa using hpn
  · intro x _ e he
    cases he
theorem q__law_counted {ws : List (List Nat)} (hl : ws.length ≤ 60) : m__law_counted [.lst (ws.map D.str)] = .ok (.o, .dic (mp (cntW ws))) := by
  obtain ⟨o2, h⟩ := q_cnt_loop (sortW ws) (by rw [(sortW_perm ws).length_eq]; omega) (some (false, .lst (ws.map D.str)))
  have hs : strsOf (ws.map D.str) = some ws := by simpa using strsOf_mapf id ws
  simp [bodyM, eVar, eC, eOp, eUn, eNil, eCons, eCB, eCO, eCOV, eLst, eTup, eB, eAnd, eOr, eNot, eBv, eAndV, eOrV, eNotV, eIf, eChain, eCall, okA, eTgN, eTgNil, eTgCons, eTgT, eRng, wipeE, noOwn, eLc, eYes, eDc, bNext, bSeq, bRet, bSet, bAsg, bDrop, bIf, bRaise, bFor, frzE, bFrz, setsE, bSets, isiD, tyName, chars, rng_len, eDGet2, eDNew, bApp, ownL, ownD, bDPut, eSl, ePart, eNo, eItA, itA, itD, eIxA, eJoin, isV, iop, cop, subD, modD, fdivD, leD, gtD, geD, eqB, neB, isBlD, notBlD, keyD, isDic, m__law_counted, b__law_counted, sortedD, sortL, hs, scalO]
  rw [h]
  simp [bodyM, eVar, eC, eOp, eUn, eNil, eCons, eCB, eCO, eCOV, eLst, eTup, eB, eAnd, eOr, eNot, eBv, eAndV, eOrV, eNotV, eIf, eChain, eCall, okA, eTgN, eTgNil, eTgCons, eTgT, eRng, wipeE, noOwn, eLc, eYes, eDc, bNext, bSeq, bRet, bSet, bAsg, bDrop, bIf, bRaise, bFor, frzE, bFrz, setsE, bSets, isiD, tyName, chars, rng_len, eDGet2, eDNew, bApp, ownL, ownD, bDPut, eSl, ePart, eNo, eItA, itA, itD, eIxA, eJoin, isV, iop, cop, subD, modD, fdivD, leD, gtD, geD, eqB, neB, isBlD, notBlD, keyD, isDic, cnt_sorted]
theorem q_strand_of {w : List Nat} (hl : w.length ≤ 10000) (h : Ac w) : m_strand_of [.str w] = .ok (.s, .str (strandW w)) := by
  have h1 : w.length ≤ 1000000 := by omega
  have h2 : w.length ≤ 100000 := by omega
  simp [bodyM, eVar, eC, eOp, eUn, eNil, eCons, eCB, eCO, eCOV, eLst, eTup, eB, eAnd, eOr, eNot, eBv, eAndV, eOrV, eNotV, eIf, eChain, eCall, okA, eTgN, eTgNil, eTgCons, eTgT, eRng, wipeE, noOwn, eLc, eYes, eDc, bNext, bSeq, bRet, bSet, bAsg, bDrop, bIf, bRaise, bFor, frzE, bFrz, setsE, bSets, isiD, tyName, chars, rng_len, eDGet2, eDNew, bApp, ownL, ownD, bDPut, eSl, ePart, eNo, eItA, itA, itD, eIxA, eJoin, isV, iop, cop, subD, modD, fdivD, leD, gtD, geD, eqB, neB, isBlD, notBlD, keyD, isDic, m_strand_of, b_strand_of, revD, h1, h2]
  rw [← List.map_reverse]
  have hv : strandW w = (w.reverse).map part := rfl
  have hm : ∀ c ∈ w.reverse, c ∈ w := fun c hc => List.mem_reverse.mp hc
  have hlr : w.reverse.length = w.length := List.length_reverse
  rw [hv]
  generalize w.reverse = v at hm hlr
  rw [lc_map (fun c => D.str [c]) (fun c => D.str [part c]) (fun c => [some (false, D.str w), some (false, D.str [c])]) v]
  · have e : (v.map (List.length ∘ fun c => [part c])).sum ≤ 10000000 := by
      rw [← List.map_map, sum_one _ _ fun _ => rfl, hlr]; omega
    simp [joinD, e, flatten_single]
  · intro c hc
    refine ⟨rfl, rfl, .s, ?_, rfl⟩
    have hc := h c (hm c hc)
    simp only [acgt, List.mem_cons, List.not_mem_nil, or_false] at hc
    rcases hc with rfl | rfl | rfl | rfl <;> rfl
theorem q_ring_strand {w : List Nat} (hl : w.length ≤ 10000) (hw : wordI w = true) (hr : leastW w = w) : m_ring_strand [.str w] = .ok (.s, .str (leastW (strandW w))) := by
  obtain ⟨wa, w0⟩ := wordI_iff.mp hw
  simp [bodyM, eVar, eC, eOp, eUn, eNil, eCons, eCB, eCO, eCOV, eLst, eTup, eB, eAnd, eOr, eNot, eBv, eAndV, eOrV, eNotV, eIf, eChain, eCall, okA, eTgN, eTgNil, eTgCons, eTgT, eRng, wipeE, noOwn, eLc, eYes, eDc, bNext, bSeq, bRet, bSet, bAsg, bDrop, bIf, bRaise, bFor, frzE, bFrz, setsE, bSets, isiD, tyName, chars, rng_len, eDGet2, eDNew, bApp, ownL, ownD, bDPut, eSl, ePart, eNo, eItA, itA, itD, eIxA, eJoin, isV, iop, cop, subD, modD, fdivD, leD, gtD, geD, eqB, neB, isBlD, notBlD, keyD, isDic, m_ring_strand, b_ring_strand, q_need_ring hl hw hr, q_strand_of hl wa, q_least_turn (w := strandW w) (by rw [strand_len]; omega) (by rw [strand_len]; omega)]
theorem q_ring_pieces {w : List Nat} {n : Nat} (hl : w.length ≤ 60) (hw : wordI w = true) (hr : leastW w = w) (h0 : 0 < n) (hn : n ≤ 120) : m_ring_pieces [.str w, .int n] = .ok (.o, .dic (mp (cntW (runsW w n)))) := by
  obtain ⟨wa, w0⟩ := wordI_iff.mp hw
  have h1 : (1 : Int) ≤ n := by omega
  have h2 : (n : Int) ≤ 120 := by omega
  have hlen : m_need_length [.int (n : Int)] = .ok (.s, .non) := by simp [bodyM, eVar, eC, eOp, eUn, eNil, eCons, eCB, eCO, eCOV, eLst, eTup, eB, eAnd, eOr, eNot, eBv, eAndV, eOrV, eNotV, eIf, eChain, eCall, okA, eTgN, eTgNil, eTgCons, eTgT, eRng, wipeE, noOwn, eLc, eYes, eDc, bNext, bSeq, bRet, bSet, bAsg, bDrop, bIf, bRaise, bFor, frzE, bFrz, setsE, bSets, isiD, tyName, chars, rng_len, eDGet2, eDNew, bApp, ownL, ownD, bDPut, eSl, ePart, eNo, eItA, itA, itD, eIxA, eJoin, isV, iop, cop, subD, modD, fdivD, leD, gtD, geD, eqB, neB, isBlD, notBlD, keyD, isDic, m_need_length, b_need_length, q_is_between, h1, h2]
  simp [bodyM, eVar, eC, eOp, eUn, eNil, eCons, eCB, eCO, eCOV, eLst, eTup, eB, eAnd, eOr, eNot, eBv, eAndV, eOrV, eNotV, eIf, eChain, eCall, okA, eTgN, eTgNil, eTgCons, eTgT, eRng, wipeE, noOwn, eLc, eYes, eDc, bNext, bSeq, bRet, bSet, bAsg, bDrop, bIf, bRaise, bFor, frzE, bFrz, setsE, bSets, isiD, tyName, chars, rng_len, eDGet2, eDNew, bApp, ownL, ownD, bDPut, eSl, ePart, eNo, eItA, itA, itD, eIxA, eJoin, isV, iop, cop, subD, modD, fdivD, leD, gtD, geD, eqB, neB, isBlD, notBlD, keyD, isDic, m_ring_pieces, b_ring_pieces, q_need_ring (by omega) hw hr, hlen, q_ring_stretches (w := w) (n := n) (by omega) w0 (by omega), runsW_str, q_counted (ws := runsW w n) (by rw [runsW_len]; omega)]

theorem q_need_length {n : Nat} (h0 : 0 < n) (hn : n ≤ 120) : m_need_length [.int (n : Int)] = .ok (.s, .non) := by
  have h1 : (1 : Int) ≤ n := by omega
  have h2 : (n : Int) ≤ 120 := by omega
  simp [bodyM, eVar, eC, eOp, eUn, eNil, eCons, eCB, eCO, eCOV, eLst, eTup, eB, eAnd, eOr, eNot, eBv, eAndV, eOrV, eNotV, eIf, eChain, eCall, okA, eTgN, eTgNil, eTgCons, eTgT, eRng, wipeE, noOwn, eLc, eYes, eDc, bNext, bSeq, bRet, bSet, bAsg, bDrop, bIf, bRaise, bFor, frzE, bFrz, setsE, bSets, isiD, tyName, chars, rng_len, eDGet2, eDNew, bApp, ownL, ownD, bDPut, eSl, ePart, eNo, eItA, itA, itD, eIxA, eJoin, isV, iop, cop, subD, modD, fdivD, leD, gtD, geD, eqB, neB, isBlD, notBlD, keyD, isDic, m_need_length, b_need_length, q_is_between, h1, h2]
theorem q_stretches {w : List Nat} {n : Nat} (hl : w.length ≤ 10000) (hn : n ≤ 10000) : m_stretches [.str w, .int n] = .ok (.o, .lst ((strW w n).map .str)) := by
  have hl' : w.length ≤ 10000000 := by omega
  have h1 : (w.length : Int) - (n : Int) + 1 ≤ 1000000 := by omega
  have h2 : (-1000000 : Int) ≤ (w.length : Int) - (n : Int) + 1 := by omega
  have e : ((w.length : Int) - (n : Int) + 1).toNat = w.length + 1 - n := by omega
  have h3 : w.length + 1 - n ≤ 100000 := by omega
  simp [bodyM, eVar, eC, eOp, eUn, eNil, eCons, eCB, eCO, eCOV, eLst, eTup, eB, eAnd, eOr, eNot, eBv, eAndV, eOrV, eNotV, eIf, eChain, eCall, okA, eTgN, eTgNil, eTgCons, eTgT, eRng, wipeE, noOwn, eLc, eYes, eDc, bNext, bSeq, bRet, bSet, bAsg, bDrop, bIf, bRaise, bFor, frzE, bFrz, setsE, bSets, isiD, tyName, chars, rng_len, eDGet2, eDNew, bApp, ownL, ownD, bDPut, eSl, ePart, eNo, eItA, itA, itD, eIxA, eJoin, isV, iop, cop, subD, modD, fdivD, leD, gtD, geD, eqB, neB, isBlD, notBlD, keyD, isDic, m_stretches, b_stretches, lenD, hl', addD, rngD1, h1, h2, e, dInts_rng, h3]
  rw [lc_map (fun i : Nat => D.int (i : Int)) (fun i => D.str (subW w i n)) (fun i => [some (false, D.str w), some (false, D.int n), some (false, D.int (i : Int))]) (List.range (w.length + 1 - n))]
  · simp [strW]
  · exact fun i _ => ⟨rfl, rfl, .s, by simp [bodyM, eVar, eC, eOp, eUn, eNil, eCons, eCB, eCO, eCOV, eLst, eTup, eB, eAnd, eOr, eNot, eBv, eAndV, eOrV, eNotV, eIf, eChain, eCall, okA, eTgN, eTgNil, eTgCons, eTgT, eRng, wipeE, noOwn, eLc, eYes, eDc, bNext, bSeq, bRet, bSet, bAsg, bDrop, bIf, bRaise, bFor, frzE, bFrz, setsE, bSets, isiD, tyName, chars, rng_len, eDGet2, eDNew, bApp, ownL, ownD, bDPut, eSl, ePart, eNo, eItA, itA, itD, eIxA, eJoin, isV, iop, cop, subD, modD, fdivD, leD, gtD, geD, eqB, neB, isBlD, notBlD, keyD, isDic, addD, slD, hl', cut_sub], rfl⟩
theorem q_places_of {w p : List Nat} (hl : w.length ≤ 10000) (hp : p.length ≤ 10000) (h0 : 0 < p.length) : m_places_of [.str w, .str p] = .ok (.o, .lst ((placesN w p).map fun i : Nat => .int (i : Int))) := by
  have hl' : w.length ≤ 10000000 := by omega
  have hp' : p.length ≤ 10000000 := by omega
  have h1 : (w.length : Int) - (p.length : Int) + 1 ≤ 1000000 := by omega
  have h2 : (-1000000 : Int) ≤ (w.length : Int) - (p.length : Int) + 1 := by omega
  have e : ((w.length : Int) - (p.length : Int) + 1).toNat = w.length + 1 - p.length := by omega
  have h3 : w.length + 1 - p.length ≤ 100000 := by omega
  simp [bodyM, eVar, eC, eOp, eUn, eNil, eCons, eCB, eCO, eCOV, eLst, eTup, eB, eAnd, eOr, eNot, eBv, eAndV, eOrV, eNotV, eIf, eChain, eCall, okA, eTgN, eTgNil, eTgCons, eTgT, eRng, wipeE, noOwn, eLc, eYes, eDc, bNext, bSeq, bRet, bSet, bAsg, bDrop, bIf, bRaise, bFor, frzE, bFrz, setsE, bSets, isiD, tyName, chars, rng_len, eDGet2, eDNew, bApp, ownL, ownD, bDPut, eSl, ePart, eNo, eItA, itA, itD, eIxA, eJoin, isV, iop, cop, subD, modD, fdivD, leD, gtD, geD, eqB, neB, isBlD, notBlD, keyD, isDic, m_places_of, b_places_of, lenD, hl', hp', addD, rngD1, h1, h2, e, dInts_rng, h3]
  rw [lc_ok (fun i : Nat => D.int (i : Int)) (fun i : Nat => D.int (i : Int)) (fun i => [some (false, D.str w), some (false, D.str p), some (false, D.int (i : Int))]) (fun i => decide (subW w i p.length = p)) (List.range (w.length + 1 - p.length))]
  · simp [places_less h0]
  · exact fun i _ => ⟨rfl, by simp [bodyM, eVar, eC, eOp, eUn, eNil, eCons, eCB, eCO, eCOV, eLst, eTup, eB, eAnd, eOr, eNot, eBv, eAndV, eOrV, eNotV, eIf, eChain, eCall, okA, eTgN, eTgNil, eTgCons, eTgT, eRng, wipeE, noOwn, eLc, eYes, eDc, bNext, bSeq, bRet, bSet, bAsg, bDrop, bIf, bRaise, bFor, frzE, bFrz, setsE, bSets, isiD, tyName, chars, rng_len, eDGet2, eDNew, bApp, ownL, ownD, bDPut, eSl, ePart, eNo, eItA, itA, itD, eIxA, eJoin, isV, iop, cop, subD, modD, fdivD, leD, gtD, geD, eqB, neB, isBlD, notBlD, keyD, isDic, addD, slD, hl', cut_sub, lenD, hp', eqD], fun _ => ⟨.s, by simp [bodyM, eVar, eC, eOp, eUn, eNil, eCons, eCB, eCO, eCOV, eLst, eTup, eB, eAnd, eOr, eNot, eBv, eAndV, eOrV, eNotV, eIf, eChain, eCall, okA, eTgN, eTgNil, eTgCons, eTgT, eRng, wipeE, noOwn, eLc, eYes, eDc, bNext, bSeq, bRet, bSet, bAsg, bDrop, bIf, bRaise, bFor, frzE, bFrz, setsE, bSets, isiD, tyName, chars, rng_len, eDGet2, eDNew, bApp, ownL, ownD, bDPut, eSl, ePart, eNo, eItA, itA, itD, eIxA, eJoin, isV, iop, cop, subD, modD, fdivD, leD, gtD, geD, eqB, neB, isBlD, notBlD, keyD, isDic], rfl⟩⟩
theorem q_occurrences {w p : List Nat} (hl : w.length ≤ 10000) (hw : wordI w = true) (hp : p.length ≤ 10000) (hpw : wordI p = true) : m_occurrences [.str w, .str p] = .ok (.o, .lst ((placesN w p).map fun i : Nat => .int (i : Int))) := by
  simp [bodyM, eVar, eC, eOp, eUn, eNil, eCons, eCB, eCO, eCOV, eLst, eTup, eB, eAnd, eOr, eNot, eBv, eAndV, eOrV, eNotV, eIf, eChain, eCall, okA, eTgN, eTgNil, eTgCons, eTgT, eRng, wipeE, noOwn, eLc, eYes, eDc, bNext, bSeq, bRet, bSet, bAsg, bDrop, bIf, bRaise, bFor, frzE, bFrz, setsE, bSets, isiD, tyName, chars, rng_len, eDGet2, eDNew, bApp, ownL, ownD, bDPut, eSl, ePart, eNo, eItA, itA, itD, eIxA, eJoin, isV, iop, cop, subD, modD, fdivD, leD, gtD, geD, eqB, neB, isBlD, notBlD, keyD, isDic, m_occurrences, b_occurrences, q_need_word hl hw, q_need_word hp hpw, q_places_of hl hp (wordI_iff.mp hpw).2]
theorem q_pieces {w : List Nat} {n : Nat} (hl : w.length ≤ 59) (hw : wordI w = true) (h0 : 0 < n) (hn : n ≤ 120) : m_pieces [.str w, .int n] = .ok (.o, .dic (mp (cntW (strW w n)))) := by
  simp [bodyM, eVar, eC, eOp, eUn, eNil, eCons, eCB, eCO, eCOV, eLst, eTup, eB, eAnd, eOr, eNot, eBv, eAndV, eOrV, eNotV, eIf, eChain, eCall, okA, eTgN, eTgNil, eTgCons, eTgT, eRng, wipeE, noOwn, eLc, eYes, eDc, bNext, bSeq, bRet, bSet, bAsg, bDrop, bIf, bRaise, bFor, frzE, bFrz, setsE, bSets, isiD, tyName, chars, rng_len, eDGet2, eDNew, bApp, ownL, ownD, bDPut, eSl, ePart, eNo, eItA, itA, itD, eIxA, eJoin, isV, iop, cop, subD, modD, fdivD, leD, gtD, geD, eqB, neB, isBlD, notBlD, keyD, isDic, m_pieces, b_pieces, q_need_word (w := w) (by omega) hw, q_need_length h0 hn, q_stretches (w := w) (n := n) (by omega) (by omega), q_counted (ws := strW w n) (by rw [strW_len]; omega)]
theorem q_other_strand {w : List Nat} (hl : w.length ≤ 10000) (hw : wordI w = true) : m_other_strand [.str w] = .ok (.s, .str (strandW w)) := by
  simp [bodyM, eVar, eC, eOp, eUn, eNil, eCons, eCB, eCO, eCOV, eLst, eTup, eB, eAnd, eOr, eNot, eBv, eAndV, eOrV, eNotV, eIf, eChain, eCall, okA, eTgN, eTgNil, eTgCons, eTgT, eRng, wipeE, noOwn, eLc, eYes, eDc, bNext, bSeq, bRet, bSet, bAsg, bDrop, bIf, bRaise, bFor, frzE, bFrz, setsE, bSets, isiD, tyName, chars, rng_len, eDGet2, eDNew, bApp, ownL, ownD, bDPut, eSl, ePart, eNo, eItA, itA, itD, eIxA, eJoin, isV, iop, cop, subD, modD, fdivD, leD, gtD, geD, eqB, neB, isBlD, notBlD, keyD, isDic, m_other_strand, b_other_strand, q_need_word hl hw, q_strand_of hl (wordI_iff.mp hw).1]
theorem q_borders_of {w : List Nat} (hl : w.length ≤ 10000) : m_borders_of [.str w] = .ok (.o, .lst ((bordW w).map .int)) := by
  have hl' : w.length ≤ 10000000 := by omega
  have h1 : (w.length : Int) ≤ 1000000 := by omega
  have h2 : (-1000000 : Int) ≤ (w.length : Int) := by omega
  have h3 : w.length - 1 ≤ 100000 := by omega
  simp [bodyM, eVar, eC, eOp, eUn, eNil, eCons, eCB, eCO, eCOV, eLst, eTup, eB, eAnd, eOr, eNot, eBv, eAndV, eOrV, eNotV, eIf, eChain, eCall, okA, eTgN, eTgNil, eTgCons, eTgT, eRng, wipeE, noOwn, eLc, eYes, eDc, bNext, bSeq, bRet, bSet, bAsg, bDrop, bIf, bRaise, bFor, frzE, bFrz, setsE, bSets, isiD, tyName, chars, rng_len, eDGet2, eDNew, bApp, ownL, ownD, bDPut, eSl, ePart, eNo, eItA, itA, itD, eIxA, eJoin, isV, iop, cop, subD, modD, fdivD, leD, gtD, geD, eqB, neB, isBlD, notBlD, keyD, isDic, m_borders_of, b_borders_of, lenD, hl', rngD2, h1, h2, dInts, h3]
  rw [lc_ok (fun i => D.int i) (fun i => D.int i) (fun i => [some (false, D.str w), some (false, D.int i)]) (fun l => decide (cutL w none (some l) = cutL w (some ((w.length : Int) - l)) none)) (rng 1 (w.length - 1))]
  · simp [bordW]
  · exact fun i _ => ⟨rfl, by simp [bodyM, eVar, eC, eOp, eUn, eNil, eCons, eCB, eCO, eCOV, eLst, eTup, eB, eAnd, eOr, eNot, eBv, eAndV, eOrV, eNotV, eIf, eChain, eCall, okA, eTgN, eTgNil, eTgCons, eTgT, eRng, wipeE, noOwn, eLc, eYes, eDc, bNext, bSeq, bRet, bSet, bAsg, bDrop, bIf, bRaise, bFor, frzE, bFrz, setsE, bSets, isiD, tyName, chars, rng_len, eDGet2, eDNew, bApp, ownL, ownD, bDPut, eSl, ePart, eNo, eItA, itA, itD, eIxA, eJoin, isV, iop, cop, subD, modD, fdivD, leD, gtD, geD, eqB, neB, isBlD, notBlD, keyD, isDic, slD, hl', lenD, eqD], fun _ => ⟨.s, by simp [bodyM, eVar, eC, eOp, eUn, eNil, eCons, eCB, eCO, eCOV, eLst, eTup, eB, eAnd, eOr, eNot, eBv, eAndV, eOrV, eNotV, eIf, eChain, eCall, okA, eTgN, eTgNil, eTgCons, eTgT, eRng, wipeE, noOwn, eLc, eYes, eDc, bNext, bSeq, bRet, bSet, bAsg, bDrop, bIf, bRaise, bFor, frzE, bFrz, setsE, bSets, isiD, tyName, chars, rng_len, eDGet2, eDNew, bApp, ownL, ownD, bDPut, eSl, ePart, eNo, eItA, itA, itD, eIxA, eJoin, isV, iop, cop, subD, modD, fdivD, leD, gtD, geD, eqB, neB, isBlD, notBlD, keyD, isDic], rfl⟩⟩
theorem q_borders {w : List Nat} (hl : w.length ≤ 10000) (hw : wordI w = true) : m_borders [.str w] = .ok (.o, .lst ((bordW w).map .int)) := by
  simp [bodyM, eVar, eC, eOp, eUn, eNil, eCons, eCB, eCO, eCOV, eLst, eTup, eB, eAnd, eOr, eNot, eBv, eAndV, eOrV, eNotV, eIf, eChain, eCall, okA, eTgN, eTgNil, eTgCons, eTgT, eRng, wipeE, noOwn, eLc, eYes, eDc, bNext, bSeq, bRet, bSet, bAsg, bDrop, bIf, bRaise, bFor, frzE, bFrz, setsE, bSets, isiD, tyName, chars, rng_len, eDGet2, eDNew, bApp, ownL, ownD, bDPut, eSl, ePart, eNo, eItA, itA, itD, eIxA, eJoin, isV, iop, cop, subD, modD, fdivD, leD, gtD, geD, eqB, neB, isBlD, notBlD, keyD, isDic, m_borders, b_borders, q_need_word hl hw, q_borders_of hl]
theorem q_root_of {w : List Nat} (hl : w.length ≤ 3000) : m_root_of [.str w] = .ok (.s, rootD w) := by
  have hl' : w.length ≤ 10000000 := by omega
  have h1 : (w.length : Int) ≤ 1000000 := by omega
  have h2 : (-1000000 : Int) ≤ (w.length : Int) := by omega
  have e1 : rngD2 [.int 1, .int (w.length : Int)] = some ((rng1 w).map fun i : Nat => D.int (i : Int)) := by
    simp [rngD2, h1, h2, dInts, rng1, rng]
    intro a _
    omega
  have key := for_find (tg := eTgN 1) (fb := bIf (eAnd (eB (eOp eqB (eOp modD (eCB lenD (eCons (eVar 0) eNil)) (eVar 1)) (eC (.int 0)))) (eB (eOp eqB (eOp mulD (eSl (eVar 0) eNo (ePart (eVar 1))) (eOp fdivD (eCB lenD (eCons (eVar 0) eNil)) (eVar 1))) (eVar 0)))) (bRet (eTup (eCons (eSl (eVar 0) eNo (ePart (eVar 1))) (eCons (eOp fdivD (eCB lenD (eCons (eVar 0) eNil)) (eVar 1)) eNil)))) bNext)
    (I := fun e => ∃ o, e = [some (false, D.str w), o]) (fun i : Nat => D.int (i : Int)) (rootR w) (rng1 w) [some (false, D.str w), none] (fun i hi e he => by
      obtain ⟨o, rfl⟩ := he
      obtain ⟨i0, i1⟩ := rng1_mem hi
      refine ⟨_, rfl, ?_⟩
      have g1 : ¬ i = 0 := by omega
      have hmod : (w.length : Int).fmod (i : Int) = ((w.length % i : Nat) : Int) := by
        rw [Int.fmod_eq_emod_of_nonneg _ (by omega)]
        simp
      have hdiv : (w.length : Int).fdiv (i : Int) = ((w.length / i : Nat) : Int) := by
        rw [Int.fdiv_eq_ediv_of_nonneg _ (by omega)]
        simp
      have hcd : CDivN (w.length : Int) (i : Int) := by unfold CDivN; omega
      rw [rootR]
      obtain ⟨m, hm⟩ : ∃ m, m = w.length / i := ⟨_, rfl⟩
      obtain ⟨r, hr⟩ : ∃ r, r = w.length % i := ⟨_, rfl⟩
      have a1 : w.length / i ≤ w.length := Nat.div_le_self _ _
      rw [← hm] at hdiv a1 ⊢
      rw [← hr] at hmod ⊢
      have g5 : (w.take i).length * m ≤ 10000000 := by
        have a2 : (w.take i).length ≤ 3000 := by rw [List.length_take]; omega
        exact Nat.le_trans (Nat.mul_le_mul a2 (show m ≤ 3000 by omega)) (by omega)
      have hmul : mulD (.str (w.take i)) (.int (m : Int)) = some (.str (List.replicate m (w.take i)).flatten) := by
        simp only [mulD]
        rw [if_pos ⟨by simpa using g5, by omega, by omega⟩]
        simp
      by_cases c1 : r = 0
      · by_cases c2 : (List.replicate m (w.take i)).flatten = w
        · refine .inl ⟨_, by rw [if_pos ⟨c1, c2⟩], ?_⟩
          simp [bodyM, eVar, eC, eOp, eUn, eNil, eCons, eCB, eCO, eCOV, eLst, eTup, eB, eAnd, eOr, eNot, eBv, eAndV, eOrV, eNotV, eIf, eChain, eCall, okA, eTgN, eTgNil, eTgCons, eTgT, eRng, wipeE, noOwn, eLc, eYes, eDc, bNext, bSeq, bRet, bSet, bAsg, bDrop, bIf, bRaise, bFor, frzE, bFrz, setsE, bSets, isiD, tyName, chars, rng_len, eDGet2, eDNew, bApp, ownL, ownD, bDPut, eSl, ePart, eNo, eItA, itA, itD, eIxA, eJoin, isV, iop, cop, subD, modD, fdivD, leD, gtD, geD, eqB, neB, isBlD, notBlD, keyD, isDic, lenD, hl', g1, hmod, c1, eqD, slD, cut_to, hcd, hdiv, hmul, c2]
        · refine .inr ⟨by rw [if_neg (fun z => c2 z.2)], [some (false, D.str w), some (false, .int (i : Int))], ?_, _, rfl⟩
          simp [bodyM, eVar, eC, eOp, eUn, eNil, eCons, eCB, eCO, eCOV, eLst, eTup, eB, eAnd, eOr, eNot, eBv, eAndV, eOrV, eNotV, eIf, eChain, eCall, okA, eTgN, eTgNil, eTgCons, eTgT, eRng, wipeE, noOwn, eLc, eYes, eDc, bNext, bSeq, bRet, bSet, bAsg, bDrop, bIf, bRaise, bFor, frzE, bFrz, setsE, bSets, isiD, tyName, chars, rng_len, eDGet2, eDNew, bApp, ownL, ownD, bDPut, eSl, ePart, eNo, eItA, itA, itD, eIxA, eJoin, isV, iop, cop, subD, modD, fdivD, leD, gtD, geD, eqB, neB, isBlD, notBlD, keyD, isDic, lenD, hl', g1, hmod, c1, eqD, slD, cut_to, hcd, hdiv, hmul, c2]
      · refine .inr ⟨by rw [if_neg (fun z => c1 z.1)], [some (false, D.str w), some (false, .int (i : Int))], ?_, _, rfl⟩
        simp [bodyM, eVar, eC, eOp, eUn, eNil, eCons, eCB, eCO, eCOV, eLst, eTup, eB, eAnd, eOr, eNot, eBv, eAndV, eOrV, eNotV, eIf, eChain, eCall, okA, eTgN, eTgNil, eTgCons, eTgT, eRng, wipeE, noOwn, eLc, eYes, eDc, bNext, bSeq, bRet, bSet, bAsg, bDrop, bIf, bRaise, bFor, frzE, bFrz, setsE, bSets, isiD, tyName, chars, rng_len, eDGet2, eDNew, bApp, ownL, ownD, bDPut, eSl, ePart, eNo, eItA, itA, itD, eIxA, eJoin, isV, iop, cop, subD, modD, fdivD, leD, gtD, geD, eqB, neB, isBlD, notBlD, keyD, isDic, lenD, hl', g1, hmod, c1, eqD]) ⟨none, rfl⟩
  simp [bodyM, eVar, eC, eOp, eUn, eNil, eCons, eCB, eCO, eCOV, eLst, eTup, eB, eAnd, eOr, eNot, eBv, eAndV, eOrV, eNotV, eIf, eChain, eCall, okA, eTgN, eTgNil, eTgCons, eTgT, eRng, wipeE, noOwn, eLc, eYes, eDc, bNext, bSeq, bRet, bSet, bAsg, bDrop, bIf, bRaise, bFor, frzE, bFrz, setsE, bSets, isiD, tyName, chars, rng_len, eDGet2, eDNew, bApp, ownL, ownD, bDPut, eSl, ePart, eNo, eItA, itA, itD, eIxA, eJoin, isV, iop, cop, subD, modD, fdivD, leD, gtD, geD, eqB, neB, isBlD, notBlD, keyD, isDic, m_root_of, b_root_of, lenD, hl', e1]
  rcases key with ⟨v, k1, k2⟩ | ⟨k1, e, k2, o, rfl⟩
  · rw [k2, find_s (fun _ _ => rootR_s) k1]
    simp [rootD, k1]
  · rw [k2]
    simp [bodyM, eVar, eC, eOp, eUn, eNil, eCons, eCB, eCO, eCOV, eLst, eTup, eB, eAnd, eOr, eNot, eBv, eAndV, eOrV, eNotV, eIf, eChain, eCall, okA, eTgN, eTgNil, eTgCons, eTgT, eRng, wipeE, noOwn, eLc, eYes, eDc, bNext, bSeq, bRet, bSet, bAsg, bDrop, bIf, bRaise, bFor, frzE, bFrz, setsE, bSets, isiD, tyName, chars, rng_len, eDGet2, eDNew, bApp, ownL, ownD, bDPut, eSl, ePart, eNo, eItA, itA, itD, eIxA, eJoin, isV, iop, cop, subD, modD, fdivD, leD, gtD, geD, eqB, neB, isBlD, notBlD, keyD, isDic, rootD, k1]
theorem q_root {w : List Nat} (hl : w.length ≤ 3000) (hw : wordI w = true) : m_root [.str w] = .ok (.s, rootD w) := by
  have h1 : w.length ≤ 10000 := by omega
  have h2 := q_need_word h1 hw
  have h3 := q_root_of hl
  generalize rootD w = d at h3 ⊢
  simp [bodyM, eVar, eC, eOp, eUn, eNil, eCons, eCB, eCO, eCOV, eLst, eTup, eB, eAnd, eOr, eNot, eBv, eAndV, eOrV, eNotV, eIf, eChain, eCall, okA, eTgN, eTgNil, eTgCons, eTgT, eRng, wipeE, noOwn, eLc, eYes, eDc, bNext, bSeq, bRet, bSet, bAsg, bDrop, bIf, bRaise, bFor, frzE, bFrz, setsE, bSets, isiD, tyName, chars, rng_len, eDGet2, eDNew, bApp, ownL, ownD, bDPut, eSl, ePart, eNo, eItA, itA, itD, eIxA, eJoin, isV, iop, cop, subD, modD, fdivD, leD, gtD, geD, eqB, neB, isBlD, notBlD, keyD, isDic, m_root, b_root, h2, h3]
theorem q_longest_common {a b : List Nat} (ha : a.length ≤ 60) (hb : b.length ≤ 60) (wa : wordI a = true) (wb : wordI b = true) : m_longest_common [.str a, .str b] = .ok (.o, .lst ((lcW a b).map D.str)) := by
  have la : a.length ≤ 10000000 := by omega
  have lb : b.length ≤ 10000000 := by omega
  have na := q_need_word (w := a) (by omega) wa
  have nb := q_need_word (w := b) (by omega) wb
  let fb : Env → M Out := bSeq (bSet 3 (eDc (eItA (eCall m_stretches (eCons (eVar 1) (eCons (eVar 2) eNil)))) (eTgN 5) eYes (eVar 5) (eC (.bl true)) [5])) (bSeq (bFrz [3] (bSet 4 (eDc (eItA (eCall m_stretches (eCons (eVar 0) (eCons (eVar 2) eNil)))) (eTgN 5) (eB (eOp inAB (eVar 5) (eVar 3))) (eVar 5) (eC (.bl true)) [5]))) (bFrz [4] (bIf (eB (eOp gtD (eCB lenD (eCons (eVar 4) eNil)) (eC (.int 0)))) (bFrz [4] (bRet (eCOV sortedD (eCons (eVar 4) eNil)))) bNext)))
  have key := for_find (tg := eTgN 2) (fb := fb) (I := fun e => ∃ x2 x3 x4, e = [some (false, D.str a), some (false, D.str b), x2, x3, x4, none]) (fun i : Nat => D.int (i : Int)) (fun m => if commB a b m = true then some ((.o, .lst ((commW a b m).map D.str)) : Vl) else none) (downL (min a.length b.length)) [some (false, D.str a), some (false, D.str b), none, none, none, none] (fun m hm e he => by
    obtain ⟨x2, x3, x4, rfl⟩ := he
    obtain ⟨m0, m1⟩ := downL_mem hm
    refine ⟨_, rfl, ?_⟩
    have s1 := q_stretches (w := b) (n := m) (by omega) (by omega)
    have s2 := q_stretches (w := a) (n := m) (by omega) (by omega)
    have l1 : (strW b m).length ≤ 100000 := by rw [strW_len]; omega
    have l2 : (strW a m).length ≤ 100000 := by rw [strW_len]; omega
    have d1 : dcGo (eTgN 5) eYes (eVar 5) (eC (.bl true)) [some (false, D.str a), some (false, D.str b), some (false, D.int (m : Int)), x3, x4, none] [] ((strW b m).map D.str) = .ok (ksB (dedF (strW b m))) := by
      rw [dc_fold D.str id (fun _ => .bl true) (fun x => [some (false, D.str a), some (false, D.str b), some (false, D.int (m : Int)), x3, x4, some (false, D.str x)]) (fun _ => true) (strW b m) [] fun x _ => ⟨rfl, rfl, fun _ => ⟨rfl, rfl⟩⟩]
      have := dedF_fold (fun _ => true) (strW b m) []
      simp only [ksB, List.map_nil] at this
      simp only [id]
      rw [this, List.filter_eq_self.mpr fun _ _ => rfl]
      rfl
    have e1 : bSet 3 (eDc (eItA (eCall m_stretches (eCons (eVar 1) (eCons (eVar 2) eNil)))) (eTgN 5) eYes (eVar 5) (eC (.bl true)) [5]) [some (false, D.str a), some (false, D.str b), some (false, D.int (m : Int)), x3, x4, none] = .ok (.nx [some (false, D.str a), some (false, D.str b), some (false, D.int (m : Int)), some (true, .dic (ksB (dedF (strW b m)))), x4, none]) := by
      simp [bodyM, eVar, eC, eOp, eUn, eNil, eCons, eCB, eCO, eCOV, eLst, eTup, eB, eAnd, eOr, eNot, eBv, eAndV, eOrV, eNotV, eIf, eChain, eCall, okA, eTgN, eTgNil, eTgCons, eTgT, eRng, wipeE, noOwn, eLc, eYes, eDc, bNext, bSeq, bRet, bSet, bAsg, bDrop, bIf, bRaise, bFor, frzE, bFrz, setsE, bSets, isiD, tyName, chars, rng_len, eDGet2, eDNew, bApp, ownL, ownD, bDPut, eSl, ePart, eNo, eItA, itA, itD, eIxA, eJoin, isV, iop, cop, subD, modD, fdivD, leD, gtD, geD, eqB, neB, isBlD, notBlD, keyD, isDic, s1, l1, d1]
    have d2 : dcGo (eTgN 5) (eB (eOp inAB (eVar 5) (eVar 3))) (eVar 5) (eC (.bl true)) [some (false, D.str a), some (false, D.str b), some (false, D.int (m : Int)), some (false, .dic (ksB (dedF (strW b m)))), x4, none] [] ((strW a m).map D.str) = .ok (ksB (dedF ((strW a m).filter fun x => decide (x ∈ strW b m)))) := by
      rw [dc_fold D.str id (fun _ => .bl true) (fun x => [some (false, D.str a), some (false, D.str b), some (false, D.int (m : Int)), some (false, .dic (ksB (dedF (strW b m)))), x4, some (false, D.str x)]) (fun x => decide (x ∈ strW b m)) (strW a m) [] fun x _ => ⟨rfl, ?_, fun _ => ⟨rfl, rfl⟩⟩]
      · have := dedF_fold (fun x => decide (x ∈ strW b m)) (strW a m) []
        simp only [ksB, List.map_nil] at this
        simp only [id]
        rw [this]
        rfl
      · simp [bodyM, eVar, eC, eOp, eUn, eNil, eCons, eCB, eCO, eCOV, eLst, eTup, eB, eAnd, eOr, eNot, eBv, eAndV, eOrV, eNotV, eIf, eChain, eCall, okA, eTgN, eTgNil, eTgCons, eTgT, eRng, wipeE, noOwn, eLc, eYes, eDc, bNext, bSeq, bRet, bSet, bAsg, bDrop, bIf, bRaise, bFor, frzE, bFrz, setsE, bSets, isiD, tyName, chars, rng_len, eDGet2, eDNew, bApp, ownL, ownD, bDPut, eSl, ePart, eNo, eItA, itA, itD, eIxA, eJoin, isV, iop, cop, subD, modD, fdivD, leD, gtD, geD, eqB, neB, isBlD, notBlD, keyD, isDic, inAB, inA, ksB_get, dedF_mem]
    have e2 : bFrz [3] (bSet 4 (eDc (eItA (eCall m_stretches (eCons (eVar 0) (eCons (eVar 2) eNil)))) (eTgN 5) (eB (eOp inAB (eVar 5) (eVar 3))) (eVar 5) (eC (.bl true)) [5])) [some (false, D.str a), some (false, D.str b), some (false, D.int (m : Int)), some (true, .dic (ksB (dedF (strW b m)))), x4, none] = .ok (.nx [some (false, D.str a), some (false, D.str b), some (false, D.int (m : Int)), some (false, .dic (ksB (dedF (strW b m)))), some (true, .dic (ksB (dedF ((strW a m).filter fun x => decide (x ∈ strW b m))))), none]) := by
      simp [bodyM, eVar, eC, eOp, eUn, eNil, eCons, eCB, eCO, eCOV, eLst, eTup, eB, eAnd, eOr, eNot, eBv, eAndV, eOrV, eNotV, eIf, eChain, eCall, okA, eTgN, eTgNil, eTgCons, eTgT, eRng, wipeE, noOwn, eLc, eYes, eDc, bNext, bSeq, bRet, bSet, bAsg, bDrop, bIf, bRaise, bFor, frzE, bFrz, setsE, bSets, isiD, tyName, chars, rng_len, eDGet2, eDNew, bApp, ownL, ownD, bDPut, eSl, ePart, eNo, eItA, itA, itD, eIxA, eJoin, isV, iop, cop, subD, modD, fdivD, leD, gtD, geD, eqB, neB, isBlD, notBlD, keyD, isDic, s2, l2, d2]
    have eb : fb [some (false, D.str a), some (false, D.str b), some (false, D.int (m : Int)), x3, x4, none] = bFrz [4] (bIf (eB (eOp gtD (eCB lenD (eCons (eVar 4) eNil)) (eC (.int 0)))) (bFrz [4] (bRet (eCOV sortedD (eCons (eVar 4) eNil)))) bNext) [some (false, D.str a), some (false, D.str b), some (false, D.int (m : Int)), some (false, .dic (ksB (dedF (strW b m)))), some (true, .dic (ksB (dedF ((strW a m).filter fun x => decide (x ∈ strW b m))))), none] := by
      simp only [fb, bSeq]
      rw [e1]
      simp only [ok_bind]
      rw [e2]
      rfl
    have lf : (dedF ((strW a m).filter fun x => decide (x ∈ strW b m))).length ≤ 60 := by
      have h1 := dedF_len ((strW a m).filter fun x => decide (x ∈ strW b m))
      have h2 := List.length_filter_le (fun x => decide (x ∈ strW b m)) (strW a m)
      rw [strW_len] at h2
      omega
    show (∃ v, (if commB a b m = true then some ((.o, .lst ((commW a b m).map D.str)) : Vl) else none) = some v ∧ fb [some (false, D.str a), some (false, D.str b), some (false, D.int (m : Int)), x3, x4, none] = .ok (.rt v)) ∨ ((if commB a b m = true then some ((.o, .lst ((commW a b m).map D.str)) : Vl) else none) = none ∧ ∃ e2, fb [some (false, D.str a), some (false, D.str b), some (false, D.int (m : Int)), x3, x4, none] = .ok (.nx e2) ∧ ∃ x2 x3 x4, e2 = [some (false, D.str a), some (false, D.str b), x2, x3, x4, none])
    rw [eb]
    have cW : commW a b m = sortW (dedF ((strW a m).filter fun x => decide (x ∈ strW b m))) := rfl
    have cB : commB a b m = !decide (sortW (dedF ((strW a m).filter fun x => decide (x ∈ strW b m))) = []) := rfl
    rw [cW, cB]
    generalize dedF ((strW a m).filter fun x => decide (x ∈ strW b m)) = L at lf
    have l3 : (ksB L).length < 64 := by rw [ksB_len]; omega
    cases L with
    | nil =>
      refine .inr ⟨by simp [sortW], [some (false, D.str a), some (false, D.str b), some (false, D.int (m : Int)), some (false, .dic (ksB (dedF (strW b m)))), some (false, .dic (ksB [])), none], ?_, _, _, _, rfl⟩
      simp [bodyM, eVar, eC, eOp, eUn, eNil, eCons, eCB, eCO, eCOV, eLst, eTup, eB, eAnd, eOr, eNot, eBv, eAndV, eOrV, eNotV, eIf, eChain, eCall, okA, eTgN, eTgNil, eTgCons, eTgT, eRng, wipeE, noOwn, eLc, eYes, eDc, bNext, bSeq, bRet, bSet, bAsg, bDrop, bIf, bRaise, bFor, frzE, bFrz, setsE, bSets, isiD, tyName, chars, rng_len, eDGet2, eDNew, bApp, ownL, ownD, bDPut, eSl, ePart, eNo, eItA, itA, itD, eIxA, eJoin, isV, iop, cop, subD, modD, fdivD, leD, gtD, geD, eqB, neB, isBlD, notBlD, keyD, isDic, lenD, ksB]
    | cons k ks =>
      have hne : ¬ sortW (k :: ks) = [] := fun z => by cases sortW_nil.mp z
      refine .inl ⟨(.o, .lst ((sortW (k :: ks)).map D.str)), by simp [hne], ?_⟩
      have hp : (0 : Int) < ((ksB (k :: ks)).length : Int) := by rw [ksB_len]; simp only [List.length_cons]; omega
      have hk : ¬ ksB (k :: ks) = [] := by simp [ksB]
      simp [bodyM, eVar, eC, eOp, eUn, eNil, eCons, eCB, eCO, eCOV, eLst, eTup, eB, eAnd, eOr, eNot, eBv, eAndV, eOrV, eNotV, eIf, eChain, eCall, okA, eTgN, eTgNil, eTgCons, eTgT, eRng, wipeE, noOwn, eLc, eYes, eDc, bNext, bSeq, bRet, bSet, bAsg, bDrop, bIf, bRaise, bFor, frzE, bFrz, setsE, bSets, isiD, tyName, chars, rng_len, eDGet2, eDNew, bApp, ownL, ownD, bDPut, eSl, ePart, eNo, eItA, itA, itD, eIxA, eJoin, isV, iop, cop, subD, modD, fdivD, leD, gtD, geD, eqB, neB, isBlD, notBlD, keyD, isDic, lenD, hp, sortedD, l3, ksB_keys, hk]) ⟨none, none, none, rfl⟩
  have hr : eRng rngD3 (eCons (eCB minD2 (eCons (eCB lenD (eCons (eVar 0) eNil)) (eCons (eCB lenD (eCons (eVar 1) eNil)) eNil))) (eCons (eC (.int 0)) (eCons (eUn negD (eC (.int 1))) eNil))) [some (false, D.str a), some (false, D.str b), none, none, none, none] = .ok ((downL (min a.length b.length)).map fun i : Nat => D.int (i : Int)) := by
    rw [eRng3_ok (a := ((min a.length b.length : Nat) : Int)) (b := 0) (by simp [bodyM, eVar, eC, eOp, eUn, eNil, eCons, eCB, eCO, eCOV, eLst, eTup, eB, eAnd, eOr, eNot, eBv, eAndV, eOrV, eNotV, eIf, eChain, eCall, okA, eTgN, eTgNil, eTgCons, eTgT, eRng, wipeE, noOwn, eLc, eYes, eDc, bNext, bSeq, bRet, bSet, bAsg, bDrop, bIf, bRaise, bFor, frzE, bFrz, setsE, bSets, isiD, tyName, chars, rng_len, eDGet2, eDNew, bApp, ownL, ownD, bDPut, eSl, ePart, eNo, eItA, itA, itD, eIxA, eJoin, isV, iop, cop, subD, modD, fdivD, leD, gtD, geD, eqB, neB, isBlD, notBlD, keyD, isDic, lenD, la, lb, minD2]; omega) rfl (by simp [bodyM, eVar, eC, eOp, eUn, eNil, eCons, eCB, eCO, eCOV, eLst, eTup, eB, eAnd, eOr, eNot, eBv, eAndV, eOrV, eNotV, eIf, eChain, eCall, okA, eTgN, eTgNil, eTgCons, eTgT, eRng, wipeE, noOwn, eLc, eYes, eDc, bNext, bSeq, bRet, bSet, bAsg, bDrop, bIf, bRaise, bFor, frzE, bFrz, setsE, bSets, isiD, tyName, chars, rng_len, eDGet2, eDNew, bApp, ownL, ownD, bDPut, eSl, ePart, eNo, eItA, itA, itD, eIxA, eJoin, isV, iop, cop, subD, modD, fdivD, leD, gtD, geD, eqB, neB, isBlD, notBlD, keyD, isDic, negD]) (by omega) (by omega) (by omega) (by omega), downL_ints]
  have hm : m_longest_common [.str a, .str b] = (bSeq (bFor (eRng rngD3 (eCons (eCB minD2 (eCons (eCB lenD (eCons (eVar 0) eNil)) (eCons (eCB lenD (eCons (eVar 1) eNil)) eNil))) (eCons (eC (.int 0)) (eCons (eUn negD (eC (.int 1))) eNil)))) (eTgN 2) fb) (bRet (eLst eNil)) [some (false, D.str a), some (false, D.str b), none, none, none, none]).bind fun o => match o with
      | .nx _ => .ok (.s, .non)
      | .rt v => .ok v
      | _ => .bad := by
    simp only [m_longest_common, bodyM, b_longest_common, bSeq, bDrop, eCall, eCons, eVar, eNil, List.length_cons, List.length_nil, if_true, List.map_cons, List.map_nil, List.replicate_succ, List.replicate_zero, List.cons_append, List.nil_append, List.getElem?_cons_zero, List.getElem?_cons_succ, ok_bind, okA, List.all_cons, List.all_nil, isV, dats_cons, dats_nil, na, nb, ret, Bool.not_false, Bool.true_or, Bool.and_self, List.any_cons, List.any_nil, Bool.or_self, Bool.false_eq_true, if_false, Nat.reduceSub]
    rfl
  rw [hm]
  simp only [bSeq, bFor, hr, ok_bind]
  rw [find_filter] at key
  rcases key with ⟨v, k1, k2⟩ | ⟨k1, e, k2, x2, x3, x4, rfl⟩
  · rw [k2]
    cases hh : ((downL (min a.length b.length)).filter (commB a b)).head? with
    | none => rw [hh] at k1; cases k1
    | some m =>
      rw [hh] at k1
      simp only [Option.map_some, Option.some.injEq] at k1
      subst k1
      simp [lcW, hh]
  · rw [k2]
    cases hh : ((downL (min a.length b.length)).filter (commB a b)).head? with
    | none =>
      simp [bodyM, eVar, eC, eOp, eUn, eNil, eCons, eCB, eCO, eCOV, eLst, eTup, eB, eAnd, eOr, eNot, eBv, eAndV, eOrV, eNotV, eIf, eChain, eCall, okA, eTgN, eTgNil, eTgCons, eTgT, eRng, wipeE, noOwn, eLc, eYes, eDc, bNext, bSeq, bRet, bSet, bAsg, bDrop, bIf, bRaise, bFor, frzE, bFrz, setsE, bSets, isiD, tyName, chars, rng_len, eDGet2, eDNew, bApp, ownL, ownD, bDPut, eSl, ePart, eNo, eItA, itA, itD, eIxA, eJoin, isV, iop, cop, subD, modD, fdivD, leD, gtD, geD, eqB, neB, isBlD, notBlD, keyD, isDic, lcW, hh]
    | some m => rw [hh] at k1; cases k1
end Y

namespace Y
open PySem PySem.Spec PyProof.Rows L2 Z
def prefW (p : List Nat) : List (List Nat) := (List.range p.length).map fun i => p.take i
def stsW (ws : List (List Nat)) : List (List Nat) := dedF ([] :: ws.flatMap prefW)
structure IsSt (ws : List (List Nat)) (u s : List Nat) : Prop where
  m : s ∈ stsW ws
  f : s <:+ u
  x : ∀ p ∈ stsW ws, p <:+ u → p.length ≤ s.length
theorem IsSt.eq {ws : List (List Nat)} {u s s' : List Nat} (h : IsSt ws u s) (h' : IsSt ws u s') : s = s' :=
  (List.suffix_of_suffix_length_le h.f h'.f (h'.x s h.m h.f)).eq_of_length (Nat.le_antisymm (h'.x s h.m h.f) (h.x s' h'.m h'.f))
section
variable {ws : List (List Nat)} {u s s' : List Nat} {c : Nat}
end
abbrev LnT := List (List Nat × List (List Nat))
section
variable {ws : List (List Nat)} {n : Nat} {L : LnT}
end
end Y
namespace Y
open PySem PySem.Spec PyProof.Rows L2 Z
section
variable {ws : List (List Nat)}
end
section
variable {ws : List (List Nat)} {w : List Nat}
end
end Y

namespace Y
open PySem PySem.Spec PyProof.Rows L2 Z
theorem lt_cons {a b : Nat} {s t : List Nat} : (a :: s < b :: t) ↔ a < b ∨ (s < t ∧ a = b) := by
  rw [List.cons_lt_cons_iff]
  constructor
  · rintro (h | ⟨h, g⟩)
    · exact .inl h
    · exact .inr ⟨g, h⟩
  · rintro (h | ⟨h, g⟩)
    · exact .inl h
    · exact .inr ⟨g, h⟩
end Y

namespace Y
open PySem PySem.Spec PyProof.Rows L2 Z
end Y

namespace Y
open PySem PySem.Spec PyProof.Rows L2 Z
theorem part_part {c : Nat} (h : c ∈ acgt) : part (part c) = c := by
  simp only [acgt, List.mem_cons, List.not_mem_nil, or_false] at h
  rcases h with rfl | rfl | rfl | rfl <;> rfl
theorem strand_strand {w : List Nat} (h : Ac w) : strandW (strandW w) = w := by
  unfold strandW
  rw [← List.map_reverse, List.reverse_reverse, List.map_map]
  conv => rhs; rw [← List.map_id w]
  exact List.map_congr_left fun c hc => part_part (h c hc)
theorem strand_app (a b : List Nat) : strandW (a ++ b) = strandW b ++ strandW a := by
  unfold strandW
  rw [List.reverse_append, List.map_append]
theorem strand_sub {w : List Nat} {i k : Nat} (h : i + k ≤ w.length) : subW (strandW w) (w.length - i - k) k = strandW (subW w i k) := by
  have e : w = w.take i ++ (subW w i k ++ w.drop (i + k)) := by
    unfold subW
    conv => lhs; rw [← List.take_append_drop i w]
    congr 1
    conv => lhs; rw [← List.take_append_drop k (w.drop i)]
    rw [List.drop_drop]
  have hl : (strandW (w.drop (i + k))).length = w.length - i - k := by rw [strand_len, List.length_drop]; omega
  have hk : (strandW (subW w i k)).length = k := by rw [strand_len, subW_len]; omega
  have e2 : strandW w = strandW (w.drop (i + k)) ++ (strandW (subW w i k) ++ strandW (w.take i)) := by
    conv => lhs; rw [e]
    rw [strand_app, strand_app, List.append_assoc]
  unfold subW at hk ⊢
  rw [e2]
  rw [List.drop_append_of_le_length (by omega), List.drop_of_length_le (by omega), List.nil_append, List.take_append_of_le_length (by unfold subW; omega), List.take_of_length_le (by unfold subW; omega)]
  rfl
end Y

namespace Y
open PySem PySem.Spec PyProof.Rows L2 Z
def pw (m : Nat) (w : List Nat) : List Nat := (List.replicate m w).flatten
theorem pw_zero (w : List Nat) : pw 0 w = [] := rfl
theorem pw_succ (m : Nat) (w : List Nat) : pw (m + 1) w = w ++ pw m w := by
  unfold pw
  rw [List.replicate_succ, List.flatten_cons]
theorem pw_len (m : Nat) (w : List Nat) : (pw m w).length = m * w.length := rep_len m w
theorem pw_one (w : List Nat) : pw 1 w = w := by rw [pw_succ, pw_zero, List.append_nil]
theorem pw_add (a b : Nat) (w : List Nat) : pw (a + b) w = pw a w ++ pw b w := by
  induction a with
  | zero => simp [pw_zero]
  | succ a ih => rw [show a + 1 + b = (a + b) + 1 by omega, pw_succ, ih, pw_succ, List.append_assoc]
theorem pw_pw (a b : Nat) (u : List Nat) : pw a (pw b u) = pw (a * b) u := by
  induction a with
  | zero => simp [pw_zero]
  | succ a ih => rw [pw_succ, ih, ← pw_add]; congr 1; rw [Nat.add_mul, Nat.one_mul, Nat.add_comm]
theorem pw_get {w : List Nat} : ∀ {m j : Nat}, j < m * w.length → (pw m w)[j]? = w[j % w.length]?
  | 0, j, h => absurd h (by omega)
  | m + 1, j, h => by
    rw [pw_succ]
    by_cases hj : j < w.length
    · rw [List.getElem?_append_left hj, Nat.mod_eq_of_lt hj]
    · rw [List.getElem?_append_right (by omega), pw_get (by rw [Nat.add_mul] at h; omega), ← Nat.mod_eq_sub_mod (by omega)]
theorem pw_take {k : Nat} {u : List Nat} (hk : 0 < k) : (pw k u).take u.length = u := by
  obtain ⟨m, rfl⟩ : ∃ m, k = m + 1 := ⟨k - 1, by omega⟩
  rw [pw_succ, List.take_left]
theorem rootB_of {w u : List Nat} {k : Nat} (hu : 0 < u.length) (hk : 0 < k) (h : w = pw k u) : rootB w u.length = true := by
  unfold rootB
  rw [decide_eq_true_eq]
  show pw _ _ = w
  subst h
  rw [pw_len, Nat.mul_div_cancel _ hu, pw_take hk]
theorem rootB_pw {w : List Nat} {i : Nat} (h0 : 0 < i) (h1 : i ≤ w.length) (h : rootB w i = true) : w = pw (w.length / i) (w.take i) ∧ 0 < w.length / i ∧ (w.take i).length = i ∧ w.length = w.length / i * i := by
  unfold rootB at h
  have h := of_decide_eq_true h
  have hl : (w.take i).length = i := by rw [List.length_take]; omega
  refine ⟨h.symm, Nat.div_pos h1 h0, hl, ?_⟩
  have := congrArg List.length h
  rw [rep_len, hl] at this
  exact this.symm
def Per (w : List Nat) (i : Nat) : Prop := ∀ j, w[(i + j) % w.length]? = w[j % w.length]?
theorem Per.add {w : List Nat} {i k : Nat} (a : Per w i) (b : Per w k) : Per w (i + k) := fun j => by
  rw [Nat.add_assoc, a, b]
theorem Per.sub {w : List Nat} {i k : Nat} (a : Per w i) (b : Per w (i + k)) : Per w k := fun j => by
  rw [← a (k + j), ← Nat.add_assoc, b]
theorem Per.zero (w : List Nat) : Per w 0 := fun j => by rw [Nat.zero_add]
theorem Per.mul {w : List Nat} {i : Nat} (a : Per w i) : ∀ k, Per w (i * k)
  | 0 => Per.zero w
  | k + 1 => by rw [Nat.mul_succ]; exact (Per.mul a k).add a
theorem Per.mod {w : List Nat} {a b : Nat} (ha : Per w a) (hb : Per w b) : Per w (a % b) := by
  refine (hb.mul (a / b)).sub ?_
  rw [Nat.div_add_mod]
  exact ha
theorem Per.gcd {w : List Nat} {a b : Nat} (ha : Per w a) (hb : Per w b) : Per w (Nat.gcd a b) := by
  induction a, b using Nat.gcd.induction with
  | H0 b => rw [Nat.gcd_zero_left]; exact hb
  | H1 a b h ih => rw [Nat.gcd_rec]; exact ih (hb.mod ha) ha
theorem per_root {w : List Nat} {i : Nat} (h0 : 0 < i) (hd : i ∣ w.length) (hn : 0 < w.length) : Per w i ↔ rootB w i = true := by
  have hle := Nat.le_of_dvd hn hd
  have hl : (w.take i).length = i := by rw [List.length_take]; omega
  obtain ⟨k, hk⟩ := hd
  have hdiv : w.length / i = k := by rw [hk, Nat.mul_div_cancel_left _ h0]
  have key : rootB w i = true ↔ ∀ j, j < w.length → w[j]? = w[j % i]? := by
    unfold rootB
    rw [decide_eq_true_eq, hdiv]
    show pw k (w.take i) = w ↔ _
    have hpl : (pw k (w.take i)).length = w.length := by rw [pw_len, hl, hk, Nat.mul_comm]
    have hg : ∀ j, j < w.length → (pw k (w.take i))[j]? = w[j % i]? := fun j hj => by
      rw [pw_get (by rw [hl, Nat.mul_comm, ← hk]; exact hj), hl, List.getElem?_take_of_lt (Nat.mod_lt _ h0)]
    constructor
    · intro h j hj
      rw [← hg j hj, h]
    · intro h
      apply List.ext_getElem?
      intro j
      by_cases hj : j < w.length
      · rw [hg j hj, h j hj]
      · rw [List.getElem?_eq_none (by omega), List.getElem?_eq_none (by omega)]
  rw [key]
  constructor
  · intro h
    have : ∀ j, j < w.length → w[j]? = w[j % i]? := by
      intro j
      induction j using Nat.strongRecOn with
      | ind j ih =>
        intro hj
        by_cases hji : j < i
        · rw [Nat.mod_eq_of_lt hji]
        · have h1 := h (j - i)
          rw [show i + (j - i) = j by omega, Nat.mod_eq_of_lt hj, Nat.mod_eq_of_lt (by omega)] at h1
          rw [h1, ih (j - i) (by omega) (by omega), ← Nat.mod_eq_sub_mod (by omega)]
    exact this
  · intro h j
    have m1 : ∀ x, x % w.length % i = x % i := fun x => Nat.mod_mod_of_dvd x ⟨k, hk⟩
    rw [h _ (Nat.mod_lt _ hn), h (j % w.length) (Nat.mod_lt _ hn), m1, m1, Nat.add_mod_left]
structure Rt (w : List Nat) (d : Nat) : Prop where
  pos : 0 < d
  le : d ≤ w.length
  root : rootB w d = true
  least : ∀ k, 0 < k → k ≤ w.length → rootB w k = true → d ≤ k
  told : rootD w = D.tup [.str (w.take d), .int ((w.length / d : Nat) : Int)]
theorem rt_of {w : List Nat} (h0 : 0 < w.length) : ∃ d, Rt w d := by
  obtain ⟨d, h1, h2, h3, h4⟩ := root_first h0
  have hpw : ((rngL w).filter (rootB w)).Pairwise (· < ·) := by
    refine List.Pairwise.filter _ ?_
    unfold rngL
    exact List.pairwise_map.mpr (List.pairwise_lt_range.imp fun h => by omega)
  obtain ⟨r, hr⟩ : ∃ r, (rngL w).filter (rootB w) = d :: r := by
    cases hf : (rngL w).filter (rootB w) with
    | nil => rw [hf] at h3; cases h3
    | cons x r => rw [hf] at h3; cases h3; exact ⟨r, rfl⟩
  refine ⟨d, h1, h2, ?_, fun k k0 k1 k2 => ?_, h4.symm⟩
  · have : d ∈ (rngL w).filter (rootB w) := by rw [hr]; exact List.mem_cons_self ..
    exact (List.mem_filter.mp this).2
  · have hk : k ∈ (rngL w).filter (rootB w) := List.mem_filter.mpr ⟨by
      unfold rngL
      exact List.mem_map.mpr ⟨k - 1, List.mem_range.mpr (by omega), by omega⟩, k2⟩
    rw [hr] at hk hpw
    rcases List.mem_cons.mp hk with rfl | hk
    · exact Nat.le_refl _
    · exact Nat.le_of_lt ((List.pairwise_cons.mp hpw).1 k hk)
theorem Rt.dvd {w : List Nat} {d : Nat} (R : Rt w d) : d ∣ w.length := by
  obtain ⟨_, _, _, h⟩ := rootB_pw R.pos R.le R.root
  exact ⟨w.length / d, by rw [Nat.mul_comm]; exact h⟩
theorem Rt.per {w : List Nat} {d : Nat} (R : Rt w d) {k : Nat} : Per w k ↔ d ∣ k := by
  have hn : 0 < w.length := Nat.lt_of_lt_of_le R.pos R.le
  have hd := (per_root R.pos R.dvd hn).mpr R.root
  constructor
  · intro h
    have hg := h.gcd hd
    have hgd : Nat.gcd k d ∣ d := Nat.gcd_dvd_right ..
    have hgn := Nat.dvd_trans hgd R.dvd
    have hg0 : 0 < Nat.gcd k d := Nat.gcd_pos_of_pos_right _ R.pos
    have h1 := R.least _ hg0 (Nat.le_of_dvd hn hgn) ((per_root hg0 hgn hn).mp hg)
    have h2 := Nat.le_of_dvd R.pos hgd
    have : Nat.gcd k d = d := by omega
    rw [← this]
    exact Nat.gcd_dvd_left ..
  · rintro ⟨c, rfl⟩
    exact hd.mul c
theorem turn_same {w : List Nat} {i j : Nat} (hij : i ≤ j) (hj : j < w.length) : turnN w i = turnN w j ↔ Per w (j - i) := by
  have hi : i < w.length := by omega
  constructor
  · intro h t
    have hl : (t % w.length + w.length - i) % w.length < w.length := Nat.mod_lt _ (by omega)
    have g1 := turnN_get (w := w) hi hl
    have g2 := turnN_get (w := w) hj hl
    rw [h, g2] at g1
    have ht := Nat.mod_lt t (show 0 < w.length by omega)
    have e1 : (i + (t % w.length + w.length - i) % w.length) % w.length = t % w.length := by
      rw [Nat.add_mod_mod, show i + (t % w.length + w.length - i) = t % w.length + w.length by omega, Nat.add_mod_right, Nat.mod_mod]
    have e2 : (j + (t % w.length + w.length - i) % w.length) % w.length = (j - i + t) % w.length := by
      rw [Nat.add_mod_mod, show j + (t % w.length + w.length - i) = (j - i + t % w.length) + w.length by omega, Nat.add_mod_right, Nat.add_mod_mod]
    rw [e1, e2] at g1
    exact g1
  · intro h
    apply List.ext_getElem?
    intro l
    by_cases hl : l < w.length
    · rw [turnN_get hi hl, turnN_get hj hl, ← h (i + l), ← Nat.add_assoc, show j - i + i = j by omega]
    · rw [List.getElem?_eq_none (by rw [turnN_len (by omega)]; omega), List.getElem?_eq_none (by rw [turnN_len (by omega)]; omega)]
theorem Rt.turns {w : List Nat} {d : Nat} (R : Rt w d) : (ddW ((List.range w.length).map (turnN w))).length = d := by
  have hn : 0 < w.length := Nat.lt_of_lt_of_le R.pos R.le
  have nd : ((List.range d).map (turnN w)).Nodup := List.pairwise_map.mpr (List.pairwise_lt_range.imp_of_mem fun {a b} ha hb hab e => by
    have hb := List.mem_range.mp hb
    have h1 := R.per.mp ((turn_same (by omega) (by have := R.le; omega)).mp e)
    have h2 := Nat.le_of_dvd (by omega) h1
    omega)
  have hp : (ddW ((List.range w.length).map (turnN w))).Perm ((List.range d).map (turnN w)) := (List.perm_ext_iff_of_nodup (ddW_nodup _) nd).mpr fun x => by
    rw [ddW_mem, List.mem_map, List.mem_map]
    constructor
    · rintro ⟨i, hi, rfl⟩
      have hi := List.mem_range.mp hi
      refine ⟨i % d, List.mem_range.mpr (Nat.mod_lt _ R.pos), (turn_same (Nat.mod_le i d) hi).mpr (R.per.mpr ⟨i / d, ?_⟩)⟩
      have := Nat.div_add_mod i d
      omega
    · rintro ⟨i, hi, rfl⟩
      have hi := List.mem_range.mp hi
      exact ⟨i, List.mem_range.mpr (by have := R.le; omega), rfl⟩
  rw [hp.length_eq, List.length_map, List.length_range]
theorem Rt.short {w : List Nat} {d : Nat} (R : Rt w d) : rootD (w.take d) = D.tup [.str (w.take d), .int 1] := by
  obtain ⟨h1, h2, h3, h4⟩ := rootB_pw R.pos R.le R.root
  obtain ⟨i, S⟩ := rt_of (w := w.take d) (by rw [h3]; exact R.pos)
  obtain ⟨s1, s2, s3, s4⟩ := rootB_pw S.pos S.le S.root
  have hi : i = d := by
    have hle := S.le
    rw [h3] at hle
    have : rootB w ((w.take d).take i).length = true := by
      refine rootB_of (k := w.length / d * ((w.take d).length / i)) (by rw [s3]; exact S.pos) (Nat.mul_pos h2 s2) ?_
      rw [← pw_pw, ← s1, ← h1]
    rw [s3] at this
    have := R.least i S.pos (by have := R.le; omega) this
    omega
  have := S.told
  rw [hi, h3, Nat.div_self R.pos, List.take_take, Nat.min_self] at this
  exact this
theorem strand_pw (k : Nat) (u : List Nat) : strandW (pw k u) = pw k (strandW u) := by
  induction k with
  | zero => rfl
  | succ k ih => rw [pw_succ, strand_app, ih, pw_add k 1, pw_one]
theorem Rt.strand {w : List Nat} {d : Nat} (R : Rt w d) (hw : Ac w) : rootD (strandW w) = D.tup [.str (strandW (w.take d)), .int ((w.length / d : Nat) : Int)] := by
  have fwd : ∀ {v : List Nat} {i : Nat}, 0 < i → i ≤ v.length → rootB v i = true → rootB (strandW v) i = true ∧ (strandW v).take i = strandW (v.take i) := fun {v i} h0 h1 h => by
    obtain ⟨a1, a2, a3, a4⟩ := rootB_pw h0 h1 h
    have e : strandW v = pw (v.length / i) (strandW (v.take i)) := by rw [← strand_pw, ← a1]
    have l : (strandW (v.take i)).length = i := by rw [strand_len, a3]
    have r := rootB_of (by rw [l]; exact h0) a2 e
    rw [l] at r
    refine ⟨r, ?_⟩
    have t := pw_take (u := strandW (v.take i)) a2
    rw [l, ← e] at t
    exact t
  obtain ⟨i, S⟩ := rt_of (w := strandW w) (by rw [strand_len]; exact Nat.lt_of_lt_of_le R.pos R.le)
  obtain ⟨f1, f2⟩ := fwd R.pos R.le R.root
  obtain ⟨b1, _⟩ := fwd S.pos S.le S.root
  rw [strand_strand hw] at b1
  have l1 := S.least d R.pos (by rw [strand_len]; exact R.le) f1
  have l2 := R.least i S.pos (by have := S.le; rw [strand_len] at this; exact this) b1
  have hi : i = d := by omega
  have := S.told
  rw [hi, f2, strand_len] at this
  exact this
end Y

namespace Y
open PySem PySem.Spec PyProof.Rows L2 Z
theorem turn_pw {w : List Nat} {m k : Nat} (hk : k < m * w.length) : turnN (pw m w) k = pw m (turnN w (k % w.length)) := by
  have hn : 0 < w.length := by
    rcases Nat.eq_zero_or_pos w.length with h | h
    · rw [h] at hk; omega
    · exact h
  have hkm := Nat.mod_lt k hn
  have hl := turnN_len (w := w) (k := k % w.length) (by omega)
  apply List.ext_getElem?
  intro j
  by_cases hj : j < m * w.length
  · rw [turnN_get (by rw [pw_len]; exact hk) (by rw [pw_len]; exact hj), pw_len, pw_get (Nat.mod_lt _ (by omega)), pw_get (by rw [hl]; exact hj), hl, turnN_get hkm (Nat.mod_lt _ hn)]
    congr 1
    rw [Nat.mod_mod_of_dvd _ (Nat.dvd_mul_left ..), Nat.add_mod_mod, Nat.mod_add_mod]
  · rw [List.getElem?_eq_none (by rw [turnN_len (by rw [pw_len]; omega), pw_len]; omega), List.getElem?_eq_none (by rw [pw_len, hl]; omega)]
theorem lt_app : ∀ {x y : List Nat}, x < y → x.length = y.length → ∀ (a b : List Nat), x ++ a < y ++ b
  | [], [], h, _, _, _ => absurd h (by simp)
  | [], _ :: _, _, h, _, _ => by simp at h
  | _ :: _, [], _, h, _, _ => by simp at h
  | c :: x, d :: y, h, hl, a, b => by
    rw [List.cons_append, List.cons_append, lt_cons]
    rcases lt_cons.mp h with h | ⟨h, e⟩
    · exact .inl h
    · exact .inr ⟨lt_app h (by simpa using hl) a b, e⟩
theorem pw_lt {x y : List Nat} (h : x < y) (hl : x.length = y.length) : ∀ {m : Nat}, 0 < m → pw m x < pw m y
  | 0, h0 => absurd h0 (by omega)
  | m + 1, _ => by rw [pw_succ, pw_succ]; exact lt_app h hl _ _
theorem minS_is {xs : List (List Nat)} {v : List Nat} (h : v ∈ xs) (hm : ∀ y ∈ xs, ¬ y < v) : minS xs = v := by
  have hne : xs ≠ [] := fun z => by subst z; cases h
  have h1 := hm _ (minS_mem hne)
  have h2 := minS_le h
  exact Std.le_antisymm (Std.not_lt.mp h2) (Std.not_lt.mp h1)
theorem least_eq (w : List Nat) : leastW w = minS ((List.range w.length).map (turnN w)) := by
  unfold leastW
  rw [turns_eq]
theorem least_pw {w : List Nat} {m : Nat} (h0 : 0 < w.length) (hm : 0 < m) : leastW (pw m w) = pw m (leastW w) := by
  obtain ⟨k, hk, hv⟩ := least_mem h0
  rw [least_eq (pw m w), pw_len]
  have hkm : k < m * w.length := Nat.lt_of_lt_of_le hk (Nat.le_mul_of_pos_left _ hm)
  refine minS_is (List.mem_map.mpr ⟨k, List.mem_range.mpr hkm, ?_⟩) fun y hy => ?_
  · rw [turn_pw hkm, Nat.mod_eq_of_lt hk, hv]
  · obtain ⟨i, hi, rfl⟩ := List.mem_map.mp hy
    have hi := List.mem_range.mp hi
    rw [turn_pw hi]
    have him := Nat.mod_lt i h0
    have hx : ¬ turnN w (i % w.length) < leastW w := by
      rw [least_eq]
      exact minS_le (List.mem_map.mpr ⟨_, List.mem_range.mpr him, rfl⟩)
    intro hlt
    have hle := Std.not_lt.mp hx
    by_cases e : leastW w = turnN w (i % w.length)
    · rw [← e] at hlt
      exact Std.lt_irrefl hlt
    · have h1 : leastW w < turnN w (i % w.length) := Std.lt_of_le_of_ne hle e
      have h2 := pw_lt h1 (by rw [hv, turnN_len (by omega), turnN_len (by omega)]) hm
      exact Std.lt_irrefl (Std.lt_trans hlt h2)
theorem strand_drop' {w : List Nat} {k : Nat} (hk : k ≤ w.length) : (strandW w).drop (w.length - k) = strandW (w.take k) := by
  have e : strandW w = strandW (w.drop k) ++ strandW (w.take k) := by rw [← strand_app, List.take_append_drop]
  rw [e, show w.length - k = (strandW (w.drop k)).length by rw [strand_len, List.length_drop], List.drop_left]
theorem strand_take' {w : List Nat} {k : Nat} (hk : k ≤ w.length) : (strandW w).take (w.length - k) = strandW (w.drop k) := by
  have e : strandW w = strandW (w.drop k) ++ strandW (w.take k) := by rw [← strand_app, List.take_append_drop]
  rw [e, show w.length - k = (strandW (w.drop k)).length by rw [strand_len, List.length_drop], List.take_left]
theorem strand_turn {w : List Nat} {k : Nat} (hk : k ≤ w.length) : strandW (turnN w k) = turnN (strandW w) (w.length - k) := by
  unfold turnN
  rw [strand_app, strand_drop' hk, strand_take' hk]
theorem turn_zero (w : List Nat) : turnN w 0 = w := by unfold turnN; simp
theorem least_strand {w : List Nat} (h0 : 0 < w.length) : leastW (strandW (leastW w)) = leastW (strandW w) := by
  obtain ⟨k, hk, hv⟩ := least_mem h0
  rw [hv]
  by_cases hz : k = 0
  · subst hz
    rw [turn_zero]
  · rw [strand_turn (by omega), least_turnN (by rw [strand_len]; omega)]
theorem ring_twice {w : List Nat} (h0 : 0 < w.length) (hw : Ac w) : leastW (strandW (leastW (strandW (leastW w)))) = leastW w := by
  rw [least_strand (w := strandW (leastW w)) (by rw [strand_len, least_len h0]; exact h0), strand_strand (least_ac h0 hw), least_least h0]
def readN (w : List Nat) (i n : Nat) : List Nat := (List.range n).map fun s => w.getD ((i + s) % w.length) 0
theorem readW_nat {w : List Nat} (h0 : 0 < w.length) (i n : Nat) : readW w (i : Int) n = readN w i n := by
  unfold readW readN rng
  rw [List.map_map]
  apply List.map_congr_left
  intro s _
  show (atI w (((i : Int) + (0 + (s : Int))).fmod (w.length : Int))).getD 0 = _
  have e : ((i : Int) + (0 + (s : Int))).fmod (w.length : Int) = (((i + s) % w.length : Nat) : Int) := by
    rw [Int.zero_add, Int.fmod_eq_emod_of_nonneg _ (by omega), Int.natCast_emod, Int.natCast_add]
  rw [e]
  have : atI w (((i + s) % w.length : Nat) : Int) = w[(i + s) % w.length]? := by
    have hlt := Nat.mod_lt (i + s) h0
    rw [List.getElem?_eq_getElem hlt]
    exact L2.atI_nat (List.getElem?_eq_getElem hlt)
  rw [this, List.getD_eq_getElem?_getD]
theorem readN_mod (w : List Nat) (i n : Nat) : readN w (i % w.length) n = readN w i n := by
  unfold readN
  apply List.map_congr_left
  intro s _
  rw [Nat.mod_add_mod]
theorem readN_pw {w : List Nat} {m : Nat} (h0 : 0 < w.length) (hm : 0 < m) (i n : Nat) : readN (pw m w) i n = readN w i n := by
  unfold readN
  apply List.map_congr_left
  intro s _
  rw [pw_len, List.getD_eq_getElem?_getD, List.getD_eq_getElem?_getD, pw_get (Nat.mod_lt _ (Nat.mul_pos hm h0)), Nat.mod_mod_of_dvd _ (Nat.dvd_mul_left ..)]
theorem readN_turn {w : List Nat} {k : Nat} (hk : k < w.length) (i n : Nat) : readN (turnN w k) i n = readN w (k + i) n := by
  unfold readN
  apply List.map_congr_left
  intro s _
  rw [turnN_len (by omega), List.getD_eq_getElem?_getD, List.getD_eq_getElem?_getD, turnN_get hk (Nat.mod_lt _ (by omega)), Nat.add_mod_mod, Nat.add_assoc]
theorem filter_mod (q : Nat → Bool) (n : Nat) : ∀ m : Nat, ((List.range (m * n)).filter fun i => q (i % n)).length = m * ((List.range n).filter q).length
  | 0 => by simp
  | m + 1 => by
    rw [Nat.add_mul, Nat.one_mul, List.range_add, List.filter_append, List.length_append, filter_mod q n m, Nat.add_mul, Nat.one_mul]
    congr 1
    rw [List.filter_map, List.length_map]
    congr 1
    refine List.filter_congr fun i hi => ?_
    have := List.mem_range.mp hi
    show q ((m * n + i) % n) = q i
    rw [Nat.add_comm, Nat.add_mul_mod_self_right, Nat.mod_eq_of_lt this]
theorem places_len {w p : List Nat} (h0 : 0 < w.length) : (placesW w p).length = ((List.range w.length).filter fun i => decide (readN w i p.length = p)).length := by
  unfold placesW rng
  rw [List.filter_map, List.length_map]
  congr 1
  refine List.filter_congr fun i _ => ?_
  show decide (readW w (0 + (i : Int)) p.length = p) = _
  rw [Int.zero_add, readW_nat h0]
theorem places_pw {w p : List Nat} {m : Nat} (h0 : 0 < w.length) (hm : 0 < m) : (placesW (pw m w) p).length = m * (placesW w p).length := by
  rw [places_len (by rw [pw_len]; exact Nat.mul_pos hm h0), places_len h0, pw_len, ← filter_mod]
  congr 1
  refine List.filter_congr fun i _ => ?_
  rw [readN_pw h0 hm, readN_mod]
theorem runs_nat {w : List Nat} (h0 : 0 < w.length) (n : Nat) : runsW w n = (List.range w.length).map fun i => readN w i n := by
  unfold runsW rng
  rw [List.map_map]
  apply List.map_congr_left
  intro i _
  show readW w (0 + (i : Int)) n = _
  rw [Int.zero_add, readW_nat h0]
theorem range_rot {n k : Nat} (hk : k < n) : ((List.range n).map fun i => (k + i) % n).Perm (List.range n) := by
  have nd : ((List.range n).map fun i => (k + i) % n).Nodup := List.pairwise_map.mpr (List.nodup_range.imp_of_mem fun {a b} ha hb hne e => by
    have ha := List.mem_range.mp ha
    have hb := List.mem_range.mp hb
    have m1 : ∀ x, x < n → (k + x) % n = if k + x < n then k + x else k + x - n := fun x hx => by
      split
      · exact Nat.mod_eq_of_lt (by assumption)
      · rw [Nat.mod_eq_sub_mod (by omega), Nat.mod_eq_of_lt (by omega)]
    rw [m1 a ha, m1 b hb] at e
    split at e <;> split at e <;> omega)
  refine (List.perm_ext_iff_of_nodup nd List.nodup_range).mpr fun x => ?_
  rw [List.mem_map, List.mem_range]
  constructor
  · rintro ⟨i, _, rfl⟩
    exact Nat.mod_lt _ (by omega)
  · intro hx
    refine ⟨(x + n - k) % n, List.mem_range.mpr (Nat.mod_lt _ (by omega)), ?_⟩
    rw [Nat.add_mod_mod, show k + (x + n - k) = x + n by omega, Nat.add_mod_right, Nat.mod_eq_of_lt hx]
theorem runs_turn {w : List Nat} {k : Nat} (hk : k < w.length) (n : Nat) : (runsW (turnN w k) n).Perm (runsW w n) := by
  have h0 : 0 < w.length := by omega
  rw [runs_nat h0, runs_nat (by rw [turnN_len (by omega)]; exact h0), turnN_len (by omega)]
  have e : ((List.range w.length).map fun i => readN (turnN w k) i n) = (((List.range w.length).map fun i => (k + i) % w.length)).map fun i => readN w i n := by
    rw [List.map_map]
    apply List.map_congr_left
    intro i _
    show _ = readN w ((k + i) % w.length) n
    rw [readN_turn hk, readN_mod]
  rw [e]
  exact (range_rot hk).map _
theorem cntW_perm {xs ys : List (List Nat)} (h : xs.Perm ys) : cntW xs = cntW ys := by
  unfold cntW
  have nk : ∀ zs : List (List Nat), (keysT (zs.foldl cnt [])).Nodup := fun zs => cnt_nodup zs [] (by simp [keysT])
  have e : sortW (keysT (xs.foldl cnt [])) = sortW (keysT (ys.foldl cnt [])) := by
    refine sortW_unique ((sortW_perm _).trans ((List.perm_ext_iff_of_nodup (nk xs) (nk ys)).mpr fun k => ?_)) (sortW_pw _)
    rw [cnt_keys, cnt_keys, h.mem_iff]
  rw [e]
  apply List.map_congr_left
  intro k _
  rw [h.count_eq]
theorem ring_runs {w : List Nat} (h0 : 0 < w.length) (n : Nat) : cntW (runsW (leastW w) n) = cntW (runsW w n) := by
  obtain ⟨k, hk, hv⟩ := least_mem h0
  rw [hv]
  exact cntW_perm (runs_turn hk n)
theorem over_read {w : List Nat} {i n : Nat} (hi : i < w.length) : subW (pw (n + 1) w) i n = readN w i n := by
  have hle : i + n ≤ (n + 1) * w.length := by
    have h1 : n ≤ n * w.length := Nat.le_mul_of_pos_right _ (by omega)
    rw [Nat.add_mul, Nat.one_mul]
    omega
  apply List.ext_getElem?
  intro s
  by_cases hs : s < n
  · unfold subW readN
    rw [List.getElem?_take_of_lt hs, List.getElem?_drop, pw_get (by omega), List.getElem?_map, List.getElem?_range hs]
    show _ = some (w.getD ((i + s) % w.length) 0)
    have hlt := Nat.mod_lt (i + s) (show 0 < w.length by omega)
    rw [List.getD_eq_getElem?_getD, List.getElem?_eq_getElem hlt]
    rfl
  · rw [List.getElem?_eq_none (by rw [subW_len]; omega), List.getElem?_eq_none (by unfold readN; simp; omega)]
end Y

namespace Y
open PySem PySem.Spec PyProof.Rows L2 Z
theorem strand_eq {a b : List Nat} (ha : Ac a) (hb : Ac b) : strandW a = strandW b ↔ a = b := ⟨fun h => by rw [← strand_strand ha, ← strand_strand hb, h], fun h => by rw [h]⟩
theorem bord_strand {w : List Nat} (hw : Ac w) : bordW (strandW w) = bordW w := by
  unfold bordW
  rw [strand_len]
  refine List.filter_congr fun l hl => ?_
  unfold rng at hl
  obtain ⟨i, hi, rfl⟩ := List.mem_map.mp hl
  have hi := List.mem_range.mp hi
  have e1 : ((w.length : Int) - (1 + (i : Int))) = ((w.length - (1 + i) : Nat) : Int) := by omega
  have e2 : (1 + (i : Int)) = ((1 + i : Nat) : Int) := by omega
  rw [e1, e2, cut_to, cut_from, cut_to, cut_from, decide_eq_decide]
  have h1 := strand_take' (w := w) (k := w.length - (1 + i)) (by omega)
  have h2 := strand_drop' (w := w) (k := 1 + i) (by omega)
  rw [show w.length - (w.length - (1 + i)) = 1 + i by omega] at h1
  rw [h1, h2, strand_eq (fun c hc => hw c (List.mem_of_mem_drop hc)) (ac_take hw)]
  exact ⟨fun h => h.symm, fun h => h.symm⟩
theorem bord_mem {w : List Nat} {k : Nat} (h0 : 0 < k) (hk : k < w.length) : ((w.length - k : Nat) : Int) ∈ bordW w ↔ w.drop k = w.take (w.length - k) := by
  unfold bordW rng
  rw [List.mem_filter, decide_eq_true_eq, List.mem_map]
  have e1 : ((w.length : Int) - ((w.length - k : Nat) : Int)) = ((k : Nat) : Int) := by omega
  rw [e1, cut_to, cut_from]
  constructor
  · exact fun h => h.2.symm
  · exact fun h => ⟨⟨w.length - k - 1, List.mem_range.mpr (by omega), by omega⟩, h.symm⟩
theorem placesN_mem {w p : List Nat} {i : Nat} (hp : 0 < p.length) : i ∈ placesN w p ↔ i + p.length ≤ w.length ∧ subW w i p.length = p := by
  unfold placesN
  rw [List.mem_filter, List.mem_range, decide_eq_true_eq]
  constructor
  · rintro ⟨h1, h2⟩
    refine ⟨?_, h2⟩
    have := congrArg List.length h2
    rw [subW_len] at this
    omega
  · rintro ⟨h1, h2⟩
    exact ⟨by omega, h2⟩
theorem placesN_pw (w p : List Nat) : (placesN w p).Pairwise (· < ·) := List.Pairwise.filter _ List.pairwise_lt_range
theorem places_strand {w p : List Nat} (hw : Ac w) (hp : Ac p) (h0 : 0 < p.length) : placesN (strandW w) (strandW p) = ((placesN w p).map fun i => w.length - p.length - i).reverse := by
  have hs : ∀ i ∈ placesN w p, i + p.length ≤ w.length := fun i hi => ((placesN_mem h0).mp hi).1
  have p2 : (((placesN w p).map fun i => w.length - p.length - i).reverse).Pairwise (· < ·) := by
    rw [List.pairwise_reverse, List.pairwise_map]
    exact (placesN_pw w p).imp_of_mem fun {a b} ha hb h => by
      have := hs a ha
      have := hs b hb
      omega
  have p1 := placesN_pw (strandW w) (strandW p)
  refine List.Perm.eq_of_pairwise (le := fun a b => a ≤ b) (fun a b _ _ h1 h2 => by omega) (p1.imp fun h => by omega) (p2.imp fun h => by omega) ?_
  refine (List.perm_ext_iff_of_nodup (p1.imp fun h e => by omega) (p2.imp fun h e => by omega)).mpr fun j => ?_
  rw [placesN_mem (by rw [strand_len]; exact h0), List.mem_reverse, List.mem_map, strand_len, strand_len]
  constructor
  · rintro ⟨h1, h2⟩
    refine ⟨w.length - j - p.length, (placesN_mem h0).mpr ⟨by omega, ?_⟩, by omega⟩
    have := strand_sub (w := strandW w) (i := j) (k := p.length) (by rw [strand_len]; exact h1)
    rw [strand_strand hw, strand_len, h2, strand_strand hp] at this
    exact this
  · rintro ⟨i, hi, rfl⟩
    obtain ⟨h1, h2⟩ := (placesN_mem h0).mp hi
    refine ⟨by omega, ?_⟩
    have := strand_sub h1
    rw [h2, show w.length - i - p.length = w.length - p.length - i by omega] at this
    exact this
theorem str_strand {w : List Nat} {m : Nat} (hm : m ≤ w.length) : (strW (strandW w) m).Perm ((strW w m).map strandW) := by
  have e : strW (strandW w) m = ((strW w m).map strandW).reverse := by
    unfold strW
    rw [strand_len, List.map_map, ← List.map_reverse]
    apply List.ext_getElem?
    intro i
    rw [List.getElem?_map, List.getElem?_map]
    by_cases hi : i < w.length + 1 - m
    · rw [List.getElem?_range hi, List.getElem?_reverse (by simpa using hi), List.length_range, List.getElem?_range (by omega)]
      show some (subW (strandW w) i m) = some (strandW (subW w (w.length + 1 - m - 1 - i) m))
      congr 1
      have h := strand_sub (w := w) (i := w.length - m - i) (k := m) (by omega)
      rw [show w.length - (w.length - m - i) - m = i by omega] at h
      rw [h]
      congr 2
      omega
    · rw [List.getElem?_eq_none (by simpa using hi), List.getElem?_eq_none (by simpa using hi)]
      rfl
  rw [e]
  exact List.reverse_perm _
theorem cnt_mem {xs : List (List Nat)} {k : List Nat} {v : Int} : (k, v) ∈ cntW xs ↔ k ∈ xs ∧ v = (xs.count k : Int) := by
  unfold cntW
  rw [List.mem_map]
  have hk : ∀ k, k ∈ sortW (keysT (xs.foldl cnt [])) ↔ k ∈ xs := fun k => by
    rw [(sortW_perm _).mem_iff, cnt_keys]
    simp [keysT]
  constructor
  · rintro ⟨k', h, e⟩
    cases e
    exact ⟨(hk k).mp h, rfl⟩
  · rintro ⟨h, rfl⟩
    exact ⟨k, (hk k).mpr h, rfl⟩
theorem keys_mem {xs : List (List Nat)} {k : List Nat} : k ∈ keysT (cntW xs) ↔ k ∈ xs := by
  unfold keysT
  rw [List.mem_map]
  constructor
  · rintro ⟨⟨k', v⟩, h, rfl⟩
    exact (cnt_mem.mp h).1
  · intro h
    exact ⟨(k, _), cnt_mem.mpr ⟨h, rfl⟩, rfl⟩
theorem count_strand {xs : List (List Nat)} {k : List Nat} (hx : ∀ x ∈ xs, Ac x) (hk : Ac k) : (xs.map strandW).count (strandW k) = xs.count k := by
  rw [List.count_eq_countP, List.count_eq_countP, List.countP_map]
  refine List.countP_congr fun x hxm => ?_
  show (strandW x == strandW k) = true ↔ (x == k) = true
  rw [beq_iff_eq, beq_iff_eq, strand_eq (hx x hxm) hk]
def strT (es : WI) : WI := es.map fun e => (strandW e.1, e.2)
theorem strT_keys (es : WI) : keysT (strT es) = (keysT es).map strandW := by
  unfold keysT strT
  rw [List.map_map, List.map_map]
  rfl
theorem strT_nodup {xs : List (List Nat)} (hx : ∀ x ∈ xs, Ac x) : (keysT (strT (cntW xs))).Nodup := by
  rw [strT_keys]
  refine List.pairwise_map.mpr ((cntW_nodup xs).imp_of_mem fun {a b} ha hb hne e => hne ?_)
  exact (strand_eq (hx a (keys_mem.mp ha)) (hx b (keys_mem.mp hb))).mp e
theorem put_new {es : WI} {k : List Nat} {v : Int} (h : k ∉ keysT es) : putT es k v = es ++ [(k, v)] := by
  unfold putT
  rw [if_neg]
  rw [any_keys, decide_eq_true_eq]
  exact h
theorem put_all : ∀ (es acc : WI), (keysT acc ++ keysT es).Nodup → es.foldl (fun a e => putT a e.1 e.2) acc = acc ++ es
  | [], acc, _ => by simp
  | e :: es, acc, h => by
    rw [List.foldl_cons]
    have hk : e.1 ∉ keysT acc := fun z => (List.pairwise_append.mp h).2.2 _ z e.1 (by simp [keysT]) rfl
    rw [put_new hk, put_all es _ (by
      have : keysT (acc ++ [(e.1, e.2)]) ++ keysT es = keysT acc ++ keysT (e :: es) := by simp [keysT]
      rw [this]
      exact h)]
    simp
theorem merge_mp : ∀ (es acc : WI), mergeD (mp acc) (mp es) = mp (es.foldl (fun a e => putT a e.1 e.2) acc)
  | [], acc => rfl
  | e :: es, acc => by
    rw [List.foldl_cons, ← merge_mp es, ← mp_put]
    rfl
theorem merge_new {es : WI} (h : (keysT es).Nodup) : mergeD [] (mp es) = mp es := by
  have := merge_mp es []
  rw [put_all es [] (by simpa [keysT] using h)] at this
  exact this
theorem same_strand {xs ys : List (List Nat)} (hx : ∀ x ∈ xs, Ac x) (hp : ys.Perm (xs.map strandW)) : eqD (.dic (mp (strT (cntW xs)))) (.dic (mp (cntW ys))) = some true := by
  have hn := strT_nodup hx
  have hlen : (strT (cntW xs)).length = (cntW ys).length := by
    have p : (keysT (strT (cntW xs))).Perm (keysT (cntW ys)) := (List.perm_ext_iff_of_nodup hn (cntW_nodup ys)).mpr fun k => by
      rw [strT_keys, List.mem_map, keys_mem, hp.mem_iff, List.mem_map]
      constructor
      · rintro ⟨a, ha, rfl⟩; exact ⟨a, keys_mem.mp ha, rfl⟩
      · rintro ⟨a, ha, rfl⟩; exact ⟨a, keys_mem.mpr ha, rfl⟩
    have := p.length_eq
    simpa [keysT] using this
  have hs : sameD (mp (strT (cntW xs))) (mp (cntW ys)) = true := by
    unfold sameD
    rw [Bool.and_eq_true, beq_iff_eq, mp_len, mp_len]
    refine ⟨hlen, List.all_eq_true.mpr fun e he => ?_⟩
    obtain ⟨⟨k', v⟩, h1, rfl⟩ := List.mem_map.mp he
    obtain ⟨⟨k, v'⟩, h2, h3⟩ := List.mem_map.mp h1
    cases h3
    obtain ⟨h4, h5⟩ := cnt_mem.mp h2
    have h6 : (strandW k, v') ∈ cntW ys := cnt_mem.mpr ⟨hp.mem_iff.mpr (List.mem_map_of_mem h4), by rw [hp.count_eq, count_strand hx (hx k h4), h5]⟩
    have h7 := get_mem (cntW_nodup ys) h6
    show (match getD (mp (cntW ys)) (Sum.inr (strandW k)) with | some d => flatEq (D.int v') d | none => false) = true
    rw [mp_get, h7]
    show (v' == v') = true
    simp
  unfold eqD
  simp [hs]
theorem lc_self {w : List Nat} (h0 : 0 < w.length) : lcW w w = [w] := by
  have hs : strW w w.length = [w] := by
    unfold strW
    rw [show w.length + 1 - w.length = 1 by omega]
    show [subW w 0 w.length] = [w]
    unfold subW
    rw [List.drop_zero, List.take_length]
  have hc : commW w w w.length = [w] := by
    unfold commW
    rw [hs]
    simp [dedF, addK, sortW]
  obtain ⟨n, hn⟩ : ∃ n, w.length = n + 1 := ⟨w.length - 1, by omega⟩
  have hd : downL w.length = w.length :: downL n := by
    rw [hn]
    unfold downL
    rw [List.range_succ_eq_map, List.map_cons, List.map_map]
    congr 1
    apply List.map_congr_left
    intro i _
    show n + 1 - (i + 1) = n - i
    omega
  unfold lcW
  rw [Nat.min_self, hd, List.filter_cons, if_pos (by unfold commB; rw [hc]; rfl)]
  exact hc
end Y

namespace Y
open PySem PySem.Spec PyProof.Rows L2 Z
structure Ps {α : Type} (m : M α) (P : α → Prop) : Prop where
  run : ∀ dr n, wp dr n m (fun dr' n' a => Sub dr dr' ∧ n' = n ∧ P a) (fun _ _ _ => False)
section
variable {α β : Type} {q : Tk} {c : Nat} {m : M α} {P P' : α → Prop} {R : β → Prop} {f : α → M β}
theorem Ps.ok {a : α} (h : P a) : Ps (.ok a) P := ⟨fun dr n => ⟨Sub.refl _, rfl, h⟩⟩
theorem Ps.pure {a : α} (e : m = .ok a) (h : P a) : Ps m P := e ▸ Ps.ok h
theorem Ps.mono (h : Ps m P) (hp : ∀ a, P a → P' a) : Ps m P' := ⟨fun dr n => wp_mono (h.run dr n) (fun _ _ _ ⟨a, b, d⟩ => ⟨a, b, hp _ d⟩) fun _ _ _ e => e⟩
theorem Ps.bind (h : Ps m P) (hf : ∀ a, P a → Ps (f a) R) : Ps (m.bind f) R := ⟨fun dr n => by
  refine wp_bind.mpr (wp_mono (h.run dr n) (fun dr' n' a ⟨e, b, d⟩ => ?_) fun _ _ _ e => e)
  subst b
  exact wp_mono ((hf a d).run dr' n') (fun _ _ _ ⟨a, b, d⟩ => ⟨e.trans a, b, d⟩) fun _ _ _ e => e⟩
theorem Ps.ofB (h : Ps (m.bind M.ok) P) : Ps m P := by
  rw [bind_ok] at h
  exact h
theorem Dn.ps (h : Ps m P) (hf : ∀ a, P a → Dn q c (f a) R) : Dn q c (m.bind f) R := ⟨fun dr n hq hc => by
  refine wp_bind.mpr (wp_mono (h.run dr n) (fun dr' n' a ⟨e, b, d⟩ => ?_) fun _ _ _ e => e)
  subst b
  exact wp_mono ((hf a d).run dr' n' (e _ hq) hc) (fun _ _ _ ⟨a, b, d⟩ => ⟨e.trans a, b, d⟩) fun _ _ _ e => e⟩
theorem Ps.nox (h : Ps m P) : Ps m.nox P := ⟨fun dr n => wp_nox.mpr (wp_mono (h.run dr n) (fun _ _ _ x => x) fun _ _ _ e => e)⟩
end
section
variable {f g : Env → M Out} {env e' : Env} {P : Out → Prop} {R : Env → Prop}
theorem Ps.seq (h : Ps (f env) fun o => ∃ e, o = .nx e ∧ R e) (hg : ∀ e, R e → Ps (g e) P) : Ps (bSeq f g env) P := by
  unfold bSeq
  refine Ps.bind h fun o ho => ?_
  obtain ⟨e, rfl, he⟩ := ho
  exact hg e he
theorem Ps.seqP (h : f env = .ok (.nx e')) (hg : Ps (g e') P) : Ps (bSeq f g env) P := Ps.seq (R := fun e => e = e') (Ps.pure h ⟨_, rfl, rfl⟩) fun e he => he ▸ hg
theorem Ps.body {ar N : Nat} {b : Env → M Out} {ds : List D} {P : Vl → Prop} (hl : ds.length = ar) (h : Ps (b (ds.map (fun d => some (false, d)) ++ List.replicate (N - ar) none)) fun o => ∃ v, o = .rt v ∧ P v) : Ps (bodyM ar N b ds) P := by
  unfold bodyM
  rw [if_pos hl]
  refine Ps.bind h fun o ho => ?_
  obtain ⟨v, rfl, hv⟩ := ho
  exact Ps.ok hv
end
section
variable {α : Type} {tg : D → Env → Option Env} {fb : Env → M Out} {n : Nat}
theorem wp_forGo {J : List α → Dr → Env → Prop} (F : α → D) (hb : ∀ x r dr e, J (x :: r) dr e → ∃ e1, tg (F x) e = some e1 ∧ wp dr n (fb e1) (fun dr' n' o => n' = n ∧ ∃ e2, o = .nx e2 ∧ J r dr' e2) (fun _ _ _ => False)) : ∀ (xs : List α) (dr : Dr) (env : Env), J xs dr env → wp dr n (forGo tg fb (xs.map F) env) (fun dr' n' o => n' = n ∧ ∃ e, o = .nx e ∧ J [] dr' e) (fun _ _ _ => False)
  | [], dr, env, h => ⟨rfl, env, rfl, h⟩
  | x :: xs, dr, env, h => by
    obtain ⟨e1, e, w⟩ := hb x xs dr env h
    have e' : Y.forGo tg fb ((x :: xs).map F) env = (fb e1).bind fun o => match o with | .nx e => Y.forGo tg fb (xs.map F) e | .ct e => Y.forGo tg fb (xs.map F) e | .bk e => .ok (.nx e) | .rt v => .ok (.rt v) := by
      show (M.of (tg (F x) env)).bind _ = _
      rw [e]
      rfl
    rw [e']
    refine wp_bind.mpr (wp_mono w (fun dr' n' o ho => ?_) fun _ _ _ z => z)
    obtain ⟨hn, e2, rfl, h2⟩ := ho
    rw [hn]
    exact wp_forGo F hb xs dr' e2 h2
theorem Ps.forGo {J : List α → Env → Prop} (F : α → D) (hb : ∀ x r e, J (x :: r) e → ∃ e1, tg (F x) e = some e1 ∧ Ps (fb e1) fun o => ∃ e2, o = .nx e2 ∧ J r e2) : ∀ (xs : List α) (env : Env), J xs env → Ps (Y.forGo tg fb (xs.map F) env) fun o => ∃ e, o = .nx e ∧ J [] e := fun xs env h => ⟨fun dr n => by
  refine wp_mono (wp_forGo (J := fun r dr' e => Sub dr dr' ∧ J r e) F (fun x r dr1 e he => ?_) xs dr env ⟨Sub.refl _, h⟩) (fun dr' n' o ho => ?_) fun _ _ _ z => z
  · obtain ⟨h1, h2⟩ := he
    obtain ⟨e1, g1, g2⟩ := hb x r e h2
    refine ⟨e1, g1, wp_mono (g2.run dr1 n) (fun dr2 n2 o ho => ?_) fun _ _ _ z => z⟩
    obtain ⟨k1, rfl, e2, k2, k3⟩ := ho
    exact ⟨rfl, e2, k2, h1.trans k1, k3⟩
  · obtain ⟨rfl, e, h1, h2, h3⟩ := ho
    exact ⟨h2, rfl, e, h1, h3⟩⟩
end
def Has (dr : Dr) (a : Addr) (d : D) : Prop := .inr (a, d) ∈ dr
def Fr (dr : Dr) (a : Addr) : Prop := ∀ e, .inr (a, e) ∉ dr
section
variable {α : Type} {dr dr0 : Dr} {a b : Addr} {d e x : D} {n : Nat} {Q : Dr → Nat → α → Prop} {E : Dr → Nat → Ex → Prop}
theorem Has.ne (h : Has dr a d) (f : Fr dr b) : a ≠ b := fun z => f d (z ▸ h)
theorem Has.cons (i : Im) (h : Has dr a d) : Has (i :: dr) a d := List.mem_cons_of_mem _ h
theorem Has.put (h : Has dr a e) : Has (putS dr a d) a d := by
  unfold Has
  rw [putS_eq]
  have := List.mem_map_of_mem (f := putI a d) h
  simpa [putI] using this
theorem Sub.put (h : Sub dr0 dr) (f : Fr dr0 a) : Sub dr0 (putS dr a d) := fun i hi => by
  rw [putS_eq]
  have := List.mem_map_of_mem (f := putI a d) (h i hi)
  cases i with
  | inl q => exact this
  | inr p =>
    obtain ⟨b, e⟩ := p
    have hb : b ≠ a := fun z => f e (z ▸ hi)
    simpa [putI, hb] using this
theorem Sub.cons (h : Sub dr0 dr) (i : Im) : Sub dr0 (i :: dr) := fun j hj => List.mem_cons_of_mem _ (h j hj)
theorem Fr.sub (f : Fr dr a) (h : Sub dr0 dr) : Fr dr0 a := fun e he => f e (h _ he)
end
structure Wt {α : Type} (dr : Dr) (m : M α) (Q : Dr → α → Prop) : Prop where
  run : ∀ n, wp dr n m (fun dr' n' a => n' = n ∧ Q dr' a) (fun _ _ _ => False)
section
variable {α β : Type} {dr : Dr} {m : M α} {Q Q' : Dr → α → Prop} {R : Dr → β → Prop} {f : α → M β} {a : Addr} {d e : D}
theorem Wt.ok {x : α} (h : Q dr x) : Wt dr (.ok x) Q := ⟨fun _ => ⟨rfl, h⟩⟩
theorem Wt.pure {x : α} (e : m = .ok x) (h : Q dr x) : Wt dr m Q := e ▸ Wt.ok h
theorem Wt.mono (h : Wt dr m Q) (hq : ∀ dr a, Q dr a → Q' dr a) : Wt dr m Q' := ⟨fun n => wp_mono (h.run n) (fun _ _ _ ⟨x, y⟩ => ⟨x, hq _ _ y⟩) fun _ _ _ z => z⟩
theorem Wt.bind (h : Wt dr m Q) (hf : ∀ dr' x, Q dr' x → Wt dr' (f x) R) : Wt dr (m.bind f) R := ⟨fun n => by
  refine wp_bind.mpr (wp_mono (h.run n) (fun dr' n' x ⟨e, y⟩ => ?_) fun _ _ _ z => z)
  rw [e]
  exact (hf dr' x y).run n⟩
theorem Wt.get {k : D → M α} (h : Has dr a d) (w : Wt dr (k d) Q) : Wt dr (.get a k) Q := ⟨fun n => ⟨d, h, w.run n⟩⟩
theorem Wt.put {k : M α} (h : Has dr a e) (w : Wt (putS dr a d) k Q) : Wt dr (.put a d k) Q := ⟨fun n => ⟨⟨e, h⟩, w.run n⟩⟩
theorem Wt.new {k : Addr → M α} (w : ∀ a, Fr dr a → Wt (.inr (a, d) :: dr) (k a) Q) : Wt dr (.new d k) Q := ⟨fun n a h => (w a h).run n⟩
theorem Wt.frz {k : D → M α} {as : List Addr} (t : Told dr d e as) (w : Wt (delS dr as) (k e) Q) : Wt dr (.frz d k) Q := ⟨fun n => ⟨e, as, t, w.run n⟩⟩
end
section
variable {f g : Env → M Out} {env e' : Env} {dr : Dr} {Q R : Dr → Out → Prop}
theorem Wt.seq (h : Wt dr (f env) fun dr' o => ∃ e, o = .nx e ∧ Wt dr' (g e) Q) : Wt dr (bSeq f g env) Q := by
  unfold bSeq
  refine Wt.bind h fun dr' o ho => ?_
  obtain ⟨e, rfl, he⟩ := ho
  exact he
theorem Wt.seqP (h : f env = .ok (.nx e')) (hg : Wt dr (g e') Q) : Wt dr (bSeq f g env) Q := Wt.seq (Wt.pure h ⟨_, rfl, hg⟩)
theorem Wt.body {ar N : Nat} {b : Env → M Out} {ds : List D} {P : Dr → Vl → Prop} (hl : ds.length = ar) (h : Wt dr (b (ds.map (fun d => some (false, d)) ++ List.replicate (N - ar) none)) fun dr' o => (∃ v, o = .rt v ∧ P dr' v) ∨ ∃ e, o = .nx e ∧ P dr' (.s, .non)) : Wt dr (bodyM ar N b ds) P := by
  unfold bodyM
  rw [if_pos hl]
  refine Wt.bind h fun dr' o ho => ?_
  rcases ho with ⟨v, rfl, hv⟩ | ⟨e, rfl, hv⟩
  · exact Wt.ok hv
  · exact Wt.ok hv
variable {α : Type} {tg : D → Env → Option Env} {fb : Env → M Out} {fi : Env → M (List D)}
theorem Wt.for {J : List α → Dr → Env → Prop} {xs : List α} (F : α → D) (hi : fi env = .ok (xs.map F)) (h0 : J xs dr env) (hb : ∀ x r dr e, J (x :: r) dr e → ∃ e1, tg (F x) e = some e1 ∧ Wt dr (fb e1) fun dr' o => ∃ e2, o = .nx e2 ∧ J r dr' e2) : Wt dr (bFor fi tg fb env) fun dr' o => ∃ e, o = .nx e ∧ J [] dr' e := by
  unfold bFor
  rw [hi, ok_bind]
  exact ⟨fun n => wp_forGo F (fun x r dr1 e he => by
    obtain ⟨e1, h1, h2⟩ := hb x r dr1 e he
    exact ⟨e1, h1, h2.run n⟩) xs dr env h0⟩
end
section
variable {tab : List (Str × Str)} {f g : Str} {fo fe : Env → M Vl} {gb : Env → M Out} {env : Env} {v x : Vl} {a : Addr} {C : Str} {fs : List (Str × D)} {dr : Dr} {Q : Dr → Out → Prop}
end
end Y

namespace Y
open PySem PySem.Spec PyProof.Rows L2 Z
section
variable {q : Tk} {c c1 c2 : Nat} {f g : Env → M Out} {env e' : Env}
theorem Dn.body {ar N : Nat} {b : Env → M Out} {ds : List D} {P : Vl → Prop} (hl : ds.length = ar) (h : Dn q c (b (ds.map (fun d => some (false, d)) ++ List.replicate (N - ar) none)) fun o => ∃ v, o = .rt v ∧ P v) : Dn q c (bodyM ar N b ds) P := by
  unfold bodyM
  rw [if_pos hl]
  refine (Dn.bind (c2 := 0) h fun o ho => ?_).le (by omega)
  obtain ⟨v, rfl, hv⟩ := ho
  exact Dn.ok hv
end
end Y

namespace Y
open PySem PySem.Spec PyProof.Rows L2 Z
section
variable {fa fb : Env → M Vl} {env : Env} {a b : List Nat} {i : Nat}
theorem add_i {x y : Int} (h1 : fa env = .ok (.s, .int x)) (h2 : fb env = .ok (.s, .int y)) : eOp addD fa fb env = .ok (.s, .int (x + y)) := by
  unfold eOp
  rw [h1, ok_bind, h2, ok_bind]
  rfl
theorem add_n {x y : Nat} (h1 : fa env = .ok (.s, .int (x : Int))) (h2 : fb env = .ok (.s, .int (y : Int))) : eOp addD fa fb env = .ok (.s, .int ((x + y : Nat) : Int)) := by
  rw [add_i h1 h2, Int.natCast_add]
end
end Y

namespace Y
open PySem PySem.Spec PyProof.Rows L2 Z
section
variable {dr dr0 : Dr} {a b : Addr} {d e x : D} {env : Env} {fe fa : Env → M Vl} {fr : Env → M (List Vl)}
end
def HasA (dr : Dr) : List Addr → List (List D) → Prop
  | [], [] => True
  | a :: as, L :: Ls => Has dr a (.lst L) ∧ HasA dr as Ls
  | _, _ => False
theorem HasA.mono {dr dr' : Dr} (h : ∀ a d, Has dr a d → Has dr' a d) : ∀ {as : List Addr} {Ls : List (List D)}, HasA dr as Ls → HasA dr' as Ls
  | [], [], _ => trivial
  | _ :: _, _ :: _, g => ⟨h _ _ g.1, HasA.mono h g.2⟩
  | [], _ :: _, g => g.elim
  | _ :: _, [], g => g.elim
end Y

namespace Y
open PySem PySem.Spec PyProof.Rows L2 Z
section
variable {α : Type} {q : Tk} {c : Nat} {tg : D → Env → Option Env} {fb : Env → M Out} {I : Env → Prop}
end
end Y

namespace Y
open PySem PySem.Spec PyProof.Rows L2 Z
section
variable {fa fb : Env → M Vl} {ft fu : Env → M Bool} {fr : Env → M (List Vl)} {env : Env} {x y r : Vl} {b : Bool}
theorem Ps.own {C : Str} {neg : Bool} {m : List D → M Vl} (h1 : Ps (fa env) fun z => z = x) (h2 : Ps (fb env) fun z => z = y) (h : eOwn C neg m (fun _ => .ok x) (fun _ => .ok y) env = .ok r) : Ps (eOwn C neg m fa fb env) fun z => z = r := by
  unfold eOwn at h ⊢
  refine Ps.bind h1 fun a ha => ?_
  subst ha
  refine Ps.bind h2 fun a ha => ?_
  subst ha
  exact Ps.pure h rfl
theorem Ps.eB (h : Ps (fa env) fun z => z = (.s, .bl b)) : Ps (Y.eB fa env) fun z => z = b := by
  unfold Y.eB
  refine Ps.bind h fun a ha => ?_
  subst ha
  exact Ps.ok rfl
theorem Ps.or {b1 b2 : Bool} (h1 : Ps (ft env) fun z => z = b1) (h2 : Ps (fu env) fun z => z = b2) : Ps (eOr ft fu env) fun z => z = (b1 || b2) := by
  unfold eOr
  refine Ps.bind h1 fun a ha => ?_
  subst ha
  cases a with
  | true => exact Ps.ok rfl
  | false => exact h2
theorem Ps.op {g : D → D → Option D} {d : D} (h1 : Ps (fa env) fun z => z = x) (h2 : Ps (fb env) fun z => z = y) (h3 : g x.2 y.2 = some d) (v1 : isV x = false) (v2 : isV y = false) : Ps (eOp g fa fb env) fun z => z = (.s, d) := by
  unfold eOp
  refine Ps.bind h1 fun a ha => ?_
  subst ha
  refine Ps.bind h2 fun a ha => ?_
  subst ha
  rw [h3, of_some, ok_bind, v1, v2]
  exact Ps.ok rfl
theorem Ps.ifF {f : Env → M Out} (h : Ps (ft env) fun z => z = false) : Ps (bIf ft f bNext env) fun o => ∃ e, o = .nx e ∧ e = env := by
  unfold bIf
  refine Ps.bind h fun a ha => ?_
  subst ha
  exact Ps.ok ⟨env, rfl, rfl⟩
theorem Ps.eq {α : Type} {m : M α} {a : α} (h : m = .ok a) : Ps m fun z => z = a := Ps.pure h rfl
theorem Ps.set {i : Nat} {d : D} (h : Ps (fa env) fun z => z = (.s, d)) : Ps (bSet i fa env) fun o => ∃ e, o = .nx e ∧ e = env.set i (some (false, d)) := by
  unfold bSet
  refine Ps.bind h fun a ha => ?_
  subst ha
  exact Ps.ok ⟨_, rfl, rfl⟩
theorem Ps.setO {i : Nat} {d : D} (h : Ps (fa env) fun z => z = (.o, d)) : Ps (bSet i fa env) fun o => ∃ e, o = .nx e ∧ e = env.set i (some (true, d)) := by
  unfold bSet
  refine Ps.bind h fun a ha => ?_
  subst ha
  exact Ps.ok ⟨_, rfl, rfl⟩
theorem Ps.cons {xs : List Vl} (h1 : Ps (fa env) fun z => z = x) (h2 : Ps (fr env) fun z => z = xs) : Ps (eCons fa fr env) fun z => z = x :: xs := by
  unfold eCons
  refine Ps.bind h1 fun a ha => ?_
  subst ha
  refine Ps.bind h2 fun a ha => ?_
  subst ha
  exact Ps.ok rfl
theorem Ps.call {m : List D → M Vl} {xs : List Vl} (h1 : Ps (fr env) fun z => z = xs) (ho : okA xs = true) (h2 : Ps (m (dats xs)) fun z => z = r) : Ps (eCall m fr env) fun z => z = r := by
  unfold eCall
  refine Ps.bind h1 fun a ha => ?_
  subst ha
  rw [if_pos ho]
  exact h2
theorem Ps.ret {d : D} (h : Ps (fa env) fun z => z = (.s, d)) : Ps (bRet fa env) fun o => o = .rt (.s, d) := by
  unfold bRet
  refine Ps.bind h fun a ha => ?_
  subst ha
  exact Ps.ok rfl
end
section
variable {q : Tk} {c c1 c2 : Nat} {fa fb : Env → M Vl} {fr : Env → M (List Vl)} {env : Env}
theorem Dn.consD {P : Vl → Prop} {R : List Vl → Prop} (h1 : Dn q c1 (fa env) P) (h2 : ∀ x, P x → Dn q c2 (fr env) fun xs => R (x :: xs)) : Dn q (c1 + c2) (eCons fa fr env) R := by
  unfold eCons
  refine Dn.bind h1 fun x hx => ?_
  exact (Dn.bind (c2 := 0) (h2 x hx) fun xs hxs => Dn.ok hxs)
theorem Dn.nilD {R : List Vl → Prop} (h : R []) : Dn q c (eNil env) R := Dn.ok h
theorem Dn.callD {m : List D → M Vl} {P : List Vl → Prop} {R : Vl → Prop} (h1 : Dn q c1 (fr env) P) (h2 : ∀ xs, P xs → okA xs = true ∧ Dn q c2 (m (dats xs)) R) : Dn q (c1 + c2) (eCall m fr env) R := by
  unfold eCall
  refine Dn.bind h1 fun xs hx => ?_
  obtain ⟨h3, h4⟩ := h2 xs hx
  rw [if_pos h3]
  exact h4
theorem Dn.lstD {R : Vl → Prop} (h : Dn q c (fr env) fun xs => xs.any isV = false ∧ (dats xs).length ≤ 100000 ∧ R (.o, .lst (dats xs))) : Dn q c (eLst fr env) R := by
  unfold eLst eCO
  refine (Dn.bind (c2 := 0) h fun xs hx => ?_).le (by omega)
  obtain ⟨h1, h2, h3⟩ := hx
  dsimp only
  rw [h1, if_neg (by decide), if_pos h2]
  exact Dn.ok h3
theorem Dn.opD {g : D → D → Option D} {P : Vl → Prop} {R : Vl → Prop} (h1 : Dn q c1 (fa env) P) (h2 : ∀ x, P x → Dn q c2 (fb env) fun y => isV x = false ∧ isV y = false ∧ ∃ d, g x.2 y.2 = some d ∧ R (.s, d)) : Dn q (c1 + c2) (eOp g fa fb env) R := by
  unfold eOp
  refine Dn.bind h1 fun x hx => ?_
  refine (Dn.bind (c2 := 0) (h2 x hx) fun y hy => ?_)
  obtain ⟨v1, v2, d, h3, h4⟩ := hy
  rw [h3, of_some, ok_bind, v1, v2]
  exact Dn.ok h4
theorem Dn.setD {i : Nat} {R : Env → Prop} (h : Dn q c (fa env) fun r => (∃ d, r = (.s, d) ∧ R (env.set i (some (false, d)))) ∨ ∃ d, r = (.o, d) ∧ R (env.set i (some (true, d)))) : Dn q c (bSet i fa env) fun o => ∃ e, o = .nx e ∧ R e := by
  unfold bSet
  refine (Dn.bind (c2 := 0) h fun r hr => ?_).le (by omega)
  rcases hr with ⟨d, rfl, hd⟩ | ⟨d, rfl, hd⟩
  · exact Dn.ok ⟨_, rfl, hd⟩
  · exact Dn.ok ⟨_, rfl, hd⟩
theorem Dn.eqV {α : Type} {m : M α} {a : α} (h : m = .ok a) : Dn q c m fun z => z = a := Dn.pure h rfl
theorem Dn.ifF {ft : Env → M Bool} {f : Env → M Out} (h : Dn q c (ft env) fun z => z = false) : Dn q c (bIf ft f bNext env) fun o => ∃ e, o = .nx e ∧ e = env := by
  unfold bIf
  refine (Dn.bind (c2 := 0) h fun a ha => ?_).le (by omega)
  subst ha
  exact Dn.ok ⟨env, rfl, rfl⟩
end
end Y

namespace Y
open PySem PySem.Spec PyProof.Rows L2 Z
section
variable {α : Type} {fi : Env → M (List D)} {tg : D → Env → Option Env} {fk fe : Env → M Vl} {env env' : Env} {vs : List Nat}
end
section
variable {fx fe : Env → M Vl} {env : Env} {dr : Dr} {Q : Dr → Out → Prop} {a : Addr} {es fs : List (Ky × D)} {md : Md}
end
section
variable {f g : Env → M Bool} {fv : Env → M Vl} {fo go : Env → M Out} {env e' : Env} {a b : Bool} {r : M Out}
theorem tB_ok (h : fv env = .ok (.s, .bl b)) : eB fv env = .ok b := by
  unfold eB
  rw [h]
  rfl
theorem tNot_ok (h : f env = .ok b) : eNot f env = .ok (!b) := by
  unfold eNot
  rw [h]
  rfl
theorem tOr_ok (h1 : f env = .ok a) (h2 : a = false → g env = .ok b) : eOr f g env = .ok (a || b) := by
  unfold eOr
  rw [h1, ok_bind]
  cases a with
  | true => rfl
  | false => exact h2 rfl
theorem bIf_f (h : f env = .ok false) : bIf f fo go env = go env := by
  unfold bIf
  rw [h]
  rfl
end
end Y

namespace Y
open PySem PySem.Spec PyProof.Rows L2 Z
def Sf (d : D) (n : Nat) : Prop := ∃ p, py d = some p ∧ p.canLay0 = true ∧ p.depth ≤ n
theorem sf_int (i : Int) {n : Nat} : Sf (.int i) n := ⟨.int i, rfl, by simp [PyData.canLay0], by simp [PyData.depth]⟩
theorem sf_str {w : List Nat} (h : okS w) {n : Nat} : Sf (.str w) n := ⟨.str (S w), rfl, strOk_S h, by simp [PyData.depth]⟩
theorem sf_all {n : Nat} : ∀ xs : List D, (∀ x ∈ xs, Sf x n) → ∃ ps, pys xs = some ps ∧ PyData.canLayAll0 ps = true ∧ PyData.depthAll ps ≤ n
  | [], _ => ⟨[], by simp [pys], by simp [PyData.canLayAll0], by simp [PyData.depthAll]⟩
  | x :: xs, h => by
    obtain ⟨p, h1, h2, h3⟩ := h x (List.mem_cons_self ..)
    obtain ⟨ps, g1, g2, g3⟩ := sf_all xs fun y hy => h y (List.mem_cons_of_mem _ hy)
    refine ⟨p :: ps, by rw [pys, h1, g1], ?_, ?_⟩
    · rw [PyData.canLayAll0, h2, g2]; rfl
    · rw [PyData.depthAll]; omega
theorem sf_lst {n : Nat} {xs : List D} (h : ∀ x ∈ xs, Sf x n) : Sf (.lst xs) (n + 1) := by
  obtain ⟨ps, g1, g2, g3⟩ := sf_all xs h
  exact ⟨.list ps, by simp [py, g1], by rw [PyData.canLay0]; exact g2, by rw [PyData.depth]; omega⟩
theorem sf_tup {n : Nat} {xs : List D} (h : ∀ x ∈ xs, Sf x n) : Sf (.tup xs) (n + 1) := by
  obtain ⟨ps, g1, g2, g3⟩ := sf_all xs h
  exact ⟨.tuple ps, by simp [py, g1], by rw [PyData.canLay0]; exact g2, by rw [PyData.depth]; omega⟩
theorem sf_eq {d : D} {n : Nat} (h : Sf d n) (hn : n ≤ 60) (hd : (∃ xs, d = .lst xs) ∨ ∃ xs, d = .tup xs) : eqD d d = some true := by
  obtain ⟨p, h1, h2, h3⟩ := h
  have hs : SeqAt.shaped p = true := by
    unfold SeqAt.shaped
    rw [h2]
    simp
    omega
  have key : (match py d, py d with
    | some p, some q => if SeqAt.shaped p && SeqAt.shaped q then some (PyData.eqv p q) else none
    | _, _ => none) = some true := by
    rw [h1]
    show (if SeqAt.shaped p && SeqAt.shaped p then some (PyData.eqv p p) else none) = _
    rw [hs, SeqAt.eqv_refl p h2]
    rfl
  rcases hd with ⟨xs, rfl⟩ | ⟨xs, rfl⟩ <;> exact key
end Y

namespace Y
open PySem PySem.Spec PyProof.Rows L2 Z
abbrev nI (i : Nat) : D := .int (i : Int)
section
variable {fa fb : Env → M Vl} {fr : Env → M (List Vl)} {env : Env}
theorem op_ok {g : D → D → Option D} {x y : Vl} {d : D} (h1 : fa env = .ok x) (h2 : fb env = .ok y) (h3 : g x.2 y.2 = some d) (v1 : isV x = false) (v2 : isV y = false) : eOp g fa fb env = .ok (.s, d) := by
  unfold eOp
  rw [h1, ok_bind, h2, ok_bind, h3, of_some, ok_bind, v1, v2]
  rfl
end
section
variable {fa fb : Env → M Vl} {fr : Env → M (List Vl)} {env : Env}
theorem cons_ok {x : Vl} {xs : List Vl} (h1 : fa env = .ok x) (h2 : fr env = .ok xs) : eCons fa fr env = .ok (x :: xs) := by
  unfold eCons
  rw [h1, ok_bind, h2]
  rfl
end
section
variable {fa fb : Env → M Vl} {fr : Env → M (List Vl)} {env : Env}
theorem cb_ok {g : List D → Option D} {xs : List Vl} {d : D} (h1 : fr env = .ok xs) (h2 : g (dats xs) = some d) (hv : xs.any isV = false) : eCB g fr env = .ok (.s, d) := by
  unfold eCB
  rw [h1, ok_bind, h2, of_some, ok_bind, hv]
  rfl
end
section
variable {fa fb : Env → M Vl} {fr : Env → M (List Vl)} {env : Env}
theorem cov_ok {g : List D → Option D} {xs : List Vl} {d : D} (h1 : fr env = .ok xs) (h2 : g (dats xs) = some d) (hv : xs.any isV = false) : eCOV g fr env = .ok (.o, d) := by
  unfold eCOV
  rw [h1, ok_bind, h2, of_some, ok_bind, hv]
  rfl
end
theorem call_ok {m : List D → M Vl} {fa : Env → M (List Vl)} {env : Env} {xs : List Vl} {r : M Vl} (h1 : fa env = .ok xs) (ho : okA xs = true) (h2 : m (dats xs) = r) : eCall m fa env = r := by
  unfold eCall
  rw [h1, ok_bind, if_pos ho]
  exact h2
theorem ne_f {fa fb : Env → M Vl} {env : Env} {x y : Vl} (h1 : fa env = .ok x) (h2 : fb env = .ok y) (v1 : isV x = false) (v2 : isV y = false) (h : eqD x.2 y.2 = some true) : eB (eOp neB fa fb) env = .ok false := tB_ok (op_ok h1 h2 (by show (eqD x.2 y.2).map _ = _; rw [h]; rfl) v1 v2)
theorem sf_ints (xs : List Nat) : eqD (.lst (xs.map nI)) (.lst (xs.map nI)) = some true := sf_eq (n := 1) (sf_lst (n := 0) fun x hx => by obtain ⟨i, _, rfl⟩ := List.mem_map.mp hx; exact sf_int _) (by omega) (.inl ⟨_, rfl⟩)
section
variable {q : Tk} {env : Env} {w : List Nat}
theorem d_takeL {s j : Nat} (h1 : eVar s env = .ok (.s, .drw q)) (h2 : eVar j env = .ok (.s, .str w)) (h0 : 0 < w.length) (hl : w.length ≤ 1000000) : Dn q 1 (eCall m_take (eCons (eVar s) (eCons (eCB lenD (eCons (eVar j) eNil)) eNil)) env) fun r => ∃ k, k < w.length ∧ r = (.s, nI k) := by
  have hlen : eCB lenD (eCons (eVar j) eNil) env = .ok (.s, nI w.length) := cb_ok (cons_ok h2 (show eNil _ = .ok [] from rfl)) (by show (if w.length ≤ 10000000 then some (D.int w.length) else none) = _; rw [if_pos (by omega)]) rfl
  have c1 : eCall m_take (eCons (eVar s) (eCons (eCB lenD (eCons (eVar j) eNil)) eNil)) env = m_take [.drw q, .int (w.length : Int)] := call_ok (cons_ok h1 (cons_ok hlen (show eNil _ = .ok [] from rfl))) rfl rfl
  rw [c1]
  refine Dn.ofB (Dn.tk (c := 0) (by omega) (by omega) fun i a b => Dn.ok ?_)
  obtain ⟨j, rfl⟩ : ∃ k : Nat, i = (k : Int) := ⟨i.toNat, by omega⟩
  exact ⟨j, by omega, rfl⟩
end
section
variable {q : Tk} {env : Env} {w : List Nat}
theorem d_takeN {s : Nat} {n : Nat} (h1 : eVar s env = .ok (.s, .drw q)) (h0 : 0 < n) (hl : n < 1000000000) : Dn q 1 (eCall m_take (eCons (eVar s) (eCons (eC (.int (n : Int))) eNil)) env) fun r => ∃ k, k < n ∧ r = (.s, nI k) := by
  have c1 : eCall m_take (eCons (eVar s) (eCons (eC (.int (n : Int))) eNil)) env = m_take [.drw q, .int (n : Int)] := call_ok (cons_ok h1 (cons_ok (fa := eC (.int (n : Int))) (x := (.s, .int (n : Int))) rfl (show eNil _ = .ok [] from rfl))) rfl rfl
  rw [c1]
  refine Dn.ofB (Dn.tk (c := 0) (by omega) (by omega) fun i a b => Dn.ok ?_)
  obtain ⟨j, rfl⟩ : ∃ k : Nat, i = (k : Int) := ⟨i.toNat, by omega⟩
  exact ⟨j, by omega, rfl⟩
end
theorem strs_self {ws : List (List Nat)} (h : ∀ x ∈ ws, okS x) : eqD (.lst (ws.map .str)) (.lst (ws.map .str)) = some true := by
  have := eqD_strs (f := fun x => x) (g := fun x => x) h h
  rw [decide_eq_true rfl] at this
  exact this
theorem str_self (w : List Nat) : eqD (.str w) (.str w) = some true := by rw [eqD_ss, decide_eq_true rfl]
theorem nil1 {env : Env} : eNil env = .ok [] := rfl
theorem tup_2 {f g : Env → M Vl} {env : Env} {a b : D} (h1 : f env = .ok (.s, a)) (h2 : g env = .ok (.s, b)) : eTup (eCons f (eCons g eNil)) env = .ok (.s, .tup [a, b]) := by
  unfold eTup
  rw [cons_ok h1 (cons_ok h2 (show eNil env = .ok [] from rfl))]
  rfl
theorem sub_n {fa fb : Env → M Vl} {env : Env} {x y : Nat} (h1 : fa env = .ok (.s, .int (x : Int))) (h2 : fb env = .ok (.s, .int (y : Int))) (h : y ≤ x) : eOp subD fa fb env = .ok (.s, nI (x - y)) := op_ok h1 h2 (by
  show some (D.int ((x : Int) - (y : Int))) = some (D.int _)
  congr 2
  omega) rfl rfl
theorem nn_self (n : Nat) : eqD (nI n) (nI n) = some true := by show some (decide (_ = _)) = _; rw [decide_eq_true rfl]
theorem len_s {fa : Env → M Vl} {env : Env} {w : List Nat} (h : fa env = .ok (.s, .str w)) (hl : w.length ≤ 10000) : eCB lenD (eCons fa eNil) env = .ok (.s, nI w.length) := cb_ok (cons_ok h nil1) (by
  show lenD [.str _] = _
  unfold lenD
  dsimp only
  rw [if_pos (by omega)]) rfl
theorem len_l {fa : Env → M Vl} {env : Env} {m : Md} {ds : List D} {n : Nat} (h : fa env = .ok (m, .lst ds)) (hv : isV (m, D.lst ds) = false) (hl : ds.length = n) : eCB lenD (eCons fa eNil) env = .ok (.s, nI n) := cb_ok (cons_ok h nil1) (by
  show lenD [.lst _] = _
  unfold lenD
  dsimp only
  rw [hl]) (by rw [List.any_cons, hv]; rfl)
abbrev OB := Option (Bool × D)
def fr : OB → Bool
  | some (true, _) => false
  | _ => true
section
variable {ns : List Int} {q : Tk} {x2 x3 x4 x5 x6 x7 x8 x9 x10 x11 x12 : OB}
end
section
variable {ns : List Int} {q : Tk} {x2 x3 x4 x5 x6 x7 x8 x9 x10 x11 x12 : OB}
end
section
variable {ns : List Int} {q : Tk} {x2 x3 x4 x5 x6 x7 x8 x9 x10 x11 x12 : OB}
theorem Ps.lc {fi : Env → M (List D)} {tg : D → Env → Option Env} {ft : Env → M Bool} {fe : Env → M Vl} {vs : List Nat} {env : Env} {ds : List D} {r : Vl} (h : Ps (fi env) fun z => z = ds) (h2 : eLc (fun _ => .ok ds) tg ft fe vs env = .ok r) : Ps (eLc fi tg ft fe vs env) fun z => z = r := by
  unfold eLc at h2 ⊢
  refine Ps.bind h fun z hz => ?_
  subst hz
  exact Ps.pure h2 rfl
end
section
variable {ns : List Int} {q : Tk} {x2 x3 x4 x5 x6 x7 x8 x9 x10 x11 x12 : OB}
theorem Ps.itA {f : Env → M Vl} {env : Env} {x : Vl} {ds : List D} (h : Ps (f env) fun z => z = x) (hv : isV x = false) (h2 : Y.itA x.2 = some ds) : Ps (eItA f env) fun z => z = ds := by
  unfold eItA
  refine Ps.bind h fun z hz => ?_
  subst hz
  rw [hv, if_neg Bool.false_ne_true, h2]
  exact Ps.ok rfl
end
section
variable {ns : List Int} {q : Tk} {x2 x3 x4 x5 x6 x7 x8 x9 x10 x11 x12 : OB}
end
section
variable {ns : List Int} {q : Tk} {x2 x3 x4 x5 x6 x7 x8 x9 x10 x11 x12 : OB}
end
section
variable {ns : List Int} {q : Tk} {x2 x3 x4 x5 x6 x7 x8 x9 x10 x11 x12 : OB}
theorem sl_sub {fa fi fj : Env → M Vl} {env : Env} {w : List Nat} {i k : Nat} (h1 : fa env = .ok (.s, .str w)) (h2 : fi env = .ok (.s, .int (i : Int))) (h3 : fj env = .ok (.s, .int ((i + k : Nat) : Int))) (hl : w.length ≤ 10000) : eSl fa (ePart fi) (ePart fj) env = .ok (.s, .str (subW w i k)) := by
  have hc := cut_sub w i k
  have e1 : ((i : Int) + (k : Int)) = ((i + k : Nat) : Int) := by omega
  rw [e1] at hc
  unfold eSl ePart
  rw [h1, ok_bind, h2, ok_bind, ok_bind, h3, ok_bind, ok_bind]
  show (M.of (if w.length ≤ 10000000 then some (D.str (cutL w (some (i : Int)) (some ((i + k : Nat) : Int)))) else none)).bind _ = _
  rw [if_pos (by omega), hc]
  rfl
end
section
variable {ns : List Int} {q : Tk} {x2 x3 x4 x5 x6 x7 x8 x9 x10 x11 x12 : OB}
end
section
variable {ns : List Int} {q : Tk} {x2 x3 x4 x5 x6 x7 x8 x9 x10 x11 x12 : OB}
end
section
variable {ns : List Int} {q : Tk} {x2 x3 x4 x5 x6 x7 x8 x9 x10 x11 x12 : OB}
end
theorem min_n (k n : Nat) : minD2 [nI k, nI n] = some (nI (min k n)) := by
  show some (D.int (min (k : Int) (n : Int))) = some (D.int _)
  congr 2
  omega
section
variable {fa fb : Env → M Vl} {env : Env}
theorem mul_s {a : List Nat} {n : Nat} (h1 : fa env = .ok (.s, .str a)) (h2 : fb env = .ok (.s, nI n)) (hl : a.length * n ≤ 10000000) (hn : n ≤ 1000000) : eOp mulD fa fb env = .ok (.s, .str (List.replicate n a).flatten) := op_ok h1 h2 (by
  have : ((n : Nat) : Int).toNat = n := by omega
  show (if a.length * ((n : Nat) : Int).toNat ≤ 10000000 ∧ (-1000000 : Int) ≤ ((n : Nat) : Int) ∧ ((n : Nat) : Int) ≤ 1000000 then some (D.str (List.replicate ((n : Nat) : Int).toNat a).flatten) else none) = _
  rw [this, if_pos ⟨hl, by omega, by omega⟩]) rfl rfl
end
theorem rng2_up {f : Env → M Vl} {env : Env} {n : Nat} (h : f env = .ok (.s, .int (n : Int))) (hn : n ≤ 1000) : eRng rngD2 (eCons (eC (.int 1)) (eCons f eNil)) env = .ok ((List.range (n - 1)).map fun k => nI (k + 1)) := by
  rw [eRng2_ok (a := 1) (b := (n : Int)) rfl h (by omega) (by omega) (by omega) (by omega)]
  have e1 : ((n : Int) - 1).toNat = n - 1 := by omega
  rw [e1]
  unfold dInts rng
  rw [List.map_map]
  congr 1
  apply List.map_congr_left
  intro j _
  show D.int (1 + (j : Int)) = D.int ((j + 1 : Nat) : Int)
  congr 1
  omega
theorem in_lst {x : D} {ds : List D} (hf : flat x = true) (hd : ds.all flat = true) (hx : x ∈ ds) (hs : flE x x = true) (hk : ∀ es, x ≠ .dic es) : inAB x (.lst ds) = some (.bl true) ∧ notInAB x (.lst ds) = some (.bl false) := by
  have h : inD x (.lst ds) = some true := by
    have e : inD x (.lst ds) = if flat x && ds.all flat then some (ds.any fun y => flE y x) else none := by cases x <;> rfl
    rw [e, hf, hd]
    have : (ds.any fun y => flE y x) = true := List.any_eq_true.mpr ⟨x, hx, hs⟩
    rw [this]
    rfl
  have e2 : inA x (.lst ds) = inD x (.lst ds) := by cases x <;> rfl
  unfold inAB notInAB
  rw [e2, h]
  exact ⟨rfl, rfl⟩
theorem in_strs {u : List Nat} {ws : List (List Nat)} (h : u ∈ ws) : inAB (.str u) (.lst (ws.map .str)) = some (.bl true) ∧ notInAB (.str u) (.lst (ws.map .str)) = some (.bl false) :=
  in_lst rfl (List.all_eq_true.mpr fun d hd => by obtain ⟨w, _, rfl⟩ := List.mem_map.mp hd; rfl) (List.mem_map_of_mem h) (by show (u == u) = true; simp) (fun es z => nomatch z)
theorem rng1_n {f : Env → M Vl} {env : Env} {n : Nat} (h : f env = .ok (.s, .int (n : Int))) (hn : n ≤ 1000) : eRng rngD1 (eCons f eNil) env = .ok ((List.range n).map nI) := by
  rw [eRng1_ok h (by omega) (by omega)]
  have : ((n : Nat) : Int).toNat = n := by omega
  rw [this]
  simp [dInts, rng]
end Y

namespace Y
open PySem PySem.Spec PyProof.Rows L2 Z
abbrev TS1 : Env → M Out := bSets [2, 3] (eCons (eCall m_other_strand (eCons (eVar 0) eNil)) (eCons (eCall m_other_strand (eCons (eVar 1) eNil)) eNil))
abbrev TS2 : Env → M Out := bFrz [2] (bIf (eOr (eB (eOp neB (eCall m_other_strand (eCons (eVar 2) eNil)) (eVar 0))) (eOr (eNot (eB (eCall m_is_word (eCons (eVar 2) eNil)))) (eB (eOp neB (eCall m_borders (eCons (eVar 2) eNil)) (eCall m_borders (eCons (eVar 0) eNil)))))) (bRet (eC (.bl false))) bNext)
abbrev TS3 : Env → M Out := bSet 4 (eCOV revLD (eCons (eLc (eItA (eCall m_occurrences (eCons (eVar 0) (eCons (eVar 1) eNil)))) (eTgN 5) eYes (eOp subD (eOp subD (eCB lenD (eCons (eVar 0) eNil)) (eCB lenD (eCons (eVar 1) eNil))) (eVar 5)) [5]) eNil))
abbrev TS4 : Env → M Out := bFrz [2, 3] (bIf (eOr (eB (eOp neB (eCall m_occurrences (eCons (eVar 2) (eCons (eVar 3) eNil))) (eVar 4))) (eB (eOp neB (eCall m_root (eCons (eVar 2) eNil)) (eTup (eCons (eCall m_other_strand (eCons (eIxA (eCall m_root (eCons (eVar 0) eNil)) (eC (.int 0))) eNil)) (eCons (eIxA (eCall m_root (eCons (eVar 0) eNil)) (eC (.int 1))) eNil)))))) (bRet (eC (.bl false))) bNext)
abbrev TS5 : Env → M Out := bFor (eRng rngD2 (eCons (eC (.int 1)) (eCons (eOp addD (eCB minD2 (eCons (eCB lenD (eCons (eVar 0) eNil)) (eCons (eC (.int 5)) eNil))) (eC (.int 1))) eNil))) (eTgN 6) (b__law_strands_right_1)
abbrev TS6 : Env → M Out := bRet (eC (.bl true))
theorem TS_all : b__law_strands_right = bSeq TS1 (bSeq TS2 (bSeq TS3 (bSeq TS4 (bSeq TS5 (TS6))))) := rfl
abbrev TT1 : Env → M Out := bFrz [2] (bSets [7, 8] (eCons (eCall m_pieces (eCons (eVar 0) (eCons (eVar 6) eNil))) (eCons (eCall m_pieces (eCons (eVar 2) (eCons (eVar 6) eNil))) eNil)))
abbrev TT2 : Env → M Out := bFrz [7, 8] (bIf (eB (eOp neB (eCOV dictPD (eCons (eLc (eItA (eVar 7)) (eTgN 9) eYes (eTup (eCons (eCall m_other_strand (eCons (eVar 9) eNil)) (eCons (eIxA (eVar 7) (eVar 9)) eNil))) [9]) eNil)) (eVar 8))) (bRet (eC (.bl false))) bNext)
abbrev TT3 : Env → M Out := bFrz [7] (bIf (eB (eOp neB (eCB sumD (eCons (eLc (eItA (eVar 7)) (eTgN 9) eYes (eIxA (eVar 7) (eVar 9)) [9]) eNil)) (eOp subD (eOp addD (eCB lenD (eCons (eVar 0) eNil)) (eC (.int 1))) (eVar 6)))) (bRet (eC (.bl false))) bNext)
theorem TT_all : b__law_strands_right_1 = bSeq TT1 (bSeq TT2 (TT3)) := rfl
theorem op_v {fa fb : Env → M Vl} {env : Env} {g : D → D → Option D} {x y : Vl} {d : D} (h1 : fa env = .ok x) (h2 : fb env = .ok y) (h3 : g x.2 y.2 = some d) (hs : scal d = true) : eOp g fa fb env = .ok (.s, d) := by
  unfold eOp
  rw [h1, ok_bind, h2, ok_bind, h3, of_some, ok_bind]
  unfold fin
  rw [hs]
  split <;> rfl
theorem ne_v {fa fb : Env → M Vl} {env : Env} {x y : Vl} (h1 : fa env = .ok x) (h2 : fb env = .ok y) (h : eqD x.2 y.2 = some true) : eB (eOp neB fa fb) env = .ok false := tB_ok (op_v h1 h2 (by show (eqD x.2 y.2).map _ = _; rw [h]; rfl) rfl)
theorem ints_self (xs : List Int) : eqD (.lst (xs.map .int)) (.lst (xs.map .int)) = some true := by rw [eqD_ints, decide_eq_true rfl]
theorem sum_ints (xs : List Int) : sumD [.lst (xs.map .int)] = some (.int xs.sum) := by
  unfold sumD
  dsimp only
  rw [intsOf_map]
  rfl
theorem kv_pairs : ∀ es : WI, kvPairs (es.map fun e => D.tup [.str (strandW e.1), .int e.2]) = some (mp (strT es))
  | [] => rfl
  | e :: es => by
    rw [List.map_cons]
    unfold kvPairs
    rw [kv_pairs es]
    rfl
theorem dict_strand {ws : List (List Nat)} (h : ∀ x ∈ ws, Ac x) : dictPD [.lst ((cntW ws).map fun e => D.tup [.str (strandW e.1), .int e.2])] = some (.dic (mp (strT (cntW ws)))) := by
  unfold dictPD
  dsimp only
  rw [kv_pairs]
  show some (D.dic (mergeD [] (mp (strT (cntW ws))))) = _
  rw [merge_new (strT_nodup h)]
theorem itA_mp (cs : WI) : itA (.dic (mp cs)) = some (cs.map fun e => D.str e.1) := by
  show some ((cs.map fun e => (Sum.inr e.1, D.int e.2)).map fun e => keyOf e.1) = _
  rw [List.map_map]
  rfl
theorem itA_var {f : Env → M Vl} {env : Env} {d : D} {ds : List D} (h : f env = .ok (.s, d)) (h2 : itA d = some ds) : eItA f env = .ok ds := by
  unfold eItA
  rw [h, ok_bind, if_neg (by simp [isV]), h2]
  rfl
theorem ix_dic {fa fb : Env → M Vl} {env : Env} {cs : WI} {k : List Nat} {v : Int} (h1 : fa env = .ok (.s, .dic (mp cs))) (h2 : fb env = .ok (.s, .str k)) (h3 : getT cs k = some v) : eIxA fa fb env = .ok (.s, .int v) := by
  unfold eIxA
  rw [h1, ok_bind, h2, ok_bind]
  show (M.of (getD (mp cs) (.inr k))).bind _ = _
  rw [mp_get, h3]
  rfl
abbrev ET (w p : List Nat) (x4 x6 x7 x8 : OB) : Env := [some (false, .str w), some (false, .str p), some (false, .str (strandW w)), some (false, .str (strandW p)), x4, none, x6, x7, x8, none]
section
variable {w p : List Nat} {x4 x6 x7 x8 : OB}
theorem turn_strand {m : Nat} (hw : Ac w) (h0 : 0 < w.length) (hl : w.length ≤ 20) (h1 : 1 ≤ m) (hm : m ≤ w.length) : b__law_strands_right_1 (ET w p x4 (some (false, nI m)) x7 x8) = .ok (.nx (ET w p x4 (some (false, nI m)) (some (false, .dic (mp (cntW (strW w m))))) (some (false, .dic (mp (cntW (strW (strandW w) m))))))) := by
  have hv : Ac (strandW w) := strand_ac hw
  have vl := strand_len w
  have q1 := q_pieces (w := w) (n := m) (by omega) (wordI_iff.mpr ⟨hw, h0⟩) h1 (by omega)
  have q2 := q_pieces (w := strandW w) (n := m) (by omega) (wordI_iff.mpr ⟨hv, by omega⟩) h1 (by omega)
  have hac : ∀ x ∈ strW w m, Ac x := fun x hx => strW_ac hw hx
  have hsame := same_strand hac (str_strand hm)
  have hdict := dict_strand hac
  have hsum := cntW_sum (strW w m)
  rw [strW_len] at hsum
  have hkey : ∀ e ∈ cntW (strW w m), wordI e.1 = true ∧ e.1.length ≤ 20 ∧ getT (cntW (strW w m)) e.1 = some e.2 := fun e he => by
    obtain ⟨a, b⟩ := cnt_mem.mp (show (e.1, e.2) ∈ cntW (strW w m) from he)
    have := strW_one a
    exact ⟨wordI_iff.mpr ⟨hac _ a, by omega⟩, by omega, get_mem (cntW_nodup _) he⟩
  have hlen : (cntW (strW w m)).length ≤ 1000 := by
    have := cnt_len (strW w m) []
    have e : (cntW (strW w m)).length = (keysT ((strW w m).foldl cnt [])).length := by
      unfold cntW
      rw [List.length_map, (sortW_perm _).length_eq]
    rw [strW_len] at this
    unfold keysT at e
    rw [List.length_map] at e
    simp only [List.length_nil] at this
    omega
  generalize hcs : cntW (strW w m) = cs at *
  generalize hfs : cntW (strW (strandW w) m) = fs at *
  rw [TT_all]
  have a0 : eVar 0 (ET w p x4 (some (false, nI m)) x7 x8) = .ok (.s, .str w) := rfl
  have a2 : eVar 2 (ET w p x4 (some (false, nI m)) x7 x8) = .ok (.s, .str (strandW w)) := rfl
  have a6 : eVar 6 (ET w p x4 (some (false, nI m)) x7 x8) = .ok (.s, nI m) := rfl
  refine seq_run (e' := ET w p x4 (some (false, nI m)) (some (true, .dic (mp cs))) (some (true, .dic (mp fs)))) ?_ ?_
  · show bSets [7, 8] _ (ET w p x4 (some (false, nI m)) x7 x8) = _
    have c1 : eCall m_pieces (eCons (eVar 0) (eCons (eVar 6) eNil)) (ET w p x4 (some (false, nI m)) x7 x8) = .ok (.o, .dic (mp cs)) := call_ok (cons_ok a0 (cons_ok a6 nil1)) rfl q1
    have c2 : eCall m_pieces (eCons (eVar 2) (eCons (eVar 6) eNil)) (ET w p x4 (some (false, nI m)) x7 x8) = .ok (.o, .dic (mp fs)) := call_ok (cons_ok a2 (cons_ok a6 nil1)) rfl q2
    unfold bSets
    rw [cons_ok c1 (cons_ok c2 nil1)]
    rfl
  have v0 : eVar 0 (ET w p x4 (some (false, nI m)) (some (false, .dic (mp cs))) (some (false, .dic (mp fs)))) = .ok (.s, .str w) := rfl
  have v6 : eVar 6 (ET w p x4 (some (false, nI m)) (some (false, .dic (mp cs))) (some (false, .dic (mp fs)))) = .ok (.s, nI m) := rfl
  have v7 : eVar 7 (ET w p x4 (some (false, nI m)) (some (false, .dic (mp cs))) (some (false, .dic (mp fs)))) = .ok (.s, .dic (mp cs)) := rfl
  have v8 : eVar 8 (ET w p x4 (some (false, nI m)) (some (false, .dic (mp cs))) (some (false, .dic (mp fs)))) = .ok (.s, .dic (mp fs)) := rfl
  have i7 := itA_var v7 (itA_mp cs)
  refine seq_run (e' := ET w p x4 (some (false, nI m)) (some (false, .dic (mp cs))) (some (false, .dic (mp fs)))) ?_ ?_
  · show bIf _ _ _ (ET w p x4 (some (false, nI m)) (some (false, .dic (mp cs))) (some (false, .dic (mp fs)))) = _
    have lc := eLc_all (fe := eTup (eCons (eCall m_other_strand (eCons (eVar 9) eNil)) (eCons (eIxA (eVar 7) (eVar 9)) eNil))) (tg := eTgN 9) (ft := eYes) (vs := [9]) (fun e : List Nat × Int => D.str e.1) (fun e => D.tup [.str (strandW e.1), .int e.2]) i7 (by omega) rfl (env' := ET w p x4 (some (false, nI m)) (some (false, .dic (mp cs))) (some (false, .dic (mp fs)))) rfl fun e he => by
      obtain ⟨k1, k2, k3⟩ := hkey e he
      refine ⟨[some (false, .str w), some (false, .str p), some (false, .str (strandW w)), some (false, .str (strandW p)), x4, none, some (false, nI m), some (false, .dic (mp cs)), some (false, .dic (mp fs)), some (false, .str e.1)], rfl, rfl, .s, tup_2 (call_ok (xs := [(.s, .str e.1)]) rfl rfl (q_other_strand (by omega) k1)) (ix_dic (cs := cs) (k := e.1) rfl rfl k3), rfl⟩
    have c1 := cov_ok (g := dictPD) (cons_ok lc nil1) hdict rfl
    exact (bIf_f (ne_f c1 v8 rfl rfl hsame)).trans rfl
  show bIf _ _ _ (ET w p x4 (some (false, nI m)) (some (false, .dic (mp cs))) (some (false, .dic (mp fs)))) = _
  have lc := eLc_all (fe := eIxA (eVar 7) (eVar 9)) (tg := eTgN 9) (ft := eYes) (vs := [9]) (fun e : List Nat × Int => D.str e.1) (fun e => D.int e.2) i7 (by omega) rfl (env' := ET w p x4 (some (false, nI m)) (some (false, .dic (mp cs))) (some (false, .dic (mp fs)))) rfl fun e he => by
    obtain ⟨k1, k2, k3⟩ := hkey e he
    exact ⟨[some (false, .str w), some (false, .str p), some (false, .str (strandW w)), some (false, .str (strandW p)), x4, none, some (false, nI m), some (false, .dic (mp cs)), some (false, .dic (mp fs)), some (false, .str e.1)], rfl, rfl, .s, ix_dic (cs := cs) (k := e.1) rfl rfl k3, rfl⟩
  have e1 : cs.map (fun e => D.int e.2) = (cs.map (·.2)).map .int := by rw [List.map_map]; rfl
  rw [e1] at lc
  have c1 := cb_ok (g := sumD) (cons_ok lc nil1) (sum_ints _) rfl
  rw [hsum] at c1
  have c2 := sub_n (add_n (y := 1) (fb := eC (.int 1)) (len_s v0 (by omega)) rfl) v6 (by omega)
  exact (bIf_f (ne_f c1 c2 rfl rfl (nn_self _))).trans rfl
theorem q07_strands (hw : Ac w) (h0 : 0 < w.length) (hl : w.length ≤ 20) (hp : Ac p) (p0 : 0 < p.length) (pl : p.length ≤ 10) : m__law_strands_right [.str w, .str p] = .ok (.s, .bl true) := by
  have hwd : wordI w = true := wordI_iff.mpr ⟨hw, h0⟩
  have hpd : wordI p = true := wordI_iff.mpr ⟨hp, p0⟩
  have hv : Ac (strandW w) := strand_ac hw
  have hpv : Ac (strandW p) := strand_ac hp
  have vl := strand_len w
  have pvl := strand_len p
  have hvd : wordI (strandW w) = true := wordI_iff.mpr ⟨hv, by omega⟩
  have hpvd : wordI (strandW p) = true := wordI_iff.mpr ⟨hpv, by omega⟩
  have q1 := q_other_strand (w := w) (by omega) hwd
  have q2 := q_other_strand (w := p) (by omega) hpd
  have q3 := q_other_strand (w := strandW w) (by omega) hvd
  rw [strand_strand hw] at q3
  have q4 := q_is_word (w := strandW w) (by omega)
  rw [hvd] at q4
  have q5 := q_borders (w := strandW w) (by omega) hvd
  rw [bord_strand hw] at q5
  have q6 := q_borders (w := w) (by omega) hwd
  have q7 := q_occurrences (w := w) (p := p) (by omega) hwd (by omega) hpd
  have q8 := q_occurrences (w := strandW w) (p := strandW p) (by omega) hvd (by omega) hpvd
  rw [places_strand hw hp p0] at q8
  obtain ⟨d, R⟩ := rt_of h0
  have q9 := q_root (w := w) (by omega) hwd
  rw [R.told] at q9
  have q10 := q_root (w := strandW w) (by omega) hvd
  rw [R.strand hw] at q10
  have hta : Ac (w.take d) := ac_take hw
  have htl : (w.take d).length = d := by rw [List.length_take]; have := R.le; omega
  have q11 := q_other_strand (w := w.take d) (by have := R.le; omega) (wordI_iff.mpr ⟨hta, by have := R.pos; omega⟩)
  have hocc : ∀ i ∈ placesN w p, i + p.length ≤ w.length := fun i hi => ((placesN_mem p0).mp hi).1
  have hocl : (placesN w p).length ≤ 1000 := by
    unfold placesN
    exact Nat.le_trans (List.length_filter_le _ _) (by rw [List.length_range]; omega)
  refine body_run rfl ?_
  show b__law_strands_right [some (false, .str w), some (false, .str p), none, none, none, none, none, none, none, none] = _
  rw [TS_all]
  refine seq_run (e' := ET w p none none none none) ?_ ?_
  · have c1 : eCall m_other_strand (eCons (eVar 0) eNil) [some (false, .str w), some (false, .str p), none, none, none, none, none, none, none, none] = .ok (.s, .str (strandW w)) := call_ok (xs := [(.s, .str w)]) rfl rfl q1
    have c2 : eCall m_other_strand (eCons (eVar 1) eNil) [some (false, .str w), some (false, .str p), none, none, none, none, none, none, none, none] = .ok (.s, .str (strandW p)) := call_ok (xs := [(.s, .str p)]) rfl rfl q2
    show bSets [2, 3] _ _ = _
    unfold bSets
    rw [cons_ok c1 (cons_ok c2 nil1)]
    rfl
  have v0 : eVar 0 (ET w p none none none none) = .ok (.s, .str w) := rfl
  have v1 : eVar 1 (ET w p none none none none) = .ok (.s, .str p) := rfl
  have v2 : eVar 2 (ET w p none none none none) = .ok (.s, .str (strandW w)) := rfl
  refine seq_run (e' := ET w p none none none none) ?_ ?_
  · show bIf _ _ _ (ET w p none none none none) = _
    have c1 : eCall m_other_strand (eCons (eVar 2) eNil) (ET w p none none none none) = .ok (.s, .str w) := call_ok (cons_ok v2 nil1) rfl q3
    have c2 : eCall m_is_word (eCons (eVar 2) eNil) (ET w p none none none none) = .ok (.s, .bl true) := call_ok (cons_ok v2 nil1) rfl q4
    have c3 : eCall m_borders (eCons (eVar 2) eNil) (ET w p none none none none) = .ok (.o, .lst ((bordW w).map .int)) := call_ok (cons_ok v2 nil1) rfl q5
    have c4 : eCall m_borders (eCons (eVar 0) eNil) (ET w p none none none none) = .ok (.o, .lst ((bordW w).map .int)) := call_ok (cons_ok v0 nil1) rfl q6
    exact (bIf_f (tOr_ok (a := false) (b := false) (ne_f c1 v0 rfl rfl (str_self _)) fun _ => tOr_ok (a := false) (b := false) (tNot_ok (b := true) (tB_ok c2)) fun _ => ne_f c3 c4 rfl rfl (ints_self _))).trans rfl
  refine seq_run (e' := ET w p (some (true, .lst ((((placesN w p).map fun i => w.length - p.length - i).reverse).map nI))) none none none) ?_ ?_
  · have c1 : eCall m_occurrences (eCons (eVar 0) (eCons (eVar 1) eNil)) (ET w p none none none none) = .ok (.o, .lst ((placesN w p).map fun i : Nat => .int (i : Int))) := call_ok (cons_ok v0 (cons_ok v1 nil1)) rfl q7
    have hi : eItA (eCall m_occurrences (eCons (eVar 0) (eCons (eVar 1) eNil))) (ET w p none none none none) = .ok ((placesN w p).map nI) := by
      unfold eItA
      rw [c1, ok_bind]
      rfl
    have lc := eLc_all (fe := eOp subD (eOp subD (eCB lenD (eCons (eVar 0) eNil)) (eCB lenD (eCons (eVar 1) eNil))) (eVar 5)) (tg := eTgN 5) (ft := eYes) (vs := [5]) nI (fun i => nI (w.length - p.length - i)) hi (by omega) rfl (env' := ET w p none none none none) rfl fun i hi => by
      have := hocc i hi
      exact ⟨[some (false, .str w), some (false, .str p), some (false, .str (strandW w)), some (false, .str (strandW p)), none, some (false, nI i), none, none, none, none], rfl, rfl, .s, sub_n (sub_n (len_s rfl (by omega)) (len_s rfl (by omega)) (by omega)) rfl (by omega), rfl⟩
    have e1 : (placesN w p).map (fun i => nI (w.length - p.length - i)) = ((placesN w p).map fun i => w.length - p.length - i).map nI := by rw [List.map_map]; rfl
    rw [e1] at lc
    have c2 := cov_ok (g := revLD) (cons_ok lc nil1) (d := .lst ((((placesN w p).map fun i => w.length - p.length - i).reverse).map nI)) (by
      show some (D.lst (List.map nI _).reverse) = _
      rw [← List.map_reverse]) rfl
    show bSet 4 _ (ET w p none none none none) = _
    unfold bSet
    rw [c2]
    rfl
  generalize ((placesN w p).map fun i => w.length - p.length - i).reverse = ms at *
  have u0 : eVar 0 (ET w p (some (true, .lst (ms.map nI))) none none none) = .ok (.s, .str w) := rfl
  have u2 : eVar 2 (ET w p (some (true, .lst (ms.map nI))) none none none) = .ok (.s, .str (strandW w)) := rfl
  have u3 : eVar 3 (ET w p (some (true, .lst (ms.map nI))) none none none) = .ok (.s, .str (strandW p)) := rfl
  have u4 : eVar 4 (ET w p (some (true, .lst (ms.map nI))) none none none) = .ok (.v 4, .lst (ms.map nI)) := rfl
  refine seq_run (e' := ET w p (some (true, .lst (ms.map nI))) none none none) ?_ ?_
  · show bIf _ _ _ (ET w p (some (true, .lst (ms.map nI))) none none none) = _
    have c1 : eCall m_occurrences (eCons (eVar 2) (eCons (eVar 3) eNil)) (ET w p (some (true, .lst (ms.map nI))) none none none) = .ok (.o, .lst (ms.map nI)) := call_ok (cons_ok u2 (cons_ok u3 nil1)) rfl q8
    have c2 : eCall m_root (eCons (eVar 2) eNil) (ET w p (some (true, .lst (ms.map nI))) none none none) = .ok (.s, .tup [.str (strandW (w.take d)), .int ((w.length / d : Nat) : Int)]) := call_ok (cons_ok u2 nil1) rfl q10
    have c3 : eCall m_root (eCons (eVar 0) eNil) (ET w p (some (true, .lst (ms.map nI))) none none none) = .ok (.s, .tup [.str (w.take d), .int ((w.length / d : Nat) : Int)]) := call_ok (cons_ok u0 nil1) rfl q9
    have c4 : eIxA (eCall m_root (eCons (eVar 0) eNil)) (eC (.int 0)) (ET w p (some (true, .lst (ms.map nI))) none none none) = .ok (.s, .str (w.take d)) := by
      unfold eIxA
      rw [c3]
      rfl
    have c5 : eIxA (eCall m_root (eCons (eVar 0) eNil)) (eC (.int 1)) (ET w p (some (true, .lst (ms.map nI))) none none none) = .ok (.s, .int ((w.length / d : Nat) : Int)) := by
      unfold eIxA
      rw [c3]
      rfl
    have c6 := tup_2 (call_ok (cons_ok c4 nil1) rfl q11) c5
    exact (bIf_f (tOr_ok (a := false) (b := false) (ne_v c1 u4 (sf_ints _)) fun _ => ne_f c2 c6 rfl rfl (sf_eq (n := 1) (sf_tup (n := 0) fun x hx => by
      simp only [List.mem_cons, List.not_mem_nil, or_false] at hx
      rcases hx with rfl | rfl
      · exact sf_str (strand_ac hta).okS
      · exact sf_int _) (by omega) (.inr ⟨_, rfl⟩)))).trans rfl
  have hr : eRng rngD2 (eCons (eC (.int 1)) (eCons (eOp addD (eCB minD2 (eCons (eCB lenD (eCons (eVar 0) eNil)) (eCons (eC (.int 5)) eNil))) (eC (.int 1))) eNil)) (ET w p (some (true, .lst (ms.map nI))) none none none) = .ok ((List.range (min w.length 5 + 1 - 1)).map fun k => nI (k + 1)) := by
    refine rng2_up (n := min w.length 5 + 1) (add_n (y := 1) (cb_ok (cons_ok (len_s u0 (by omega)) (show eCons (eC (.int 5)) eNil _ = .ok [(.s, nI 5)] from rfl)) (min_n w.length 5) rfl) rfl) (by omega)
  obtain ⟨e, h1, _, x6, x7, x8, rfl⟩ := for_okR (tg := eTgN 6) (fb := b__law_strands_right_1) (J := fun (xs : List Nat) e => (∀ x ∈ xs, x < min w.length 5) ∧ ∃ x6 x7 x8, e = ET w p (some (true, .lst (ms.map nI))) x6 x7 x8) (fun k => nI (k + 1)) (fun x r e ⟨hx, x6, x7, x8, he⟩ => by
    subst he
    have := hx x (List.mem_cons_self ..)
    exact ⟨_, _, rfl, turn_strand hw h0 hl (by omega) (by omega), fun y hy => hx y (List.mem_cons_of_mem _ hy), _, _, _, rfl⟩) (List.range (min w.length 5 + 1 - 1)) _ ⟨fun x hx => by have := List.mem_range.mp hx; omega, _, _, _, rfl⟩
  refine seq_run (e' := ET w p (some (true, .lst (ms.map nI))) x6 x7 x8) ?_ rfl
  show bFor _ _ _ (ET w p (some (true, .lst (ms.map nI))) none none none) = _
  unfold bFor
  rw [hr, ok_bind]
  exact h1
end
end Y

namespace Y
open PySem PySem.Spec PyProof.Rows L2 Z
abbrev RS1 : Env → M Out := bSet 3 (eLc (eRng rngD1 (eCons (eCB lenD (eCons (eVar 0) eNil)) eNil)) (eTgN 4) eYes (eCall m_turn (eCons (eVar 0) (eCons (eVar 4) eNil))) [4])
abbrev RS2 : Env → M Out := bAsg (eTgT 2 (eTgCons (eTgN 5) (eTgCons (eTgN 6) eTgNil))) (eCall m_root (eCons (eVar 0) eNil))
abbrev RS3 : Env → M Out := bFrz [3] (bIf (eOr (eB (eOp neB (eCB lenSetD (eCons (eVar 3) eNil)) (eCB lenD (eCons (eVar 5) eNil)))) (eOr (eB (eOp neB (eOp mulD (eVar 5) (eVar 6)) (eVar 0))) (eB (eOp neB (eCall m_root (eCons (eVar 5) eNil)) (eTup (eCons (eVar 5) (eCons (eC (.int 1)) eNil))))))) (bRet (eC (.bl false))) bNext)
abbrev RS4 : Env → M Out := bFrz [3] (bIf (eOr (eB (eSetNe (eLc (eItA (eVar 3)) (eTgN 7) eYes (eCall m_ring_of (eCons (eVar 7) eNil)) [7]) (eCall m_ring_of (eCons (eVar 0) eNil)))) (eB (eOp notInAB (eCall m_ring_of (eCons (eVar 0) eNil)) (eVar 3)))) (bRet (eC (.bl false))) bNext)
abbrev RS5 : Env → M Out := bSet 8 (eCall m_ring_of (eCons (eVar 0) eNil))
abbrev RS6 : Env → M Out := bFrz [8] (bIf (eOr (eB (eOp neB (eCall m_ring_strand (eCons (eVar 8) eNil)) (eCall m_ring_of (eCons (eCall m_other_strand (eCons (eVar 0) eNil)) eNil)))) (eB (eOp neB (eCall m_ring_strand (eCons (eCall m_ring_strand (eCons (eVar 8) eNil)) eNil)) (eVar 8)))) (bRet (eC (.bl false))) bNext)
abbrev RS7 : Env → M Out := bFrz [8] (bSets [9, 10] (eCons (eCall m_ring_occurrences (eCons (eVar 8) (eCons (eVar 1) eNil))) (eCons (eCall m_ring_occurrences (eCons (eCall m_ring_of (eCons (eOp mulD (eVar 0) (eVar 2)) eNil)) (eCons (eVar 1) eNil))) eNil)))
abbrev RS8 : Env → M Out := bFrz [8, 9, 10] (bIf (eOr (eB (eOp neB (eCB lenD (eCons (eVar 10) eNil)) (eOp mulD (eVar 2) (eCB lenD (eCons (eVar 9) eNil))))) (eB (eOp neB (eCall m_ring_of (eCons (eOp mulD (eVar 0) (eVar 2)) eNil)) (eOp mulD (eVar 8) (eVar 2))))) (bRet (eC (.bl false))) bNext)
abbrev RS9 : Env → M Out := bFor (eRng rngD2 (eCons (eC (.int 1)) (eCons (eOp addD (eCB lenD (eCons (eVar 0) eNil)) (eC (.int 2))) eNil))) (eTgN 11) (b__law_rings_right_1)
abbrev RS10 : Env → M Out := bRet (eC (.bl true))
theorem RS_all : b__law_rings_right = bSeq RS1 (bSeq RS2 (bSeq RS3 (bSeq RS4 (bSeq RS5 (bSeq RS6 (bSeq RS7 (bSeq RS8 (bSeq RS9 (RS10))))))))) := rfl
abbrev RT1 : Env → M Out := bSet 12 (eLc (eRng rngD1 (eCons (eCB lenD (eCons (eVar 0) eNil)) eNil)) (eTgN 4) eYes (eSl (eOp mulD (eVar 0) (eOp addD (eVar 11) (eC (.int 1)))) (ePart (eVar 4)) (ePart (eOp addD (eVar 4) (eVar 11)))) [4])
abbrev RT2 : Env → M Out := bFrz [8, 12] (bIf (eB (eOp neB (eCall m_ring_pieces (eCons (eVar 8) (eCons (eVar 11) eNil))) (eCall m__law_counted (eCons (eVar 12) eNil)))) (bRet (eC (.bl false))) bNext)
theorem RT_all : b__law_rings_right_1 = bSeq RT1 (RT2) := rfl
theorem setNe_ok {fa fb : Env → M Vl} {env : Env} {md : Md} {ws : List (List Nat)} {v : List Nat} (h1 : fa env = .ok (md, .lst (ws.map .str))) (hv : isV (md, D.lst (ws.map .str)) = false) (hl : ws.length < 4000) (h2 : fb env = .ok (.s, .str v)) (hne : ws ≠ []) (ha : ∀ z ∈ ws, z = v) : eSetNe fa fb env = .ok (.s, .bl false) := by
  unfold eSetNe
  rw [h1, ok_bind]
  dsimp only
  rw [strsOf_map]
  dsimp only
  have e1 : (isV (md, D.lst (ws.map .str)) || decide (4000 ≤ ws.length)) = false := by rw [hv, decide_eq_false (by omega)]; rfl
  rw [e1, if_neg Bool.false_ne_true, h2, ok_bind]
  dsimp only
  have e2 : (isV ((Md.s, D.str v) : Vl) || !(!ws.isEmpty && ws.all fun z => decide (z = v))) = false := by
    have a1 : (ws.all fun z => decide (z = v)) = true := List.all_eq_true.mpr fun z hz => decide_eq_true (ha z hz)
    have a2 : ws.isEmpty = false := by cases ws with | nil => exact absurd rfl hne | cons _ _ => rfl
    rw [a1, a2]
    rfl
  rw [e2, if_neg Bool.false_ne_true]
theorem lenSet_ok {ws : List (List Nat)} (hl : ws.length < 4000) : lenSetD [.lst (ws.map .str)] = some (nI (ddW ws).length) := by
  unfold lenSetD
  dsimp only
  rw [strsOf_map]
  show (if ws.length < 4000 then _ else _) = _
  rw [if_pos hl]
theorem mul_nn {fa fb : Env → M Vl} {env : Env} {x y : Nat} (h1 : fa env = .ok (.s, nI x)) (h2 : fb env = .ok (.s, nI y)) (hx : x ≤ 1000000) : eOp mulD fa fb env = .ok (.s, nI (x * y)) := op_ok h1 h2 (by
  have hc : CMul (x : Int) (y : Int) := by
    have e64 : (2 : Int) ^ 64 = 18446744073709551616 := by decide
    unfold CMul
    rw [e64]
    exact .inl ⟨by omega, by omega⟩
  have e : mulD (nI x) (nI y) = some (D.int ((x : Int) * (y : Int))) := by
    simp only [mulD, hc, if_true]
  have e2 : ((x * y : Nat) : Int) = (x : Int) * (y : Int) := Int.natCast_mul x y
  show mulD (nI x) (nI y) = some (D.int ((x * y : Nat) : Int))
  rw [e, e2]) rfl rfl
theorem mul_w {fa fb : Env → M Vl} {env : Env} {a : List Nat} {n : Nat} (h1 : fa env = .ok (.s, .str a)) (h2 : fb env = .ok (.s, nI n)) (hl : a.length ≤ 1000) (hn : n ≤ 1000) : eOp mulD fa fb env = .ok (.s, .str (pw n a)) := mul_s h1 h2 (Nat.le_trans (Nat.mul_le_mul hl hn) (by decide)) (by omega)
theorem pw_ac {a : List Nat} (h : Ac a) (n : Nat) : Ac (pw n a) := (flat_rep h n).1
theorem cnt_self (ws : List (List Nat)) : eqD (.dic (mp (cntW ws))) (.dic (mp (cntW ws))) = some true := by simp [eqD, sameD_mp (cntW_nodup ws)]
abbrev ER (w p : List Nat) (mn : Nat) (x3 x5 x6 x8 x9 x10 x11 x12 : OB) : Env := [some (false, .str w), some (false, .str p), some (false, nI mn), x3, none, x5, x6, none, x8, x9, x10, x11, x12]
section
variable {w p : List Nat} {mn : Nat} {x3 x5 x6 x8 x9 x10 x11 x12 : OB}
theorem turn_rings {m : Nat} (hw : Ac w) (h0 : 0 < w.length) (hl : w.length ≤ 20) (h1 : 1 ≤ m) (hm : m ≤ w.length + 1) : b__law_rings_right_1 (ER w p mn x3 x5 x6 (some (false, .str (leastW w))) x9 x10 (some (false, nI m)) x12) = .ok (.nx (ER w p mn x3 x5 x6 (some (false, .str (leastW w))) x9 x10 (some (false, nI m)) (some (false, .lst ((runsW w m).map .str))))) := by
  have hll := least_len h0
  have q1 := q_ring_pieces (w := leastW w) (n := m) (by omega) (wordI_iff.mpr ⟨least_ac h0 hw, by omega⟩) (least_least h0) h1 (by omega)
  rw [ring_runs h0] at q1
  have hrl : (runsW w m).length = w.length := by rw [runs_nat h0, List.length_map, List.length_range]
  have q2 := q__law_counted (ws := runsW w m) (by omega)
  have hself := cnt_self (runsW w m)
  have hruns := runs_nat h0 m
  generalize leastW w = v at *
  rw [RT_all]
  have a0 : eVar 0 (ER w p mn x3 x5 x6 (some (false, .str v)) x9 x10 (some (false, nI m)) x12) = .ok (.s, .str w) := rfl
  have a11 : eVar 11 (ER w p mn x3 x5 x6 (some (false, .str v)) x9 x10 (some (false, nI m)) x12) = .ok (.s, nI m) := rfl
  refine seq_run (e' := ER w p mn x3 x5 x6 (some (false, .str v)) x9 x10 (some (false, nI m)) (some (true, .lst ((runsW w m).map .str)))) ?_ ?_
  · have hi := rng1_n (f := eCB lenD (eCons (eVar 0) eNil)) (len_s a0 (by omega)) (by omega)
    have lc := eLc_all (fe := eSl (eOp mulD (eVar 0) (eOp addD (eVar 11) (eC (.int 1)))) (ePart (eVar 4)) (ePart (eOp addD (eVar 4) (eVar 11)))) (tg := eTgN 4) (ft := eYes) (vs := [4]) nI (fun i => D.str (readN w i m)) hi (by rw [List.length_range]; omega) rfl (env' := ER w p mn x3 x5 x6 (some (false, .str v)) x9 x10 (some (false, nI m)) x12) rfl fun i hi => by
      have hi := List.mem_range.mp hi
      refine ⟨[some (false, .str w), some (false, .str p), some (false, nI mn), x3, some (false, nI i), x5, x6, none, some (false, .str v), x9, x10, some (false, nI m), x12], rfl, rfl, .s, ?_, rfl⟩
      rw [← over_read hi]
      exact sl_sub (mul_w rfl (add_n (y := 1) (fb := eC (.int 1)) rfl rfl) (by omega) (by omega)) rfl (add_n rfl rfl) (by rw [pw_len]; exact Nat.le_trans (Nat.mul_le_mul (show m + 1 ≤ 22 by omega) hl) (by decide))
    have e1 : (List.range w.length).map (fun i => D.str (readN w i m)) = (runsW w m).map .str := by rw [hruns, List.map_map]; rfl
    rw [e1] at lc
    show bSet 12 _ (ER w p mn x3 x5 x6 (some (false, .str v)) x9 x10 (some (false, nI m)) x12) = _
    unfold bSet
    rw [lc]
    rfl
  show bIf _ _ _ (ER w p mn x3 x5 x6 (some (false, .str v)) x9 x10 (some (false, nI m)) (some (false, .lst ((runsW w m).map .str)))) = _
  have c1 : eCall m_ring_pieces (eCons (eVar 8) (eCons (eVar 11) eNil)) (ER w p mn x3 x5 x6 (some (false, .str v)) x9 x10 (some (false, nI m)) (some (false, .lst ((runsW w m).map .str)))) = .ok (.o, .dic (mp (cntW (runsW w m)))) := call_ok (xs := [(.s, .str v), (.s, nI m)]) rfl rfl q1
  have c2 : eCall m__law_counted (eCons (eVar 12) eNil) (ER w p mn x3 x5 x6 (some (false, .str v)) x9 x10 (some (false, nI m)) (some (false, .lst ((runsW w m).map .str)))) = .ok (.o, .dic (mp (cntW (runsW w m)))) := call_ok (xs := [(.s, .lst ((runsW w m).map .str))]) rfl rfl q2
  exact (bIf_f (ne_f c1 c2 rfl rfl hself)).trans rfl
theorem q07_rings (hw : Ac w) (h0 : 0 < w.length) (hl : w.length ≤ 20) (hp : Ac p) (p0 : 0 < p.length) (pl : p.length ≤ 10) (m0 : 0 < mn) (hm : mn ≤ 3) : m__law_rings_right [.str w, .str p, nI mn] = .ok (.s, .bl true) := by
  have hwd : wordI w = true := wordI_iff.mpr ⟨hw, h0⟩
  have hpd : wordI p = true := wordI_iff.mpr ⟨hp, p0⟩
  obtain ⟨d, R⟩ := rt_of h0
  have hta : Ac (w.take d) := ac_take hw
  have htl : (w.take d).length = d := by rw [List.length_take]; have := R.le; omega
  have hd0 := R.pos
  have hdl := R.le
  have htd : wordI (w.take d) = true := wordI_iff.mpr ⟨hta, by omega⟩
  have q1 := q_root (w := w) (by omega) hwd
  rw [R.told] at q1
  have q2 := q_root (w := w.take d) (by omega) htd
  rw [R.short] at q2
  have hpw := rootB_pw R.pos R.le R.root
  have hturns := R.turns
  have hkn : w.length / d ≤ 20 := Nat.le_trans (Nat.div_le_self _ _) hl
  have q3 := q_ring_of (w := w) (by omega) hwd
  have q4 : ∀ i, i < w.length → m_turn [.str w, nI i] = .ok (.s, .str (turnN w i)) := fun i hi => by
    have := q_turn (w := w) (i := (i : Int)) (by omega) hwd (by omega) (by omega)
    rw [turnW_nat] at this
    exact this
  have q5 : ∀ i, i < w.length → m_ring_of [.str (turnN w i)] = .ok (.s, .str (leastW w)) := fun i hi => by
    have := q_ring_of (w := turnN w i) (by rw [turnN_len (by omega)]; omega) (wordI_iff.mpr ⟨turnN_ac hw, by rw [turnN_len (by omega)]; omega⟩)
    rw [least_turnN hi] at this
    exact this
  have hmem : leastW w ∈ (List.range w.length).map (turnN w) := by
    obtain ⟨k, hk, e⟩ := least_mem h0
    rw [e]
    exact List.mem_map_of_mem (List.mem_range.mpr hk)
  have hla : Ac (leastW w) := least_ac h0 hw
  have hll : (leastW w).length = w.length := least_len h0
  have q6 := q_ring_strand (w := leastW w) (by omega) (wordI_iff.mpr ⟨hla, by omega⟩) (least_least h0)
  rw [least_strand h0] at q6
  have hv : Ac (strandW w) := strand_ac hw
  have vl := strand_len w
  have q7 := q_other_strand (w := w) (by omega) hwd
  have q8 := q_ring_of (w := strandW w) (by omega) (wordI_iff.mpr ⟨hv, by omega⟩)
  have hsl : (leastW (strandW w)).length = w.length := by rw [least_len (by omega), vl]
  have q9 := q_ring_strand (w := leastW (strandW w)) (by omega) (wordI_iff.mpr ⟨least_ac (by omega) hv, by omega⟩) (least_least (by omega))
  have htw := ring_twice h0 hw
  rw [least_strand h0] at htw
  rw [htw] at q9
  have q10 := q_ring_occurrences (w := leastW w) (p := p) (by omega) (wordI_iff.mpr ⟨hla, by omega⟩) (least_least h0) (by omega) hpd
  have hml : (pw mn w).length ≤ 60 := by rw [pw_len]; exact Nat.mul_le_mul hm hl
  have hm0 : 0 < (pw mn w).length := by rw [pw_len]; exact Nat.mul_pos m0 h0
  have q11 := q_ring_of (w := pw mn w) (by omega) (wordI_iff.mpr ⟨pw_ac hw mn, hm0⟩)
  rw [least_pw h0 m0] at q11
  have hrl : (pw mn (leastW w)).length = (pw mn w).length := by rw [pw_len, pw_len, hll]
  have q12 := q_ring_occurrences (w := pw mn (leastW w)) (p := p) (by omega) (wordI_iff.mpr ⟨pw_ac hla mn, by omega⟩) (by rw [least_pw (by omega) m0, least_least h0]) (by omega) hpd
  have hpl := places_pw (w := leastW w) (p := p) (by omega) m0
  have hbody := fun x3 x5 x6 x9 x10 x12 m a b => turn_rings (p := p) (mn := mn) (x3 := x3) (x5 := x5) (x6 := x6) (x9 := x9) (x10 := x10) (x12 := x12) (m := m) hw h0 hl a b
  refine body_run rfl ?_
  show b__law_rings_right [some (false, .str w), some (false, .str p), some (false, nI mn), none, none, none, none, none, none, none, none, none, none] = _
  rw [RS_all]
  -- the turns
  refine seq_run (e' := ER w p mn (some (true, .lst (((List.range w.length).map (turnN w)).map .str))) none none none none none none none) ?_ ?_
  · have hi := rng1_n (f := eCB lenD (eCons (eVar 0) eNil)) (env := ER w p mn none none none none none none none none) (len_s rfl (by omega)) (by omega)
    have lc := eLc_all (fe := eCall m_turn (eCons (eVar 0) (eCons (eVar 4) eNil))) (tg := eTgN 4) (ft := eYes) (vs := [4]) nI (fun i => D.str (turnN w i)) hi (by rw [List.length_range]; omega) rfl (env' := ER w p mn none none none none none none none none) rfl fun i hi => by
      have hi := List.mem_range.mp hi
      exact ⟨[some (false, .str w), some (false, .str p), some (false, nI mn), none, some (false, nI i), none, none, none, none, none, none, none, none], rfl, rfl, .s, call_ok (xs := [(.s, .str w), (.s, nI i)]) rfl rfl (q4 i hi), rfl⟩
    have e1 : (List.range w.length).map (fun i => D.str (turnN w i)) = ((List.range w.length).map (turnN w)).map .str := by rw [List.map_map]; rfl
    rw [e1] at lc
    show bSet 3 _ (ER w p mn none none none none none none none none) = _
    unfold bSet
    rw [lc]
    rfl
  have htsl : ((List.range w.length).map (turnN w)).length = w.length := by rw [List.length_map, List.length_range]
  have q5 : ∀ t ∈ (List.range w.length).map (turnN w), m_ring_of [.str t] = .ok (.s, .str (leastW w)) := fun t ht => by
    obtain ⟨i, hi, rfl⟩ := List.mem_map.mp ht
    exact q5 i (List.mem_range.mp hi)
  generalize (List.range w.length).map (turnN w) = ts at *
  -- the root
  refine seq_run (e' := ER w p mn (some (true, .lst (ts.map .str))) (some (false, .str (w.take d))) (some (false, nI (w.length / d))) none none none none none) ?_ ?_
  · have c1 : eCall m_root (eCons (eVar 0) eNil) (ER w p mn (some (true, .lst (ts.map .str))) none none none none none none none) = .ok (.s, .tup [.str (w.take d), .int ((w.length / d : Nat) : Int)]) := call_ok (xs := [(.s, .str w)]) rfl rfl q1
    show bAsg _ _ (ER w p mn (some (true, .lst (ts.map .str))) none none none none none none none) = _
    unfold bAsg
    rw [c1]
    rfl
  have hpe : pw (w.length / d) (w.take d) = w := hpw.1.symm
  generalize w.take d = u at *
  generalize w.length / d = k at *
  refine seq_run (e' := ER w p mn (some (false, .lst (ts.map .str))) (some (false, .str u)) (some (false, nI k)) none none none none none) ?_ ?_
  · show bIf _ _ _ (ER w p mn (some (false, .lst (ts.map .str))) (some (false, .str u)) (some (false, nI k)) none none none none none) = _
    have v0 : eVar 0 (ER w p mn (some (false, .lst (ts.map .str))) (some (false, .str u)) (some (false, nI k)) none none none none none) = .ok (.s, .str w) := rfl
    have v3 : eVar 3 (ER w p mn (some (false, .lst (ts.map .str))) (some (false, .str u)) (some (false, nI k)) none none none none none) = .ok (.s, .lst (ts.map .str)) := rfl
    have v5 : eVar 5 (ER w p mn (some (false, .lst (ts.map .str))) (some (false, .str u)) (some (false, nI k)) none none none none none) = .ok (.s, .str u) := rfl
    have v6 : eVar 6 (ER w p mn (some (false, .lst (ts.map .str))) (some (false, .str u)) (some (false, nI k)) none none none none none) = .ok (.s, nI k) := rfl
    have c1 := cb_ok (g := lenSetD) (cons_ok v3 nil1) (lenSet_ok (by omega)) rfl
    have c2 := len_s v5 (by omega)
    have c3 := mul_w v5 v6 (by omega) (by omega)
    rw [hpe] at c3
    have c4 : eCall m_root (eCons (eVar 5) eNil) (ER w p mn (some (false, .lst (ts.map .str))) (some (false, .str u)) (some (false, nI k)) none none none none none) = .ok (.s, .tup [.str u, .int 1]) := call_ok (cons_ok v5 nil1) rfl q2
    have c5 := tup_2 (g := eC (.int 1)) (b := .int 1) v5 rfl
    rw [hturns] at c1
    rw [htl] at c2
    exact (bIf_f (tOr_ok (a := false) (b := false) (ne_f c1 c2 rfl rfl (nn_self _)) fun _ => tOr_ok (a := false) (b := false) (ne_f c3 v0 rfl rfl (str_self _)) fun _ => ne_f c4 c5 rfl rfl (sf_eq (n := 1) (sf_tup (n := 0) fun x hx => by
      simp only [List.mem_cons, List.not_mem_nil, or_false] at hx
      rcases hx with rfl | rfl
      · exact sf_str hta.okS
      · exact sf_int _) (by omega) (.inr ⟨_, rfl⟩)))).trans rfl
  -- one ring
  refine seq_run (e' := ER w p mn (some (false, .lst (ts.map .str))) (some (false, .str u)) (some (false, nI k)) none none none none none) ?_ ?_
  · show bIf _ _ _ (ER w p mn (some (false, .lst (ts.map .str))) (some (false, .str u)) (some (false, nI k)) none none none none none) = _
    have v0 : eVar 0 (ER w p mn (some (false, .lst (ts.map .str))) (some (false, .str u)) (some (false, nI k)) none none none none none) = .ok (.s, .str w) := rfl
    have v3 : eVar 3 (ER w p mn (some (false, .lst (ts.map .str))) (some (false, .str u)) (some (false, nI k)) none none none none none) = .ok (.s, .lst (ts.map .str)) := rfl
    have c1 : eCall m_ring_of (eCons (eVar 0) eNil) (ER w p mn (some (false, .lst (ts.map .str))) (some (false, .str u)) (some (false, nI k)) none none none none none) = .ok (.s, .str (leastW w)) := call_ok (cons_ok v0 nil1) rfl q3
    have i3 : eItA (eVar 3) (ER w p mn (some (false, .lst (ts.map .str))) (some (false, .str u)) (some (false, nI k)) none none none none none) = .ok (ts.map D.str) := rfl
    have lc := eLc_all (fe := eCall m_ring_of (eCons (eVar 7) eNil)) (tg := eTgN 7) (ft := eYes) (vs := [7]) D.str (fun _ => D.str (leastW w)) i3 (by omega) rfl (env' := ER w p mn (some (false, .lst (ts.map .str))) (some (false, .str u)) (some (false, nI k)) none none none none none) rfl fun t ht => ⟨[some (false, .str w), some (false, .str p), some (false, nI mn), some (false, .lst (ts.map .str)), none, some (false, .str u), some (false, nI k), some (false, .str t), none, none, none, none, none], rfl, rfl, .s, call_ok (xs := [(.s, .str t)]) rfl rfl (q5 t ht), rfl⟩
    have e1 : ts.map (fun _ => D.str (leastW w)) = (ts.map fun _ => leastW w).map .str := by rw [List.map_map]; rfl
    rw [e1] at lc
    have c2 := setNe_ok lc rfl (by rw [List.length_map]; omega) c1 (fun z => by
      have := congrArg List.length z
      rw [List.length_map] at this
      simp at this
      subst this
      simp at hmem) (fun z hz => by
      obtain ⟨_, _, rfl⟩ := List.mem_map.mp hz
      rfl)
    have c3 := op_ok (g := notInAB) c1 v3 (in_strs hmem).2 rfl rfl
    exact (bIf_f (tOr_ok (a := false) (b := false) (tB_ok c2) fun _ => tB_ok c3)).trans rfl
  refine seq_run (e' := ER w p mn (some (false, .lst (ts.map .str))) (some (false, .str u)) (some (false, nI k)) (some (false, .str (leastW w))) none none none none) ?_ ?_
  · have c1 : eCall m_ring_of (eCons (eVar 0) eNil) (ER w p mn (some (false, .lst (ts.map .str))) (some (false, .str u)) (some (false, nI k)) none none none none none) = .ok (.s, .str (leastW w)) := call_ok (xs := [(.s, .str w)]) rfl rfl q3
    show bSet 8 _ (ER w p mn (some (false, .lst (ts.map .str))) (some (false, .str u)) (some (false, nI k)) none none none none none) = _
    unfold bSet
    rw [c1]
    rfl
  clear q5 q4 hmem hturns q1 q2 hpw
  generalize hrg : leastW w = rg at *
  -- strands of rings
  refine seq_run (e' := ER w p mn (some (false, .lst (ts.map .str))) (some (false, .str u)) (some (false, nI k)) (some (false, .str rg)) none none none none) ?_ ?_
  · show bIf _ _ _ (ER w p mn (some (false, .lst (ts.map .str))) (some (false, .str u)) (some (false, nI k)) (some (false, .str rg)) none none none none) = _
    have v0 : eVar 0 (ER w p mn (some (false, .lst (ts.map .str))) (some (false, .str u)) (some (false, nI k)) (some (false, .str rg)) none none none none) = .ok (.s, .str w) := rfl
    have v8 : eVar 8 (ER w p mn (some (false, .lst (ts.map .str))) (some (false, .str u)) (some (false, nI k)) (some (false, .str rg)) none none none none) = .ok (.s, .str rg) := rfl
    have c1 : eCall m_ring_strand (eCons (eVar 8) eNil) (ER w p mn (some (false, .lst (ts.map .str))) (some (false, .str u)) (some (false, nI k)) (some (false, .str rg)) none none none none) = .ok (.s, .str (leastW (strandW w))) := call_ok (cons_ok v8 nil1) rfl q6
    have c2 : eCall m_ring_of (eCons (eCall m_other_strand (eCons (eVar 0) eNil)) eNil) (ER w p mn (some (false, .lst (ts.map .str))) (some (false, .str u)) (some (false, nI k)) (some (false, .str rg)) none none none none) = .ok (.s, .str (leastW (strandW w))) := call_ok (cons_ok (call_ok (cons_ok v0 nil1) rfl q7) nil1) rfl q8
    have c3 : eCall m_ring_strand (eCons (eCall m_ring_strand (eCons (eVar 8) eNil)) eNil) (ER w p mn (some (false, .lst (ts.map .str))) (some (false, .str u)) (some (false, nI k)) (some (false, .str rg)) none none none none) = .ok (.s, .str rg) := call_ok (cons_ok c1 nil1) rfl q9
    exact (bIf_f (tOr_ok (a := false) (b := false) (ne_f c1 c2 rfl rfl (str_self _)) fun _ => ne_f c3 v8 rfl rfl (str_self _))).trans rfl
  -- places
  refine seq_run (e' := ER w p mn (some (false, .lst (ts.map .str))) (some (false, .str u)) (some (false, nI k)) (some (false, .str rg)) (some (true, .lst ((placesW rg p).map .int))) (some (true, .lst ((placesW (pw mn rg) p).map .int))) none none) ?_ ?_
  · show bSets [9, 10] _ (ER w p mn (some (false, .lst (ts.map .str))) (some (false, .str u)) (some (false, nI k)) (some (false, .str rg)) none none none none) = _
    have v0 : eVar 0 (ER w p mn (some (false, .lst (ts.map .str))) (some (false, .str u)) (some (false, nI k)) (some (false, .str rg)) none none none none) = .ok (.s, .str w) := rfl
    have v1 : eVar 1 (ER w p mn (some (false, .lst (ts.map .str))) (some (false, .str u)) (some (false, nI k)) (some (false, .str rg)) none none none none) = .ok (.s, .str p) := rfl
    have v2 : eVar 2 (ER w p mn (some (false, .lst (ts.map .str))) (some (false, .str u)) (some (false, nI k)) (some (false, .str rg)) none none none none) = .ok (.s, nI mn) := rfl
    have v8 : eVar 8 (ER w p mn (some (false, .lst (ts.map .str))) (some (false, .str u)) (some (false, nI k)) (some (false, .str rg)) none none none none) = .ok (.s, .str rg) := rfl
    have c1 : eCall m_ring_occurrences (eCons (eVar 8) (eCons (eVar 1) eNil)) (ER w p mn (some (false, .lst (ts.map .str))) (some (false, .str u)) (some (false, nI k)) (some (false, .str rg)) none none none none) = .ok (.o, .lst ((placesW rg p).map .int)) := call_ok (cons_ok v8 (cons_ok v1 nil1)) rfl q10
    have c2 := mul_w v0 v2 (by omega) (by omega)
    have c3 : eCall m_ring_of (eCons (eOp mulD (eVar 0) (eVar 2)) eNil) (ER w p mn (some (false, .lst (ts.map .str))) (some (false, .str u)) (some (false, nI k)) (some (false, .str rg)) none none none none) = .ok (.s, .str (pw mn rg)) := call_ok (cons_ok c2 nil1) rfl q11
    have c4 : eCall m_ring_occurrences (eCons (eCall m_ring_of (eCons (eOp mulD (eVar 0) (eVar 2)) eNil)) (eCons (eVar 1) eNil)) (ER w p mn (some (false, .lst (ts.map .str))) (some (false, .str u)) (some (false, nI k)) (some (false, .str rg)) none none none none) = .ok (.o, .lst ((placesW (pw mn rg) p).map .int)) := call_ok (cons_ok c3 (cons_ok v1 nil1)) rfl q12
    unfold bSets
    rw [cons_ok c1 (cons_ok c4 nil1)]
    rfl
  refine seq_run (e' := ER w p mn (some (false, .lst (ts.map .str))) (some (false, .str u)) (some (false, nI k)) (some (false, .str rg)) (some (false, .lst ((placesW rg p).map .int))) (some (false, .lst ((placesW (pw mn rg) p).map .int))) none none) ?_ ?_
  · generalize placesW rg p = p1 at *
    generalize placesW (pw mn rg) p = p2 at *
    show bIf _ _ _ (ER w p mn (some (false, .lst (ts.map .str))) (some (false, .str u)) (some (false, nI k)) (some (false, .str rg)) (some (false, .lst (p1.map .int))) (some (false, .lst (p2.map .int))) none none) = _
    have v0 : eVar 0 (ER w p mn (some (false, .lst (ts.map .str))) (some (false, .str u)) (some (false, nI k)) (some (false, .str rg)) (some (false, .lst (p1.map .int))) (some (false, .lst (p2.map .int))) none none) = .ok (.s, .str w) := rfl
    have v2 : eVar 2 (ER w p mn (some (false, .lst (ts.map .str))) (some (false, .str u)) (some (false, nI k)) (some (false, .str rg)) (some (false, .lst (p1.map .int))) (some (false, .lst (p2.map .int))) none none) = .ok (.s, nI mn) := rfl
    have v8 : eVar 8 (ER w p mn (some (false, .lst (ts.map .str))) (some (false, .str u)) (some (false, nI k)) (some (false, .str rg)) (some (false, .lst (p1.map .int))) (some (false, .lst (p2.map .int))) none none) = .ok (.s, .str rg) := rfl
    have v9 : eVar 9 (ER w p mn (some (false, .lst (ts.map .str))) (some (false, .str u)) (some (false, nI k)) (some (false, .str rg)) (some (false, .lst (p1.map .int))) (some (false, .lst (p2.map .int))) none none) = .ok (.s, .lst (p1.map .int)) := rfl
    have v10 : eVar 10 (ER w p mn (some (false, .lst (ts.map .str))) (some (false, .str u)) (some (false, nI k)) (some (false, .str rg)) (some (false, .lst (p1.map .int))) (some (false, .lst (p2.map .int))) none none) = .ok (.s, .lst (p2.map .int)) := rfl
    have c1 := len_l v10 rfl (by rw [List.length_map, hpl])
    have c2 := mul_nn v2 (len_l v9 rfl (by rw [List.length_map])) (by omega)
    have c3 := mul_w v0 v2 (by omega) (by omega)
    have c4 : eCall m_ring_of (eCons (eOp mulD (eVar 0) (eVar 2)) eNil) (ER w p mn (some (false, .lst (ts.map .str))) (some (false, .str u)) (some (false, nI k)) (some (false, .str rg)) (some (false, .lst (p1.map .int))) (some (false, .lst (p2.map .int))) none none) = .ok (.s, .str (pw mn rg)) := call_ok (cons_ok c3 nil1) rfl q11
    have c5 := mul_w v8 v2 (by omega) (by omega)
    exact (bIf_f (tOr_ok (a := false) (b := false) (ne_f c1 c2 rfl rfl (nn_self _)) fun _ => ne_f c4 c5 rfl rfl (str_self _))).trans rfl
  -- pieces of the ring
  have hr : eRng rngD2 (eCons (eC (.int 1)) (eCons (eOp addD (eCB lenD (eCons (eVar 0) eNil)) (eC (.int 2))) eNil)) (ER w p mn (some (false, .lst (ts.map .str))) (some (false, .str u)) (some (false, nI k)) (some (false, .str rg)) (some (false, .lst ((placesW rg p).map .int))) (some (false, .lst ((placesW (pw mn rg) p).map .int))) none none) = .ok ((List.range (w.length + 2 - 1)).map fun j => nI (j + 1)) := rng2_up (n := w.length + 2) (add_n (y := 2) (fb := eC (.int 2)) (len_s rfl (by omega)) rfl) (by omega)
  obtain ⟨e, h1, _, x11, x12, rfl⟩ := for_okR (tg := eTgN 11) (fb := b__law_rings_right_1) (J := fun (xs : List Nat) e => (∀ x ∈ xs, x < w.length + 1) ∧ ∃ x11 x12, e = ER w p mn (some (false, .lst (ts.map .str))) (some (false, .str u)) (some (false, nI k)) (some (false, .str rg)) (some (false, .lst ((placesW rg p).map .int))) (some (false, .lst ((placesW (pw mn rg) p).map .int))) x11 x12) (fun j => nI (j + 1)) (fun x r e ⟨hx, x11, x12, he⟩ => by
    subst he
    have := hx x (List.mem_cons_self ..)
    exact ⟨_, _, rfl, hbody _ _ _ _ _ _ _ (by omega) (by omega), fun y hy => hx y (List.mem_cons_of_mem _ hy), _, _, rfl⟩) (List.range (w.length + 2 - 1)) _ ⟨fun x hx => by have := List.mem_range.mp hx; omega, none, none, rfl⟩
  refine seq_run (e' := ER w p mn (some (false, .lst (ts.map .str))) (some (false, .str u)) (some (false, nI k)) (some (false, .str rg)) (some (false, .lst ((placesW rg p).map .int))) (some (false, .lst ((placesW (pw mn rg) p).map .int))) x11 x12) ?_ rfl
  show bFor _ _ _ (ER w p mn (some (false, .lst (ts.map .str))) (some (false, .str u)) (some (false, nI k)) (some (false, .str rg)) (some (false, .lst ((placesW rg p).map .int))) (some (false, .lst ((placesW (pw mn rg) p).map .int))) none none) = _
  unfold bFor
  rw [hr, ok_bind]
  exact h1
end
end Y

namespace Y
open PySem PySem.Spec PyProof.Rows L2 Z
abbrev LS1 : Env → M Out := bFrz [1] (bSet 3 (eOp mulD (eCall m__law_text (eCons (eVar 1) (eCons (eC (.int 10)) eNil))) (eCall m__law_pick (eCons (eVar 1) (eCons (eLst (eCons (eC (.int 1)) (eCons (eC (.int 1)) (eCons (eC (.int 2)) eNil)))) eNil)))))
abbrev LS2 : Env → M Out := bFrz [1] (bSet 4 (eCall m_take (eCons (eVar 1) (eCons (eCB lenD (eCons (eVar 3) eNil)) eNil))))
abbrev LS3 : Env → M Out := bFrz [1, 4] (bSet 5 (eCall m__law_pick (eCons (eVar 1) (eCons (eLst (eCons (eSl (eVar 3) (ePart (eVar 4)) (ePart (eOp addD (eOp addD (eVar 4) (eC (.int 1))) (eCall m_take (eCons (eVar 1) (eCons (eC (.int 5)) eNil)))))) (eCons (eCall m__law_text (eCons (eVar 1) (eCons (eC (.int 3)) eNil))) eNil))) eNil))))
abbrev LS4 : Env → M Out := bFrz [1, 5] (bIf (eOr (eNot (eB (eCall m__law_strands_right (eCons (eVar 3) (eCons (eVar 5) eNil))))) (eNot (eB (eCall m__law_rings_right (eCons (eVar 3) (eCons (eVar 5) (eCons (eOp addD (eC (.int 2)) (eCall m_take (eCons (eVar 1) (eCons (eC (.int 2)) eNil)))) eNil))))))) (bRet (eC (.bl false))) bNext)
abbrev LS5 : Env → M Out := bFor (eRng rngD2 (eCons (eC (.int 1)) (eCons (eCB lenD (eCons (eVar 3) eNil)) eNil))) (eTgN 6) (b_law_1)
abbrev LS6 : Env → M Out := bIf (eB (eOp neB (eCall m_longest_common (eCons (eVar 3) (eCons (eCall m_other_strand (eCons (eCall m_other_strand (eCons (eVar 3) eNil)) eNil)) eNil))) (eLst (eCons (eVar 3) eNil)))) (bRet (eC (.bl false))) bNext
theorem LS_all : b_law_2 = bSeq LS1 (bSeq LS2 (bSeq LS3 (bSeq LS4 (bSeq LS5 (LS6))))) := rfl
abbrev LT1 : Env → M Out := bSet 7 (eOp eqB (eSl (eVar 3) (ePart (eVar 6)) eNo) (eSl (eVar 3) eNo (ePart (eOp subD (eCB lenD (eCons (eVar 3) eNil)) (eVar 6)))))
abbrev LT2 : Env → M Out := bIf (eB (eOp neB (eOp inAB (eOp subD (eCB lenD (eCons (eVar 3) eNil)) (eVar 6)) (eCall m_borders (eCons (eVar 3) eNil))) (eVar 7))) (bRet (eC (.bl false))) bNext
theorem LT_all : b_law_1 = bSeq LT1 (LT2) := rfl
section
variable {q : Tk} {env : Env} {w : List Nat}
theorem d_pickN {s : Nat} {fl : Env → M Vl} {ds : List D} {m : Md} (h1 : eVar s env = .ok (.s, .drw q)) (h2 : fl env = .ok (m, .lst ds)) (hm : isV (m, D.lst ds) = false) (h0 : ds ≠ []) (hl : ds.length < 1000000000) : Dn q 1 (eCall m__law_pick (eCons (eVar s) (eCons fl eNil)) env) fun r => ∃ d ∈ ds, r = (.s, d) := by
  have ok : okA [(Md.s, D.drw q), (m, D.lst ds)] = true := by cases m <;> first | rfl | cases hm
  have c1 : eCall m__law_pick (eCons (eVar s) (eCons fl eNil)) env = m__law_pick [.drw q, .lst ds] := call_ok (cons_ok h1 (cons_ok h2 (show eNil _ = .ok [] from rfl))) ok rfl
  rw [c1]
  exact Dn.ofB (Dn.pickL (c := 0) h0 hl fun d hd => Dn.ok ⟨d, hd, rfl⟩)
theorem d_textN {s most : Nat} (h1 : eVar s env = .ok (.s, .drw q)) (h0 : 0 < most) (hm : most ≤ 100) : Dn q 400 (eCall m__law_text (eCons (eVar s) (eCons (eC (.int (most : Int))) eNil)) env) fun r => ∃ w, r = (.s, .str w) ∧ Ac w ∧ 0 < w.length ∧ w.length ≤ most := by
  have c1 : eCall m__law_text (eCons (eVar s) (eCons (eC (.int (most : Int))) eNil)) env = m__law_text [.drw q, .int (most : Int)] := call_ok (cons_ok h1 (cons_ok (fa := eC (.int (most : Int))) (x := (.s, .int (most : Int))) rfl (show eNil _ = .ok [] from rfl))) rfl rfl
  rw [c1]
  exact d_text h0 hm
theorem sl7_from {fa fi : Env → M Vl} {i : Nat} (h1 : fa env = .ok (.s, .str w)) (h2 : fi env = .ok (.s, .int (i : Int))) (hl : w.length ≤ 10000) : eSl fa (ePart fi) eNo env = .ok (.s, .str (w.drop i)) := by
  unfold eSl ePart
  rw [h1, ok_bind, h2, ok_bind, ok_bind]
  show (M.of (if w.length ≤ 10000000 then some (D.str (cutL w (some (i : Int)) none)) else none)).bind _ = _
  rw [if_pos (by omega), cut_from]
  rfl
theorem sl7_to {fa fi : Env → M Vl} {i : Nat} (h1 : fa env = .ok (.s, .str w)) (h2 : fi env = .ok (.s, .int (i : Int))) (hl : w.length ≤ 10000) : eSl fa eNo (ePart fi) env = .ok (.s, .str (w.take i)) := by
  unfold eSl ePart
  rw [h1, ok_bind, h2, ok_bind]
  show (M.of (if w.length ≤ 10000000 then some (D.str (cutL w none (some (i : Int)))) else none)).bind _ = _
  rw [if_pos (by omega), cut_to]
  rfl
theorem in_ints {i : Int} {is : List Int} : inAB (.int i) (.lst (is.map .int)) = some (.bl (decide (i ∈ is))) := by
  have e : inD (.int i) (.lst (is.map .int)) = if flat (.int i) && (is.map D.int).all flat then some ((is.map D.int).any fun y => flE y (.int i)) else none := rfl
  have hd : (is.map D.int).all flat = true := List.all_eq_true.mpr fun d hd => by obtain ⟨w, _, rfl⟩ := List.mem_map.mp hd; rfl
  have h : inD (.int i) (.lst (is.map .int)) = some (decide (i ∈ is)) := by
    rw [e, hd]
    show some ((is.map D.int).any fun y => flE y (.int i)) = _
    congr 1
    rw [Bool.eq_iff_iff, List.any_eq_true, decide_eq_true_eq]
    constructor
    · rintro ⟨d, hd, h⟩
      obtain ⟨j, hj, rfl⟩ := List.mem_map.mp hd
      have : j = i := by
        have h : (j == i) = true := h
        exact eq_of_beq h
      exact this ▸ hj
    · intro h
      exact ⟨.int i, List.mem_map_of_mem h, by show (i == i) = true; simp⟩
  show (inD (.int i) (.lst (is.map .int))).map D.bl = _
  rw [h]
  rfl
end
abbrev E07 (ns : List Int) (q : Tk) (x2 x3 x4 x5 x6 x7 : OB) : Env := [some (false, .scr ns), some (false, .drw q), x2, x3, x4, x5, x6, x7]
section
variable {ns : List Int} {q : Tk} {x2 x3 x4 x5 x6 x7 : OB} {w p : List Nat} {k : Nat}
theorem t1 : Dn q 401 (LS1 (E07 ns q x2 x3 x4 x5 x6 x7)) fun r => ∃ e, r = .nx e ∧ ∃ w, Ac w ∧ 0 < w.length ∧ w.length ≤ 20 ∧ e = E07 ns q x2 (some (false, .str w)) x4 x5 x6 x7 := by
  show Dn q 401 (bSet 3 _ (E07 ns q x2 x3 x4 x5 x6 x7)) _
  refine Dn.setD ?_
  have v1 : eVar 1 (E07 ns q x2 x3 x4 x5 x6 x7) = .ok (.s, .drw q) := rfl
  have l0 : eLst (eCons (eC (.int 1)) (eCons (eC (.int 1)) (eCons (eC (.int 2)) eNil))) (E07 ns q x2 x3 x4 x5 x6 x7) = .ok (.o, .lst [.int 1, .int 1, .int 2]) := rfl
  refine Dn.le (c := 400 + 1) (Dn.opD (c1 := 400) (c2 := 1) (d_textN (most := 10) v1 (by omega) (by omega)) fun x hx => ?_) (by omega)
  obtain ⟨u, rfl, ha, h0, hl⟩ := hx
  refine (d_pickN v1 l0 rfl (by simp) (by simp)).mono fun y hy => ?_
  obtain ⟨d, hd, rfl⟩ := hy
  obtain ⟨n, hn, hn2, rfl⟩ : ∃ n : Nat, 0 < n ∧ n ≤ 2 ∧ d = nI n := by
    simp only [List.mem_cons, List.not_mem_nil, or_false] at hd
    rcases hd with rfl | rfl | rfl
    · exact ⟨1, by omega, by omega, rfl⟩
    · exact ⟨1, by omega, by omega, rfl⟩
    · exact ⟨2, by omega, by omega, rfl⟩
  have hm := mul_w (fa := fun _ => .ok (.s, .str u)) (fb := fun _ => .ok (.s, nI n)) (env := []) rfl rfl (by omega) (by omega)
  have hm2 : mulD (.str u) (nI n) = some (.str (pw n u)) := by
    have e : eOp mulD (fun _ => .ok (.s, .str u)) (fun _ => .ok (.s, nI n)) [] = (M.of (mulD (.str u) (nI n))).bind fun d => fin false d := rfl
    rw [e] at hm
    cases hz : mulD (.str u) (nI n) with
    | none => rw [hz] at hm; cases hm
    | some z =>
      rw [hz] at hm
      cases z <;> first | (cases hm; done) | (cases hm; rfl)
  refine ⟨rfl, rfl, _, hm2, .inl ⟨_, rfl, pw n u, pw_ac ha n, ?_, ?_, rfl⟩⟩
  · rw [pw_len]; exact Nat.mul_pos hn h0
  · rw [pw_len]; exact Nat.le_trans (Nat.mul_le_mul hn2 hl) (by decide)
theorem t2 (h0 : 0 < w.length) (hl : w.length ≤ 20) : Dn q 1 (LS2 (E07 ns q x2 (some (false, .str w)) x4 x5 x6 x7)) fun r => ∃ e, r = .nx e ∧ ∃ k, k < w.length ∧ e = E07 ns q x2 (some (false, .str w)) (some (false, nI k)) x5 x6 x7 := by
  show Dn q 1 (bSet 4 _ (E07 ns q x2 (some (false, .str w)) x4 x5 x6 x7)) _
  refine Dn.setD ((d_takeL (w := w) rfl rfl h0 (by omega)).mono fun r hr => ?_)
  obtain ⟨k, hk, rfl⟩ := hr
  exact .inl ⟨_, rfl, k, hk, rfl⟩
theorem t3 (hw : Ac w) (hl : w.length ≤ 20) (hk : k < w.length) : Dn q 402 (LS3 (E07 ns q x2 (some (false, .str w)) (some (false, nI k)) x5 x6 x7)) fun r => ∃ e, r = .nx e ∧ ∃ p, Ac p ∧ 0 < p.length ∧ p.length ≤ 5 ∧ e = E07 ns q x2 (some (false, .str w)) (some (false, nI k)) (some (false, .str p)) x6 x7 := by
  show Dn q 402 (bSet 5 _ (E07 ns q x2 (some (false, .str w)) (some (false, nI k)) x5 x6 x7)) _
  refine Dn.setD ?_
  have v1 : eVar 1 (E07 ns q x2 (some (false, .str w)) (some (false, nI k)) x5 x6 x7) = .ok (.s, .drw q) := rfl
  have v3 : eVar 3 (E07 ns q x2 (some (false, .str w)) (some (false, nI k)) x5 x6 x7) = .ok (.s, .str w) := rfl
  have v4 : eVar 4 (E07 ns q x2 (some (false, .str w)) (some (false, nI k)) x5 x6 x7) = .ok (.s, .int (k : Int)) := rfl
  have a1 := add_n (fb := eC (.int 1)) (y := 1) v4 rfl
  have hfin : ∀ p : List Nat, Ac p → 0 < p.length → p.length ≤ 5 → (∃ d, ((Md.s, D.str p) : Vl) = (.s, d) ∧ ∃ p, Ac p ∧ 0 < p.length ∧ p.length ≤ 5 ∧ (E07 ns q x2 (some (false, .str w)) (some (false, nI k)) x5 x6 x7).set 5 (some (false, d)) = E07 ns q x2 (some (false, .str w)) (some (false, nI k)) (some (false, .str p)) x6 x7) := fun p a b c => ⟨_, rfl, p, a, b, c, rfl⟩
  generalize E07 ns q x2 (some (false, .str w)) (some (false, nI k)) x5 x6 x7 = E at *
  have part : Dn q 1 (eSl (eVar 3) (ePart (eVar 4)) (ePart (eOp addD (eOp addD (eVar 4) (eC (.int 1))) (eCall m_take (eCons (eVar 1) (eCons (eC (.int 5)) eNil))))) E) fun r => ∃ p, r = (.s, .str p) ∧ Ac p ∧ 0 < p.length ∧ p.length ≤ 5 := by
    have key : Dn q 1 (eOp addD (eOp addD (eVar 4) (eC (.int 1))) (eCall m_take (eCons (eVar 1) (eCons (eC (.int 5)) eNil))) E) fun r => ∃ t, t < 5 ∧ r = (.s, nI (k + (t + 1))) := by
      refine Dn.le (c := 0 + 1) (Dn.opD (c1 := 0) (c2 := 1) (P := fun x => x = (.s, nI (k + 1))) (Dn.eqV a1) fun x hx => ?_) (by omega)
      subst hx
      refine (d_takeN (n := 5) v1 (by omega) (by omega)).mono fun y hy => ?_
      obtain ⟨j, hj, rfl⟩ := hy
      refine ⟨rfl, rfl, nI (k + (j + 1)), ?_, j, hj, rfl⟩
      show some (D.int (((k + 1 : Nat) : Int) + (j : Int))) = some (D.int _)
      congr 2
      omega
    unfold eSl
    rw [v3, ok_bind]
    have p1 : ePart (eVar 4) E = .ok (some (k : Int)) := by
      unfold ePart
      rw [v4]
      rfl
    rw [p1, ok_bind]
    refine Dn.le (c := 1 + 0) (Dn.bind (P := fun r => ∃ t, t < 5 ∧ r = some ((k + (t + 1) : Nat) : Int)) ?_ fun r hr => ?_) (by omega)
    · unfold ePart
      refine Dn.le (c := 1 + 0) (Dn.bind key fun r hr => ?_) (by omega)
      obtain ⟨t, ht, rfl⟩ := hr
      exact Dn.ok ⟨t, ht, rfl⟩
    · obtain ⟨t, ht, rfl⟩ := hr
      have hc := cut_sub w k (t + 1)
      have e1 : ((k : Int) + ((t + 1 : Nat) : Int)) = ((k + (t + 1) : Nat) : Int) := by omega
      rw [e1] at hc
      refine Dn.pure (a := (.s, .str (subW w k (t + 1)))) ?_ ⟨_, rfl, ?_, ?_, ?_⟩
      · show (M.of (if w.length ≤ 10000000 then some (D.str (cutL w (some (k : Int)) (some ((k + (t + 1) : Nat) : Int)))) else none)).bind _ = _
        rw [if_pos (by omega), hc]
        rfl
      · exact fun c hc => hw c (List.mem_of_mem_drop (List.mem_of_mem_take hc))
      · unfold subW; rw [List.length_take, List.length_drop]; omega
      · unfold subW; rw [List.length_take, List.length_drop]; omega
  have hL : Dn q 401 (eLst (eCons (eSl (eVar 3) (ePart (eVar 4)) (ePart (eOp addD (eOp addD (eVar 4) (eC (.int 1))) (eCall m_take (eCons (eVar 1) (eCons (eC (.int 5)) eNil)))))) (eCons (eCall m__law_text (eCons (eVar 1) (eCons (eC (.int 3)) eNil))) eNil)) E) fun r => ∃ a b, r = (.o, .lst [.str a, .str b]) ∧ (Ac a ∧ 0 < a.length ∧ a.length ≤ 5) ∧ (Ac b ∧ 0 < b.length ∧ b.length ≤ 5) := by
    refine Dn.lstD ?_
    refine Dn.le (c := 1 + 400) (Dn.consD (c1 := 1) (c2 := 400) part fun x hx => ?_) (by omega)
    obtain ⟨a, rfl, ha⟩ := hx
    refine Dn.le (c := 400 + 0) (Dn.consD (c1 := 400) (c2 := 0) (d_textN (most := 3) v1 (by omega) (by omega)) fun x hx => ?_) (by omega)
    obtain ⟨b, rfl, hb, b0, bl⟩ := hx
    exact Dn.nilD ⟨rfl, by show 2 ≤ 100000; omega, a, b, rfl, ha, hb, b0, by omega⟩
  refine Dn.le (c := 401 + 1) (Dn.callD (c1 := 401) (c2 := 1) (P := fun xs => ∃ a b, xs = [(.s, .drw q), (.o, .lst [.str a, .str b])] ∧ (Ac a ∧ 0 < a.length ∧ a.length ≤ 5) ∧ (Ac b ∧ 0 < b.length ∧ b.length ≤ 5)) ?_ ?_) (by omega)
  · refine Dn.le (c := 0 + 401) (Dn.consD (c1 := 0) (c2 := 401) (Dn.eqV v1) fun x hx => ?_) (by omega)
    subst hx
    refine Dn.le (c := 401 + 0) (Dn.consD (c1 := 401) (c2 := 0) hL fun x hx => ?_) (by omega)
    obtain ⟨a, b, rfl, ha, hb⟩ := hx
    exact Dn.nilD ⟨a, b, rfl, ha, hb⟩
  · rintro xs ⟨a, b, rfl, ⟨ha, a0, al⟩, hb, b0, bl⟩
    refine ⟨rfl, Dn.ofB (Dn.pickL (c := 0) (ds := [.str a, .str b]) (by simp) (by simp) fun d hd => Dn.ok (.inl ?_))⟩
    simp only [List.mem_cons, List.not_mem_nil, or_false] at hd
    rcases hd with rfl | rfl
    · exact hfin _ ha a0 al
    · exact hfin _ hb b0 bl
theorem t4 (hw : Ac w) (h0 : 0 < w.length) (hl : w.length ≤ 20) (hp : Ac p) (p0 : 0 < p.length) (pl : p.length ≤ 5) : Dn q 1 (LS4 (E07 ns q x2 (some (false, .str w)) x4 (some (false, .str p)) x6 x7)) fun r => ∃ e, r = .nx e ∧ e = E07 ns q x2 (some (false, .str w)) x4 (some (false, .str p)) x6 x7 := by
  have q1 := q07_strands hw h0 hl hp p0 (by omega)
  have q2 := fun (mn : Nat) (a : 0 < mn) (b : mn ≤ 3) => q07_rings (mn := mn) hw h0 hl hp p0 (by omega) a b
  show Dn q 1 (bIf _ _ _ (E07 ns q x2 (some (false, .str w)) x4 (some (false, .str p)) x6 x7)) _
  have v1 : eVar 1 (E07 ns q x2 (some (false, .str w)) x4 (some (false, .str p)) x6 x7) = .ok (.s, .drw q) := rfl
  have v3 : eVar 3 (E07 ns q x2 (some (false, .str w)) x4 (some (false, .str p)) x6 x7) = .ok (.s, .str w) := rfl
  have v5 : eVar 5 (E07 ns q x2 (some (false, .str w)) x4 (some (false, .str p)) x6 x7) = .ok (.s, .str p) := rfl
  refine Dn.ifF ?_
  generalize E07 ns q x2 (some (false, .str w)) x4 (some (false, .str p)) x6 x7 = E at *
  have c1 : eCall m__law_strands_right (eCons (eVar 3) (eCons (eVar 5) eNil)) E = .ok (.s, .bl true) := call_ok (cons_ok v3 (cons_ok v5 nil1)) rfl q1
  have c2 := tNot_ok (b := true) (tB_ok c1)
  unfold eOr
  rw [c2, ok_bind, if_neg (by decide)]
  unfold eNot eB
  refine Dn.le (c := 1 + 0) (Dn.bind (P := fun b => b = true) (Dn.le (c := 1 + 0) (Dn.bind (P := fun r => r = (.s, .bl true)) ?_ fun r hr => ?_) (by omega)) fun b hb => ?_) (by omega)
  · refine Dn.le (c := 1 + 0) (Dn.callD (c1 := 1) (c2 := 0) (P := fun xs => ∃ mn : Nat, 0 < mn ∧ mn ≤ 3 ∧ xs = [(.s, .str w), (.s, .str p), (.s, nI mn)]) ?_ ?_) (by omega)
    · refine Dn.le (c := 0 + 1) (Dn.consD (c1 := 0) (c2 := 1) (Dn.eqV v3) fun x hx => ?_) (by omega)
      subst hx
      refine Dn.le (c := 0 + 1) (Dn.consD (c1 := 0) (c2 := 1) (Dn.eqV v5) fun x hx => ?_) (by omega)
      subst hx
      refine Dn.le (c := 1 + 0) (Dn.consD (c1 := 1) (c2 := 0) (P := fun x => ∃ mn : Nat, 0 < mn ∧ mn ≤ 3 ∧ x = (.s, nI mn)) ?_ fun x hx => ?_) (by omega)
      · refine Dn.le (c := 0 + 1) (Dn.opD (c1 := 0) (c2 := 1) (P := fun x => x = (.s, .int 2)) (Dn.eqV (show eC (.int 2) E = .ok (.s, .int 2) from rfl)) fun x hx => ?_) (by omega)
        subst hx
        refine (d_takeN (n := 2) v1 (by omega) (by omega)).mono fun y hy => ?_
        obtain ⟨j, hj, rfl⟩ := hy
        refine ⟨rfl, rfl, nI (2 + j), ?_, 2 + j, by omega, by omega, rfl⟩
        show some (D.int (2 + (j : Int))) = some (D.int _)
        congr 2
      · obtain ⟨mn, m0, m1, rfl⟩ := hx
        exact Dn.nilD ⟨mn, m0, m1, rfl⟩
    · rintro xs ⟨mn, m0, m1, rfl⟩
      exact ⟨rfl, Dn.eqV (q2 mn m0 m1)⟩
  · subst hr
    exact Dn.ok rfl
  · subst hb
    exact Dn.ok rfl
theorem bl_self (b : Bool) : eqD (.bl b) (.bl b) = some true := by cases b <;> rfl
theorem turn_bord {m : Nat} (h0 : 0 < w.length) (hw : Ac w) (hl : w.length ≤ 20) (h1 : 1 ≤ m) (hm : m < w.length) : b_law_1 (E07 ns q x2 (some (false, .str w)) x4 x5 (some (false, nI m)) x7) = .ok (.nx (E07 ns q x2 (some (false, .str w)) x4 x5 (some (false, nI m)) (some (false, .bl (decide (w.drop m = w.take (w.length - m))))))) := by
  have qb := q_borders (w := w) (by omega) (wordI_iff.mpr ⟨hw, h0⟩)
  have hb := bord_mem (w := w) (k := m) (by omega) hm
  rw [LT_all]
  refine seq_run (e' := E07 ns q x2 (some (false, .str w)) x4 x5 (some (false, nI m)) (some (false, .bl (decide (w.drop m = w.take (w.length - m)))))) ?_ ?_
  · show bSet 7 _ (E07 ns q x2 (some (false, .str w)) x4 x5 (some (false, nI m)) x7) = _
    have v3 : eVar 3 (E07 ns q x2 (some (false, .str w)) x4 x5 (some (false, nI m)) x7) = .ok (.s, .str w) := rfl
    have v6 : eVar 6 (E07 ns q x2 (some (false, .str w)) x4 x5 (some (false, nI m)) x7) = .ok (.s, .int (m : Int)) := rfl
    have c1 := sl7_from v3 v6 (by omega)
    have c2 := sl7_to v3 (sub_n (len_s v3 (by omega)) v6 (by omega)) (by omega)
    have c3 := op_ok (g := eqB) (d := .bl (decide (w.drop m = w.take (w.length - m)))) c1 c2 (by
      show (eqD _ _).map _ = _
      rw [eqD_ss]
      rfl) rfl rfl
    unfold bSet
    rw [c3]
    rfl
  show bIf _ _ _ (E07 ns q x2 (some (false, .str w)) x4 x5 (some (false, nI m)) (some (false, .bl (decide (w.drop m = w.take (w.length - m)))))) = _
  have v3 : eVar 3 (E07 ns q x2 (some (false, .str w)) x4 x5 (some (false, nI m)) (some (false, .bl (decide (w.drop m = w.take (w.length - m)))))) = .ok (.s, .str w) := rfl
  have v6 : eVar 6 (E07 ns q x2 (some (false, .str w)) x4 x5 (some (false, nI m)) (some (false, .bl (decide (w.drop m = w.take (w.length - m)))))) = .ok (.s, .int (m : Int)) := rfl
  have v7 : eVar 7 (E07 ns q x2 (some (false, .str w)) x4 x5 (some (false, nI m)) (some (false, .bl (decide (w.drop m = w.take (w.length - m)))))) = .ok (.s, .bl (decide (w.drop m = w.take (w.length - m)))) := rfl
  have c1 := sub_n (len_s v3 (by omega)) v6 (by omega)
  have c2 : eCall m_borders (eCons (eVar 3) eNil) (E07 ns q x2 (some (false, .str w)) x4 x5 (some (false, nI m)) (some (false, .bl (decide (w.drop m = w.take (w.length - m)))))) = .ok (.o, .lst ((bordW w).map .int)) := call_ok (cons_ok v3 nil1) rfl qb
  have c3 := op_ok (g := inAB) c1 c2 in_ints rfl rfl
  have e : decide (((w.length - m : Nat) : Int) ∈ bordW w) = decide (w.drop m = w.take (w.length - m)) := decide_eq_decide.mpr hb
  rw [e] at c3
  exact (bIf_f (ne_f c3 v7 rfl rfl (bl_self _))).trans rfl
theorem t5 (h0 : 0 < w.length) (hw : Ac w) (hl : w.length ≤ 20) : ∃ x6 x7, LS5 (E07 ns q x2 (some (false, .str w)) x4 x5 x6' x7') = .ok (.nx (E07 ns q x2 (some (false, .str w)) x4 x5 x6 x7)) := by
  have hr : eRng rngD2 (eCons (eC (.int 1)) (eCons (eCB lenD (eCons (eVar 3) eNil)) eNil)) (E07 ns q x2 (some (false, .str w)) x4 x5 x6' x7') = .ok ((List.range (w.length - 1)).map fun j => nI (j + 1)) := rng2_up (n := w.length) (len_s rfl (by omega)) (by omega)
  obtain ⟨e, h1, _, x6, x7, rfl⟩ := for_okR (tg := eTgN 6) (fb := b_law_1) (J := fun (xs : List Nat) e => (∀ x ∈ xs, x < w.length - 1) ∧ ∃ x6 x7, e = E07 ns q x2 (some (false, .str w)) x4 x5 x6 x7) (fun j => nI (j + 1)) (fun x r e ⟨hx, x6, x7, he⟩ => by
    subst he
    have hx1 := hx x (List.mem_cons_self ..)
    exact ⟨_, _, rfl, turn_bord (m := x + 1) h0 hw hl (by omega) (by omega), fun y hy => hx y (List.mem_cons_of_mem _ hy), _, _, rfl⟩) (List.range (w.length - 1)) (E07 ns q x2 (some (false, .str w)) x4 x5 x6' x7') ⟨fun x hx => List.mem_range.mp hx, _, _, rfl⟩
  refine ⟨x6, x7, ?_⟩
  show bFor _ _ _ (E07 ns q x2 (some (false, .str w)) x4 x5 x6' x7') = _
  unfold bFor
  rw [hr, ok_bind]
  exact h1
theorem t6 (h0 : 0 < w.length) (hw : Ac w) (hl : w.length ≤ 20) : LS6 (E07 ns q x2 (some (false, .str w)) x4 x5 x6 x7) = .ok (.nx (E07 ns q x2 (some (false, .str w)) x4 x5 x6 x7)) := by
  have hwd : wordI w = true := wordI_iff.mpr ⟨hw, h0⟩
  have q1 := q_other_strand (w := w) (by omega) hwd
  have hsl := strand_len w
  have q2 := q_other_strand (w := strandW w) (by omega) (wordI_iff.mpr ⟨strand_ac hw, by omega⟩)
  rw [strand_strand hw] at q2
  have q3 := q_longest_common (a := w) (b := w) (by omega) (by omega) hwd hwd
  rw [lc_self h0] at q3
  show bIf _ _ _ (E07 ns q x2 (some (false, .str w)) x4 x5 x6 x7) = _
  have v3 : eVar 3 (E07 ns q x2 (some (false, .str w)) x4 x5 x6 x7) = .ok (.s, .str w) := rfl
  have c1 : eCall m_other_strand (eCons (eVar 3) eNil) (E07 ns q x2 (some (false, .str w)) x4 x5 x6 x7) = .ok (.s, .str (strandW w)) := call_ok (cons_ok v3 nil1) rfl q1
  have c2 : eCall m_other_strand (eCons (eCall m_other_strand (eCons (eVar 3) eNil)) eNil) (E07 ns q x2 (some (false, .str w)) x4 x5 x6 x7) = .ok (.s, .str w) := call_ok (cons_ok c1 nil1) rfl q2
  have c3 : eCall m_longest_common (eCons (eVar 3) (eCons (eCall m_other_strand (eCons (eCall m_other_strand (eCons (eVar 3) eNil)) eNil)) eNil)) (E07 ns q x2 (some (false, .str w)) x4 x5 x6 x7) = .ok (.o, .lst [.str w]) := call_ok (cons_ok v3 (cons_ok c2 nil1)) rfl q3
  have c4 : eLst (eCons (eVar 3) eNil) (E07 ns q x2 (some (false, .str w)) x4 x5 x6 x7) = .ok (.o, .lst [.str w]) := rfl
  exact (bIf_f (ne_f c3 c4 rfl rfl (strs_self (ws := [w]) fun x hx => by rw [List.mem_singleton.mp hx]; exact hw.okS))).trans rfl
theorem turn07 : Dn q 805 (b_law_2 (E07 ns q x2 x3 x4 x5 x6 x7)) fun o => ∃ e, o = .nx e ∧ ∃ x2 x3 x4 x5 x6 x7, e = E07 ns q x2 x3 x4 x5 x6 x7 := by
  rw [LS_all]
  refine Dn.le (c := 401 + 404) (Dn.seq (c1 := 401) (c2 := 404) t1 ?_) (by omega)
  rintro e ⟨w, hw, h0, hl, rfl⟩
  refine Dn.le (c := 1 + 403) (Dn.seq (c1 := 1) (c2 := 403) (t2 h0 hl) ?_) (by omega)
  rintro e ⟨k, hk, rfl⟩
  refine Dn.le (c := 402 + 1) (Dn.seq (c1 := 402) (c2 := 1) (t3 hw hl hk) ?_) (by omega)
  rintro e ⟨p, hp, p0, pl, rfl⟩
  refine Dn.le (c := 1 + 0) (Dn.seq (c1 := 1) (c2 := 0) (t4 hw h0 hl hp p0 pl) ?_) (by omega)
  rintro e rfl
  obtain ⟨x6, x7, h5⟩ := t5 (ns := ns) (q := q) (x2 := x2) (x4 := some (false, nI k)) (x5 := some (false, .str p)) (x6' := x6) (x7' := x7) h0 hw hl
  refine Dn.seqP h5 ?_
  exact Dn.pure (t6 h0 hw hl) ⟨_, rfl, _, _, _, _, _, _, rfl⟩
end
end Y

namespace Y
open PySem PySem.Spec PyProof.Rows L2 Z
theorem rest07 {ns : List Int} (hl : ns.length ≤ 63) (q : Tk) : Dn q 20000 (bSeq (bFor (eRng rngD1 (eCons (eOp addD (eC (.int 3)) (eCB minD2 (eCons (eCB lenD (eCons (eVar 0) eNil)) (eCons (eC (.int 10)) eNil)))) eNil)) (eTgN 2) b_law_2) (bRet (eC (.bl true))) (E07 ns q none none none none none none)) fun o => o = .rt (.s, .bl true) := by
  refine Dn.le (c := 19000 + 0) (Dn.seq (c1 := 19000) (c2 := 0) (R := fun e => ∃ x2 x3 x4 x5 x6 x7, e = E07 ns q x2 x3 x4 x5 x6 x7) ?_ ?_) (by omega)
  · have hr : eRng rngD1 (eCons (eOp addD (eC (.int 3)) (eCB minD2 (eCons (eCB lenD (eCons (eVar 0) eNil)) (eCons (eC (.int 10)) eNil)))) eNil) (E07 ns q none none none none none none) = .ok ((List.range (3 + min ns.length 10)).map nI) := by
      have c1 : eCB lenD (eCons (eVar 0) eNil) (E07 ns q none none none none none none) = .ok (.s, nI ns.length) := cb_ok (xs := [(.s, .scr ns)]) rfl rfl rfl
      have c2 : eCB minD2 (eCons (eCB lenD (eCons (eVar 0) eNil)) (eCons (eC (.int 10)) eNil)) (E07 ns q none none none none none none) = .ok (.s, nI (min ns.length 10)) := cb_ok (cons_ok c1 (show eCons (eC (.int 10)) eNil _ = .ok [(.s, nI 10)] from rfl)) (min_n ns.length 10) rfl
      have c3 := add_n (x := 3) (show eC (.int 3) (E07 ns q none none none none none none) = .ok (.s, .int ((3 : Nat) : Int)) from rfl) c2
      exact rng1_n c3 (by omega)
    unfold bFor
    rw [hr, ok_bind]
    refine Dn.le (Dn.forGo (c := 805) (I := fun e => ∃ x2 x3 x4 x5 x6 x7, e = E07 ns q x2 x3 x4 x5 x6 x7) nI (List.range (3 + min ns.length 10)) _ ⟨_, _, _, _, _, _, rfl⟩ ?_) (by rw [List.length_range]; omega)
    rintro x - e ⟨x2, x3, x4, x5, x6, x7, rfl⟩
    exact ⟨_, rfl, turn07⟩
  · rintro e -
    exact Dn.ok rfl
theorem law_pure (ns : List Int) (hl : ns.length ≤ 63) : wp [] 1000000000000 (m_law [.scr ns]) (fun _ _ r => r = (.s, .bl true)) (fun _ _ _ => False) := by
  have hG := rest07 hl
  unfold m_law b_law
  unfold E07 at hG
  generalize bSeq (bFor (eRng rngD1 (eCons (eOp addD (eC (.int 3)) (eCB minD2 (eCons (eCB lenD (eCons (eVar 0) eNil)) (eCons (eC (.int 10)) eNil)))) eNil)) (eTgN 2) b_law_2) (bRet (eC (.bl true))) = G at hG ⊢
  simp [bodyM, bSeq, bSet, eCall, eCons, eVar, eNil, okA, isV]
  refine wp_mono (dn_beg (P := fun r => r = (.s, .bl true)) (c := 20000) (by omega) (fun q => ?_) (by omega)) (fun _ _ _ h => h.2) fun _ _ _ h => h
  show Dn q 20000 ((G [some (false, .scr ns), some (false, .drw q), none, none, none, none, none, none]).bind fun o => match o with
    | .nx _ => M.ok ((Md.s, D.non) : Vl)
    | .rt v => M.ok v
    | _ => M.bad) _
  refine Dn.le (c := 20000 + 0) (Dn.bind (hG q) fun o ho => ?_) (by omega)
  subst ho
  exact Dn.ok rfl
end Y

namespace Y
open PySem PySem.Spec PyProof.Rows L2 Z
def top (i : Nat) : Stmt := PySem.Challenge.pw_readhouse_k07_whole_strands_turns_and_ro.main.body.getD i (.Pass ⟨0, 0, 0, 0⟩)
theorem sc__law_begun : FnScope ["_law_script", "_law_wide", "_law_cell"] ["_law_script"] (defScope (top 42)) := ⟨rfl, rfl, rfl, by decide +kernel, rfl, by decide +kernel, by decide +kernel⟩
theorem lk__law_begun {P : Program} {w : World} {k : Kx} {mg : Str → Option Value} {base : Heap} {f : Addr} {fd : FuncData} (B : Blt mg) (F : FunD k.K "_law_begun" "_law_begun" (defArgs (top 42)) (defBody (top 42)) (defScope (top 42)) [] [] f fd) : FnOk P w k.K mg base (L2.CX P w) 1 f fd ["_law_script"] (spM k m_begun) := by
  refine F.ok sc__law_begun (fun vs H Q E h => (pure_begunC (K := k.K) (ca := k.ca) vs H Q E (begun_ok h).2).1) (fun cdv A outer s H vs Q E hr h => ⟨t__law_begun k.K k.ca E, ?_, (pure_begunC (K := k.K) (ca := k.ca) vs H Q E (begun_ok h).2).2⟩)
  have nd := sc__law_begun.nd
  have hu : A.units + 3 + 100 < cLine := by have := hr.un; have e : (A.deeper (envOfC "_law_begun" (defScope (top 42)) s.heap.objs.size f cdv)).units = A.units + 3 := rfl; omega
  have hu1 : A.units + 3 + 1 < cLine := by omega
  have hu10 : A.units + 3 + 10 < cLine := by omega
  have hdp : (A.deeper (envOfC "_law_begun" (defScope (top 42)) s.heap.objs.size f cdv)).depth < recursionLimit := by have := hr.dp; omega
  have hu64 : A.units + 3 + 64 < cLine := by omega
  exact (pss_cons (ps_setLc (i := 1) (own := [("_law_cell", 2)]) rfl nd rfl rfl (sw_true rfl rfl rfl (by decide +kernel)) (pi_list (pv 0)) (blkOk_by rfl) (fun _ _ _ _ _ => (pg_name (i := 2) nd rfl (by first | exact Or.inl rfl | exact Or.inr rfl))) (fun _ _ _ _ _ => (pts_one (pt_cmpR op_ge (pe_callB call_abs rfl B.z_abs (by decide +kernel) (pa_cons (pv 2) pa_nil)) (pe_op op_pow pe_int pe_int) (nomark _)))) (fun _ _ _ _ _ => (pe_op op_sub (pe_callB call_abs rfl B.z_abs (by decide +kernel) (pa_cons (pv 2) pa_nil)) (pe_op op_pow pe_int pe_int)))) (pss_one (ps_ret (pe_disp (pps_cons pe_str (pv 1) (pps_cons pe_str (pe_lc (own := [("_law_cell", 2)]) rfl nd (pi_list (pv 0)) (blkOk_by rfl) (fun _ _ _ _ _ => (pg_name (i := 2) nd rfl (by first | exact Or.inl rfl | exact Or.inr rfl))) (fun _ _ _ _ _ => pts_nil) (fun _ _ _ _ _ => (pe_op op_modN (pe_callTy call_int1 rfl B.z_int (by decide +kernel) (pa_cons (pe_callB call_abs rfl B.z_abs (by decide +kernel) (pa_cons (pv 2) pa_nil)) pa_nil)) pe_int))) (pps_cons pe_str pe_int (pps_cons pe_str pe_int pps_nil)))) (by rfl) (by rfl) (fun z => by cases z) (by decide)))))
theorem sc__law_mixed : FnScope ["_law_draw", "_law_tick", "_law_found", "_law_prime", "_law_blend", "_law_cell"] ["_law_draw"] (defScope (top 43)) := ⟨rfl, rfl, rfl, by decide +kernel, rfl, by decide +kernel, by decide +kernel⟩
theorem lk__law_mixed {P : Program} {w : World} {k : Kx} {mg : Str → Option Value} {base : Heap} {f : Addr} {fd : FuncData} (B : Blt mg) (F : FunD k.K "_law_mixed" "_law_mixed" (defArgs (top 43)) (defBody (top 43)) (defScope (top 43)) [] [] f fd) : FnOk P w k.K mg base (L2.CX P w) 1 f fd ["_law_draw"] (sp__law_mixed k.K k.ca) := by
  refine F.ok sc__law_mixed (fun vs H Q E h => (pure__law_mixed vs H Q E h).1) (fun cdv A outer s H vs Q E hr h => ⟨t__law_mixed k.K k.ca E, ?_, (pure__law_mixed vs H Q E h).2⟩)
  have nd := sc__law_mixed.nd
  have hu : A.units + 3 + 100 < cLine := by have := hr.un; have e : (A.deeper (envOfC "_law_mixed" (defScope (top 43)) s.heap.objs.size f cdv)).units = A.units + 3 := rfl; omega
  have hu1 : A.units + 3 + 1 < cLine := by omega
  have hu10 : A.units + 3 + 10 < cLine := by omega
  have hdp : (A.deeper (envOfC "_law_mixed" (defScope (top 43)) s.heap.objs.size f cdv)).depth < recursionLimit := by have := hr.dp; omega
  have hu64 : A.units + 3 + 64 < cLine := by omega
  exact (pss_cons (ps_par rfl nd rfl rfl (by decide) rfl rfl (pa_cons (pe_op op_add (pe_dget hu1 (pv 0) pe_str (fun _ _ => rfl)) pe_int) (pa_cons pe_int pa_nil)) rfl) (pss_cons (ps_dput hu1 (pv 0) pe_str (pv 1) rfl) (pss_cons (ps_for (passes_of rfl) rfl (pi_list (pe_lst (pa_cons pe_int (pa_cons pe_int (pa_cons pe_int (pa_cons pe_int pa_nil)))))) (pg_name (i := 3) nd rfl (by first | exact Or.inl rfl | exact Or.inr rfl)) (pss_cons (ps_set (i := 4) nd rfl (by first | exact Or.inl rfl | exact Or.inr rfl) (pe_op op_add (pe_op op_mul pe_int (pv 1)) (pe_op op_fdivN (pv 3) pe_int))) (pss_cons (ps_for (passes_of rfl) rfl (pi_list (pe_dget hu1 (pv 0) pe_str (fun _ _ => rfl))) (pg_name (i := 5) nd rfl (by first | exact Or.inl rfl | exact Or.inr rfl)) (pss_one (ps_set (i := 4) nd rfl (by first | exact Or.inl rfl | exact Or.inr rfl) (pe_op op_modN (pe_callTy call_int1 rfl B.z_int (by decide +kernel) (pa_cons (pe_op op_add (pe_op op_add (pe_op op_mul (pv 4) pe_int) (pv 5)) (pv 1)) pa_nil)) (pv 3))))) (pss_one (ps_set (i := 2) nd rfl (by first | exact Or.inl rfl | exact Or.inr rfl) (pe_op op_add (pe_op op_mul (pv 2) pe_int) (pe_op op_modN (pe_callTy call_int1 rfl B.z_int (by decide +kernel) (pa_cons (pe_op op_pow (pv 4) pe_int) pa_nil)) (pv 3)))))))) (pss_one (ps_ret (pv 2))))))
theorem sc__law_take : FnScope ["_law_draw", "_law_total", "_law_found"] ["_law_draw", "_law_total"] (defScope (top 44)) := ⟨rfl, rfl, rfl, by decide +kernel, rfl, by decide +kernel, by decide +kernel⟩
theorem lk__law_take {P : Program} {w : World} {k : Kx} {mg : Str → Option Value} {base : Heap} {f : Addr} {fd : FuncData} (B : Blt mg) (F__law_mixed : FnIs P w k.K mg base 1 "_law_mixed" ["_law_draw"] (sp__law_mixed k.K k.ca)) (F : FunD k.K "_law_take" "_law_take" (defArgs (top 44)) (defBody (top 44)) (defScope (top 44)) [] [] f fd) : FnOk P w k.K mg base (L2.CX P w) 2 f fd ["_law_draw", "_law_total"] (spM k m_take) := by
  refine F.ok sc__law_take (fun vs H Q E h => (pure_takeC (K := k.K) (ca := k.ca) vs H Q E (take_ok h)).1) (fun cdv A outer s H vs Q E hr h => ⟨t__law_take k.K k.ca E, ?_, (pure_takeC (K := k.K) (ca := k.ca) vs H Q E (take_ok h)).2⟩)
  have nd := sc__law_take.nd
  have hu : A.units + 3 + 100 < cLine := by have := hr.un; have e : (A.deeper (envOfC "_law_take" (defScope (top 44)) s.heap.objs.size f cdv)).units = A.units + 3 := rfl; omega
  have hu1 : A.units + 3 + 1 < cLine := by omega
  have hu10 : A.units + 3 + 10 < cLine := by omega
  have hdp : (A.deeper (envOfC "_law_take" (defScope (top 44)) s.heap.objs.size f cdv)).depth < recursionLimit := by have := hr.dp; omega
  have hu64 : A.units + 3 + 64 < cLine := by omega
  exact (pss_cons (ps_if (pt_cmpR op_eq (pe_dget hu1 (pv 0) pe_str (fun _ _ => rfl)) pe_int (nomark _)) (pss_one (ps_dput hu1 (pv 0) pe_str (pe_ifExp (pt_cmpR (op_neD hu64) (pe_dget hu1 (pv 0) pe_str (fun _ _ => rfl)) (pe_lst pa_nil) (nomark _)) (pe_bm PySem.F.plainAttrs_list PySem.F.slot_list_pop PySem.F.type_list_pop mt_popAt (pe_dget hu1 (pv 0) pe_str (fun _ _ => rfl)) (pa_cons pe_int pa_nil)) (pe_fn F__law_mixed (hr.mono (by decide)) rfl (passes_call (takes_of rfl rfl rfl rfl) (fun _ _ _ _ h => h)) (pa_cons (pv 0) pa_nil))) rfl)) pss_nil) (pss_cons (ps_set (i := 2) nd rfl (by first | exact Or.inl rfl | exact Or.inr rfl) (pe_op op_modN (pe_callTy call_int1 rfl B.z_int (by decide +kernel) (pa_cons (pe_dget hu1 (pv 0) pe_str (fun _ _ => rfl)) pa_nil)) (pv 1))) (pss_cons (ps_dput hu1 (pv 0) pe_str (pe_op op_fdivN (pe_dget hu1 (pv 0) pe_str (fun _ _ => rfl)) (pv 1)) rfl) (pss_one (ps_ret (pv 2))))))
theorem sc_is_integer : FnScope ["value"] ["value"] (defScope (top 10)) := ⟨rfl, rfl, rfl, by decide +kernel, rfl, by decide +kernel, by decide +kernel⟩
theorem lk_is_integer {P : Program} {w : World} {k : Kx} {mg : Str → Option Value} {base : Heap} {f : Addr} {fd : FuncData} (B : Blt mg) (hXT : XTab k XT) (F : FunD k.K "is_integer" "is_integer" (defArgs (top 10)) (defBody (top 10)) (defScope (top 10)) [] [] f fd) : FnOk P w k.K mg base (L2.CX P w) 1 f fd ["value"] (spM k m_is_integer) := by
  refine F.ok sc_is_integer (fun vs H Q E h => (body_ok (N := ["value"]) (ar := 1) (t := t_is_integer k) (b := b_is_integer) (fun E => s_is_integer hXT E) h (by decide)).1) (fun cdv A outer s H vs Q E hr h => ⟨t_is_integer k E, ?_, (body_ok (N := ["value"]) (ar := 1) (t := t_is_integer k) (b := b_is_integer) (fun E => s_is_integer hXT E) h (by decide)).2⟩)
  have nd := sc_is_integer.nd
  have hu : A.units + 3 + 100 < cLine := by have := hr.un; have e : (A.deeper (envOfC "is_integer" (defScope (top 10)) s.heap.objs.size f cdv)).units = A.units + 3 := rfl; omega
  have hu1 : A.units + 3 + 1 < cLine := by omega
  have hu10 : A.units + 3 + 10 < cLine := by omega
  have hdp : (A.deeper (envOfC "is_integer" (defScope (top 10)) s.heap.objs.size f cdv)).depth < recursionLimit := by have := hr.dp; omega
  have hu64 : A.units + 3 + 64 < cLine := by omega
  exact (pss_one (ps_ret (L2.pe_and (pe_callB call_isA rfl B.z_isinstance (by decide +kernel) (pa_cons (pv 0) (pa_cons (pe_bltn (v := .ty "int") rfl B.z_int (by decide +kernel) rfl) pa_nil))) (pe_one (pe_not (pe_callB call_isA rfl B.z_isinstance (by decide +kernel) (pa_cons (pv 0) (pa_cons (pe_bltn (v := .ty "bool") rfl B.z_bool (by decide +kernel) rfl) pa_nil))))))))
theorem sc_is_line : FnScope ["value", "sign"] ["value"] (defScope (top 12)) := ⟨rfl, rfl, rfl, by decide +kernel, rfl, by decide +kernel, by decide +kernel⟩
theorem lk_is_line {P : Program} {w : World} {k : Kx} {mg : Str → Option Value} {base : Heap} {f : Addr} {fd : FuncData} (B : Blt mg) (g_LETTERS : ∃ t, mg "LETTERS" = some (.str "acgt" t)) (hXT : XTab k XT) (F : FunD k.K "is_line" "is_line" (defArgs (top 12)) (defBody (top 12)) (defScope (top 12)) [] [] f fd) : FnOk P w k.K mg base (L2.CX P w) 1 f fd ["value"] (spM k m_is_line) := by
  refine F.ok sc_is_line (fun vs H Q E h => (body_ok (N := ["value", "sign"]) (ar := 1) (t := t_is_line k) (b := b_is_line) (fun E => s_is_line hXT E) h (by decide)).1) (fun cdv A outer s H vs Q E hr h => ⟨t_is_line k E, ?_, (body_ok (N := ["value", "sign"]) (ar := 1) (t := t_is_line k) (b := b_is_line) (fun E => s_is_line hXT E) h (by decide)).2⟩)
  have nd := sc_is_line.nd
  have hu : A.units + 3 + 100 < cLine := by have := hr.un; have e : (A.deeper (envOfC "is_line" (defScope (top 12)) s.heap.objs.size f cdv)).units = A.units + 3 := rfl; omega
  have hu1 : A.units + 3 + 1 < cLine := by omega
  have hu10 : A.units + 3 + 10 < cLine := by omega
  have hdp : (A.deeper (envOfC "is_line" (defScope (top 12)) s.heap.objs.size f cdv)).depth < recursionLimit := by have := hr.dp; omega
  have hu64 : A.units + 3 + 64 < cLine := by omega
  exact (pss_one (ps_ret (L2.pe_and (pe_callB call_isA rfl B.z_isinstance (by decide +kernel) (pa_cons (pv 0) (pa_cons (pe_bltn (v := .ty "str") rfl B.z_str (by decide +kernel) rfl) pa_nil))) (pe_one (pe_callB (cr_all rfl) rfl B.z_all (by decide +kernel) (pa_cons (pe_lc (own := [("sign", 1)]) rfl nd (pi_anyD (pv 0)) (blkOk_by rfl) (fun _ _ _ _ _ => (pg_name (i := 1) nd rfl (by first | exact Or.inl rfl | exact Or.inr rfl))) (fun _ _ _ _ _ => pts_nil) (fun _ _ _ _ _ => (pe_cmpR (or_inA hu) (pv 1) (pe_gstr rfl g_LETTERS) rfl))) pa_nil))))))
theorem sc_places_of : FnScope ["text", "piece", "at"] ["text", "piece"] (defScope (top 16)) := ⟨rfl, rfl, rfl, by decide +kernel, rfl, by decide +kernel, by decide +kernel⟩
theorem lk_places_of {P : Program} {w : World} {k : Kx} {mg : Str → Option Value} {base : Heap} {f : Addr} {fd : FuncData} (B : Blt mg) (F : FunD k.K "places_of" "places_of" (defArgs (top 16)) (defBody (top 16)) (defScope (top 16)) [] [] f fd) : FnOk P w k.K mg base (L2.CX P w) 1 f fd ["text", "piece"] (spM k m_places_of) := by
  refine F.ok sc_places_of (fun vs H Q E h => (body_ok (N := ["text", "piece", "at"]) (ar := 2) (t := t_places_of k) (b := b_places_of) (fun E => s_places_of  E) h (by decide)).1) (fun cdv A outer s H vs Q E hr h => ⟨t_places_of k E, ?_, (body_ok (N := ["text", "piece", "at"]) (ar := 2) (t := t_places_of k) (b := b_places_of) (fun E => s_places_of  E) h (by decide)).2⟩)
  have nd := sc_places_of.nd
  have hu : A.units + 3 + 100 < cLine := by have := hr.un; have e : (A.deeper (envOfC "places_of" (defScope (top 16)) s.heap.objs.size f cdv)).units = A.units + 3 := rfl; omega
  have hu1 : A.units + 3 + 1 < cLine := by omega
  have hu10 : A.units + 3 + 10 < cLine := by omega
  have hdp : (A.deeper (envOfC "places_of" (defScope (top 16)) s.heap.objs.size f cdv)).depth < recursionLimit := by have := hr.dp; omega
  have hu64 : A.units + 3 + 64 < cLine := by omega
  exact (pss_one (ps_ret (pe_lc (own := [("at", 2)]) rfl nd (pi_range1 rfl B.z_range (pa_cons (pe_op or_add (pe_op op_sub (pe_callB cr_len rfl B.z_len (by decide +kernel) (pa_cons (pv 0) pa_nil)) (pe_callB cr_len rfl B.z_len (by decide +kernel) (pa_cons (pv 1) pa_nil))) pe_int) pa_nil)) (blkOk_by rfl) (fun _ _ _ _ _ => (pg_name (i := 2) nd rfl (by first | exact Or.inl rfl | exact Or.inr rfl))) (fun _ _ _ _ _ => (pts_one (pt_cmpR (or_eq hu) (pe_slice or_sl (pv 0) (po_some (pv 2)) (po_some (pe_op or_add (pv 2) (pe_callB cr_len rfl B.z_len (by decide +kernel) (pa_cons (pv 1) pa_nil))))) (pv 1) (nomark _)))) (fun _ _ _ _ _ => (pv 2)))))
theorem sc_counted : FnScope ["some", "found", "one"] ["some"] (defScope (top 18)) := ⟨rfl, rfl, rfl, by decide +kernel, rfl, by decide +kernel, by decide +kernel⟩
theorem lk_counted {P : Program} {w : World} {k : Kx} {mg : Str → Option Value} {base : Heap} {f : Addr} {fd : FuncData} (B : Blt mg) (F : FunD k.K "counted" "counted" (defArgs (top 18)) (defBody (top 18)) (defScope (top 18)) [] [] f fd) : FnOk P w k.K mg base (L2.CX P w) 1 f fd ["some"] (spM k m_counted) := by
  refine F.ok sc_counted (fun vs H Q E h => (body_ok (N := ["some", "found", "one"]) (ar := 1) (t := t_counted k) (b := b_counted) (fun E => s_counted  E) h (by decide)).1) (fun cdv A outer s H vs Q E hr h => ⟨t_counted k E, ?_, (body_ok (N := ["some", "found", "one"]) (ar := 1) (t := t_counted k) (b := b_counted) (fun E => s_counted  E) h (by decide)).2⟩)
  have nd := sc_counted.nd
  have hu : A.units + 3 + 100 < cLine := by have := hr.un; have e : (A.deeper (envOfC "counted" (defScope (top 18)) s.heap.objs.size f cdv)).units = A.units + 3 := rfl; omega
  have hu1 : A.units + 3 + 1 < cLine := by omega
  have hu10 : A.units + 3 + 10 < cLine := by omega
  have hdp : (A.deeper (envOfC "counted" (defScope (top 18)) s.heap.objs.size f cdv)).depth < recursionLimit := by have := hr.dp; omega
  have hu64 : A.units + 3 + 64 < cLine := by omega
  exact (pss_cons (ps_set (i := 1) nd rfl (by first | exact Or.inl rfl | exact Or.inr rfl) pe_dnewK) (pss_cons (ps_for (passes_of rfl) rfl (pi_anyD (pv 0)) (pg_name (i := 2) nd rfl (by first | exact Or.inl rfl | exact Or.inr rfl)) (pss_one (ps_dput hu1 (pv 1) (pv 2) (pe_op or_add (pe_dget2 hu1 (pv 1) (pv 2) pe_int ⟨by rfl, by rfl, by rfl, by rfl⟩) pe_int) rfl))) (pss_one (ps_ret (pe_dc (own := [("one", 2)]) rfl nd (pi_anyD (pe_callB (cr_sorted rfl hu) rfl B.z_sorted (by decide +kernel) (pa_cons (pv 1) pa_nil))) (blkOk_by rfl) (fun _ _ _ _ _ => (pg_name (i := 2) nd rfl (by first | exact Or.inl rfl | exact Or.inr rfl))) (fun _ _ _ _ _ => pts_nil) (fun _ _ _ _ _ => (pv 2)) (fun _ _ _ _ _ => (pe_ix (ix_any hu) (pv 1) (pv 2) (fun _ _ => rfl))))))))
theorem sc_stretches : FnScope ["text", "length", "at"] ["text", "length"] (defScope (top 19)) := ⟨rfl, rfl, rfl, by decide +kernel, rfl, by decide +kernel, by decide +kernel⟩
theorem lk_stretches {P : Program} {w : World} {k : Kx} {mg : Str → Option Value} {base : Heap} {f : Addr} {fd : FuncData} (B : Blt mg) (F : FunD k.K "stretches" "stretches" (defArgs (top 19)) (defBody (top 19)) (defScope (top 19)) [] [] f fd) : FnOk P w k.K mg base (L2.CX P w) 1 f fd ["text", "length"] (spM k m_stretches) := by
  refine F.ok sc_stretches (fun vs H Q E h => (body_ok (N := ["text", "length", "at"]) (ar := 2) (t := t_stretches k) (b := b_stretches) (fun E => s_stretches  E) h (by decide)).1) (fun cdv A outer s H vs Q E hr h => ⟨t_stretches k E, ?_, (body_ok (N := ["text", "length", "at"]) (ar := 2) (t := t_stretches k) (b := b_stretches) (fun E => s_stretches  E) h (by decide)).2⟩)
  have nd := sc_stretches.nd
  have hu : A.units + 3 + 100 < cLine := by have := hr.un; have e : (A.deeper (envOfC "stretches" (defScope (top 19)) s.heap.objs.size f cdv)).units = A.units + 3 := rfl; omega
  have hu1 : A.units + 3 + 1 < cLine := by omega
  have hu10 : A.units + 3 + 10 < cLine := by omega
  have hdp : (A.deeper (envOfC "stretches" (defScope (top 19)) s.heap.objs.size f cdv)).depth < recursionLimit := by have := hr.dp; omega
  have hu64 : A.units + 3 + 64 < cLine := by omega
  exact (pss_one (ps_ret (pe_lc (own := [("at", 2)]) rfl nd (pi_range1 rfl B.z_range (pa_cons (pe_op or_add (pe_op op_sub (pe_callB cr_len rfl B.z_len (by decide +kernel) (pa_cons (pv 0) pa_nil)) (pv 1)) pe_int) pa_nil)) (blkOk_by rfl) (fun _ _ _ _ _ => (pg_name (i := 2) nd rfl (by first | exact Or.inl rfl | exact Or.inr rfl))) (fun _ _ _ _ _ => pts_nil) (fun _ _ _ _ _ => (pe_slice or_sl (pv 0) (po_some (pv 2)) (po_some (pe_op or_add (pv 2) (pv 1))))))))
theorem sc_strand_of : FnScope ["text", "sign"] ["text"] (defScope (top 21)) := ⟨rfl, rfl, rfl, by decide +kernel, rfl, by decide +kernel, by decide +kernel⟩
theorem lk_strand_of {P : Program} {w : World} {k : Kx} {mg : Str → Option Value} {base : Heap} {f : Addr} {fd : FuncData} (B : Blt mg) (G_PARTNERS : mg "PARTNERS" = some (.ref (k.ca "PARTNERS"))) (KD_PARTNERS : ∃ es n, KDict k.K w (k.ca "PARTNERS") es n) (KT_PARTNERS : KTab k.K (k.ca "PARTNERS") ([([97], [116]), ([99], [103]), ([103], [99]), ([116], [97])].map fun p : List Nat × List Nat => (S p.1, S p.2))) (F : FunD k.K "strand_of" "strand_of" (defArgs (top 21)) (defBody (top 21)) (defScope (top 21)) [] [] f fd) : FnOk P w k.K mg base (L2.CX P w) 1 f fd ["text"] (spM k m_strand_of) := by
  refine F.ok sc_strand_of (fun vs H Q E h => (body_ok (N := ["text", "sign"]) (ar := 1) (t := t_strand_of k) (b := b_strand_of) (fun E => s_strand_of KT_PARTNERS E) h (by decide)).1) (fun cdv A outer s H vs Q E hr h => ⟨t_strand_of k E, ?_, (body_ok (N := ["text", "sign"]) (ar := 1) (t := t_strand_of k) (b := b_strand_of) (fun E => s_strand_of KT_PARTNERS E) h (by decide)).2⟩)
  have nd := sc_strand_of.nd
  have hu : A.units + 3 + 100 < cLine := by have := hr.un; have e : (A.deeper (envOfC "strand_of" (defScope (top 21)) s.heap.objs.size f cdv)).units = A.units + 3 := rfl; omega
  have hu1 : A.units + 3 + 1 < cLine := by omega
  have hu10 : A.units + 3 + 10 < cLine := by omega
  have hdp : (A.deeper (envOfC "strand_of" (defScope (top 21)) s.heap.objs.size f cdv)).depth < recursionLimit := by have := hr.dp; omega
  have hu64 : A.units + 3 + 64 < cLine := by omega
  exact (pss_one (ps_ret (pe_join pe_str (pe_lc (own := [("sign", 1)]) rfl nd (pi_anyD (pe_revS (pv 0))) (blkOk_by rfl) (fun _ _ _ _ _ => (pg_name (i := 1) nd rfl (by first | exact Or.inl rfl | exact Or.inr rfl))) (fun _ _ _ _ _ => pts_nil) (fun _ _ _ _ _ => (pe_kd KD_PARTNERS rfl G_PARTNERS (pv 1)))))))
theorem sc_borders_of : FnScope ["text", "length"] ["text"] (defScope (top 23)) := ⟨rfl, rfl, rfl, by decide +kernel, rfl, by decide +kernel, by decide +kernel⟩
theorem lk_borders_of {P : Program} {w : World} {k : Kx} {mg : Str → Option Value} {base : Heap} {f : Addr} {fd : FuncData} (B : Blt mg) (F : FunD k.K "borders_of" "borders_of" (defArgs (top 23)) (defBody (top 23)) (defScope (top 23)) [] [] f fd) : FnOk P w k.K mg base (L2.CX P w) 1 f fd ["text"] (spM k m_borders_of) := by
  refine F.ok sc_borders_of (fun vs H Q E h => (body_ok (N := ["text", "length"]) (ar := 1) (t := t_borders_of k) (b := b_borders_of) (fun E => s_borders_of  E) h (by decide)).1) (fun cdv A outer s H vs Q E hr h => ⟨t_borders_of k E, ?_, (body_ok (N := ["text", "length"]) (ar := 1) (t := t_borders_of k) (b := b_borders_of) (fun E => s_borders_of  E) h (by decide)).2⟩)
  have nd := sc_borders_of.nd
  have hu : A.units + 3 + 100 < cLine := by have := hr.un; have e : (A.deeper (envOfC "borders_of" (defScope (top 23)) s.heap.objs.size f cdv)).units = A.units + 3 := rfl; omega
  have hu1 : A.units + 3 + 1 < cLine := by omega
  have hu10 : A.units + 3 + 10 < cLine := by omega
  have hdp : (A.deeper (envOfC "borders_of" (defScope (top 23)) s.heap.objs.size f cdv)).depth < recursionLimit := by have := hr.dp; omega
  have hu64 : A.units + 3 + 64 < cLine := by omega
  exact (pss_one (ps_ret (pe_lc (own := [("length", 1)]) rfl nd (pi_range2 rfl B.z_range (pa_cons pe_int (pa_cons (pe_callB cr_len rfl B.z_len (by decide +kernel) (pa_cons (pv 0) pa_nil)) pa_nil))) (blkOk_by rfl) (fun _ _ _ _ _ => (pg_name (i := 1) nd rfl (by first | exact Or.inl rfl | exact Or.inr rfl))) (fun _ _ _ _ _ => (pts_one (pt_cmpR (or_eq hu) (pe_slice or_sl (pv 0) po_none (po_some (pv 1))) (pe_slice or_sl (pv 0) (po_some (pe_op op_sub (pe_callB cr_len rfl B.z_len (by decide +kernel) (pa_cons (pv 0) pa_nil)) (pv 1))) po_none) (nomark _)))) (fun _ _ _ _ _ => (pv 1)))))
theorem sc_root_of : FnScope ["text", "length"] ["text"] (defScope (top 25)) := ⟨rfl, rfl, rfl, by decide +kernel, rfl, by decide +kernel, by decide +kernel⟩
theorem lk_root_of {P : Program} {w : World} {k : Kx} {mg : Str → Option Value} {base : Heap} {f : Addr} {fd : FuncData} (B : Blt mg) (F : FunD k.K "root_of" "root_of" (defArgs (top 25)) (defBody (top 25)) (defScope (top 25)) [] [] f fd) : FnOk P w k.K mg base (L2.CX P w) 1 f fd ["text"] (spM k m_root_of) := by
  refine F.ok sc_root_of (fun vs H Q E h => (body_ok (N := ["text", "length"]) (ar := 1) (t := t_root_of k) (b := b_root_of) (fun E => s_root_of  E) h (by decide)).1) (fun cdv A outer s H vs Q E hr h => ⟨t_root_of k E, ?_, (body_ok (N := ["text", "length"]) (ar := 1) (t := t_root_of k) (b := b_root_of) (fun E => s_root_of  E) h (by decide)).2⟩)
  have nd := sc_root_of.nd
  have hu : A.units + 3 + 100 < cLine := by have := hr.un; have e : (A.deeper (envOfC "root_of" (defScope (top 25)) s.heap.objs.size f cdv)).units = A.units + 3 := rfl; omega
  have hu1 : A.units + 3 + 1 < cLine := by omega
  have hu10 : A.units + 3 + 10 < cLine := by omega
  have hdp : (A.deeper (envOfC "root_of" (defScope (top 25)) s.heap.objs.size f cdv)).depth < recursionLimit := by have := hr.dp; omega
  have hu64 : A.units + 3 + 64 < cLine := by omega
  exact (pss_cons (ps_for (passes_of rfl) rfl (pi_range2 rfl B.z_range (pa_cons pe_int (pa_cons (pe_callB cr_len rfl B.z_len (by decide +kernel) (pa_cons (pv 0) pa_nil)) pa_nil))) (pg_name (i := 1) nd rfl (by first | exact Or.inl rfl | exact Or.inr rfl)) (pss_one (ps_if (PW.pt (pw_and (pt_cmpR (or_eq hu) (pe_op op_modN (pe_callB cr_len rfl B.z_len (by decide +kernel) (pa_cons (pv 0) pa_nil)) (pv 1)) pe_int (nomark _)) (pw_and1 (pt_cmpR (or_eq hu) (pe_op or_mul (pe_slice or_sl (pv 0) po_none (po_some (pv 1))) (pe_op op_fdivN (pe_callB cr_len rfl B.z_len (by decide +kernel) (pa_cons (pv 0) pa_nil)) (pv 1))) (pv 0) (nomark _))))) (pss_one (ps_ret (pe_tup (pa_cons (pe_slice or_sl (pv 0) po_none (po_some (pv 1))) (pa_cons (pe_op op_fdivN (pe_callB cr_len rfl B.z_len (by decide +kernel) (pa_cons (pv 0) pa_nil)) (pv 1)) pa_nil))))) pss_nil))) (pss_one (ps_ret (pe_tup (pa_cons (pv 0) (pa_cons pe_int pa_nil))))))
theorem sc_turn_of : FnScope ["text", "number"] ["text", "number"] (defScope (top 29)) := ⟨rfl, rfl, rfl, by decide +kernel, rfl, by decide +kernel, by decide +kernel⟩
theorem lk_turn_of {P : Program} {w : World} {k : Kx} {mg : Str → Option Value} {base : Heap} {f : Addr} {fd : FuncData} (B : Blt mg) (F : FunD k.K "turn_of" "turn_of" (defArgs (top 29)) (defBody (top 29)) (defScope (top 29)) [] [] f fd) : FnOk P w k.K mg base (L2.CX P w) 1 f fd ["text", "number"] (spM k m_turn_of) := by
  refine F.ok sc_turn_of (fun vs H Q E h => (body_ok (N := ["text", "number"]) (ar := 2) (t := t_turn_of k) (b := b_turn_of) (fun E => s_turn_of  E) h (by decide)).1) (fun cdv A outer s H vs Q E hr h => ⟨t_turn_of k E, ?_, (body_ok (N := ["text", "number"]) (ar := 2) (t := t_turn_of k) (b := b_turn_of) (fun E => s_turn_of  E) h (by decide)).2⟩)
  have nd := sc_turn_of.nd
  have hu : A.units + 3 + 100 < cLine := by have := hr.un; have e : (A.deeper (envOfC "turn_of" (defScope (top 29)) s.heap.objs.size f cdv)).units = A.units + 3 := rfl; omega
  have hu1 : A.units + 3 + 1 < cLine := by omega
  have hu10 : A.units + 3 + 10 < cLine := by omega
  have hdp : (A.deeper (envOfC "turn_of" (defScope (top 29)) s.heap.objs.size f cdv)).depth < recursionLimit := by have := hr.dp; omega
  have hu64 : A.units + 3 + 64 < cLine := by omega
  exact (pss_one (ps_ret (pe_op or_add (pe_slice or_sl (pv 0) (po_some (pv 1)) po_none) (pe_slice or_sl (pv 0) po_none (po_some (pv 1))))))
theorem sc_read_on : FnScope ["text", "at", "length", "step"] ["text", "at", "length"] (defScope (top 35)) := ⟨rfl, rfl, rfl, by decide +kernel, rfl, by decide +kernel, by decide +kernel⟩
theorem lk_read_on {P : Program} {w : World} {k : Kx} {mg : Str → Option Value} {base : Heap} {f : Addr} {fd : FuncData} (B : Blt mg) (F : FunD k.K "read_on" "read_on" (defArgs (top 35)) (defBody (top 35)) (defScope (top 35)) [] [] f fd) : FnOk P w k.K mg base (L2.CX P w) 1 f fd ["text", "at", "length"] (spM k m_read_on) := by
  refine F.ok sc_read_on (fun vs H Q E h => (body_ok (N := ["text", "at", "length", "step"]) (ar := 3) (t := t_read_on k) (b := b_read_on) (fun E => s_read_on  E) h (by decide)).1) (fun cdv A outer s H vs Q E hr h => ⟨t_read_on k E, ?_, (body_ok (N := ["text", "at", "length", "step"]) (ar := 3) (t := t_read_on k) (b := b_read_on) (fun E => s_read_on  E) h (by decide)).2⟩)
  have nd := sc_read_on.nd
  have hu : A.units + 3 + 100 < cLine := by have := hr.un; have e : (A.deeper (envOfC "read_on" (defScope (top 35)) s.heap.objs.size f cdv)).units = A.units + 3 := rfl; omega
  have hu1 : A.units + 3 + 1 < cLine := by omega
  have hu10 : A.units + 3 + 10 < cLine := by omega
  have hdp : (A.deeper (envOfC "read_on" (defScope (top 35)) s.heap.objs.size f cdv)).depth < recursionLimit := by have := hr.dp; omega
  have hu64 : A.units + 3 + 64 < cLine := by omega
  exact (pss_one (ps_ret (pe_join pe_str (pe_lc (own := [("step", 3)]) rfl nd (pi_range1 rfl B.z_range (pa_cons (pv 2) pa_nil)) (blkOk_by rfl) (fun _ _ _ _ _ => (pg_name (i := 3) nd rfl (by first | exact Or.inl rfl | exact Or.inr rfl))) (fun _ _ _ _ _ => pts_nil) (fun _ _ _ _ _ => (pe_ix (ix_any hu) (pv 0) (pe_op op_modN (pe_op or_add (pv 1) (pv 3)) (pe_callB cr_len rfl B.z_len (by decide +kernel) (pa_cons (pv 0) pa_nil))) (fun _ _ => rfl)))))))
theorem sc__law_counted : FnScope ["_law_some", "_law_found", "_law_one"] ["_law_some"] (defScope (top 49)) := ⟨rfl, rfl, rfl, by decide +kernel, rfl, by decide +kernel, by decide +kernel⟩
theorem lk__law_counted {P : Program} {w : World} {k : Kx} {mg : Str → Option Value} {base : Heap} {f : Addr} {fd : FuncData} (B : Blt mg) (F : FunD k.K "_law_counted" "_law_counted" (defArgs (top 49)) (defBody (top 49)) (defScope (top 49)) [] [] f fd) : FnOk P w k.K mg base (L2.CX P w) 1 f fd ["_law_some"] (spM k m__law_counted) := by
  refine F.ok sc__law_counted (fun vs H Q E h => (body_ok (N := ["_law_some", "_law_found", "_law_one"]) (ar := 1) (t := t__law_counted k) (b := b__law_counted) (fun E => s__law_counted  E) h (by decide)).1) (fun cdv A outer s H vs Q E hr h => ⟨t__law_counted k E, ?_, (body_ok (N := ["_law_some", "_law_found", "_law_one"]) (ar := 1) (t := t__law_counted k) (b := b__law_counted) (fun E => s__law_counted  E) h (by decide)).2⟩)
  have nd := sc__law_counted.nd
  have hu : A.units + 3 + 100 < cLine := by have := hr.un; have e : (A.deeper (envOfC "_law_counted" (defScope (top 49)) s.heap.objs.size f cdv)).units = A.units + 3 := rfl; omega
  have hu1 : A.units + 3 + 1 < cLine := by omega
  have hu10 : A.units + 3 + 10 < cLine := by omega
  have hdp : (A.deeper (envOfC "_law_counted" (defScope (top 49)) s.heap.objs.size f cdv)).depth < recursionLimit := by have := hr.dp; omega
  have hu64 : A.units + 3 + 64 < cLine := by omega
  exact (pss_cons (ps_set (i := 1) nd rfl (by first | exact Or.inl rfl | exact Or.inr rfl) pe_dnewK) (pss_cons (ps_for (passes_of rfl) rfl (pi_anyD (pe_callB (cr_sorted rfl hu) rfl B.z_sorted (by decide +kernel) (pa_cons (pv 0) pa_nil))) (pg_name (i := 2) nd rfl (by first | exact Or.inl rfl | exact Or.inr rfl)) (pss_one (ps_dput hu1 (pv 1) (pv 2) (pe_op or_add (pe_dget2 hu1 (pv 1) (pv 2) pe_int ⟨by rfl, by rfl, by rfl, by rfl⟩) pe_int) rfl))) (pss_one (ps_ret (pv 1)))))
theorem sc_is_between : FnScope ["value", "least", "most"] ["value", "least", "most"] (defScope (top 11)) := ⟨rfl, rfl, rfl, by decide +kernel, rfl, by decide +kernel, by decide +kernel⟩
theorem lk_is_between {P : Program} {w : World} {k : Kx} {mg : Str → Option Value} {base : Heap} {f : Addr} {fd : FuncData} (B : Blt mg) (F_is_integer : FnIs P w k.K mg base 1 "is_integer" ["value"] (spM k m_is_integer)) (F : FunD k.K "is_between" "is_between" (defArgs (top 11)) (defBody (top 11)) (defScope (top 11)) [] [] f fd) : FnOk P w k.K mg base (L2.CX P w) 2 f fd ["value", "least", "most"] (spM k m_is_between) := by
  refine F.ok sc_is_between (fun vs H Q E h => (body_ok (N := ["value", "least", "most"]) (ar := 3) (t := t_is_between k) (b := b_is_between) (fun E => s_is_between  E) h (by decide)).1) (fun cdv A outer s H vs Q E hr h => ⟨t_is_between k E, ?_, (body_ok (N := ["value", "least", "most"]) (ar := 3) (t := t_is_between k) (b := b_is_between) (fun E => s_is_between  E) h (by decide)).2⟩)
  have nd := sc_is_between.nd
  have hu : A.units + 3 + 100 < cLine := by have := hr.un; have e : (A.deeper (envOfC "is_between" (defScope (top 11)) s.heap.objs.size f cdv)).units = A.units + 3 := rfl; omega
  have hu1 : A.units + 3 + 1 < cLine := by omega
  have hu10 : A.units + 3 + 10 < cLine := by omega
  have hdp : (A.deeper (envOfC "is_between" (defScope (top 11)) s.heap.objs.size f cdv)).depth < recursionLimit := by have := hr.dp; omega
  have hu64 : A.units + 3 + 64 < cLine := by omega
  exact (pss_one (ps_ret (L2.pe_and (pe_fn F_is_integer (hr.mono (by decide)) rfl (passes_call (takes_of rfl rfl rfl rfl) (fun _ _ _ _ h => h)) (pa_cons (pv 0) pa_nil)) (pe_one (pe_chain op_le op_le (pv 1) (pv 0) (pv 2))))))
theorem sc_is_word : FnScope ["value"] ["value"] (defScope (top 13)) := ⟨rfl, rfl, rfl, by decide +kernel, rfl, by decide +kernel, by decide +kernel⟩
theorem lk_is_word {P : Program} {w : World} {k : Kx} {mg : Str → Option Value} {base : Heap} {f : Addr} {fd : FuncData} (B : Blt mg) (F_is_line : FnIs P w k.K mg base 1 "is_line" ["value"] (spM k m_is_line)) (F : FunD k.K "is_word" "is_word" (defArgs (top 13)) (defBody (top 13)) (defScope (top 13)) [] [] f fd) : FnOk P w k.K mg base (L2.CX P w) 2 f fd ["value"] (spM k m_is_word) := by
  refine F.ok sc_is_word (fun vs H Q E h => (body_ok (N := ["value"]) (ar := 1) (t := t_is_word k) (b := b_is_word) (fun E => s_is_word  E) h (by decide)).1) (fun cdv A outer s H vs Q E hr h => ⟨t_is_word k E, ?_, (body_ok (N := ["value"]) (ar := 1) (t := t_is_word k) (b := b_is_word) (fun E => s_is_word  E) h (by decide)).2⟩)
  have nd := sc_is_word.nd
  have hu : A.units + 3 + 100 < cLine := by have := hr.un; have e : (A.deeper (envOfC "is_word" (defScope (top 13)) s.heap.objs.size f cdv)).units = A.units + 3 := rfl; omega
  have hu1 : A.units + 3 + 1 < cLine := by omega
  have hu10 : A.units + 3 + 10 < cLine := by omega
  have hdp : (A.deeper (envOfC "is_word" (defScope (top 13)) s.heap.objs.size f cdv)).depth < recursionLimit := by have := hr.dp; omega
  have hu64 : A.units + 3 + 64 < cLine := by omega
  exact (pss_one (ps_ret (L2.pe_and (pe_fn F_is_line (hr.mono (by decide)) rfl (passes_call (takes_of rfl rfl rfl rfl) (fun _ _ _ _ h => h)) (pa_cons (pv 0) pa_nil)) (pe_one (pe_cmpR op_gt (pe_callB cr_len rfl B.z_len (by decide +kernel) (pa_cons (pv 0) pa_nil)) pe_int (nomark _))))))
theorem sc_least_turn : FnScope ["text", "number"] ["text"] (defScope (top 30)) := ⟨rfl, rfl, rfl, by decide +kernel, rfl, by decide +kernel, by decide +kernel⟩
theorem lk_least_turn {P : Program} {w : World} {k : Kx} {mg : Str → Option Value} {base : Heap} {f : Addr} {fd : FuncData} (B : Blt mg) (F_turn_of : FnIs P w k.K mg base 1 "turn_of" ["text", "number"] (spM k m_turn_of)) (F : FunD k.K "least_turn" "least_turn" (defArgs (top 30)) (defBody (top 30)) (defScope (top 30)) [] [] f fd) : FnOk P w k.K mg base (L2.CX P w) 2 f fd ["text"] (spM k m_least_turn) := by
  refine F.ok sc_least_turn (fun vs H Q E h => (body_ok (N := ["text", "number"]) (ar := 1) (t := t_least_turn k) (b := b_least_turn) (fun E => s_least_turn  E) h (by decide)).1) (fun cdv A outer s H vs Q E hr h => ⟨t_least_turn k E, ?_, (body_ok (N := ["text", "number"]) (ar := 1) (t := t_least_turn k) (b := b_least_turn) (fun E => s_least_turn  E) h (by decide)).2⟩)
  have nd := sc_least_turn.nd
  have hu : A.units + 3 + 100 < cLine := by have := hr.un; have e : (A.deeper (envOfC "least_turn" (defScope (top 30)) s.heap.objs.size f cdv)).units = A.units + 3 := rfl; omega
  have hu1 : A.units + 3 + 1 < cLine := by omega
  have hu10 : A.units + 3 + 10 < cLine := by omega
  have hdp : (A.deeper (envOfC "least_turn" (defScope (top 30)) s.heap.objs.size f cdv)).depth < recursionLimit := by have := hr.dp; omega
  have hu64 : A.units + 3 + 64 < cLine := by omega
  exact (pss_one (ps_ret (pe_callB (cr_minD rfl hu) rfl B.z_min (by decide +kernel) (pa_cons (pe_lc (own := [("number", 1)]) rfl nd (pi_range1 rfl B.z_range (pa_cons (pe_callB cr_len rfl B.z_len (by decide +kernel) (pa_cons (pv 0) pa_nil)) pa_nil)) (blkOk_by rfl) (fun _ _ _ _ _ => (pg_name (i := 1) nd rfl (by first | exact Or.inl rfl | exact Or.inr rfl))) (fun _ _ _ _ _ => pts_nil) (fun _ _ _ _ _ => (pe_fn F_turn_of (hr.mono (by decide)) rfl passL (pa_cons (pv 0) (pa_cons (pv 1) pa_nil))))) pa_nil))))
theorem sc_ring_stretches : FnScope ["text", "length", "at"] ["text", "length"] (defScope (top 36)) := ⟨rfl, rfl, rfl, by decide +kernel, rfl, by decide +kernel, by decide +kernel⟩
theorem lk_ring_stretches {P : Program} {w : World} {k : Kx} {mg : Str → Option Value} {base : Heap} {f : Addr} {fd : FuncData} (B : Blt mg) (F_read_on : FnIs P w k.K mg base 1 "read_on" ["text", "at", "length"] (spM k m_read_on)) (F : FunD k.K "ring_stretches" "ring_stretches" (defArgs (top 36)) (defBody (top 36)) (defScope (top 36)) [] [] f fd) : FnOk P w k.K mg base (L2.CX P w) 2 f fd ["text", "length"] (spM k m_ring_stretches) := by
  refine F.ok sc_ring_stretches (fun vs H Q E h => (body_ok (N := ["text", "length", "at"]) (ar := 2) (t := t_ring_stretches k) (b := b_ring_stretches) (fun E => s_ring_stretches  E) h (by decide)).1) (fun cdv A outer s H vs Q E hr h => ⟨t_ring_stretches k E, ?_, (body_ok (N := ["text", "length", "at"]) (ar := 2) (t := t_ring_stretches k) (b := b_ring_stretches) (fun E => s_ring_stretches  E) h (by decide)).2⟩)
  have nd := sc_ring_stretches.nd
  have hu : A.units + 3 + 100 < cLine := by have := hr.un; have e : (A.deeper (envOfC "ring_stretches" (defScope (top 36)) s.heap.objs.size f cdv)).units = A.units + 3 := rfl; omega
  have hu1 : A.units + 3 + 1 < cLine := by omega
  have hu10 : A.units + 3 + 10 < cLine := by omega
  have hdp : (A.deeper (envOfC "ring_stretches" (defScope (top 36)) s.heap.objs.size f cdv)).depth < recursionLimit := by have := hr.dp; omega
  have hu64 : A.units + 3 + 64 < cLine := by omega
  exact (pss_one (ps_ret (pe_lc (own := [("at", 2)]) rfl nd (pi_range1 rfl B.z_range (pa_cons (pe_callB cr_len rfl B.z_len (by decide +kernel) (pa_cons (pv 0) pa_nil)) pa_nil)) (blkOk_by rfl) (fun _ _ _ _ _ => (pg_name (i := 2) nd rfl (by first | exact Or.inl rfl | exact Or.inr rfl))) (fun _ _ _ _ _ => pts_nil) (fun _ _ _ _ _ => (pe_fn F_read_on (hr.mono (by decide)) rfl passL (pa_cons (pv 0) (pa_cons (pv 2) (pa_cons (pv 1) pa_nil))))))))
theorem sc_need_word : FnScope ["word"] ["word"] (defScope (top 14)) := ⟨rfl, rfl, rfl, by decide +kernel, rfl, by decide +kernel, by decide +kernel⟩
theorem lk_need_word {P : Program} {w : World} {k : Kx} {mg : Str → Option Value} {base : Heap} {f : Addr} {fd : FuncData} (B : Blt mg) (F_is_word : FnIs P w k.K mg base 2 "is_word" ["value"] (spM k m_is_word)) (x_BadWord : ExcIs k.K mg "BadWord" (k.ca "BadWord")) (F : FunD k.K "need_word" "need_word" (defArgs (top 14)) (defBody (top 14)) (defScope (top 14)) [] [] f fd) : FnOk P w k.K mg base (L2.CX P w) 3 f fd ["word"] (spM k m_need_word) := by
  refine F.ok sc_need_word (fun vs H Q E h => (body_ok (N := ["word"]) (ar := 1) (t := t_need_word k) (b := b_need_word) (fun E => s_need_word  E) h (by decide)).1) (fun cdv A outer s H vs Q E hr h => ⟨t_need_word k E, ?_, (body_ok (N := ["word"]) (ar := 1) (t := t_need_word k) (b := b_need_word) (fun E => s_need_word  E) h (by decide)).2⟩)
  have nd := sc_need_word.nd
  have hu : A.units + 3 + 100 < cLine := by have := hr.un; have e : (A.deeper (envOfC "need_word" (defScope (top 14)) s.heap.objs.size f cdv)).units = A.units + 3 := rfl; omega
  have hu1 : A.units + 3 + 1 < cLine := by omega
  have hu10 : A.units + 3 + 10 < cLine := by omega
  have hdp : (A.deeper (envOfC "need_word" (defScope (top 14)) s.heap.objs.size f cdv)).depth < recursionLimit := by have := hr.dp; omega
  have hu64 : A.units + 3 + 64 < cLine := by omega
  exact (pss_one (ps_if (pt_not (pt_val (pe_fn F_is_word (hr.mono (by decide)) rfl (passes_call (takes_of rfl rfl rfl rfl) (fun _ _ _ _ h => h)) (pa_cons (pv 0) pa_nil)))) (pss_one (ps_raise rfl (takes_of rfl rfl rfl rfl) (pmk_exc x_BadWord (by rfl)))) pss_nil))
theorem sc_need_length : FnScope ["length"] ["length"] (defScope (top 15)) := ⟨rfl, rfl, rfl, by decide +kernel, rfl, by decide +kernel, by decide +kernel⟩
theorem lk_need_length {P : Program} {w : World} {k : Kx} {mg : Str → Option Value} {base : Heap} {f : Addr} {fd : FuncData} (B : Blt mg) (F_is_between : FnIs P w k.K mg base 2 "is_between" ["value", "least", "most"] (spM k m_is_between)) (x_BadLength : ExcIs k.K mg "BadLength" (k.ca "BadLength")) (g_MOST_LETTERS : ∃ t, mg "MOST_LETTERS" = some (.int 120 t)) (F : FunD k.K "need_length" "need_length" (defArgs (top 15)) (defBody (top 15)) (defScope (top 15)) [] [] f fd) : FnOk P w k.K mg base (L2.CX P w) 3 f fd ["length"] (spM k m_need_length) := by
  refine F.ok sc_need_length (fun vs H Q E h => (body_ok (N := ["length"]) (ar := 1) (t := t_need_length k) (b := b_need_length) (fun E => s_need_length  E) h (by decide)).1) (fun cdv A outer s H vs Q E hr h => ⟨t_need_length k E, ?_, (body_ok (N := ["length"]) (ar := 1) (t := t_need_length k) (b := b_need_length) (fun E => s_need_length  E) h (by decide)).2⟩)
  have nd := sc_need_length.nd
  have hu : A.units + 3 + 100 < cLine := by have := hr.un; have e : (A.deeper (envOfC "need_length" (defScope (top 15)) s.heap.objs.size f cdv)).units = A.units + 3 := rfl; omega
  have hu1 : A.units + 3 + 1 < cLine := by omega
  have hu10 : A.units + 3 + 10 < cLine := by omega
  have hdp : (A.deeper (envOfC "need_length" (defScope (top 15)) s.heap.objs.size f cdv)).depth < recursionLimit := by have := hr.dp; omega
  have hu64 : A.units + 3 + 64 < cLine := by omega
  exact (pss_one (ps_if (pt_not (pt_val (pe_fn F_is_between (hr.mono (by decide)) rfl (passes_call (takes_of rfl rfl rfl rfl) (fun _ _ _ _ h => h)) (pa_cons (pv 0) (pa_cons pe_int (pa_cons (pe_gint rfl g_MOST_LETTERS) pa_nil)))))) (pss_one (ps_raise rfl (takes_of rfl rfl rfl rfl) (pmk_exc x_BadLength (by rfl)))) pss_nil))
theorem sc_is_ring : FnScope ["value"] ["value"] (defScope (top 31)) := ⟨rfl, rfl, rfl, by decide +kernel, rfl, by decide +kernel, by decide +kernel⟩
theorem lk_is_ring {P : Program} {w : World} {k : Kx} {mg : Str → Option Value} {base : Heap} {f : Addr} {fd : FuncData} (B : Blt mg) (F_is_word : FnIs P w k.K mg base 2 "is_word" ["value"] (spM k m_is_word)) (F_least_turn : FnIs P w k.K mg base 2 "least_turn" ["text"] (spM k m_least_turn)) (F : FunD k.K "is_ring" "is_ring" (defArgs (top 31)) (defBody (top 31)) (defScope (top 31)) [] [] f fd) : FnOk P w k.K mg base (L2.CX P w) 3 f fd ["value"] (spM k m_is_ring) := by
  refine F.ok sc_is_ring (fun vs H Q E h => (body_ok (N := ["value"]) (ar := 1) (t := t_is_ring k) (b := b_is_ring) (fun E => s_is_ring  E) h (by decide)).1) (fun cdv A outer s H vs Q E hr h => ⟨t_is_ring k E, ?_, (body_ok (N := ["value"]) (ar := 1) (t := t_is_ring k) (b := b_is_ring) (fun E => s_is_ring  E) h (by decide)).2⟩)
  have nd := sc_is_ring.nd
  have hu : A.units + 3 + 100 < cLine := by have := hr.un; have e : (A.deeper (envOfC "is_ring" (defScope (top 31)) s.heap.objs.size f cdv)).units = A.units + 3 := rfl; omega
  have hu1 : A.units + 3 + 1 < cLine := by omega
  have hu10 : A.units + 3 + 10 < cLine := by omega
  have hdp : (A.deeper (envOfC "is_ring" (defScope (top 31)) s.heap.objs.size f cdv)).depth < recursionLimit := by have := hr.dp; omega
  have hu64 : A.units + 3 + 64 < cLine := by omega
  exact (pss_one (ps_ret (L2.pe_and (pe_fn F_is_word (hr.mono (by decide)) rfl (passes_call (takes_of rfl rfl rfl rfl) (fun _ _ _ _ h => h)) (pa_cons (pv 0) pa_nil)) (pe_one (pe_cmpR (or_eq hu) (pe_fn F_least_turn (hr.mono (by decide)) rfl (passes_call (takes_of rfl rfl rfl rfl) (fun _ _ _ _ h => h)) (pa_cons (pv 0) pa_nil)) (pv 0) (nomark _))))))
theorem sc_ring_places : FnScope ["text", "piece", "at", "stretch"] ["text", "piece"] (defScope (top 37)) := ⟨rfl, rfl, rfl, by decide +kernel, rfl, by decide +kernel, by decide +kernel⟩
theorem lk_ring_places {P : Program} {w : World} {k : Kx} {mg : Str → Option Value} {base : Heap} {f : Addr} {fd : FuncData} (B : Blt mg) (F_ring_stretches : FnIs P w k.K mg base 2 "ring_stretches" ["text", "length"] (spM k m_ring_stretches)) (F : FunD k.K "ring_places" "ring_places" (defArgs (top 37)) (defBody (top 37)) (defScope (top 37)) [] [] f fd) : FnOk P w k.K mg base (L2.CX P w) 3 f fd ["text", "piece"] (spM k m_ring_places) := by
  refine F.ok sc_ring_places (fun vs H Q E h => (body_ok (N := ["text", "piece", "at", "stretch"]) (ar := 2) (t := t_ring_places k) (b := b_ring_places) (fun E => s_ring_places  E) h (by decide)).1) (fun cdv A outer s H vs Q E hr h => ⟨t_ring_places k E, ?_, (body_ok (N := ["text", "piece", "at", "stretch"]) (ar := 2) (t := t_ring_places k) (b := b_ring_places) (fun E => s_ring_places  E) h (by decide)).2⟩)
  have nd := sc_ring_places.nd
  have hu : A.units + 3 + 100 < cLine := by have := hr.un; have e : (A.deeper (envOfC "ring_places" (defScope (top 37)) s.heap.objs.size f cdv)).units = A.units + 3 := rfl; omega
  have hu1 : A.units + 3 + 1 < cLine := by omega
  have hu10 : A.units + 3 + 10 < cLine := by omega
  have hdp : (A.deeper (envOfC "ring_places" (defScope (top 37)) s.heap.objs.size f cdv)).depth < recursionLimit := by have := hr.dp; omega
  have hu64 : A.units + 3 + 64 < cLine := by omega
  exact (pss_one (ps_ret (pe_lc (own := [("at", 2), ("stretch", 3)]) rfl nd (pi_enumA rfl B.z_enumerate (pa_cons (pe_fn F_ring_stretches (hr.mono (by decide)) rfl (passes_call (takes_of rfl rfl rfl rfl) (fun _ _ _ _ h => h)) (pa_cons (pv 0) (pa_cons (pe_callB cr_len rfl B.z_len (by decide +kernel) (pa_cons (pv 1) pa_nil)) pa_nil))) pa_nil)) (blkOk_by rfl) (fun _ _ _ _ _ => (pg_tl (pg_tup rfl (pgs_cons (pg_name (i := 2) nd rfl (by first | exact Or.inl rfl | exact Or.inr rfl)) (pgs_cons (pg_name (i := 3) nd rfl (by first | exact Or.inl rfl | exact Or.inr rfl)) pgs_nil))) (pg_unl rfl (pgs_cons (pg_name (i := 2) nd rfl (by first | exact Or.inl rfl | exact Or.inr rfl)) (pgs_cons (pg_name (i := 3) nd rfl (by first | exact Or.inl rfl | exact Or.inr rfl)) pgs_nil))))) (fun _ _ _ _ _ => (pts_one (pt_cmpR (or_eq hu) (pv 3) (pv 1) (nomark _)))) (fun _ _ _ _ _ => (pv 2)))))
theorem sc__law_pick : FnScope ["_law_draw", "_law_some"] ["_law_draw", "_law_some"] (defScope (top 45)) := ⟨rfl, rfl, rfl, by decide +kernel, rfl, by decide +kernel, by decide +kernel⟩
theorem lk__law_pick {P : Program} {w : World} {k : Kx} {mg : Str → Option Value} {base : Heap} {f : Addr} {fd : FuncData} (B : Blt mg) (F__law_take : FnIs P w k.K mg base 2 "_law_take" ["_law_draw", "_law_total"] (spM k m_take)) (F : FunD k.K "_law_pick" "_law_pick" (defArgs (top 45)) (defBody (top 45)) (defScope (top 45)) [] [] f fd) : FnOk P w k.K mg base (L2.CX P w) 3 f fd ["_law_draw", "_law_some"] (spM k m__law_pick) := by
  refine F.ok sc__law_pick (fun vs H Q E h => (body_ok (N := ["_law_draw", "_law_some"]) (ar := 2) (t := t__law_pick k) (b := b__law_pick) (fun E => s__law_pick  E) h (by decide)).1) (fun cdv A outer s H vs Q E hr h => ⟨t__law_pick k E, ?_, (body_ok (N := ["_law_draw", "_law_some"]) (ar := 2) (t := t__law_pick k) (b := b__law_pick) (fun E => s__law_pick  E) h (by decide)).2⟩)
  have nd := sc__law_pick.nd
  have hu : A.units + 3 + 100 < cLine := by have := hr.un; have e : (A.deeper (envOfC "_law_pick" (defScope (top 45)) s.heap.objs.size f cdv)).units = A.units + 3 := rfl; omega
  have hu1 : A.units + 3 + 1 < cLine := by omega
  have hu10 : A.units + 3 + 10 < cLine := by omega
  have hdp : (A.deeper (envOfC "_law_pick" (defScope (top 45)) s.heap.objs.size f cdv)).depth < recursionLimit := by have := hr.dp; omega
  have hu64 : A.units + 3 + 64 < cLine := by omega
  exact (pss_one (ps_ret (pe_ix (ix_any hu) (pv 1) (pe_fn F__law_take (hr.mono (by decide)) rfl (passes_call (takes_of rfl rfl rfl rfl) (fun _ _ _ _ h => h)) (pa_cons (pv 0) (pa_cons (pe_callB cr_len rfl B.z_len (by decide +kernel) (pa_cons (pv 1) pa_nil)) pa_nil))) (fun _ _ => rfl))))
theorem sc_occurrences : FnScope ["word", "piece"] ["word", "piece"] (defScope (top 17)) := ⟨rfl, rfl, rfl, by decide +kernel, rfl, by decide +kernel, by decide +kernel⟩
theorem lk_occurrences {P : Program} {w : World} {k : Kx} {mg : Str → Option Value} {base : Heap} {f : Addr} {fd : FuncData} (B : Blt mg) (F_need_word : FnIs P w k.K mg base 3 "need_word" ["word"] (spM k m_need_word)) (F_places_of : FnIs P w k.K mg base 1 "places_of" ["text", "piece"] (spM k m_places_of)) (F : FunD k.K "occurrences" "occurrences" (defArgs (top 17)) (defBody (top 17)) (defScope (top 17)) [] [] f fd) : FnOk P w k.K mg base (L2.CX P w) 4 f fd ["word", "piece"] (spM k m_occurrences) := by
  refine F.ok sc_occurrences (fun vs H Q E h => (body_ok (N := ["word", "piece"]) (ar := 2) (t := t_occurrences k) (b := b_occurrences) (fun E => s_occurrences  E) h (by decide)).1) (fun cdv A outer s H vs Q E hr h => ⟨t_occurrences k E, ?_, (body_ok (N := ["word", "piece"]) (ar := 2) (t := t_occurrences k) (b := b_occurrences) (fun E => s_occurrences  E) h (by decide)).2⟩)
  have nd := sc_occurrences.nd
  have hu : A.units + 3 + 100 < cLine := by have := hr.un; have e : (A.deeper (envOfC "occurrences" (defScope (top 17)) s.heap.objs.size f cdv)).units = A.units + 3 := rfl; omega
  have hu1 : A.units + 3 + 1 < cLine := by omega
  have hu10 : A.units + 3 + 10 < cLine := by omega
  have hdp : (A.deeper (envOfC "occurrences" (defScope (top 17)) s.heap.objs.size f cdv)).depth < recursionLimit := by have := hr.dp; omega
  have hu64 : A.units + 3 + 64 < cLine := by omega
  exact (pss_cons (ps_expr (pe_fn F_need_word (hr.mono (by decide)) rfl (passes_call (takes_of rfl rfl rfl rfl) (fun _ _ _ _ h => h)) (pa_cons (pv 0) pa_nil))) (pss_cons (ps_expr (pe_fn F_need_word (hr.mono (by decide)) rfl (passes_call (takes_of rfl rfl rfl rfl) (fun _ _ _ _ h => h)) (pa_cons (pv 1) pa_nil))) (pss_one (ps_ret (pe_fn F_places_of (hr.mono (by decide)) rfl (passes_call (takes_of rfl rfl rfl rfl) (fun _ _ _ _ h => h)) (pa_cons (pv 0) (pa_cons (pv 1) pa_nil)))))))
theorem sc_pieces : FnScope ["word", "length"] ["word", "length"] (defScope (top 20)) := ⟨rfl, rfl, rfl, by decide +kernel, rfl, by decide +kernel, by decide +kernel⟩
theorem lk_pieces {P : Program} {w : World} {k : Kx} {mg : Str → Option Value} {base : Heap} {f : Addr} {fd : FuncData} (B : Blt mg) (F_need_word : FnIs P w k.K mg base 3 "need_word" ["word"] (spM k m_need_word)) (F_need_length : FnIs P w k.K mg base 3 "need_length" ["length"] (spM k m_need_length)) (F_counted : FnIs P w k.K mg base 1 "counted" ["some"] (spM k m_counted)) (F_stretches : FnIs P w k.K mg base 1 "stretches" ["text", "length"] (spM k m_stretches)) (F : FunD k.K "pieces" "pieces" (defArgs (top 20)) (defBody (top 20)) (defScope (top 20)) [] [] f fd) : FnOk P w k.K mg base (L2.CX P w) 4 f fd ["word", "length"] (spM k m_pieces) := by
  refine F.ok sc_pieces (fun vs H Q E h => (body_ok (N := ["word", "length"]) (ar := 2) (t := t_pieces k) (b := b_pieces) (fun E => s_pieces  E) h (by decide)).1) (fun cdv A outer s H vs Q E hr h => ⟨t_pieces k E, ?_, (body_ok (N := ["word", "length"]) (ar := 2) (t := t_pieces k) (b := b_pieces) (fun E => s_pieces  E) h (by decide)).2⟩)
  have nd := sc_pieces.nd
  have hu : A.units + 3 + 100 < cLine := by have := hr.un; have e : (A.deeper (envOfC "pieces" (defScope (top 20)) s.heap.objs.size f cdv)).units = A.units + 3 := rfl; omega
  have hu1 : A.units + 3 + 1 < cLine := by omega
  have hu10 : A.units + 3 + 10 < cLine := by omega
  have hdp : (A.deeper (envOfC "pieces" (defScope (top 20)) s.heap.objs.size f cdv)).depth < recursionLimit := by have := hr.dp; omega
  have hu64 : A.units + 3 + 64 < cLine := by omega
  exact (pss_cons (ps_expr (pe_fn F_need_word (hr.mono (by decide)) rfl (passes_call (takes_of rfl rfl rfl rfl) (fun _ _ _ _ h => h)) (pa_cons (pv 0) pa_nil))) (pss_cons (ps_expr (pe_fn F_need_length (hr.mono (by decide)) rfl (passes_call (takes_of rfl rfl rfl rfl) (fun _ _ _ _ h => h)) (pa_cons (pv 1) pa_nil))) (pss_one (ps_ret (pe_fn F_counted (hr.mono (by decide)) rfl (passes_call (takes_of rfl rfl rfl rfl) (fun _ _ _ _ h => h)) (pa_cons (pe_fn F_stretches (hr.mono (by decide)) rfl (passes_call (takes_of rfl rfl rfl rfl) (fun _ _ _ _ h => h)) (pa_cons (pv 0) (pa_cons (pv 1) pa_nil))) pa_nil))))))
theorem sc_other_strand : FnScope ["word"] ["word"] (defScope (top 22)) := ⟨rfl, rfl, rfl, by decide +kernel, rfl, by decide +kernel, by decide +kernel⟩
theorem lk_other_strand {P : Program} {w : World} {k : Kx} {mg : Str → Option Value} {base : Heap} {f : Addr} {fd : FuncData} (B : Blt mg) (F_need_word : FnIs P w k.K mg base 3 "need_word" ["word"] (spM k m_need_word)) (F_strand_of : FnIs P w k.K mg base 1 "strand_of" ["text"] (spM k m_strand_of)) (F : FunD k.K "other_strand" "other_strand" (defArgs (top 22)) (defBody (top 22)) (defScope (top 22)) [] [] f fd) : FnOk P w k.K mg base (L2.CX P w) 4 f fd ["word"] (spM k m_other_strand) := by
  refine F.ok sc_other_strand (fun vs H Q E h => (body_ok (N := ["word"]) (ar := 1) (t := t_other_strand k) (b := b_other_strand) (fun E => s_other_strand  E) h (by decide)).1) (fun cdv A outer s H vs Q E hr h => ⟨t_other_strand k E, ?_, (body_ok (N := ["word"]) (ar := 1) (t := t_other_strand k) (b := b_other_strand) (fun E => s_other_strand  E) h (by decide)).2⟩)
  have nd := sc_other_strand.nd
  have hu : A.units + 3 + 100 < cLine := by have := hr.un; have e : (A.deeper (envOfC "other_strand" (defScope (top 22)) s.heap.objs.size f cdv)).units = A.units + 3 := rfl; omega
  have hu1 : A.units + 3 + 1 < cLine := by omega
  have hu10 : A.units + 3 + 10 < cLine := by omega
  have hdp : (A.deeper (envOfC "other_strand" (defScope (top 22)) s.heap.objs.size f cdv)).depth < recursionLimit := by have := hr.dp; omega
  have hu64 : A.units + 3 + 64 < cLine := by omega
  exact (pss_cons (ps_expr (pe_fn F_need_word (hr.mono (by decide)) rfl (passes_call (takes_of rfl rfl rfl rfl) (fun _ _ _ _ h => h)) (pa_cons (pv 0) pa_nil))) (pss_one (ps_ret (pe_fn F_strand_of (hr.mono (by decide)) rfl (passes_call (takes_of rfl rfl rfl rfl) (fun _ _ _ _ h => h)) (pa_cons (pv 0) pa_nil)))))
theorem sc_borders : FnScope ["word"] ["word"] (defScope (top 24)) := ⟨rfl, rfl, rfl, by decide +kernel, rfl, by decide +kernel, by decide +kernel⟩
theorem lk_borders {P : Program} {w : World} {k : Kx} {mg : Str → Option Value} {base : Heap} {f : Addr} {fd : FuncData} (B : Blt mg) (F_need_word : FnIs P w k.K mg base 3 "need_word" ["word"] (spM k m_need_word)) (F_borders_of : FnIs P w k.K mg base 1 "borders_of" ["text"] (spM k m_borders_of)) (F : FunD k.K "borders" "borders" (defArgs (top 24)) (defBody (top 24)) (defScope (top 24)) [] [] f fd) : FnOk P w k.K mg base (L2.CX P w) 4 f fd ["word"] (spM k m_borders) := by
  refine F.ok sc_borders (fun vs H Q E h => (body_ok (N := ["word"]) (ar := 1) (t := t_borders k) (b := b_borders) (fun E => s_borders  E) h (by decide)).1) (fun cdv A outer s H vs Q E hr h => ⟨t_borders k E, ?_, (body_ok (N := ["word"]) (ar := 1) (t := t_borders k) (b := b_borders) (fun E => s_borders  E) h (by decide)).2⟩)
  have nd := sc_borders.nd
  have hu : A.units + 3 + 100 < cLine := by have := hr.un; have e : (A.deeper (envOfC "borders" (defScope (top 24)) s.heap.objs.size f cdv)).units = A.units + 3 := rfl; omega
  have hu1 : A.units + 3 + 1 < cLine := by omega
  have hu10 : A.units + 3 + 10 < cLine := by omega
  have hdp : (A.deeper (envOfC "borders" (defScope (top 24)) s.heap.objs.size f cdv)).depth < recursionLimit := by have := hr.dp; omega
  have hu64 : A.units + 3 + 64 < cLine := by omega
  exact (pss_cons (ps_expr (pe_fn F_need_word (hr.mono (by decide)) rfl (passes_call (takes_of rfl rfl rfl rfl) (fun _ _ _ _ h => h)) (pa_cons (pv 0) pa_nil))) (pss_one (ps_ret (pe_fn F_borders_of (hr.mono (by decide)) rfl (passes_call (takes_of rfl rfl rfl rfl) (fun _ _ _ _ h => h)) (pa_cons (pv 0) pa_nil)))))
theorem sc_root : FnScope ["word"] ["word"] (defScope (top 26)) := ⟨rfl, rfl, rfl, by decide +kernel, rfl, by decide +kernel, by decide +kernel⟩
theorem lk_root {P : Program} {w : World} {k : Kx} {mg : Str → Option Value} {base : Heap} {f : Addr} {fd : FuncData} (B : Blt mg) (F_need_word : FnIs P w k.K mg base 3 "need_word" ["word"] (spM k m_need_word)) (F_root_of : FnIs P w k.K mg base 1 "root_of" ["text"] (spM k m_root_of)) (F : FunD k.K "root" "root" (defArgs (top 26)) (defBody (top 26)) (defScope (top 26)) [] [] f fd) : FnOk P w k.K mg base (L2.CX P w) 4 f fd ["word"] (spM k m_root) := by
  refine F.ok sc_root (fun vs H Q E h => (body_ok (N := ["word"]) (ar := 1) (t := t_root k) (b := b_root) (fun E => s_root  E) h (by decide)).1) (fun cdv A outer s H vs Q E hr h => ⟨t_root k E, ?_, (body_ok (N := ["word"]) (ar := 1) (t := t_root k) (b := b_root) (fun E => s_root  E) h (by decide)).2⟩)
  have nd := sc_root.nd
  have hu : A.units + 3 + 100 < cLine := by have := hr.un; have e : (A.deeper (envOfC "root" (defScope (top 26)) s.heap.objs.size f cdv)).units = A.units + 3 := rfl; omega
  have hu1 : A.units + 3 + 1 < cLine := by omega
  have hu10 : A.units + 3 + 10 < cLine := by omega
  have hdp : (A.deeper (envOfC "root" (defScope (top 26)) s.heap.objs.size f cdv)).depth < recursionLimit := by have := hr.dp; omega
  have hu64 : A.units + 3 + 64 < cLine := by omega
  exact (pss_cons (ps_expr (pe_fn F_need_word (hr.mono (by decide)) rfl (passes_call (takes_of rfl rfl rfl rfl) (fun _ _ _ _ h => h)) (pa_cons (pv 0) pa_nil))) (pss_one (ps_ret (pe_fn F_root_of (hr.mono (by decide)) rfl (passes_call (takes_of rfl rfl rfl rfl) (fun _ _ _ _ h => h)) (pa_cons (pv 0) pa_nil)))))
theorem sc_longest_common : FnScope ["one", "other", "length", "known", "found", "piece"] ["one", "other"] (defScope (top 27)) := ⟨rfl, rfl, rfl, by decide +kernel, rfl, by decide +kernel, by decide +kernel⟩
theorem lk_longest_common {P : Program} {w : World} {k : Kx} {mg : Str → Option Value} {base : Heap} {f : Addr} {fd : FuncData} (B : Blt mg) (F_need_word : FnIs P w k.K mg base 3 "need_word" ["word"] (spM k m_need_word)) (F_stretches : FnIs P w k.K mg base 1 "stretches" ["text", "length"] (spM k m_stretches)) (F : FunD k.K "longest_common" "longest_common" (defArgs (top 27)) (defBody (top 27)) (defScope (top 27)) [] [] f fd) : FnOk P w k.K mg base (L2.CX P w) 4 f fd ["one", "other"] (spM k m_longest_common) := by
  refine F.ok sc_longest_common (fun vs H Q E h => (body_ok (N := ["one", "other", "length", "known", "found", "piece"]) (ar := 2) (t := t_longest_common k) (b := b_longest_common) (fun E => s_longest_common  E) h (by decide)).1) (fun cdv A outer s H vs Q E hr h => ⟨t_longest_common k E, ?_, (body_ok (N := ["one", "other", "length", "known", "found", "piece"]) (ar := 2) (t := t_longest_common k) (b := b_longest_common) (fun E => s_longest_common  E) h (by decide)).2⟩)
  have nd := sc_longest_common.nd
  have hu : A.units + 3 + 100 < cLine := by have := hr.un; have e : (A.deeper (envOfC "longest_common" (defScope (top 27)) s.heap.objs.size f cdv)).units = A.units + 3 := rfl; omega
  have hu1 : A.units + 3 + 1 < cLine := by omega
  have hu10 : A.units + 3 + 10 < cLine := by omega
  have hdp : (A.deeper (envOfC "longest_common" (defScope (top 27)) s.heap.objs.size f cdv)).depth < recursionLimit := by have := hr.dp; omega
  have hu64 : A.units + 3 + 64 < cLine := by omega
  exact (pss_cons (ps_expr (pe_fn F_need_word (hr.mono (by decide)) rfl (passes_call (takes_of rfl rfl rfl rfl) (fun _ _ _ _ h => h)) (pa_cons (pv 0) pa_nil))) (pss_cons (ps_expr (pe_fn F_need_word (hr.mono (by decide)) rfl (passes_call (takes_of rfl rfl rfl rfl) (fun _ _ _ _ h => h)) (pa_cons (pv 1) pa_nil))) (pss_cons (ps_for (passes_of rfl) rfl (pi_range3 rfl B.z_range (pa_cons (pe_callB (call_min2 rfl) rfl B.z_min (by decide +kernel) (pa_cons (pe_callB cr_len rfl B.z_len (by decide +kernel) (pa_cons (pv 0) pa_nil)) (pa_cons (pe_callB cr_len rfl B.z_len (by decide +kernel) (pa_cons (pv 1) pa_nil)) pa_nil))) (pa_cons pe_int (pa_cons (pe_un un_neg pe_int) pa_nil)))) (pg_name (i := 2) nd rfl (by first | exact Or.inl rfl | exact Or.inr rfl)) (pss_cons (ps_set (i := 3) nd rfl (by first | exact Or.inl rfl | exact Or.inr rfl) (pe_dc (own := [("piece", 5)]) rfl nd (pi_anyD (pe_fn F_stretches (hr.mono (by decide)) rfl (passes_call (takes_of rfl rfl rfl rfl) (fun _ _ _ _ h => h)) (pa_cons (pv 1) (pa_cons (pv 2) pa_nil)))) (blkOk_by rfl) (fun _ _ _ _ _ => (pg_name (i := 5) nd rfl (by first | exact Or.inl rfl | exact Or.inr rfl))) (fun _ _ _ _ _ => pts_nil) (fun _ _ _ _ _ => (pv 5)) (fun _ _ _ _ _ => pe_bl))) (pss_cons (ps_setDc (i := 4) (own := [("piece", 5)]) rfl nd rfl rfl (sw_dict rfl rfl rfl (by decide +kernel)) (pi_anyD (pe_fn F_stretches (hr.mono (by decide)) rfl (passes_call (takes_of rfl rfl rfl rfl) (fun _ _ _ _ h => h)) (pa_cons (pv 0) (pa_cons (pv 2) pa_nil)))) (blkOk_by rfl) (fun _ _ _ _ _ => (pg_name (i := 5) nd rfl (by first | exact Or.inl rfl | exact Or.inr rfl))) (fun _ _ _ _ _ => (pts_one (pt_cmpR (or_inA hu) (pv 5) (pv 3) rfl))) (fun _ _ _ _ _ => (pv 5)) (fun _ _ _ _ _ => pe_bl)) (pss_one (ps_if (pt_cmpR op_gt (pe_callB cr_len rfl B.z_len (by decide +kernel) (pa_cons (pv 4) pa_nil)) pe_int (nomark _)) (pss_one (ps_ret (pe_callB (cr_sorted rfl hu) rfl B.z_sorted (by decide +kernel) (pa_cons (pv 4) pa_nil)))) pss_nil))))) (pss_one (ps_ret (pe_lst pa_nil))))))
theorem sc_need_ring : FnScope ["ring"] ["ring"] (defScope (top 32)) := ⟨rfl, rfl, rfl, by decide +kernel, rfl, by decide +kernel, by decide +kernel⟩
theorem lk_need_ring {P : Program} {w : World} {k : Kx} {mg : Str → Option Value} {base : Heap} {f : Addr} {fd : FuncData} (B : Blt mg) (F_is_ring : FnIs P w k.K mg base 3 "is_ring" ["value"] (spM k m_is_ring)) (x_BadRing : ExcIs k.K mg "BadRing" (k.ca "BadRing")) (F : FunD k.K "need_ring" "need_ring" (defArgs (top 32)) (defBody (top 32)) (defScope (top 32)) [] [] f fd) : FnOk P w k.K mg base (L2.CX P w) 4 f fd ["ring"] (spM k m_need_ring) := by
  refine F.ok sc_need_ring (fun vs H Q E h => (body_ok (N := ["ring"]) (ar := 1) (t := t_need_ring k) (b := b_need_ring) (fun E => s_need_ring  E) h (by decide)).1) (fun cdv A outer s H vs Q E hr h => ⟨t_need_ring k E, ?_, (body_ok (N := ["ring"]) (ar := 1) (t := t_need_ring k) (b := b_need_ring) (fun E => s_need_ring  E) h (by decide)).2⟩)
  have nd := sc_need_ring.nd
  have hu : A.units + 3 + 100 < cLine := by have := hr.un; have e : (A.deeper (envOfC "need_ring" (defScope (top 32)) s.heap.objs.size f cdv)).units = A.units + 3 := rfl; omega
  have hu1 : A.units + 3 + 1 < cLine := by omega
  have hu10 : A.units + 3 + 10 < cLine := by omega
  have hdp : (A.deeper (envOfC "need_ring" (defScope (top 32)) s.heap.objs.size f cdv)).depth < recursionLimit := by have := hr.dp; omega
  have hu64 : A.units + 3 + 64 < cLine := by omega
  exact (pss_one (ps_if (pt_not (pt_val (pe_fn F_is_ring (hr.mono (by decide)) rfl (passes_call (takes_of rfl rfl rfl rfl) (fun _ _ _ _ h => h)) (pa_cons (pv 0) pa_nil)))) (pss_one (ps_raise rfl (takes_of rfl rfl rfl rfl) (pmk_exc x_BadRing (by rfl)))) pss_nil))
theorem sc_turn : FnScope ["word", "number"] ["word", "number"] (defScope (top 33)) := ⟨rfl, rfl, rfl, by decide +kernel, rfl, by decide +kernel, by decide +kernel⟩
theorem lk_turn {P : Program} {w : World} {k : Kx} {mg : Str → Option Value} {base : Heap} {f : Addr} {fd : FuncData} (B : Blt mg) (F_need_word : FnIs P w k.K mg base 3 "need_word" ["word"] (spM k m_need_word)) (F_is_between : FnIs P w k.K mg base 2 "is_between" ["value", "least", "most"] (spM k m_is_between)) (F_turn_of : FnIs P w k.K mg base 1 "turn_of" ["text", "number"] (spM k m_turn_of)) (x_BadIndex : ExcIs k.K mg "BadIndex" (k.ca "BadIndex")) (F : FunD k.K "turn" "turn" (defArgs (top 33)) (defBody (top 33)) (defScope (top 33)) [] [] f fd) : FnOk P w k.K mg base (L2.CX P w) 4 f fd ["word", "number"] (spM k m_turn) := by
  refine F.ok sc_turn (fun vs H Q E h => (body_ok (N := ["word", "number"]) (ar := 2) (t := t_turn k) (b := b_turn) (fun E => s_turn  E) h (by decide)).1) (fun cdv A outer s H vs Q E hr h => ⟨t_turn k E, ?_, (body_ok (N := ["word", "number"]) (ar := 2) (t := t_turn k) (b := b_turn) (fun E => s_turn  E) h (by decide)).2⟩)
  have nd := sc_turn.nd
  have hu : A.units + 3 + 100 < cLine := by have := hr.un; have e : (A.deeper (envOfC "turn" (defScope (top 33)) s.heap.objs.size f cdv)).units = A.units + 3 := rfl; omega
  have hu1 : A.units + 3 + 1 < cLine := by omega
  have hu10 : A.units + 3 + 10 < cLine := by omega
  have hdp : (A.deeper (envOfC "turn" (defScope (top 33)) s.heap.objs.size f cdv)).depth < recursionLimit := by have := hr.dp; omega
  have hu64 : A.units + 3 + 64 < cLine := by omega
  exact (pss_cons (ps_expr (pe_fn F_need_word (hr.mono (by decide)) rfl (passes_call (takes_of rfl rfl rfl rfl) (fun _ _ _ _ h => h)) (pa_cons (pv 0) pa_nil))) (pss_cons (ps_if (pt_not (pt_val (pe_fn F_is_between (hr.mono (by decide)) rfl (passes_call (takes_of rfl rfl rfl rfl) (fun _ _ _ _ h => h)) (pa_cons (pv 1) (pa_cons pe_int (pa_cons (pe_op op_sub (pe_callB cr_len rfl B.z_len (by decide +kernel) (pa_cons (pv 0) pa_nil)) pe_int) pa_nil)))))) (pss_one (ps_raise rfl (takes_of rfl rfl rfl rfl) (pmk_exc x_BadIndex (by rfl)))) pss_nil) (pss_one (ps_ret (pe_fn F_turn_of (hr.mono (by decide)) rfl (passes_call (takes_of rfl rfl rfl rfl) (fun _ _ _ _ h => h)) (pa_cons (pv 0) (pa_cons (pv 1) pa_nil)))))))
theorem sc_ring_of : FnScope ["word"] ["word"] (defScope (top 34)) := ⟨rfl, rfl, rfl, by decide +kernel, rfl, by decide +kernel, by decide +kernel⟩
theorem lk_ring_of {P : Program} {w : World} {k : Kx} {mg : Str → Option Value} {base : Heap} {f : Addr} {fd : FuncData} (B : Blt mg) (F_need_word : FnIs P w k.K mg base 3 "need_word" ["word"] (spM k m_need_word)) (F_least_turn : FnIs P w k.K mg base 2 "least_turn" ["text"] (spM k m_least_turn)) (F : FunD k.K "ring_of" "ring_of" (defArgs (top 34)) (defBody (top 34)) (defScope (top 34)) [] [] f fd) : FnOk P w k.K mg base (L2.CX P w) 4 f fd ["word"] (spM k m_ring_of) := by
  refine F.ok sc_ring_of (fun vs H Q E h => (body_ok (N := ["word"]) (ar := 1) (t := t_ring_of k) (b := b_ring_of) (fun E => s_ring_of  E) h (by decide)).1) (fun cdv A outer s H vs Q E hr h => ⟨t_ring_of k E, ?_, (body_ok (N := ["word"]) (ar := 1) (t := t_ring_of k) (b := b_ring_of) (fun E => s_ring_of  E) h (by decide)).2⟩)
  have nd := sc_ring_of.nd
  have hu : A.units + 3 + 100 < cLine := by have := hr.un; have e : (A.deeper (envOfC "ring_of" (defScope (top 34)) s.heap.objs.size f cdv)).units = A.units + 3 := rfl; omega
  have hu1 : A.units + 3 + 1 < cLine := by omega
  have hu10 : A.units + 3 + 10 < cLine := by omega
  have hdp : (A.deeper (envOfC "ring_of" (defScope (top 34)) s.heap.objs.size f cdv)).depth < recursionLimit := by have := hr.dp; omega
  have hu64 : A.units + 3 + 64 < cLine := by omega
  exact (pss_cons (ps_expr (pe_fn F_need_word (hr.mono (by decide)) rfl (passes_call (takes_of rfl rfl rfl rfl) (fun _ _ _ _ h => h)) (pa_cons (pv 0) pa_nil))) (pss_one (ps_ret (pe_fn F_least_turn (hr.mono (by decide)) rfl (passes_call (takes_of rfl rfl rfl rfl) (fun _ _ _ _ h => h)) (pa_cons (pv 0) pa_nil)))))
theorem sc__law_signs : FnScope ["_law_draw"] ["_law_draw"] (defScope (top 46)) := ⟨rfl, rfl, rfl, by decide +kernel, rfl, by decide +kernel, by decide +kernel⟩
theorem lk__law_signs {P : Program} {w : World} {k : Kx} {mg : Str → Option Value} {base : Heap} {f : Addr} {fd : FuncData} (B : Blt mg) (F__law_pick : FnIs P w k.K mg base 3 "_law_pick" ["_law_draw", "_law_some"] (spM k m__law_pick)) (F : FunD k.K "_law_signs" "_law_signs" (defArgs (top 46)) (defBody (top 46)) (defScope (top 46)) [] [] f fd) : FnOk P w k.K mg base (L2.CX P w) 4 f fd ["_law_draw"] (spM k m__law_signs) := by
  refine F.ok sc__law_signs (fun vs H Q E h => (body_ok (N := ["_law_draw"]) (ar := 1) (t := t__law_signs k) (b := b__law_signs) (fun E => s__law_signs  E) h (by decide)).1) (fun cdv A outer s H vs Q E hr h => ⟨t__law_signs k E, ?_, (body_ok (N := ["_law_draw"]) (ar := 1) (t := t__law_signs k) (b := b__law_signs) (fun E => s__law_signs  E) h (by decide)).2⟩)
  have nd := sc__law_signs.nd
  have hu : A.units + 3 + 100 < cLine := by have := hr.un; have e : (A.deeper (envOfC "_law_signs" (defScope (top 46)) s.heap.objs.size f cdv)).units = A.units + 3 := rfl; omega
  have hu1 : A.units + 3 + 1 < cLine := by omega
  have hu10 : A.units + 3 + 10 < cLine := by omega
  have hdp : (A.deeper (envOfC "_law_signs" (defScope (top 46)) s.heap.objs.size f cdv)).depth < recursionLimit := by have := hr.dp; omega
  have hu64 : A.units + 3 + 64 < cLine := by omega
  exact (pss_one (ps_ret (pe_fn F__law_pick (hr.mono (by decide)) rfl (passes_call (takes_of rfl rfl rfl rfl) (fun _ _ _ _ h => h)) (pa_cons (pv 0) (pa_cons (pe_lst (pa_cons pe_str (pa_cons pe_str (pa_cons pe_str (pa_cons pe_str (pa_cons pe_str (pa_cons pe_str (pa_cons pe_str (pa_cons pe_str (pa_cons pe_str (pa_cons pe_str pa_nil))))))))))) pa_nil)))))
theorem sc__law_letters : FnScope ["_law_draw", "_law_signs_here", "_law_many", "_law_lap"] ["_law_draw", "_law_signs_here", "_law_many"] (defScope (top 47)) := ⟨rfl, rfl, rfl, by decide +kernel, rfl, by decide +kernel, by decide +kernel⟩
theorem lk__law_letters {P : Program} {w : World} {k : Kx} {mg : Str → Option Value} {base : Heap} {f : Addr} {fd : FuncData} (B : Blt mg) (F__law_pick : FnIs P w k.K mg base 3 "_law_pick" ["_law_draw", "_law_some"] (spM k m__law_pick)) (F : FunD k.K "_law_letters" "_law_letters" (defArgs (top 47)) (defBody (top 47)) (defScope (top 47)) [] [] f fd) : FnOk P w k.K mg base (L2.CX P w) 4 f fd ["_law_draw", "_law_signs_here", "_law_many"] (spM k m__law_letters) := by
  refine F.ok sc__law_letters (fun vs H Q E h => (body_ok (N := ["_law_draw", "_law_signs_here", "_law_many", "_law_lap"]) (ar := 3) (t := t__law_letters k) (b := b__law_letters) (fun E => s__law_letters  E) h (by decide)).1) (fun cdv A outer s H vs Q E hr h => ⟨t__law_letters k E, ?_, (body_ok (N := ["_law_draw", "_law_signs_here", "_law_many", "_law_lap"]) (ar := 3) (t := t__law_letters k) (b := b__law_letters) (fun E => s__law_letters  E) h (by decide)).2⟩)
  have nd := sc__law_letters.nd
  have hu : A.units + 3 + 100 < cLine := by have := hr.un; have e : (A.deeper (envOfC "_law_letters" (defScope (top 47)) s.heap.objs.size f cdv)).units = A.units + 3 := rfl; omega
  have hu1 : A.units + 3 + 1 < cLine := by omega
  have hu10 : A.units + 3 + 10 < cLine := by omega
  have hdp : (A.deeper (envOfC "_law_letters" (defScope (top 47)) s.heap.objs.size f cdv)).depth < recursionLimit := by have := hr.dp; omega
  have hu64 : A.units + 3 + 64 < cLine := by omega
  exact (pss_one (ps_ret (pe_join pe_str (pe_lc (own := [("_law_lap", 3)]) rfl nd (pi_range1 rfl B.z_range (pa_cons (pv 2) pa_nil)) (blkOk_by rfl) (fun _ _ _ _ _ => (pg_name (i := 3) nd rfl (by first | exact Or.inl rfl | exact Or.inr rfl))) (fun _ _ _ _ _ => pts_nil) (fun _ _ _ _ _ => (pe_fn F__law_pick (hr.mono (by decide)) rfl passL (pa_cons (pv 0) (pa_cons (pv 1) pa_nil))))))))
theorem sc_ring_occurrences : FnScope ["ring", "piece"] ["ring", "piece"] (defScope (top 38)) := ⟨rfl, rfl, rfl, by decide +kernel, rfl, by decide +kernel, by decide +kernel⟩
theorem lk_ring_occurrences {P : Program} {w : World} {k : Kx} {mg : Str → Option Value} {base : Heap} {f : Addr} {fd : FuncData} (B : Blt mg) (F_need_ring : FnIs P w k.K mg base 4 "need_ring" ["ring"] (spM k m_need_ring)) (F_need_word : FnIs P w k.K mg base 3 "need_word" ["word"] (spM k m_need_word)) (F_ring_places : FnIs P w k.K mg base 3 "ring_places" ["text", "piece"] (spM k m_ring_places)) (F : FunD k.K "ring_occurrences" "ring_occurrences" (defArgs (top 38)) (defBody (top 38)) (defScope (top 38)) [] [] f fd) : FnOk P w k.K mg base (L2.CX P w) 5 f fd ["ring", "piece"] (spM k m_ring_occurrences) := by
  refine F.ok sc_ring_occurrences (fun vs H Q E h => (body_ok (N := ["ring", "piece"]) (ar := 2) (t := t_ring_occurrences k) (b := b_ring_occurrences) (fun E => s_ring_occurrences  E) h (by decide)).1) (fun cdv A outer s H vs Q E hr h => ⟨t_ring_occurrences k E, ?_, (body_ok (N := ["ring", "piece"]) (ar := 2) (t := t_ring_occurrences k) (b := b_ring_occurrences) (fun E => s_ring_occurrences  E) h (by decide)).2⟩)
  have nd := sc_ring_occurrences.nd
  have hu : A.units + 3 + 100 < cLine := by have := hr.un; have e : (A.deeper (envOfC "ring_occurrences" (defScope (top 38)) s.heap.objs.size f cdv)).units = A.units + 3 := rfl; omega
  have hu1 : A.units + 3 + 1 < cLine := by omega
  have hu10 : A.units + 3 + 10 < cLine := by omega
  have hdp : (A.deeper (envOfC "ring_occurrences" (defScope (top 38)) s.heap.objs.size f cdv)).depth < recursionLimit := by have := hr.dp; omega
  have hu64 : A.units + 3 + 64 < cLine := by omega
  exact (pss_cons (ps_expr (pe_fn F_need_ring (hr.mono (by decide)) rfl (passes_call (takes_of rfl rfl rfl rfl) (fun _ _ _ _ h => h)) (pa_cons (pv 0) pa_nil))) (pss_cons (ps_expr (pe_fn F_need_word (hr.mono (by decide)) rfl (passes_call (takes_of rfl rfl rfl rfl) (fun _ _ _ _ h => h)) (pa_cons (pv 1) pa_nil))) (pss_one (ps_ret (pe_fn F_ring_places (hr.mono (by decide)) rfl (passes_call (takes_of rfl rfl rfl rfl) (fun _ _ _ _ h => h)) (pa_cons (pv 0) (pa_cons (pv 1) pa_nil)))))))
theorem sc_ring_pieces : FnScope ["ring", "length"] ["ring", "length"] (defScope (top 39)) := ⟨rfl, rfl, rfl, by decide +kernel, rfl, by decide +kernel, by decide +kernel⟩
theorem lk_ring_pieces {P : Program} {w : World} {k : Kx} {mg : Str → Option Value} {base : Heap} {f : Addr} {fd : FuncData} (B : Blt mg) (F_need_ring : FnIs P w k.K mg base 4 "need_ring" ["ring"] (spM k m_need_ring)) (F_need_length : FnIs P w k.K mg base 3 "need_length" ["length"] (spM k m_need_length)) (F_counted : FnIs P w k.K mg base 1 "counted" ["some"] (spM k m_counted)) (F_ring_stretches : FnIs P w k.K mg base 2 "ring_stretches" ["text", "length"] (spM k m_ring_stretches)) (F : FunD k.K "ring_pieces" "ring_pieces" (defArgs (top 39)) (defBody (top 39)) (defScope (top 39)) [] [] f fd) : FnOk P w k.K mg base (L2.CX P w) 5 f fd ["ring", "length"] (spM k m_ring_pieces) := by
  refine F.ok sc_ring_pieces (fun vs H Q E h => (body_ok (N := ["ring", "length"]) (ar := 2) (t := t_ring_pieces k) (b := b_ring_pieces) (fun E => s_ring_pieces  E) h (by decide)).1) (fun cdv A outer s H vs Q E hr h => ⟨t_ring_pieces k E, ?_, (body_ok (N := ["ring", "length"]) (ar := 2) (t := t_ring_pieces k) (b := b_ring_pieces) (fun E => s_ring_pieces  E) h (by decide)).2⟩)
  have nd := sc_ring_pieces.nd
  have hu : A.units + 3 + 100 < cLine := by have := hr.un; have e : (A.deeper (envOfC "ring_pieces" (defScope (top 39)) s.heap.objs.size f cdv)).units = A.units + 3 := rfl; omega
  have hu1 : A.units + 3 + 1 < cLine := by omega
  have hu10 : A.units + 3 + 10 < cLine := by omega
  have hdp : (A.deeper (envOfC "ring_pieces" (defScope (top 39)) s.heap.objs.size f cdv)).depth < recursionLimit := by have := hr.dp; omega
  have hu64 : A.units + 3 + 64 < cLine := by omega
  exact (pss_cons (ps_expr (pe_fn F_need_ring (hr.mono (by decide)) rfl (passes_call (takes_of rfl rfl rfl rfl) (fun _ _ _ _ h => h)) (pa_cons (pv 0) pa_nil))) (pss_cons (ps_expr (pe_fn F_need_length (hr.mono (by decide)) rfl (passes_call (takes_of rfl rfl rfl rfl) (fun _ _ _ _ h => h)) (pa_cons (pv 1) pa_nil))) (pss_one (ps_ret (pe_fn F_counted (hr.mono (by decide)) rfl (passes_call (takes_of rfl rfl rfl rfl) (fun _ _ _ _ h => h)) (pa_cons (pe_fn F_ring_stretches (hr.mono (by decide)) rfl (passes_call (takes_of rfl rfl rfl rfl) (fun _ _ _ _ h => h)) (pa_cons (pv 0) (pa_cons (pv 1) pa_nil))) pa_nil))))))
theorem sc_ring_strand : FnScope ["ring"] ["ring"] (defScope (top 40)) := ⟨rfl, rfl, rfl, by decide +kernel, rfl, by decide +kernel, by decide +kernel⟩
theorem lk_ring_strand {P : Program} {w : World} {k : Kx} {mg : Str → Option Value} {base : Heap} {f : Addr} {fd : FuncData} (B : Blt mg) (F_need_ring : FnIs P w k.K mg base 4 "need_ring" ["ring"] (spM k m_need_ring)) (F_least_turn : FnIs P w k.K mg base 2 "least_turn" ["text"] (spM k m_least_turn)) (F_strand_of : FnIs P w k.K mg base 1 "strand_of" ["text"] (spM k m_strand_of)) (F : FunD k.K "ring_strand" "ring_strand" (defArgs (top 40)) (defBody (top 40)) (defScope (top 40)) [] [] f fd) : FnOk P w k.K mg base (L2.CX P w) 5 f fd ["ring"] (spM k m_ring_strand) := by
  refine F.ok sc_ring_strand (fun vs H Q E h => (body_ok (N := ["ring"]) (ar := 1) (t := t_ring_strand k) (b := b_ring_strand) (fun E => s_ring_strand  E) h (by decide)).1) (fun cdv A outer s H vs Q E hr h => ⟨t_ring_strand k E, ?_, (body_ok (N := ["ring"]) (ar := 1) (t := t_ring_strand k) (b := b_ring_strand) (fun E => s_ring_strand  E) h (by decide)).2⟩)
  have nd := sc_ring_strand.nd
  have hu : A.units + 3 + 100 < cLine := by have := hr.un; have e : (A.deeper (envOfC "ring_strand" (defScope (top 40)) s.heap.objs.size f cdv)).units = A.units + 3 := rfl; omega
  have hu1 : A.units + 3 + 1 < cLine := by omega
  have hu10 : A.units + 3 + 10 < cLine := by omega
  have hdp : (A.deeper (envOfC "ring_strand" (defScope (top 40)) s.heap.objs.size f cdv)).depth < recursionLimit := by have := hr.dp; omega
  have hu64 : A.units + 3 + 64 < cLine := by omega
  exact (pss_cons (ps_expr (pe_fn F_need_ring (hr.mono (by decide)) rfl (passes_call (takes_of rfl rfl rfl rfl) (fun _ _ _ _ h => h)) (pa_cons (pv 0) pa_nil))) (pss_one (ps_ret (pe_fn F_least_turn (hr.mono (by decide)) rfl (passes_call (takes_of rfl rfl rfl rfl) (fun _ _ _ _ h => h)) (pa_cons (pe_fn F_strand_of (hr.mono (by decide)) rfl (passes_call (takes_of rfl rfl rfl rfl) (fun _ _ _ _ h => h)) (pa_cons (pv 0) pa_nil)) pa_nil)))))
theorem sc__law_text : FnScope ["_law_draw", "_law_most", "_law_signs_here", "_law_many", "_law_some", "_law_found", "_law_lap"] ["_law_draw", "_law_most"] (defScope (top 48)) := ⟨rfl, rfl, rfl, by decide +kernel, rfl, by decide +kernel, by decide +kernel⟩
theorem lk__law_text {P : Program} {w : World} {k : Kx} {mg : Str → Option Value} {base : Heap} {f : Addr} {fd : FuncData} (B : Blt mg) (F__law_take : FnIs P w k.K mg base 2 "_law_take" ["_law_draw", "_law_total"] (spM k m_take)) (F__law_signs : FnIs P w k.K mg base 4 "_law_signs" ["_law_draw"] (spM k m__law_signs)) (F__law_letters : FnIs P w k.K mg base 4 "_law_letters" ["_law_draw", "_law_signs_here", "_law_many"] (spM k m__law_letters)) (F__law_pick : FnIs P w k.K mg base 3 "_law_pick" ["_law_draw", "_law_some"] (spM k m__law_pick)) (F : FunD k.K "_law_text" "_law_text" (defArgs (top 48)) (defBody (top 48)) (defScope (top 48)) [] [] f fd) : FnOk P w k.K mg base (L2.CX P w) 5 f fd ["_law_draw", "_law_most"] (spM k m__law_text) := by
  refine F.ok sc__law_text (fun vs H Q E h => (body_ok (N := ["_law_draw", "_law_most", "_law_signs_here", "_law_many", "_law_some", "_law_found", "_law_lap"]) (ar := 2) (t := t__law_text k) (b := b__law_text) (fun E => s__law_text  E) h (by decide)).1) (fun cdv A outer s H vs Q E hr h => ⟨t__law_text k E, ?_, (body_ok (N := ["_law_draw", "_law_most", "_law_signs_here", "_law_many", "_law_some", "_law_found", "_law_lap"]) (ar := 2) (t := t__law_text k) (b := b__law_text) (fun E => s__law_text  E) h (by decide)).2⟩)
  have nd := sc__law_text.nd
  have hu : A.units + 3 + 100 < cLine := by have := hr.un; have e : (A.deeper (envOfC "_law_text" (defScope (top 48)) s.heap.objs.size f cdv)).units = A.units + 3 := rfl; omega
  have hu1 : A.units + 3 + 1 < cLine := by omega
  have hu10 : A.units + 3 + 10 < cLine := by omega
  have hdp : (A.deeper (envOfC "_law_text" (defScope (top 48)) s.heap.objs.size f cdv)).depth < recursionLimit := by have := hr.dp; omega
  have hu64 : A.units + 3 + 64 < cLine := by omega
  exact (pss_cons (ps_asg (pe_tup (pa_cons (pe_fn F__law_signs (hr.mono (by decide)) rfl (passes_call (takes_of rfl rfl rfl rfl) (fun _ _ _ _ h => h)) (pa_cons (pv 0) pa_nil)) (pa_cons (pe_op or_add pe_int (pe_fn F__law_take (hr.mono (by decide)) rfl (passes_call (takes_of rfl rfl rfl rfl) (fun _ _ _ _ h => h)) (pa_cons (pv 0) (pa_cons (pv 1) pa_nil)))) pa_nil))) (pg_tl (pg_tup rfl (pgs_cons (pg_name (i := 2) nd rfl (by first | exact Or.inl rfl | exact Or.inr rfl)) (pgs_cons (pg_name (i := 3) nd rfl (by first | exact Or.inl rfl | exact Or.inr rfl)) pgs_nil))) (pg_unl rfl (pgs_cons (pg_name (i := 2) nd rfl (by first | exact Or.inl rfl | exact Or.inr rfl)) (pgs_cons (pg_name (i := 3) nd rfl (by first | exact Or.inl rfl | exact Or.inr rfl)) pgs_nil))))) (pss_cons (ps_if (pt_cmpR op_gt (pe_fn F__law_take (hr.mono (by decide)) rfl (passes_call (takes_of rfl rfl rfl rfl) (fun _ _ _ _ h => h)) (pa_cons (pv 0) (pa_cons pe_int pa_nil))) pe_int (nomark _)) (pss_one (ps_ret (pe_fn F__law_letters (hr.mono (by decide)) rfl (passes_call (takes_of rfl rfl rfl rfl) (fun _ _ _ _ h => h)) (pa_cons (pv 0) (pa_cons (pv 2) (pa_cons (pv 3) pa_nil)))))) pss_nil) (pss_cons (ps_par rfl nd rfl rfl (by decide) rfl rfl (pa_cons (pe_lc (own := [("_law_lap", 6)]) rfl nd (pi_range1 rfl B.z_range (pa_cons pe_int pa_nil)) (blkOk_by rfl) (fun _ _ _ _ _ => (pg_name (i := 6) nd rfl (by first | exact Or.inl rfl | exact Or.inr rfl))) (fun _ _ _ _ _ => pts_nil) (fun _ _ _ _ _ => (pe_fn F__law_letters (hr.mono (by decide)) rfl passL (pa_cons (pv 0) (pa_cons (pv 2) (pa_cons (pe_op or_add pe_int (pe_fn F__law_take (hr.mono (by decide)) rfl passL (pa_cons (pv 0) (pa_cons pe_int pa_nil)))) pa_nil)))))) (pa_cons pe_str pa_nil)) rfl) (pss_cons (ps_for (passes_of rfl) rfl (pi_range1 rfl B.z_range (pa_cons (pv 3) pa_nil)) (pg_name (i := 6) nd rfl (by first | exact Or.inl rfl | exact Or.inr rfl)) (pss_one (ps_set (i := 5) nd rfl (by first | exact Or.inl rfl | exact Or.inr rfl) (pe_op or_add (pv 5) (pe_fn F__law_pick (hr.mono (by decide)) rfl (passes_call (takes_of rfl rfl rfl rfl) (fun _ _ _ _ h => h)) (pa_cons (pv 0) (pa_cons (pv 4) pa_nil))))))) (pss_one (ps_ret (pe_slice or_sl (pv 5) po_none (po_some (pv 3)))))))))
theorem sc__law_strands_right : FnScope ["_law_text_here", "_law_part", "_law_back", "_law_mate", "_law_mirrored", "_law_at", "_law_width", "_law_told", "_law_far", "_law_one_here"] ["_law_text_here", "_law_part"] (defScope (top 50)) := ⟨rfl, rfl, rfl, by decide +kernel, rfl, by decide +kernel, by decide +kernel⟩
theorem lk__law_strands_right {P : Program} {w : World} {k : Kx} {mg : Str → Option Value} {base : Heap} {f : Addr} {fd : FuncData} (B : Blt mg) (F_other_strand : FnIs P w k.K mg base 4 "other_strand" ["word"] (spM k m_other_strand)) (F_is_word : FnIs P w k.K mg base 2 "is_word" ["value"] (spM k m_is_word)) (F_borders : FnIs P w k.K mg base 4 "borders" ["word"] (spM k m_borders)) (F_occurrences : FnIs P w k.K mg base 4 "occurrences" ["word", "piece"] (spM k m_occurrences)) (F_root : FnIs P w k.K mg base 4 "root" ["word"] (spM k m_root)) (F_pieces : FnIs P w k.K mg base 4 "pieces" ["word", "length"] (spM k m_pieces)) (F : FunD k.K "_law_strands_right" "_law_strands_right" (defArgs (top 50)) (defBody (top 50)) (defScope (top 50)) [] [] f fd) : FnOk P w k.K mg base (L2.CX P w) 5 f fd ["_law_text_here", "_law_part"] (spM k m__law_strands_right) := by
  refine F.ok sc__law_strands_right (fun vs H Q E h => (body_ok (N := ["_law_text_here", "_law_part", "_law_back", "_law_mate", "_law_mirrored", "_law_at", "_law_width", "_law_told", "_law_far", "_law_one_here"]) (ar := 2) (t := t__law_strands_right k) (b := b__law_strands_right) (fun E => s__law_strands_right  E) h (by decide)).1) (fun cdv A outer s H vs Q E hr h => ⟨t__law_strands_right k E, ?_, (body_ok (N := ["_law_text_here", "_law_part", "_law_back", "_law_mate", "_law_mirrored", "_law_at", "_law_width", "_law_told", "_law_far", "_law_one_here"]) (ar := 2) (t := t__law_strands_right k) (b := b__law_strands_right) (fun E => s__law_strands_right  E) h (by decide)).2⟩)
  have nd := sc__law_strands_right.nd
  have hu : A.units + 3 + 100 < cLine := by have := hr.un; have e : (A.deeper (envOfC "_law_strands_right" (defScope (top 50)) s.heap.objs.size f cdv)).units = A.units + 3 := rfl; omega
  have hu1 : A.units + 3 + 1 < cLine := by omega
  have hu10 : A.units + 3 + 10 < cLine := by omega
  have hdp : (A.deeper (envOfC "_law_strands_right" (defScope (top 50)) s.heap.objs.size f cdv)).depth < recursionLimit := by have := hr.dp; omega
  have hu64 : A.units + 3 + 64 < cLine := by omega
  exact (pss_cons (ps_par rfl nd rfl rfl (by decide) rfl rfl (pa_cons (pe_fn F_other_strand (hr.mono (by decide)) rfl (passes_call (takes_of rfl rfl rfl rfl) (fun _ _ _ _ h => h)) (pa_cons (pv 0) pa_nil)) (pa_cons (pe_fn F_other_strand (hr.mono (by decide)) rfl (passes_call (takes_of rfl rfl rfl rfl) (fun _ _ _ _ h => h)) (pa_cons (pv 1) pa_nil)) pa_nil)) rfl) (pss_cons (ps_if (PW.pt (pw_or (pt_cmpR (or_ne hu) (pe_fn F_other_strand (hr.mono (by decide)) rfl (passes_call (takes_of rfl rfl rfl rfl) (fun _ _ _ _ h => h)) (pa_cons (pv 2) pa_nil)) (pv 0) (nomark _)) (pw_or (pt_not (pt_val (pe_fn F_is_word (hr.mono (by decide)) rfl (passes_call (takes_of rfl rfl rfl rfl) (fun _ _ _ _ h => h)) (pa_cons (pv 2) pa_nil)))) (pw_or1 (pt_cmpR (or_ne hu) (pe_fn F_borders (hr.mono (by decide)) rfl (passes_call (takes_of rfl rfl rfl rfl) (fun _ _ _ _ h => h)) (pa_cons (pv 2) pa_nil)) (pe_fn F_borders (hr.mono (by decide)) rfl (passes_call (takes_of rfl rfl rfl rfl) (fun _ _ _ _ h => h)) (pa_cons (pv 0) pa_nil)) (nomark _)))))) (pss_one (ps_ret pe_bl)) pss_nil) (pss_cons (ps_set (i := 4) nd rfl (by first | exact Or.inl rfl | exact Or.inr rfl) (pe_revL (pe_lc (own := [("_law_at", 5)]) rfl nd (pi_anyD (pe_fn F_occurrences (hr.mono (by decide)) rfl (passes_call (takes_of rfl rfl rfl rfl) (fun _ _ _ _ h => h)) (pa_cons (pv 0) (pa_cons (pv 1) pa_nil)))) (blkOk_by rfl) (fun _ _ _ _ _ => (pg_name (i := 5) nd rfl (by first | exact Or.inl rfl | exact Or.inr rfl))) (fun _ _ _ _ _ => pts_nil) (fun _ _ _ _ _ => (pe_op op_sub (pe_op op_sub (pe_callB cr_len rfl B.z_len (by decide +kernel) (pa_cons (pv 0) pa_nil)) (pe_callB cr_len rfl B.z_len (by decide +kernel) (pa_cons (pv 1) pa_nil))) (pv 5)))))) (pss_cons (ps_if (PW.pt (pw_or (pt_cmpR (or_ne hu) (pe_fn F_occurrences (hr.mono (by decide)) rfl (passes_call (takes_of rfl rfl rfl rfl) (fun _ _ _ _ h => h)) (pa_cons (pv 2) (pa_cons (pv 3) pa_nil))) (pv 4) (nomark _)) (pw_or1 (pt_cmpR (or_ne hu) (pe_fn F_root (hr.mono (by decide)) rfl (passes_call (takes_of rfl rfl rfl rfl) (fun _ _ _ _ h => h)) (pa_cons (pv 2) pa_nil)) (pe_tup (pa_cons (pe_fn F_other_strand (hr.mono (by decide)) rfl (passes_call (takes_of rfl rfl rfl rfl) (fun _ _ _ _ h => h)) (pa_cons (pe_ix (ix_any hu) (pe_fn F_root (hr.mono (by decide)) rfl (passes_call (takes_of rfl rfl rfl rfl) (fun _ _ _ _ h => h)) (pa_cons (pv 0) pa_nil)) pe_int (fun _ _ => rfl)) pa_nil)) (pa_cons (pe_ix (ix_any hu) (pe_fn F_root (hr.mono (by decide)) rfl (passes_call (takes_of rfl rfl rfl rfl) (fun _ _ _ _ h => h)) (pa_cons (pv 0) pa_nil)) pe_int (fun _ _ => rfl)) pa_nil))) (nomark _))))) (pss_one (ps_ret pe_bl)) pss_nil) (pss_cons (ps_for (passes_of rfl) rfl (pi_range2 rfl B.z_range (pa_cons pe_int (pa_cons (pe_op or_add (pe_callB (call_min2 rfl) rfl B.z_min (by decide +kernel) (pa_cons (pe_callB cr_len rfl B.z_len (by decide +kernel) (pa_cons (pv 0) pa_nil)) (pa_cons pe_int pa_nil))) pe_int) pa_nil))) (pg_name (i := 6) nd rfl (by first | exact Or.inl rfl | exact Or.inr rfl)) (pss_cons (ps_asg (pe_tup (pa_cons (pe_fn F_pieces (hr.mono (by decide)) rfl (passes_call (takes_of rfl rfl rfl rfl) (fun _ _ _ _ h => h)) (pa_cons (pv 0) (pa_cons (pv 6) pa_nil))) (pa_cons (pe_fn F_pieces (hr.mono (by decide)) rfl (passes_call (takes_of rfl rfl rfl rfl) (fun _ _ _ _ h => h)) (pa_cons (pv 2) (pa_cons (pv 6) pa_nil))) pa_nil))) (pg_tl (pg_tup rfl (pgs_cons (pg_name (i := 7) nd rfl (by first | exact Or.inl rfl | exact Or.inr rfl)) (pgs_cons (pg_name (i := 8) nd rfl (by first | exact Or.inl rfl | exact Or.inr rfl)) pgs_nil))) (pg_unl rfl (pgs_cons (pg_name (i := 7) nd rfl (by first | exact Or.inl rfl | exact Or.inr rfl)) (pgs_cons (pg_name (i := 8) nd rfl (by first | exact Or.inl rfl | exact Or.inr rfl)) pgs_nil))))) (pss_cons (ps_if (pt_cmpR (or_ne hu) (pe_callTy (cr_dictP rfl) rfl B.z_dict (by decide +kernel) (pa_cons (pe_lc (own := [("_law_one_here", 9)]) rfl nd (pi_anyD (pv 7)) (blkOk_by rfl) (fun _ _ _ _ _ => (pg_name (i := 9) nd rfl (by first | exact Or.inl rfl | exact Or.inr rfl))) (fun _ _ _ _ _ => pts_nil) (fun _ _ _ _ _ => (pe_tup (pa_cons (pe_fn F_other_strand (hr.mono (by decide)) rfl passL (pa_cons (pv 9) pa_nil)) (pa_cons (pe_ix (ix_any hu) (pv 7) (pv 9) (fun _ _ => rfl)) pa_nil))))) pa_nil)) (pv 8) (nomark _)) (pss_one (ps_ret pe_bl)) pss_nil) (pss_one (ps_if (pt_cmpR (or_ne hu) (pe_callB (cr_sum rfl) rfl B.z_sum (by decide +kernel) (pa_cons (pe_lc (own := [("_law_one_here", 9)]) rfl nd (pi_anyD (pv 7)) (blkOk_by rfl) (fun _ _ _ _ _ => (pg_name (i := 9) nd rfl (by first | exact Or.inl rfl | exact Or.inr rfl))) (fun _ _ _ _ _ => pts_nil) (fun _ _ _ _ _ => (pe_ix (ix_any hu) (pv 7) (pv 9) (fun _ _ => rfl)))) pa_nil)) (pe_op op_sub (pe_op or_add (pe_callB cr_len rfl B.z_len (by decide +kernel) (pa_cons (pv 0) pa_nil)) pe_int) (pv 6)) (nomark _)) (pss_one (ps_ret pe_bl)) pss_nil))))) (pss_one (ps_ret pe_bl)))))))
theorem sc__law_rings_right : FnScope ["_law_text_here", "_law_part", "_law_many", "_law_some", "_law_at", "_law_short", "_law_often", "_law_each", "_law_ring_here", "_law_told", "_law_more", "_law_width", "_law_over"] ["_law_text_here", "_law_part", "_law_many"] (defScope (top 51)) := ⟨rfl, rfl, rfl, by decide +kernel, rfl, by decide +kernel, by decide +kernel⟩
theorem lk__law_rings_right {P : Program} {w : World} {k : Kx} {mg : Str → Option Value} {base : Heap} {f : Addr} {fd : FuncData} (B : Blt mg) (F_turn : FnIs P w k.K mg base 4 "turn" ["word", "number"] (spM k m_turn)) (F_root : FnIs P w k.K mg base 4 "root" ["word"] (spM k m_root)) (F_ring_of : FnIs P w k.K mg base 4 "ring_of" ["word"] (spM k m_ring_of)) (F_ring_strand : FnIs P w k.K mg base 5 "ring_strand" ["ring"] (spM k m_ring_strand)) (F_other_strand : FnIs P w k.K mg base 4 "other_strand" ["word"] (spM k m_other_strand)) (F_ring_occurrences : FnIs P w k.K mg base 5 "ring_occurrences" ["ring", "piece"] (spM k m_ring_occurrences)) (F_ring_pieces : FnIs P w k.K mg base 5 "ring_pieces" ["ring", "length"] (spM k m_ring_pieces)) (F__law_counted : FnIs P w k.K mg base 1 "_law_counted" ["_law_some"] (spM k m__law_counted)) (F : FunD k.K "_law_rings_right" "_law_rings_right" (defArgs (top 51)) (defBody (top 51)) (defScope (top 51)) [] [] f fd) : FnOk P w k.K mg base (L2.CX P w) 6 f fd ["_law_text_here", "_law_part", "_law_many"] (spM k m__law_rings_right) := by
  refine okC F sc__law_rings_right (fun vs H Q E h => (body_ok (N := ["_law_text_here", "_law_part", "_law_many", "_law_some", "_law_at", "_law_short", "_law_often", "_law_each", "_law_ring_here", "_law_told", "_law_more", "_law_width", "_law_over"]) (ar := 3) (t := t__law_rings_right k) (b := b__law_rings_right) (fun E => s__law_rings_right  E) h (by decide)).1) (fun cdv A outer s H vs Q E hcv hr h => ⟨t__law_rings_right k E, ?_, (body_ok (N := ["_law_text_here", "_law_part", "_law_many", "_law_some", "_law_at", "_law_short", "_law_often", "_law_each", "_law_ring_here", "_law_told", "_law_more", "_law_width", "_law_over"]) (ar := 3) (t := t__law_rings_right k) (b := b__law_rings_right) (fun E => s__law_rings_right  E) h (by decide)).2⟩)
  have hkd := kds_of F
  rw [hcv] at hkd
  have nd := sc__law_rings_right.nd
  have hu : A.units + 3 + 100 < cLine := by have := hr.un; have e : (A.deeper (envOfC "_law_rings_right" (defScope (top 51)) s.heap.objs.size f cdv)).units = A.units + 3 := rfl; omega
  have hu1 : A.units + 3 + 1 < cLine := by omega
  have hu10 : A.units + 3 + 10 < cLine := by omega
  have hdp : (A.deeper (envOfC "_law_rings_right" (defScope (top 51)) s.heap.objs.size f cdv)).depth < recursionLimit := by have := hr.dp; omega
  have hu64 : A.units + 3 + 64 < cLine := by omega
  exact (pss_cons (ps_setLc (i := 3) (own := [("_law_at", 4)]) rfl nd rfl rfl (sw_true rfl rfl rfl (by decide +kernel)) (pi_range1 rfl B.z_range (pa_cons (pe_callB cr_len rfl B.z_len (by decide +kernel) (pa_cons (pv 0) pa_nil)) pa_nil)) (blkOk_by rfl) (fun _ _ _ _ _ => (pg_name (i := 4) nd rfl (by first | exact Or.inl rfl | exact Or.inr rfl))) (fun _ _ _ _ _ => pts_nil) (fun _ _ _ _ _ => (pe_fn F_turn (hr.mono (by decide)) rfl passL (pa_cons (pv 0) (pa_cons (pv 4) pa_nil))))) (pss_cons (ps_asg (pe_fn F_root (hr.mono (by decide)) rfl (passes_call (takes_of rfl rfl rfl rfl) (fun _ _ _ _ h => h)) (pa_cons (pv 0) pa_nil)) (pg_tl (pg_tup rfl (pgs_cons (pg_name (i := 5) nd rfl (by first | exact Or.inl rfl | exact Or.inr rfl)) (pgs_cons (pg_name (i := 6) nd rfl (by first | exact Or.inl rfl | exact Or.inr rfl)) pgs_nil))) (pg_unl rfl (pgs_cons (pg_name (i := 5) nd rfl (by first | exact Or.inl rfl | exact Or.inr rfl)) (pgs_cons (pg_name (i := 6) nd rfl (by first | exact Or.inl rfl | exact Or.inr rfl)) pgs_nil))))) (pss_cons (ps_if (PW.pt (pw_or (pt_cmpR (or_ne hu) (pe_lenSetT rfl rfl B.z_len rfl B.z_set (pv 3)) (pe_callB cr_len rfl B.z_len (by decide +kernel) (pa_cons (pv 5) pa_nil)) (nomark _)) (pw_or (pt_cmpR (or_ne hu) (pe_op or_mul (pv 5) (pv 6)) (pv 0) (nomark _)) (pw_or1 (pt_cmpR (or_ne hu) (pe_fn F_root (hr.mono (by decide)) rfl (passes_call (takes_of rfl rfl rfl rfl) (fun _ _ _ _ h => h)) (pa_cons (pv 5) pa_nil)) (pe_tup (pa_cons (pv 5) (pa_cons pe_int pa_nil))) (nomark _)))))) (pss_one (ps_ret pe_bl)) pss_nil) (pss_cons (ps_if (PW.pt (pw_or (pt_cmp (pc_setNe rfl rfl B.z_set hu hkd rfl (pe_lc (own := [("_law_each", 7)]) rfl nd (pi_anyD (pv 3)) (blkOk_by rfl) (fun _ _ _ _ _ => (pg_name (i := 7) nd rfl (by first | exact Or.inl rfl | exact Or.inr rfl))) (fun _ _ _ _ _ => pts_nil) (fun _ _ _ _ _ => (pe_fn F_ring_of (hr.mono (by decide)) rfl passL (pa_cons (pv 7) pa_nil)))) (pe_fn F_ring_of (hr.mono (by decide)) rfl (passes_call (takes_of rfl rfl rfl rfl) (fun _ _ _ _ h => h)) (pa_cons (pv 0) pa_nil))) rfl) (pw_or1 (pt_cmpR (or_notinA hu) (pe_fn F_ring_of (hr.mono (by decide)) rfl (passes_call (takes_of rfl rfl rfl rfl) (fun _ _ _ _ h => h)) (pa_cons (pv 0) pa_nil)) (pv 3) rfl)))) (pss_one (ps_ret pe_bl)) pss_nil) (pss_cons (ps_set (i := 8) nd rfl (by first | exact Or.inl rfl | exact Or.inr rfl) (pe_fn F_ring_of (hr.mono (by decide)) rfl (passes_call (takes_of rfl rfl rfl rfl) (fun _ _ _ _ h => h)) (pa_cons (pv 0) pa_nil))) (pss_cons (ps_if (PW.pt (pw_or (pt_cmpR (or_ne hu) (pe_fn F_ring_strand (hr.mono (by decide)) rfl (passes_call (takes_of rfl rfl rfl rfl) (fun _ _ _ _ h => h)) (pa_cons (pv 8) pa_nil)) (pe_fn F_ring_of (hr.mono (by decide)) rfl (passes_call (takes_of rfl rfl rfl rfl) (fun _ _ _ _ h => h)) (pa_cons (pe_fn F_other_strand (hr.mono (by decide)) rfl (passes_call (takes_of rfl rfl rfl rfl) (fun _ _ _ _ h => h)) (pa_cons (pv 0) pa_nil)) pa_nil)) (nomark _)) (pw_or1 (pt_cmpR (or_ne hu) (pe_fn F_ring_strand (hr.mono (by decide)) rfl (passes_call (takes_of rfl rfl rfl rfl) (fun _ _ _ _ h => h)) (pa_cons (pe_fn F_ring_strand (hr.mono (by decide)) rfl (passes_call (takes_of rfl rfl rfl rfl) (fun _ _ _ _ h => h)) (pa_cons (pv 8) pa_nil)) pa_nil)) (pv 8) (nomark _))))) (pss_one (ps_ret pe_bl)) pss_nil) (pss_cons (ps_par rfl nd rfl rfl (by decide) rfl rfl (pa_cons (pe_fn F_ring_occurrences (hr.mono (by decide)) rfl (passes_call (takes_of rfl rfl rfl rfl) (fun _ _ _ _ h => h)) (pa_cons (pv 8) (pa_cons (pv 1) pa_nil))) (pa_cons (pe_fn F_ring_occurrences (hr.mono (by decide)) rfl (passes_call (takes_of rfl rfl rfl rfl) (fun _ _ _ _ h => h)) (pa_cons (pe_fn F_ring_of (hr.mono (by decide)) rfl (passes_call (takes_of rfl rfl rfl rfl) (fun _ _ _ _ h => h)) (pa_cons (pe_op or_mul (pv 0) (pv 2)) pa_nil)) (pa_cons (pv 1) pa_nil))) pa_nil)) rfl) (pss_cons (ps_if (PW.pt (pw_or (pt_cmpR (or_ne hu) (pe_callB cr_len rfl B.z_len (by decide +kernel) (pa_cons (pv 10) pa_nil)) (pe_op or_mul (pv 2) (pe_callB cr_len rfl B.z_len (by decide +kernel) (pa_cons (pv 9) pa_nil))) (nomark _)) (pw_or1 (pt_cmpR (or_ne hu) (pe_fn F_ring_of (hr.mono (by decide)) rfl (passes_call (takes_of rfl rfl rfl rfl) (fun _ _ _ _ h => h)) (pa_cons (pe_op or_mul (pv 0) (pv 2)) pa_nil)) (pe_op or_mul (pv 8) (pv 2)) (nomark _))))) (pss_one (ps_ret pe_bl)) pss_nil) (pss_cons (ps_for (passes_of rfl) rfl (pi_range2 rfl B.z_range (pa_cons pe_int (pa_cons (pe_op or_add (pe_callB cr_len rfl B.z_len (by decide +kernel) (pa_cons (pv 0) pa_nil)) pe_int) pa_nil))) (pg_name (i := 11) nd rfl (by first | exact Or.inl rfl | exact Or.inr rfl)) (pss_cons (ps_setLc (i := 12) (own := [("_law_at", 4)]) rfl nd rfl rfl (sw_true rfl rfl rfl (by decide +kernel)) (pi_range1 rfl B.z_range (pa_cons (pe_callB cr_len rfl B.z_len (by decide +kernel) (pa_cons (pv 0) pa_nil)) pa_nil)) (blkOk_by rfl) (fun _ _ _ _ _ => (pg_name (i := 4) nd rfl (by first | exact Or.inl rfl | exact Or.inr rfl))) (fun _ _ _ _ _ => pts_nil) (fun _ _ _ _ _ => (pe_slice or_sl (pe_op or_mul (pv 0) (pe_op or_add (pv 11) pe_int)) (po_some (pv 4)) (po_some (pe_op or_add (pv 4) (pv 11)))))) (pss_one (ps_if (pt_cmpR (or_ne hu) (pe_fn F_ring_pieces (hr.mono (by decide)) rfl (passes_call (takes_of rfl rfl rfl rfl) (fun _ _ _ _ h => h)) (pa_cons (pv 8) (pa_cons (pv 11) pa_nil))) (pe_fn F__law_counted (hr.mono (by decide)) rfl (passes_call (takes_of rfl rfl rfl rfl) (fun _ _ _ _ h => h)) (pa_cons (pv 12) pa_nil)) (nomark _)) (pss_one (ps_ret pe_bl)) pss_nil)))) (pss_one (ps_ret pe_bl)))))))))))
theorem sc_law : FnScope ["_law_script", "_law_draw", "_law_lap", "_law_text_here", "_law_low", "_law_part", "_law_step", "_law_is_same"] ["_law_script"] (defScope (top 52)) := ⟨rfl, rfl, rfl, by decide +kernel, rfl, by decide +kernel, by decide +kernel⟩
theorem lk_law {P : Program} {w : World} {k : Kx} {mg : Str → Option Value} {base : Heap} {f : Addr} {fd : FuncData} (B : Blt mg) (F__law_begun : FnIs P w k.K mg base 1 "_law_begun" ["_law_script"] (spM k m_begun)) (F__law_text : FnIs P w k.K mg base 5 "_law_text" ["_law_draw", "_law_most"] (spM k m__law_text)) (F__law_pick : FnIs P w k.K mg base 3 "_law_pick" ["_law_draw", "_law_some"] (spM k m__law_pick)) (F__law_take : FnIs P w k.K mg base 2 "_law_take" ["_law_draw", "_law_total"] (spM k m_take)) (F__law_strands_right : FnIs P w k.K mg base 5 "_law_strands_right" ["_law_text_here", "_law_part"] (spM k m__law_strands_right)) (F__law_rings_right : FnIs P w k.K mg base 6 "_law_rings_right" ["_law_text_here", "_law_part", "_law_many"] (spM k m__law_rings_right)) (F_borders : FnIs P w k.K mg base 4 "borders" ["word"] (spM k m_borders)) (F_longest_common : FnIs P w k.K mg base 4 "longest_common" ["one", "other"] (spM k m_longest_common)) (F_other_strand : FnIs P w k.K mg base 4 "other_strand" ["word"] (spM k m_other_strand)) (F : FunD k.K "law" "law" (defArgs (top 52)) (defBody (top 52)) (defScope (top 52)) [] [] f fd) : FnOk P w k.K mg base (L2.CX P w) 7 f fd ["_law_script"] (spM k m_law) := by
  refine F.ok sc_law (fun vs H Q E h => (body_ok (N := ["_law_script", "_law_draw", "_law_lap", "_law_text_here", "_law_low", "_law_part", "_law_step", "_law_is_same"]) (ar := 1) (t := t_law k) (b := b_law) (fun E => s_law  E) h (by decide)).1) (fun cdv A outer s H vs Q E hr h => ⟨t_law k E, ?_, (body_ok (N := ["_law_script", "_law_draw", "_law_lap", "_law_text_here", "_law_low", "_law_part", "_law_step", "_law_is_same"]) (ar := 1) (t := t_law k) (b := b_law) (fun E => s_law  E) h (by decide)).2⟩)
  have nd := sc_law.nd
  have hu : A.units + 3 + 100 < cLine := by have := hr.un; have e : (A.deeper (envOfC "law" (defScope (top 52)) s.heap.objs.size f cdv)).units = A.units + 3 := rfl; omega
  have hu1 : A.units + 3 + 1 < cLine := by omega
  have hu10 : A.units + 3 + 10 < cLine := by omega
  have hdp : (A.deeper (envOfC "law" (defScope (top 52)) s.heap.objs.size f cdv)).depth < recursionLimit := by have := hr.dp; omega
  have hu64 : A.units + 3 + 64 < cLine := by omega
  exact (pss_cons (ps_set (i := 1) nd rfl (by first | exact Or.inl rfl | exact Or.inr rfl) (pe_fn F__law_begun (hr.mono (by decide)) rfl (passes_call (takes_of rfl rfl rfl rfl) (fun _ _ _ _ h => h)) (pa_cons (pv 0) pa_nil))) (pss_cons (ps_for (passes_of rfl) rfl (pi_range1 rfl B.z_range (pa_cons (pe_op or_add pe_int (pe_callB (call_min2 rfl) rfl B.z_min (by decide +kernel) (pa_cons (pe_callB cr_len rfl B.z_len (by decide +kernel) (pa_cons (pv 0) pa_nil)) (pa_cons pe_int pa_nil)))) pa_nil)) (pg_name (i := 2) nd rfl (by first | exact Or.inl rfl | exact Or.inr rfl)) (pss_cons (ps_set (i := 3) nd rfl (by first | exact Or.inl rfl | exact Or.inr rfl) (pe_op or_mul (pe_fn F__law_text (hr.mono (by decide)) rfl (passes_call (takes_of rfl rfl rfl rfl) (fun _ _ _ _ h => h)) (pa_cons (pv 1) (pa_cons pe_int pa_nil))) (pe_fn F__law_pick (hr.mono (by decide)) rfl (passes_call (takes_of rfl rfl rfl rfl) (fun _ _ _ _ h => h)) (pa_cons (pv 1) (pa_cons (pe_lst (pa_cons pe_int (pa_cons pe_int (pa_cons pe_int pa_nil)))) pa_nil))))) (pss_cons (ps_set (i := 4) nd rfl (by first | exact Or.inl rfl | exact Or.inr rfl) (pe_fn F__law_take (hr.mono (by decide)) rfl (passes_call (takes_of rfl rfl rfl rfl) (fun _ _ _ _ h => h)) (pa_cons (pv 1) (pa_cons (pe_callB cr_len rfl B.z_len (by decide +kernel) (pa_cons (pv 3) pa_nil)) pa_nil)))) (pss_cons (ps_set (i := 5) nd rfl (by first | exact Or.inl rfl | exact Or.inr rfl) (pe_fn F__law_pick (hr.mono (by decide)) rfl (passes_call (takes_of rfl rfl rfl rfl) (fun _ _ _ _ h => h)) (pa_cons (pv 1) (pa_cons (pe_lst (pa_cons (pe_slice or_sl (pv 3) (po_some (pv 4)) (po_some (pe_op or_add (pe_op or_add (pv 4) pe_int) (pe_fn F__law_take (hr.mono (by decide)) rfl (passes_call (takes_of rfl rfl rfl rfl) (fun _ _ _ _ h => h)) (pa_cons (pv 1) (pa_cons pe_int pa_nil)))))) (pa_cons (pe_fn F__law_text (hr.mono (by decide)) rfl (passes_call (takes_of rfl rfl rfl rfl) (fun _ _ _ _ h => h)) (pa_cons (pv 1) (pa_cons pe_int pa_nil))) pa_nil))) pa_nil)))) (pss_cons (ps_if (PW.pt (pw_or (pt_not (pt_val (pe_fn F__law_strands_right (hr.mono (by decide)) rfl (passes_call (takes_of rfl rfl rfl rfl) (fun _ _ _ _ h => h)) (pa_cons (pv 3) (pa_cons (pv 5) pa_nil))))) (pw_or1 (pt_not (pt_val (pe_fn F__law_rings_right (hr.mono (by decide)) rfl (passes_call (takes_of rfl rfl rfl rfl) (fun _ _ _ _ h => h)) (pa_cons (pv 3) (pa_cons (pv 5) (pa_cons (pe_op or_add pe_int (pe_fn F__law_take (hr.mono (by decide)) rfl (passes_call (takes_of rfl rfl rfl rfl) (fun _ _ _ _ h => h)) (pa_cons (pv 1) (pa_cons pe_int pa_nil)))) pa_nil))))))))) (pss_one (ps_ret pe_bl)) pss_nil) (pss_cons (ps_for (passes_of rfl) rfl (pi_range2 rfl B.z_range (pa_cons pe_int (pa_cons (pe_callB cr_len rfl B.z_len (by decide +kernel) (pa_cons (pv 3) pa_nil)) pa_nil))) (pg_name (i := 6) nd rfl (by first | exact Or.inl rfl | exact Or.inr rfl)) (pss_cons (ps_set (i := 7) nd rfl (by first | exact Or.inl rfl | exact Or.inr rfl) (pe_cmpR (or_eq hu) (pe_slice or_sl (pv 3) (po_some (pv 6)) po_none) (pe_slice or_sl (pv 3) po_none (po_some (pe_op op_sub (pe_callB cr_len rfl B.z_len (by decide +kernel) (pa_cons (pv 3) pa_nil)) (pv 6)))) (nomark _))) (pss_one (ps_if (pt_cmpR (or_ne hu) (pe_cmpR (or_inA hu) (pe_op op_sub (pe_callB cr_len rfl B.z_len (by decide +kernel) (pa_cons (pv 3) pa_nil)) (pv 6)) (pe_fn F_borders (hr.mono (by decide)) rfl (passes_call (takes_of rfl rfl rfl rfl) (fun _ _ _ _ h => h)) (pa_cons (pv 3) pa_nil)) rfl) (pv 7) (nomark _)) (pss_one (ps_ret pe_bl)) pss_nil)))) (pss_one (ps_if (pt_cmpR (or_ne hu) (pe_fn F_longest_common (hr.mono (by decide)) rfl (passes_call (takes_of rfl rfl rfl rfl) (fun _ _ _ _ h => h)) (pa_cons (pv 3) (pa_cons (pe_fn F_other_strand (hr.mono (by decide)) rfl (passes_call (takes_of rfl rfl rfl rfl) (fun _ _ _ _ h => h)) (pa_cons (pe_fn F_other_strand (hr.mono (by decide)) rfl (passes_call (takes_of rfl rfl rfl rfl) (fun _ _ _ _ h => h)) (pa_cons (pv 3) pa_nil)) pa_nil)) pa_nil))) (pe_lst (pa_cons (pv 3) pa_nil)) (nomark _)) (pss_one (ps_ret pe_bl)) pss_nil)))))))) (pss_one (ps_ret pe_bl))))
def d_is_integer : He.DefD := ⟨("is_integer", none), "is_integer", "is_integer", defArgs (top 10), defBody (top 10), defScope (top 10), [], []⟩
def d_is_between : He.DefD := ⟨("is_between", none), "is_between", "is_between", defArgs (top 11), defBody (top 11), defScope (top 11), [], []⟩
def d_is_line : He.DefD := ⟨("is_line", none), "is_line", "is_line", defArgs (top 12), defBody (top 12), defScope (top 12), [], []⟩
def d_is_word : He.DefD := ⟨("is_word", none), "is_word", "is_word", defArgs (top 13), defBody (top 13), defScope (top 13), [], []⟩
def d_need_word : He.DefD := ⟨("need_word", none), "need_word", "need_word", defArgs (top 14), defBody (top 14), defScope (top 14), [], []⟩
def d_need_length : He.DefD := ⟨("need_length", none), "need_length", "need_length", defArgs (top 15), defBody (top 15), defScope (top 15), [], []⟩
def d_places_of : He.DefD := ⟨("places_of", none), "places_of", "places_of", defArgs (top 16), defBody (top 16), defScope (top 16), [], []⟩
def d_occurrences : He.DefD := ⟨("occurrences", none), "occurrences", "occurrences", defArgs (top 17), defBody (top 17), defScope (top 17), [], []⟩
def d_counted : He.DefD := ⟨("counted", none), "counted", "counted", defArgs (top 18), defBody (top 18), defScope (top 18), [], []⟩
def d_stretches : He.DefD := ⟨("stretches", none), "stretches", "stretches", defArgs (top 19), defBody (top 19), defScope (top 19), [], []⟩
def d_pieces : He.DefD := ⟨("pieces", none), "pieces", "pieces", defArgs (top 20), defBody (top 20), defScope (top 20), [], []⟩
def d_strand_of : He.DefD := ⟨("strand_of", none), "strand_of", "strand_of", defArgs (top 21), defBody (top 21), defScope (top 21), [], []⟩
def d_other_strand : He.DefD := ⟨("other_strand", none), "other_strand", "other_strand", defArgs (top 22), defBody (top 22), defScope (top 22), [], []⟩
def d_borders_of : He.DefD := ⟨("borders_of", none), "borders_of", "borders_of", defArgs (top 23), defBody (top 23), defScope (top 23), [], []⟩
def d_borders : He.DefD := ⟨("borders", none), "borders", "borders", defArgs (top 24), defBody (top 24), defScope (top 24), [], []⟩
def d_root_of : He.DefD := ⟨("root_of", none), "root_of", "root_of", defArgs (top 25), defBody (top 25), defScope (top 25), [], []⟩
def d_root : He.DefD := ⟨("root", none), "root", "root", defArgs (top 26), defBody (top 26), defScope (top 26), [], []⟩
def d_longest_common : He.DefD := ⟨("longest_common", none), "longest_common", "longest_common", defArgs (top 27), defBody (top 27), defScope (top 27), [], []⟩
def d_turn_of : He.DefD := ⟨("turn_of", none), "turn_of", "turn_of", defArgs (top 29), defBody (top 29), defScope (top 29), [], []⟩
def d_least_turn : He.DefD := ⟨("least_turn", none), "least_turn", "least_turn", defArgs (top 30), defBody (top 30), defScope (top 30), [], []⟩
def d_is_ring : He.DefD := ⟨("is_ring", none), "is_ring", "is_ring", defArgs (top 31), defBody (top 31), defScope (top 31), [], []⟩
def d_need_ring : He.DefD := ⟨("need_ring", none), "need_ring", "need_ring", defArgs (top 32), defBody (top 32), defScope (top 32), [], []⟩
def d_turn : He.DefD := ⟨("turn", none), "turn", "turn", defArgs (top 33), defBody (top 33), defScope (top 33), [], []⟩
def d_ring_of : He.DefD := ⟨("ring_of", none), "ring_of", "ring_of", defArgs (top 34), defBody (top 34), defScope (top 34), [], []⟩
def d_read_on : He.DefD := ⟨("read_on", none), "read_on", "read_on", defArgs (top 35), defBody (top 35), defScope (top 35), [], []⟩
def d_ring_stretches : He.DefD := ⟨("ring_stretches", none), "ring_stretches", "ring_stretches", defArgs (top 36), defBody (top 36), defScope (top 36), [], []⟩
def d_ring_places : He.DefD := ⟨("ring_places", none), "ring_places", "ring_places", defArgs (top 37), defBody (top 37), defScope (top 37), [], []⟩
def d_ring_occurrences : He.DefD := ⟨("ring_occurrences", none), "ring_occurrences", "ring_occurrences", defArgs (top 38), defBody (top 38), defScope (top 38), [], []⟩
def d_ring_pieces : He.DefD := ⟨("ring_pieces", none), "ring_pieces", "ring_pieces", defArgs (top 39), defBody (top 39), defScope (top 39), [], []⟩
def d_ring_strand : He.DefD := ⟨("ring_strand", none), "ring_strand", "ring_strand", defArgs (top 40), defBody (top 40), defScope (top 40), [], []⟩
def d__law_begun : He.DefD := ⟨("_law_begun", none), "_law_begun", "_law_begun", defArgs (top 42), defBody (top 42), defScope (top 42), [], []⟩
def d__law_mixed : He.DefD := ⟨("_law_mixed", none), "_law_mixed", "_law_mixed", defArgs (top 43), defBody (top 43), defScope (top 43), [], []⟩
def d__law_take : He.DefD := ⟨("_law_take", none), "_law_take", "_law_take", defArgs (top 44), defBody (top 44), defScope (top 44), [], []⟩
def d__law_pick : He.DefD := ⟨("_law_pick", none), "_law_pick", "_law_pick", defArgs (top 45), defBody (top 45), defScope (top 45), [], []⟩
def d__law_signs : He.DefD := ⟨("_law_signs", none), "_law_signs", "_law_signs", defArgs (top 46), defBody (top 46), defScope (top 46), [], []⟩
def d__law_letters : He.DefD := ⟨("_law_letters", none), "_law_letters", "_law_letters", defArgs (top 47), defBody (top 47), defScope (top 47), [], []⟩
def d__law_text : He.DefD := ⟨("_law_text", none), "_law_text", "_law_text", defArgs (top 48), defBody (top 48), defScope (top 48), [], []⟩
def d__law_counted : He.DefD := ⟨("_law_counted", none), "_law_counted", "_law_counted", defArgs (top 49), defBody (top 49), defScope (top 49), [], []⟩
def d__law_strands_right : He.DefD := ⟨("_law_strands_right", none), "_law_strands_right", "_law_strands_right", defArgs (top 50), defBody (top 50), defScope (top 50), [], []⟩
def d__law_rings_right : He.DefD := ⟨("_law_rings_right", none), "_law_rings_right", "_law_rings_right", defArgs (top 51), defBody (top 51), defScope (top 51), [], []⟩
def d_law : He.DefD := ⟨("law", none), "law", "law", defArgs (top 52), defBody (top 52), defScope (top 52), [], []⟩
def gs : List GtD := ([] : List GtD)
def fn : List He.DefD := ([d_is_integer, d_is_between, d_is_line, d_is_word, d_need_word, d_need_length, d_places_of, d_occurrences, d_counted, d_stretches, d_pieces, d_strand_of, d_other_strand, d_borders_of, d_borders, d_root_of, d_root, d_longest_common, d_turn_of, d_least_turn, d_is_ring, d_need_ring, d_turn, d_ring_of] : List He.DefD) ++ ([d_read_on, d_ring_stretches, d_ring_places, d_ring_occurrences, d_ring_pieces, d_ring_strand, d__law_begun, d__law_mixed, d__law_take, d__law_pick, d__law_signs, d__law_letters, d__law_text, d__law_counted, d__law_strands_right, d__law_rings_right, d_law] : List He.DefD)
def fa : List He.Fa := ([.glo "is_integer", .glo "is_between", .glo "is_line", .glo "is_word", .glo "need_word", .glo "need_length", .glo "places_of", .glo "occurrences", .glo "counted", .glo "stretches", .glo "pieces", .glo "strand_of", .glo "other_strand", .glo "borders_of", .glo "borders", .glo "root_of", .glo "root", .glo "longest_common", .glo "turn_of", .glo "least_turn", .glo "is_ring", .glo "need_ring", .glo "turn", .glo "ring_of"] : List He.Fa) ++ ([.glo "read_on", .glo "ring_stretches", .glo "ring_places", .glo "ring_occurrences", .glo "ring_pieces", .glo "ring_strand", .glo "_law_begun", .glo "_law_mixed", .glo "_law_take", .glo "_law_pick", .glo "_law_signs", .glo "_law_letters", .glo "_law_text", .glo "_law_counted", .glo "_law_strands_right", .glo "_law_rings_right", .glo "law", .free "abs", .free "all", .free "any", .free "bool", .free "dict", .free "enumerate", .free "int"] : List He.Fa) ++ ([.free "isinstance", .free "len", .free "list", .free "max", .free "min", .free "range", .free "repr", .free "set", .free "sorted", .free "str", .free "sum", .free "tuple", .free "zip", .glo "BadIndex", .glo "BadLength", .glo "BadRing", .glo "BadWord", .glo "PARTNERS", .exc "BadIndex", .exc "BadLength", .exc "BadRing", .exc "BadWord", .str "LETTERS" "acgt", .int "MOST_LETTERS" 120] : List He.Fa)
def excCB (K : PySem.W.Frag) (D : Addr) : Bool := He.eqO (PySem.W.findIn K (.ref D) "__getattribute__") (some (some (.builtin "BaseException.__getattribute__"))) && (He.eqO (PySem.W.findIn K (.ref D) "__getattr__") (some none) && (decide (PySem.W.subIn K (.ref D) (.type "BaseException") = some true) && (PySem.W.hasDictIn K D && (He.eqO (PySem.W.findIn K (.ref D) "__class__") (some (some (.builtin "object.__class__"))) && (He.eqO (PySem.W.specialIn K (.builtin "object.__class__") "__get__") (some (some (.builtin "getset_descriptor.__get__"))) && (decide (PySem.W.takesIn K (.builtin "object.__class__") = some true) && decide (PySem.W.mroIn K D (.type "object") = some true)))))))
theorem and2 {a b : Bool} (h : (a && b) = true) : a = true ∧ b = true := by rwa [Bool.and_eq_true] at h
theorem excCB_ok {K : PySem.W.Frag} {D : Addr} (h : excCB K D = true) : ExcC K D := by
  obtain ⟨h1, h⟩ := and2 h
  obtain ⟨h2, h⟩ := and2 h
  obtain ⟨h3, h⟩ := and2 h
  obtain ⟨h4, h⟩ := and2 h
  obtain ⟨h5, h⟩ := and2 h
  obtain ⟨h6, h⟩ := and2 h
  obtain ⟨h7, h8⟩ := and2 h
  exact ⟨He.eqO_ok h1, He.eqO_ok h2, of_decide_eq_true h3, h4, He.eqO_ok h5, He.eqO_ok h6, of_decide_eq_true h7, of_decide_eq_true h8⟩
def kdB (K : PySem.W.Frag) (d : Addr) (kvs : List (Str × Str)) : Bool := kvs.all fun p => match PySem.W.nsIn K d p.1 with
  | some (some (.str y _)) => decide (y = p.2)
  | _ => false
theorem kdB_ok {K : PySem.W.Frag} {d : Addr} {kvs : List (Str × Str)} (h : kdB K d kvs = true) : KTab K d kvs := fun p hp => by
  have := List.all_eq_true.mp h p hp
  split at this
  · rename_i y t e
    exact ⟨_, e, _, by rw [of_decide_eq_true this]⟩
  · cases this
def xtB (K : PySem.W.Frag) (tab : List (Str × Str × Bool)) : Bool := tab.all fun p => excCB K (He.ga K p.1) && decide (PySem.W.kitOne K (.ref (He.ga K p.1)) (.ref (He.ga K p.2.1)) = some p.2.2)
def tf : List He.Defn := []
def TT (K : PySem.W.Frag) : List (Addr × Str) := []
def ex (K : PySem.W.Frag) : Bool := xtB K XT && (kdB K (He.ga K "PARTNERS") ([([97], [116]), ([99], [103]), ([103], [99]), ([116], [97])].map fun p : List Nat × List Nat => (S p.1, S p.2)))
def ts : List He.Tab := [((fun K => He.ga K "PARTNERS"), ["a", "c", "g", "t"])]
abbrev RR : PySem.W.OpenRow := PySem.W.OpenLaw.row PySem.Challenge.rw_readhouse_k07_whole_strands_turns_and_ro
abbrev hk : PySem.W.Hook := hookP 4 fa fn ts tf gs ex
def ob (s : PySem.W.SharedT) : AlP := obP 4 fa fn ts tf gs ex (HandSHeadRun.getT s)
theorem ob_eq (s : PySem.W.SharedT) : ob s = hk.obs s.abs := obP_eq (HandSHeadRun.getT_eq s)
def loose : List Str := (["ReadError", "BadWord", "BadRing", "BadLength", "BadIndex", "LETTERS", "PARTNERS", "MOST_LETTERS", "is_integer", "is_between", "is_line", "is_word", "need_word", "need_length", "places_of", "occurrences", "counted", "stretches", "pieces", "strand_of", "other_strand", "borders_of", "borders", "root_of"] : List Str) ++ (["root", "longest_common", "turn_of", "least_turn", "is_ring", "need_ring", "turn", "ring_of", "read_on", "ring_stretches", "ring_places", "ring_occurrences", "ring_pieces", "ring_strand", "_law_begun", "_law_mixed", "_law_take", "_law_pick", "_law_signs", "_law_letters", "_law_text", "_law_counted", "_law_strands_right", "_law_rings_right"] : List Str)
theorem run0 (w : World) : HandSHeadRun.RunEq RR (PySem.W.view RR.prog [52]) hk ob 6000 loose (updW false w) := by
  intro os
  kernel_rfl
theorem run1 (w : World) : HandSHeadRun.RunEq RR (PySem.W.view RR.prog [52]) hk ob 6000 loose (updW true w) := by
  intro os
  kernel_rfl
theorem run (w : World) : HandSHeadRun.RunEq RR (PySem.W.view RR.prog [52]) hk ob 6000 loose w := run_updW run0 run1 w
theorem facts {P : Program} {w : World} {K : PySem.W.Frag} {h : Heap} {mg : Str → Option Value} {f : Addr} (X : K.In h) (G : h.Ns mainGlobals mg) (hfa : mg ("law" : Str) = some (.ref f)) (c : SaysP fa fn ts tf gs ex w h K) :
    ∃ fd : FuncData, (∀ (s : Shared) (v : Value), BindsTo s fd ⟨[v], []⟩ [("_law_script", v)]) ∧
      ∀ base : Heap, K.In base → base.Ns mainGlobals mg → (∀ p ∈ tf.map (He.cT K), LamX.TabB base mg p.1 p.2) → FnG P w K mg base (L2.CX P w) 7 f fd ["_law_script"] (spM ⟨K, He.ga K, TT K⟩ m_law) := by
  have more : (xtB K XT && (kdB K (He.ga K "PARTNERS") ([([97], [116]), ([99], [103]), ([103], [99]), ([116], [97])].map fun p : List Nat × List Nat => (S p.1, S p.2)))) = true := c.x.more
  obtain ⟨y0, more⟩ := and2 more
  have y1 := more
  have hXT : XTab ⟨K, He.ga K, TT K⟩ XT := fun p hp => by
    have := List.all_eq_true.mp y0 p hp
    rw [Bool.and_eq_true] at this
    exact ⟨excCB_ok this.1, of_decide_eq_true this.2⟩
  have KT_PARTNERS := kdB_ok y1
  have KD_PARTNERS : ∃ es n, KDict K w (He.ga K "PARTNERS") es n := c.x.t.tab 0
  have B : Blt mg := ⟨He.free_ok X G (c.x.t.d.fact 41 (f := .free "abs") rfl), He.free_ok X G (c.x.t.d.fact 42 (f := .free "all") rfl), He.free_ok X G (c.x.t.d.fact 43 (f := .free "any") rfl), He.free_ok X G (c.x.t.d.fact 44 (f := .free "bool") rfl), He.free_ok X G (c.x.t.d.fact 45 (f := .free "dict") rfl), He.free_ok X G (c.x.t.d.fact 46 (f := .free "enumerate") rfl), He.free_ok X G (c.x.t.d.fact 47 (f := .free "int") rfl), He.free_ok X G (c.x.t.d.fact 48 (f := .free "isinstance") rfl), He.free_ok X G (c.x.t.d.fact 49 (f := .free "len") rfl), He.free_ok X G (c.x.t.d.fact 50 (f := .free "list") rfl), He.free_ok X G (c.x.t.d.fact 51 (f := .free "max") rfl), He.free_ok X G (c.x.t.d.fact 52 (f := .free "min") rfl), He.free_ok X G (c.x.t.d.fact 53 (f := .free "range") rfl), He.free_ok X G (c.x.t.d.fact 54 (f := .free "repr") rfl), He.free_ok X G (c.x.t.d.fact 55 (f := .free "set") rfl), He.free_ok X G (c.x.t.d.fact 56 (f := .free "sorted") rfl), He.free_ok X G (c.x.t.d.fact 57 (f := .free "str") rfl), He.free_ok X G (c.x.t.d.fact 58 (f := .free "sum") rfl), He.free_ok X G (c.x.t.d.fact 59 (f := .free "tuple") rfl), He.free_ok X G (c.x.t.d.fact 60 (f := .free "zip") rfl)⟩
  have G_BadIndex := He.glo_ok X G (c.x.t.d.fact 61 (f := .glo "BadIndex") rfl)
  have G_BadLength := He.glo_ok X G (c.x.t.d.fact 62 (f := .glo "BadLength") rfl)
  have G_BadRing := He.glo_ok X G (c.x.t.d.fact 63 (f := .glo "BadRing") rfl)
  have G_BadWord := He.glo_ok X G (c.x.t.d.fact 64 (f := .glo "BadWord") rfl)
  have G_PARTNERS := He.glo_ok X G (c.x.t.d.fact 65 (f := .glo "PARTNERS") rfl)
  have x_BadIndex : ExcIs K mg "BadIndex" (He.ga K "BadIndex") := ⟨G_BadIndex, He.exc_ok (c.x.t.d.fact 66 (f := .exc "BadIndex") rfl)⟩
  have x_BadLength : ExcIs K mg "BadLength" (He.ga K "BadLength") := ⟨G_BadLength, He.exc_ok (c.x.t.d.fact 67 (f := .exc "BadLength") rfl)⟩
  have x_BadRing : ExcIs K mg "BadRing" (He.ga K "BadRing") := ⟨G_BadRing, He.exc_ok (c.x.t.d.fact 68 (f := .exc "BadRing") rfl)⟩
  have x_BadWord : ExcIs K mg "BadWord" (He.ga K "BadWord") := ⟨G_BadWord, He.exc_ok (c.x.t.d.fact 69 (f := .exc "BadWord") rfl)⟩
  have g_LETTERS : ∃ t, mg "LETTERS" = some (.str "acgt" t) := He.str_ok X G (c.x.t.d.fact 70 (f := .str "LETTERS" "acgt") rfl)
  have g_MOST_LETTERS : ∃ t, mg "MOST_LETTERS" = some (.int 120 t) := He.int_ok X G (c.x.t.d.fact 71 (f := .int "MOST_LETTERS" 120) rfl)
  obtain ⟨fd_is_integer, D_is_integer⟩ := c.x.t.d.def_ 0 (d := d_is_integer) rfl
  obtain ⟨fd_is_between, D_is_between⟩ := c.x.t.d.def_ 1 (d := d_is_between) rfl
  obtain ⟨fd_is_line, D_is_line⟩ := c.x.t.d.def_ 2 (d := d_is_line) rfl
  obtain ⟨fd_is_word, D_is_word⟩ := c.x.t.d.def_ 3 (d := d_is_word) rfl
  obtain ⟨fd_need_word, D_need_word⟩ := c.x.t.d.def_ 4 (d := d_need_word) rfl
  obtain ⟨fd_need_length, D_need_length⟩ := c.x.t.d.def_ 5 (d := d_need_length) rfl
  obtain ⟨fd_places_of, D_places_of⟩ := c.x.t.d.def_ 6 (d := d_places_of) rfl
  obtain ⟨fd_occurrences, D_occurrences⟩ := c.x.t.d.def_ 7 (d := d_occurrences) rfl
  obtain ⟨fd_counted, D_counted⟩ := c.x.t.d.def_ 8 (d := d_counted) rfl
  obtain ⟨fd_stretches, D_stretches⟩ := c.x.t.d.def_ 9 (d := d_stretches) rfl
  obtain ⟨fd_pieces, D_pieces⟩ := c.x.t.d.def_ 10 (d := d_pieces) rfl
  obtain ⟨fd_strand_of, D_strand_of⟩ := c.x.t.d.def_ 11 (d := d_strand_of) rfl
  obtain ⟨fd_other_strand, D_other_strand⟩ := c.x.t.d.def_ 12 (d := d_other_strand) rfl
  obtain ⟨fd_borders_of, D_borders_of⟩ := c.x.t.d.def_ 13 (d := d_borders_of) rfl
  obtain ⟨fd_borders, D_borders⟩ := c.x.t.d.def_ 14 (d := d_borders) rfl
  obtain ⟨fd_root_of, D_root_of⟩ := c.x.t.d.def_ 15 (d := d_root_of) rfl
  obtain ⟨fd_root, D_root⟩ := c.x.t.d.def_ 16 (d := d_root) rfl
  obtain ⟨fd_longest_common, D_longest_common⟩ := c.x.t.d.def_ 17 (d := d_longest_common) rfl
  obtain ⟨fd_turn_of, D_turn_of⟩ := c.x.t.d.def_ 18 (d := d_turn_of) rfl
  obtain ⟨fd_least_turn, D_least_turn⟩ := c.x.t.d.def_ 19 (d := d_least_turn) rfl
  obtain ⟨fd_is_ring, D_is_ring⟩ := c.x.t.d.def_ 20 (d := d_is_ring) rfl
  obtain ⟨fd_need_ring, D_need_ring⟩ := c.x.t.d.def_ 21 (d := d_need_ring) rfl
  obtain ⟨fd_turn, D_turn⟩ := c.x.t.d.def_ 22 (d := d_turn) rfl
  obtain ⟨fd_ring_of, D_ring_of⟩ := c.x.t.d.def_ 23 (d := d_ring_of) rfl
  obtain ⟨fd_read_on, D_read_on⟩ := c.x.t.d.def_ 24 (d := d_read_on) rfl
  obtain ⟨fd_ring_stretches, D_ring_stretches⟩ := c.x.t.d.def_ 25 (d := d_ring_stretches) rfl
  obtain ⟨fd_ring_places, D_ring_places⟩ := c.x.t.d.def_ 26 (d := d_ring_places) rfl
  obtain ⟨fd_ring_occurrences, D_ring_occurrences⟩ := c.x.t.d.def_ 27 (d := d_ring_occurrences) rfl
  obtain ⟨fd_ring_pieces, D_ring_pieces⟩ := c.x.t.d.def_ 28 (d := d_ring_pieces) rfl
  obtain ⟨fd_ring_strand, D_ring_strand⟩ := c.x.t.d.def_ 29 (d := d_ring_strand) rfl
  obtain ⟨fd__law_begun, D__law_begun⟩ := c.x.t.d.def_ 30 (d := d__law_begun) rfl
  obtain ⟨fd__law_mixed, D__law_mixed⟩ := c.x.t.d.def_ 31 (d := d__law_mixed) rfl
  obtain ⟨fd__law_take, D__law_take⟩ := c.x.t.d.def_ 32 (d := d__law_take) rfl
  obtain ⟨fd__law_pick, D__law_pick⟩ := c.x.t.d.def_ 33 (d := d__law_pick) rfl
  obtain ⟨fd__law_signs, D__law_signs⟩ := c.x.t.d.def_ 34 (d := d__law_signs) rfl
  obtain ⟨fd__law_letters, D__law_letters⟩ := c.x.t.d.def_ 35 (d := d__law_letters) rfl
  obtain ⟨fd__law_text, D__law_text⟩ := c.x.t.d.def_ 36 (d := d__law_text) rfl
  obtain ⟨fd__law_counted, D__law_counted⟩ := c.x.t.d.def_ 37 (d := d__law_counted) rfl
  obtain ⟨fd__law_strands_right, D__law_strands_right⟩ := c.x.t.d.def_ 38 (d := d__law_strands_right) rfl
  obtain ⟨fd__law_rings_right, D__law_rings_right⟩ := c.x.t.d.def_ 39 (d := d__law_rings_right) rfl
  obtain ⟨fd_law, D_law⟩ := c.x.t.d.def_ 40 (d := d_law) rfl
  have G_is_integer := He.glo_ok X G (c.x.t.d.fact 0 (f := .glo "is_integer") rfl)
  have G_is_between := He.glo_ok X G (c.x.t.d.fact 1 (f := .glo "is_between") rfl)
  have G_is_line := He.glo_ok X G (c.x.t.d.fact 2 (f := .glo "is_line") rfl)
  have G_is_word := He.glo_ok X G (c.x.t.d.fact 3 (f := .glo "is_word") rfl)
  have G_need_word := He.glo_ok X G (c.x.t.d.fact 4 (f := .glo "need_word") rfl)
  have G_need_length := He.glo_ok X G (c.x.t.d.fact 5 (f := .glo "need_length") rfl)
  have G_places_of := He.glo_ok X G (c.x.t.d.fact 6 (f := .glo "places_of") rfl)
  have G_occurrences := He.glo_ok X G (c.x.t.d.fact 7 (f := .glo "occurrences") rfl)
  have G_counted := He.glo_ok X G (c.x.t.d.fact 8 (f := .glo "counted") rfl)
  have G_stretches := He.glo_ok X G (c.x.t.d.fact 9 (f := .glo "stretches") rfl)
  have G_pieces := He.glo_ok X G (c.x.t.d.fact 10 (f := .glo "pieces") rfl)
  have G_strand_of := He.glo_ok X G (c.x.t.d.fact 11 (f := .glo "strand_of") rfl)
  have G_other_strand := He.glo_ok X G (c.x.t.d.fact 12 (f := .glo "other_strand") rfl)
  have G_borders_of := He.glo_ok X G (c.x.t.d.fact 13 (f := .glo "borders_of") rfl)
  have G_borders := He.glo_ok X G (c.x.t.d.fact 14 (f := .glo "borders") rfl)
  have G_root_of := He.glo_ok X G (c.x.t.d.fact 15 (f := .glo "root_of") rfl)
  have G_root := He.glo_ok X G (c.x.t.d.fact 16 (f := .glo "root") rfl)
  have G_longest_common := He.glo_ok X G (c.x.t.d.fact 17 (f := .glo "longest_common") rfl)
  have G_turn_of := He.glo_ok X G (c.x.t.d.fact 18 (f := .glo "turn_of") rfl)
  have G_least_turn := He.glo_ok X G (c.x.t.d.fact 19 (f := .glo "least_turn") rfl)
  have G_is_ring := He.glo_ok X G (c.x.t.d.fact 20 (f := .glo "is_ring") rfl)
  have G_need_ring := He.glo_ok X G (c.x.t.d.fact 21 (f := .glo "need_ring") rfl)
  have G_turn := He.glo_ok X G (c.x.t.d.fact 22 (f := .glo "turn") rfl)
  have G_ring_of := He.glo_ok X G (c.x.t.d.fact 23 (f := .glo "ring_of") rfl)
  have G_read_on := He.glo_ok X G (c.x.t.d.fact 24 (f := .glo "read_on") rfl)
  have G_ring_stretches := He.glo_ok X G (c.x.t.d.fact 25 (f := .glo "ring_stretches") rfl)
  have G_ring_places := He.glo_ok X G (c.x.t.d.fact 26 (f := .glo "ring_places") rfl)
  have G_ring_occurrences := He.glo_ok X G (c.x.t.d.fact 27 (f := .glo "ring_occurrences") rfl)
  have G_ring_pieces := He.glo_ok X G (c.x.t.d.fact 28 (f := .glo "ring_pieces") rfl)
  have G_ring_strand := He.glo_ok X G (c.x.t.d.fact 29 (f := .glo "ring_strand") rfl)
  have G__law_begun := He.glo_ok X G (c.x.t.d.fact 30 (f := .glo "_law_begun") rfl)
  have G__law_mixed := He.glo_ok X G (c.x.t.d.fact 31 (f := .glo "_law_mixed") rfl)
  have G__law_take := He.glo_ok X G (c.x.t.d.fact 32 (f := .glo "_law_take") rfl)
  have G__law_pick := He.glo_ok X G (c.x.t.d.fact 33 (f := .glo "_law_pick") rfl)
  have G__law_signs := He.glo_ok X G (c.x.t.d.fact 34 (f := .glo "_law_signs") rfl)
  have G__law_letters := He.glo_ok X G (c.x.t.d.fact 35 (f := .glo "_law_letters") rfl)
  have G__law_text := He.glo_ok X G (c.x.t.d.fact 36 (f := .glo "_law_text") rfl)
  have G__law_counted := He.glo_ok X G (c.x.t.d.fact 37 (f := .glo "_law_counted") rfl)
  have G__law_strands_right := He.glo_ok X G (c.x.t.d.fact 38 (f := .glo "_law_strands_right") rfl)
  have G__law_rings_right := He.glo_ok X G (c.x.t.d.fact 39 (f := .glo "_law_rings_right") rfl)
  have G_law := He.glo_ok X G (c.x.t.d.fact 40 (f := .glo "law") rfl)
  have e := hfa.symm.trans G_law
  cases e
  have b := FunD.bindsA (ps := ["_law_script"]) D_law fun _ _ _ _ _ _ us hl => match us, hl with | [_], _ => rfl
  refine ⟨fd_law, fun s v => b s [v] rfl, fun base _ _ TB => ?_⟩
  have F_is_integer : FnIs P w K mg base 1 "is_integer" ["value"] (spM ⟨K, He.ga K, TT K⟩ m_is_integer) := ⟨_, fd_is_integer, lk_is_integer (k := ⟨K, He.ga K, TT K⟩) B hXT D_is_integer, G_is_integer, D_is_integer.kp, D_is_integer.bindsN fun _ _ _ _ _ _ us hl => match us, hl with | [_], _ => rfl⟩
  have F_is_line : FnIs P w K mg base 1 "is_line" ["value"] (spM ⟨K, He.ga K, TT K⟩ m_is_line) := ⟨_, fd_is_line, lk_is_line (k := ⟨K, He.ga K, TT K⟩) B g_LETTERS hXT D_is_line, G_is_line, D_is_line.kp, D_is_line.bindsN fun _ _ _ _ _ _ us hl => match us, hl with | [_], _ => rfl⟩
  have F_places_of : FnIs P w K mg base 1 "places_of" ["text", "piece"] (spM ⟨K, He.ga K, TT K⟩ m_places_of) := ⟨_, fd_places_of, lk_places_of (k := ⟨K, He.ga K, TT K⟩) B D_places_of, G_places_of, D_places_of.kp, D_places_of.bindsN fun _ _ _ _ _ _ us hl => match us, hl with | [_, _], _ => rfl⟩
  have F_counted : FnIs P w K mg base 1 "counted" ["some"] (spM ⟨K, He.ga K, TT K⟩ m_counted) := ⟨_, fd_counted, lk_counted (k := ⟨K, He.ga K, TT K⟩) B D_counted, G_counted, D_counted.kp, D_counted.bindsN fun _ _ _ _ _ _ us hl => match us, hl with | [_], _ => rfl⟩
  have F_stretches : FnIs P w K mg base 1 "stretches" ["text", "length"] (spM ⟨K, He.ga K, TT K⟩ m_stretches) := ⟨_, fd_stretches, lk_stretches (k := ⟨K, He.ga K, TT K⟩) B D_stretches, G_stretches, D_stretches.kp, D_stretches.bindsN fun _ _ _ _ _ _ us hl => match us, hl with | [_, _], _ => rfl⟩
  have F_strand_of : FnIs P w K mg base 1 "strand_of" ["text"] (spM ⟨K, He.ga K, TT K⟩ m_strand_of) := ⟨_, fd_strand_of, lk_strand_of (k := ⟨K, He.ga K, TT K⟩) B G_PARTNERS KD_PARTNERS KT_PARTNERS D_strand_of, G_strand_of, D_strand_of.kp, D_strand_of.bindsN fun _ _ _ _ _ _ us hl => match us, hl with | [_], _ => rfl⟩
  have F_borders_of : FnIs P w K mg base 1 "borders_of" ["text"] (spM ⟨K, He.ga K, TT K⟩ m_borders_of) := ⟨_, fd_borders_of, lk_borders_of (k := ⟨K, He.ga K, TT K⟩) B D_borders_of, G_borders_of, D_borders_of.kp, D_borders_of.bindsN fun _ _ _ _ _ _ us hl => match us, hl with | [_], _ => rfl⟩
  have F_root_of : FnIs P w K mg base 1 "root_of" ["text"] (spM ⟨K, He.ga K, TT K⟩ m_root_of) := ⟨_, fd_root_of, lk_root_of (k := ⟨K, He.ga K, TT K⟩) B D_root_of, G_root_of, D_root_of.kp, D_root_of.bindsN fun _ _ _ _ _ _ us hl => match us, hl with | [_], _ => rfl⟩
  have F_turn_of : FnIs P w K mg base 1 "turn_of" ["text", "number"] (spM ⟨K, He.ga K, TT K⟩ m_turn_of) := ⟨_, fd_turn_of, lk_turn_of (k := ⟨K, He.ga K, TT K⟩) B D_turn_of, G_turn_of, D_turn_of.kp, D_turn_of.bindsN fun _ _ _ _ _ _ us hl => match us, hl with | [_, _], _ => rfl⟩
  have F_read_on : FnIs P w K mg base 1 "read_on" ["text", "at", "length"] (spM ⟨K, He.ga K, TT K⟩ m_read_on) := ⟨_, fd_read_on, lk_read_on (k := ⟨K, He.ga K, TT K⟩) B D_read_on, G_read_on, D_read_on.kp, D_read_on.bindsN fun _ _ _ _ _ _ us hl => match us, hl with | [_, _, _], _ => rfl⟩
  have F__law_begun : FnIs P w K mg base 1 "_law_begun" ["_law_script"] (spM ⟨K, He.ga K, TT K⟩ m_begun) := ⟨_, fd__law_begun, lk__law_begun (k := ⟨K, He.ga K, TT K⟩) B D__law_begun, G__law_begun, D__law_begun.kp, D__law_begun.bindsN fun _ _ _ _ _ _ us hl => match us, hl with | [_], _ => rfl⟩
  have F__law_mixed : FnIs P w K mg base 1 "_law_mixed" ["_law_draw"] (sp__law_mixed K (He.ga K)) := ⟨_, fd__law_mixed, lk__law_mixed (k := ⟨K, He.ga K, TT K⟩) B D__law_mixed, G__law_mixed, D__law_mixed.kp, D__law_mixed.bindsN fun _ _ _ _ _ _ us hl => match us, hl with | [_], _ => rfl⟩
  have F__law_counted : FnIs P w K mg base 1 "_law_counted" ["_law_some"] (spM ⟨K, He.ga K, TT K⟩ m__law_counted) := ⟨_, fd__law_counted, lk__law_counted (k := ⟨K, He.ga K, TT K⟩) B D__law_counted, G__law_counted, D__law_counted.kp, D__law_counted.bindsN fun _ _ _ _ _ _ us hl => match us, hl with | [_], _ => rfl⟩
  have F_is_between : FnIs P w K mg base 2 "is_between" ["value", "least", "most"] (spM ⟨K, He.ga K, TT K⟩ m_is_between) := ⟨_, fd_is_between, lk_is_between (k := ⟨K, He.ga K, TT K⟩) B F_is_integer D_is_between, G_is_between, D_is_between.kp, D_is_between.bindsN fun _ _ _ _ _ _ us hl => match us, hl with | [_, _, _], _ => rfl⟩
  have F_is_word : FnIs P w K mg base 2 "is_word" ["value"] (spM ⟨K, He.ga K, TT K⟩ m_is_word) := ⟨_, fd_is_word, lk_is_word (k := ⟨K, He.ga K, TT K⟩) B F_is_line D_is_word, G_is_word, D_is_word.kp, D_is_word.bindsN fun _ _ _ _ _ _ us hl => match us, hl with | [_], _ => rfl⟩
  have F_least_turn : FnIs P w K mg base 2 "least_turn" ["text"] (spM ⟨K, He.ga K, TT K⟩ m_least_turn) := ⟨_, fd_least_turn, lk_least_turn (k := ⟨K, He.ga K, TT K⟩) B F_turn_of D_least_turn, G_least_turn, D_least_turn.kp, D_least_turn.bindsN fun _ _ _ _ _ _ us hl => match us, hl with | [_], _ => rfl⟩
  have F_ring_stretches : FnIs P w K mg base 2 "ring_stretches" ["text", "length"] (spM ⟨K, He.ga K, TT K⟩ m_ring_stretches) := ⟨_, fd_ring_stretches, lk_ring_stretches (k := ⟨K, He.ga K, TT K⟩) B F_read_on D_ring_stretches, G_ring_stretches, D_ring_stretches.kp, D_ring_stretches.bindsN fun _ _ _ _ _ _ us hl => match us, hl with | [_, _], _ => rfl⟩
  have F__law_take : FnIs P w K mg base 2 "_law_take" ["_law_draw", "_law_total"] (spM ⟨K, He.ga K, TT K⟩ m_take) := ⟨_, fd__law_take, lk__law_take (k := ⟨K, He.ga K, TT K⟩) B F__law_mixed D__law_take, G__law_take, D__law_take.kp, D__law_take.bindsN fun _ _ _ _ _ _ us hl => match us, hl with | [_, _], _ => rfl⟩
  have F_need_word : FnIs P w K mg base 3 "need_word" ["word"] (spM ⟨K, He.ga K, TT K⟩ m_need_word) := ⟨_, fd_need_word, lk_need_word (k := ⟨K, He.ga K, TT K⟩) B F_is_word x_BadWord D_need_word, G_need_word, D_need_word.kp, D_need_word.bindsN fun _ _ _ _ _ _ us hl => match us, hl with | [_], _ => rfl⟩
  have F_need_length : FnIs P w K mg base 3 "need_length" ["length"] (spM ⟨K, He.ga K, TT K⟩ m_need_length) := ⟨_, fd_need_length, lk_need_length (k := ⟨K, He.ga K, TT K⟩) B F_is_between x_BadLength g_MOST_LETTERS D_need_length, G_need_length, D_need_length.kp, D_need_length.bindsN fun _ _ _ _ _ _ us hl => match us, hl with | [_], _ => rfl⟩
  have F_is_ring : FnIs P w K mg base 3 "is_ring" ["value"] (spM ⟨K, He.ga K, TT K⟩ m_is_ring) := ⟨_, fd_is_ring, lk_is_ring (k := ⟨K, He.ga K, TT K⟩) B F_is_word F_least_turn D_is_ring, G_is_ring, D_is_ring.kp, D_is_ring.bindsN fun _ _ _ _ _ _ us hl => match us, hl with | [_], _ => rfl⟩
  have F_ring_places : FnIs P w K mg base 3 "ring_places" ["text", "piece"] (spM ⟨K, He.ga K, TT K⟩ m_ring_places) := ⟨_, fd_ring_places, lk_ring_places (k := ⟨K, He.ga K, TT K⟩) B F_ring_stretches D_ring_places, G_ring_places, D_ring_places.kp, D_ring_places.bindsN fun _ _ _ _ _ _ us hl => match us, hl with | [_, _], _ => rfl⟩
  have F__law_pick : FnIs P w K mg base 3 "_law_pick" ["_law_draw", "_law_some"] (spM ⟨K, He.ga K, TT K⟩ m__law_pick) := ⟨_, fd__law_pick, lk__law_pick (k := ⟨K, He.ga K, TT K⟩) B F__law_take D__law_pick, G__law_pick, D__law_pick.kp, D__law_pick.bindsN fun _ _ _ _ _ _ us hl => match us, hl with | [_, _], _ => rfl⟩
  have F_occurrences : FnIs P w K mg base 4 "occurrences" ["word", "piece"] (spM ⟨K, He.ga K, TT K⟩ m_occurrences) := ⟨_, fd_occurrences, lk_occurrences (k := ⟨K, He.ga K, TT K⟩) B F_need_word F_places_of D_occurrences, G_occurrences, D_occurrences.kp, D_occurrences.bindsN fun _ _ _ _ _ _ us hl => match us, hl with | [_, _], _ => rfl⟩
  have F_pieces : FnIs P w K mg base 4 "pieces" ["word", "length"] (spM ⟨K, He.ga K, TT K⟩ m_pieces) := ⟨_, fd_pieces, lk_pieces (k := ⟨K, He.ga K, TT K⟩) B F_need_word F_need_length F_counted F_stretches D_pieces, G_pieces, D_pieces.kp, D_pieces.bindsN fun _ _ _ _ _ _ us hl => match us, hl with | [_, _], _ => rfl⟩
  have F_other_strand : FnIs P w K mg base 4 "other_strand" ["word"] (spM ⟨K, He.ga K, TT K⟩ m_other_strand) := ⟨_, fd_other_strand, lk_other_strand (k := ⟨K, He.ga K, TT K⟩) B F_need_word F_strand_of D_other_strand, G_other_strand, D_other_strand.kp, D_other_strand.bindsN fun _ _ _ _ _ _ us hl => match us, hl with | [_], _ => rfl⟩
  have F_borders : FnIs P w K mg base 4 "borders" ["word"] (spM ⟨K, He.ga K, TT K⟩ m_borders) := ⟨_, fd_borders, lk_borders (k := ⟨K, He.ga K, TT K⟩) B F_need_word F_borders_of D_borders, G_borders, D_borders.kp, D_borders.bindsN fun _ _ _ _ _ _ us hl => match us, hl with | [_], _ => rfl⟩
  have F_root : FnIs P w K mg base 4 "root" ["word"] (spM ⟨K, He.ga K, TT K⟩ m_root) := ⟨_, fd_root, lk_root (k := ⟨K, He.ga K, TT K⟩) B F_need_word F_root_of D_root, G_root, D_root.kp, D_root.bindsN fun _ _ _ _ _ _ us hl => match us, hl with | [_], _ => rfl⟩
  have F_longest_common : FnIs P w K mg base 4 "longest_common" ["one", "other"] (spM ⟨K, He.ga K, TT K⟩ m_longest_common) := ⟨_, fd_longest_common, lk_longest_common (k := ⟨K, He.ga K, TT K⟩) B F_need_word F_stretches D_longest_common, G_longest_common, D_longest_common.kp, D_longest_common.bindsN fun _ _ _ _ _ _ us hl => match us, hl with | [_, _], _ => rfl⟩
  have F_need_ring : FnIs P w K mg base 4 "need_ring" ["ring"] (spM ⟨K, He.ga K, TT K⟩ m_need_ring) := ⟨_, fd_need_ring, lk_need_ring (k := ⟨K, He.ga K, TT K⟩) B F_is_ring x_BadRing D_need_ring, G_need_ring, D_need_ring.kp, D_need_ring.bindsN fun _ _ _ _ _ _ us hl => match us, hl with | [_], _ => rfl⟩
  have F_turn : FnIs P w K mg base 4 "turn" ["word", "number"] (spM ⟨K, He.ga K, TT K⟩ m_turn) := ⟨_, fd_turn, lk_turn (k := ⟨K, He.ga K, TT K⟩) B F_need_word F_is_between F_turn_of x_BadIndex D_turn, G_turn, D_turn.kp, D_turn.bindsN fun _ _ _ _ _ _ us hl => match us, hl with | [_, _], _ => rfl⟩
  have F_ring_of : FnIs P w K mg base 4 "ring_of" ["word"] (spM ⟨K, He.ga K, TT K⟩ m_ring_of) := ⟨_, fd_ring_of, lk_ring_of (k := ⟨K, He.ga K, TT K⟩) B F_need_word F_least_turn D_ring_of, G_ring_of, D_ring_of.kp, D_ring_of.bindsN fun _ _ _ _ _ _ us hl => match us, hl with | [_], _ => rfl⟩
  have F__law_signs : FnIs P w K mg base 4 "_law_signs" ["_law_draw"] (spM ⟨K, He.ga K, TT K⟩ m__law_signs) := ⟨_, fd__law_signs, lk__law_signs (k := ⟨K, He.ga K, TT K⟩) B F__law_pick D__law_signs, G__law_signs, D__law_signs.kp, D__law_signs.bindsN fun _ _ _ _ _ _ us hl => match us, hl with | [_], _ => rfl⟩
  have F__law_letters : FnIs P w K mg base 4 "_law_letters" ["_law_draw", "_law_signs_here", "_law_many"] (spM ⟨K, He.ga K, TT K⟩ m__law_letters) := ⟨_, fd__law_letters, lk__law_letters (k := ⟨K, He.ga K, TT K⟩) B F__law_pick D__law_letters, G__law_letters, D__law_letters.kp, D__law_letters.bindsN fun _ _ _ _ _ _ us hl => match us, hl with | [_, _, _], _ => rfl⟩
  have F_ring_occurrences : FnIs P w K mg base 5 "ring_occurrences" ["ring", "piece"] (spM ⟨K, He.ga K, TT K⟩ m_ring_occurrences) := ⟨_, fd_ring_occurrences, lk_ring_occurrences (k := ⟨K, He.ga K, TT K⟩) B F_need_ring F_need_word F_ring_places D_ring_occurrences, G_ring_occurrences, D_ring_occurrences.kp, D_ring_occurrences.bindsN fun _ _ _ _ _ _ us hl => match us, hl with | [_, _], _ => rfl⟩
  have F_ring_pieces : FnIs P w K mg base 5 "ring_pieces" ["ring", "length"] (spM ⟨K, He.ga K, TT K⟩ m_ring_pieces) := ⟨_, fd_ring_pieces, lk_ring_pieces (k := ⟨K, He.ga K, TT K⟩) B F_need_ring F_need_length F_counted F_ring_stretches D_ring_pieces, G_ring_pieces, D_ring_pieces.kp, D_ring_pieces.bindsN fun _ _ _ _ _ _ us hl => match us, hl with | [_, _], _ => rfl⟩
  have F_ring_strand : FnIs P w K mg base 5 "ring_strand" ["ring"] (spM ⟨K, He.ga K, TT K⟩ m_ring_strand) := ⟨_, fd_ring_strand, lk_ring_strand (k := ⟨K, He.ga K, TT K⟩) B F_need_ring F_least_turn F_strand_of D_ring_strand, G_ring_strand, D_ring_strand.kp, D_ring_strand.bindsN fun _ _ _ _ _ _ us hl => match us, hl with | [_], _ => rfl⟩
  have F__law_text : FnIs P w K mg base 5 "_law_text" ["_law_draw", "_law_most"] (spM ⟨K, He.ga K, TT K⟩ m__law_text) := ⟨_, fd__law_text, lk__law_text (k := ⟨K, He.ga K, TT K⟩) B F__law_take F__law_signs F__law_letters F__law_pick D__law_text, G__law_text, D__law_text.kp, D__law_text.bindsN fun _ _ _ _ _ _ us hl => match us, hl with | [_, _], _ => rfl⟩
  have F__law_strands_right : FnIs P w K mg base 5 "_law_strands_right" ["_law_text_here", "_law_part"] (spM ⟨K, He.ga K, TT K⟩ m__law_strands_right) := ⟨_, fd__law_strands_right, lk__law_strands_right (k := ⟨K, He.ga K, TT K⟩) B F_other_strand F_is_word F_borders F_occurrences F_root F_pieces D__law_strands_right, G__law_strands_right, D__law_strands_right.kp, D__law_strands_right.bindsN fun _ _ _ _ _ _ us hl => match us, hl with | [_, _], _ => rfl⟩
  have F__law_rings_right : FnIs P w K mg base 6 "_law_rings_right" ["_law_text_here", "_law_part", "_law_many"] (spM ⟨K, He.ga K, TT K⟩ m__law_rings_right) := ⟨_, fd__law_rings_right, lk__law_rings_right (k := ⟨K, He.ga K, TT K⟩) B F_turn F_root F_ring_of F_ring_strand F_other_strand F_ring_occurrences F_ring_pieces F__law_counted D__law_rings_right, G__law_rings_right, D__law_rings_right.kp, D__law_rings_right.bindsN fun _ _ _ _ _ _ us hl => match us, hl with | [_, _, _], _ => rfl⟩
  exact FnG.of (lk_law (k := ⟨K, He.ga K, TT K⟩) B F__law_begun F__law_text F__law_pick F__law_take F__law_strands_right F__law_rings_right F_borders F_longest_common F_other_strand D_law)
end Y
open PySem PySem.W PySem.Calls PyProof.Rows
theorem PySem.Challenge.cw_readhouse_k07_whole_strands_turns_and_ro_holds : PySem.Challenge.rw_readhouse_k07_whole_strands_turns_and_ro.Holds := by
  w_on; o_law
  refine HandSHeadRun.head_any (r := OpenLaw.row PySem.Challenge.rw_readhouse_k07_whole_strands_turns_and_ro) (q := view (OpenLaw.row PySem.Challenge.rw_readhouse_k07_whole_strands_turns_and_ro).prog [52]) (H := Y.hk) (ob := Y.ob) (M := 6000) (loose := Y.loose) (d := HandSHeadRun.topDef (OpenLaw.row PySem.Challenge.rw_readhouse_k07_whole_strands_turns_and_ro).prog 52) (kwd := []) Y.ob_eq
    (by kernel_rfl) (fun s => by kernel_rfl) Y.run (by kernel_rfl) (by kernel_rfl) (by kernel_rfl) (by rfl) (by first | assumption | decide +kernel) (by decide +kernel) ⟨rfl, rfl, rfl, rfl, rfl, by decide +kernel⟩ ?hw ?hc
  case hw => w_witness2
  case hc =>
    refine Z.walkG (l := PySem.Challenge.rw_readhouse_k07_whole_strands_turns_and_ro) (n := 63) (k := 7) (x := "_law_script") (C := fun w => L2.CX (PySem.Challenge.rw_readhouse_k07_whole_strands_turns_and_ro).prog w) rfl (by decide) (by kernel_rfl) ⟨rfl, by decide, by decide⟩ ?F (fun _ _ _ _ _ ⟨_, _, _, _, _, _, _, _, _, _, _, _, z⟩ => z)
    intro w mg fa h Yy G hmg0
    obtain ⟨K, KX, c⟩ := Yy
    have hmg : mg ("law" : PySem.Str) = some (.ref fa) := by
      have e : (HandSHeadRun.topDef (OpenLaw.row PySem.Challenge.rw_readhouse_k07_whole_strands_turns_and_ro).prog 52).name = ("law" : PySem.Str) := by kernel_rfl
      rw [← e]
      exact hmg0
    obtain ⟨fd, hb, hF⟩ := Y.facts (P := (PySem.Challenge.rw_readhouse_k07_whole_strands_turns_and_ro).prog) (w := w) KX G hmg c
    refine ⟨K, fd, Y.tf.map (He.cT K), Y.spM ⟨K, He.ga K, Y.TT K⟩ Y.m_law, KX, fun p hp => ?_, fun p hp => ?_, fun p hp => ?_, hb, fun H a ns hl hT hS => Y.law_sp (k := ⟨K, He.ga K, Y.TT K⟩) (fun p hp => ?_) hS (Y.law_pure ns hl), hF⟩
    · obtain ⟨q, hq, rfl⟩ := List.mem_map.mp hp; exact c.x.empty q hq
    · obtain ⟨q, hq, rfl⟩ := List.mem_map.mp hp; exact c.x.out q hq
    · obtain ⟨q, hq, rfl⟩ := List.mem_map.mp hp; exact codeHd_of_K KX (c.x.hd q hq)
    · simp only [Y.TT, List.not_mem_nil] at hp


