import PyProof.Rows.All
import Wide.All
import OpenK.AllK
import Wide.FinOn
import HandS.ForMost
import HandS.Style
import HandS.Property
import HandS.SortInts
import HandS.Wide
import HandS.Exc
import HandS.Star
import HandS.WordsExc
import PyProof.ReprRoads
import PyProof.ReprLen
import HandS.SortRule
import HandS.Ends
import HandS.Zip
import HandS.More
import HandS.Deep
import HandS.SortKw
import HandS.TupAny
import HandS.ExcOwn
import HandS.ExcInit
import HandS.ExcIs
import HandS.ExcField
import HandS.IsInst
import HandS.SetFor
import HandS.Strs
import HandS.DictComp
import HandS.NoneIn
import HandS.Conv
import HandS.WideBits
import PySem.Challenge.RW_inforce_k07_lists_asked_by_turns
set_option Elab.async false
set_option linter.all false
set_option maxRecDepth 100000
set_option maxHeartbeats 4000000
/-! A layer of our own over HandS: data by value (D), objects that change (M), readings over these. -/
namespace Ab
open PySem PySem.Spec PyProof.Rows L2

/-! ### data -/
inductive D where
  | non | bl (b : Bool) | int (i : Int) | str (x : Str) | adr (a : Addr) | ty (n : String)
  | lst (xs : List D) | tup (xs : List D) | obj (C : Addr) (fs : List (Str × D)) | pin (B0 : Addr → Option HO) | dic (kvs : List (Key × D))

mutual
inductive Rep (B : Hp) : V → D → Prop
  | non : Rep B .non .non
  | bl (b : Bool) : Rep B (.bl b) (.bl b)
  | int (i : Int) : Rep B (.int i) (.int i)
  | str (x : Str) : Rep B (.str x) (.str x)
  | adr (a : Addr) : Rep B (.ref a) (.adr a)
  | ty (n : String) : Rep B (.ty n) (.ty n)
  | lst {a : Addr} {xs : List V} {ds : List D} : B a = some (.lst xs) → Reps B xs ds → Rep B (.ref a) (.lst ds)
  | tup {a : Addr} {xs : List V} {ds : List D} : B a = some (.tup xs) → Reps B xs ds → Rep B (.ref a) (.tup ds)
  | obj {a C dx : Addr} {fs : List (Str × V)} {gs : List (Str × D)} : B a = some (.ins C dx fs) → B dx = some (.own a) → Refs B fs gs → Rep B (.ref a) (.obj C gs)
  | pin {B0 : Hp} : Same B0 B → Rep B (.bl true) (.pin B0)
  | dic {a : Addr} {ws : List (Key × V)} {kvs : List (Key × D)} : B a = some (.dK ws) → Kreps B ws kvs → Rep B (.ref a) (.dic kvs)
inductive Reps (B : Hp) : List V → List D → Prop
  | nil : Reps B [] []
  | cons {v : V} {d : D} {vs : List V} {ds : List D} : Rep B v d → Reps B vs ds → Reps B (v :: vs) (d :: ds)
inductive Refs (B : Hp) : List (Str × V) → List (Str × D) → Prop
  | nil : Refs B [] []
  | cons {n : Str} {v : V} {d : D} {vs : List (Str × V)} {ds : List (Str × D)} : Rep B v d → Refs B vs ds → Refs B ((n, v) :: vs) ((n, d) :: ds)
inductive Kreps (B : Hp) : List (Key × V) → List (Key × D) → Prop
  | nil : Kreps B [] []
  | cons {k : Key} {v : V} {d : D} {vs : List (Key × V)} {ds : List (Key × D)} : Rep B v d → Kreps B vs ds → Kreps B ((k, v) :: vs) ((k, d) :: ds)
end

mutual
theorem Rep.mono {B B' : Hp} (e : Same B B') : ∀ {v : V} {d : D}, Rep B v d → Rep B' v d
  | _, _, .non => .non
  | _, _, .bl b => .bl b
  | _, _, .int i => .int i
  | _, _, .str x => .str x
  | _, _, .adr a => .adr a
  | _, _, .ty n => .ty n
  | _, _, .lst h r => .lst (e _ _ h) (Reps.mono e r)
  | _, _, .tup h r => .tup (e _ _ h) (Reps.mono e r)
  | _, _, .obj h k r => .obj (e _ _ h) (e _ _ k) (Refs.mono e r)
  | _, _, .pin h => .pin (h.trans e)
  | _, _, .dic h r => .dic (e _ _ h) (Kreps.mono e r)
theorem Reps.mono {B B' : Hp} (e : Same B B') : ∀ {vs : List V} {ds : List D}, Reps B vs ds → Reps B' vs ds
  | _, _, .nil => .nil
  | _, _, .cons r t => .cons (Rep.mono e r) (Reps.mono e t)
theorem Refs.mono {B B' : Hp} (e : Same B B') : ∀ {vs : List (Str × V)} {ds : List (Str × D)}, Refs B vs ds → Refs B' vs ds
  | _, _, .nil => .nil
  | _, _, .cons r t => .cons (Rep.mono e r) (Refs.mono e t)
theorem Kreps.mono {B B' : Hp} (e : Same B B') : ∀ {vs : List (Key × V)} {ds : List (Key × D)}, Kreps B vs ds → Kreps B' vs ds
  | _, _, .nil => .nil
  | _, _, .cons r t => .cons (Rep.mono e r) (Kreps.mono e t)
end
theorem Reps.length {B : Hp} : ∀ {vs : List V} {ds : List D}, Reps B vs ds → vs.length = ds.length
  | _, _, .nil => rfl
  | _, _, .cons _ t => by rw [List.length_cons, List.length_cons, Reps.length t]
theorem Reps.get {B : Hp} : ∀ {vs : List V} {ds : List D} {i : Nat} {d : D}, Reps B vs ds → ds[i]? = some d → ∃ v, vs[i]? = some v ∧ Rep B v d
  | _, _, i, d, .nil, h => by simp at h
  | _, _, 0, d, .cons r t, h => by simp at h; subst h; exact ⟨_, rfl, r⟩
  | _, _, i + 1, d, .cons r t, h => by
    have h' := Reps.get (i := i) t (by simpa using h)
    simpa using h'
theorem Reps.getV {B : Hp} : ∀ {vs : List V} {ds : List D} {i : Nat} {v : V}, Reps B vs ds → vs[i]? = some v → ∃ d, ds[i]? = some d ∧ Rep B v d
  | _, _, i, d, .nil, h => by simp at h
  | _, _, 0, d, .cons r t, h => by simp at h; subst h; exact ⟨_, rfl, r⟩
  | _, _, i + 1, d, .cons r t, h => by
    have h' := Reps.getV (i := i) t (by simpa using h)
    simpa using h'
theorem Reps.append {B : Hp} : ∀ {vs ws : List V} {ds es : List D}, Reps B vs ds → Reps B ws es → Reps B (vs ++ ws) (ds ++ es)
  | _, _, _, _, .nil, h => h
  | _, _, _, _, .cons r t, h => .cons r (Reps.append t h)
theorem Reps.set {B : Hp} {v : V} {d : D} (r : Rep B v d) : ∀ {vs : List V} {ds : List D} (i : Nat), Reps B vs ds → Reps B (vs.set i v) (ds.set i d)
  | _, _, _, .nil => .nil
  | _, _, 0, .cons _ t => .cons r t
  | _, _, i + 1, .cons q t => .cons q (Reps.set r i t)
theorem Reps.take {B : Hp} : ∀ {vs : List V} {ds : List D} (i : Nat), Reps B vs ds → Reps B (vs.take i) (ds.take i)
  | _, _, 0, _ => by simpa using Reps.nil
  | _, _, _ + 1, .nil => .nil
  | _, _, i + 1, .cons q t => .cons q (Reps.take i t)
theorem Reps.drop {B : Hp} : ∀ {vs : List V} {ds : List D} (i : Nat), Reps B vs ds → Reps B (vs.drop i) (ds.drop i)
  | _, _, 0, h => h
  | _, _, _ + 1, .nil => .nil
  | _, _, i + 1, .cons _ t => Reps.drop i t
theorem Reps.reverse {B : Hp} : ∀ {vs : List V} {ds : List D}, Reps B vs ds → Reps B vs.reverse ds.reverse
  | _, _, .nil => .nil
  | _, _, .cons q t => by
    rw [List.reverse_cons, List.reverse_cons]
    exact (Reps.reverse t).append (.cons q .nil)
theorem Reps.one {B : Hp} {v : V} {d : D} (r : Rep B v d) : Reps B [v] [d] := .cons r .nil
theorem Refs.look {B : Hp} {f : Str} : ∀ {vs : List (Str × V)} {ds : List (Str × D)} {d : D}, Refs B vs ds → ds.lookup f = some d → ∃ v, vs.lookup f = some v ∧ Rep B v d
  | _, _, d, .nil, h => by simp at h
  | _, _, d, .cons (n := n) (v := v) (vs := vs) r t, h => by
    rw [List.lookup_cons] at h ⊢
    cases e : f == n with
    | true =>
      rw [e] at h
      simp only at h ⊢
      cases h
      exact ⟨v, rfl, r⟩
    | false =>
      rw [e] at h
      simp only at h ⊢
      exact Refs.look t h
theorem Refs.none {B : Hp} {f : Str} : ∀ {vs : List (Str × V)} {ds : List (Str × D)}, Refs B vs ds → ds.lookup f = none → vs.lookup f = none
  | _, _, .nil, h => rfl
  | _, _, .cons (n := n) (v := v) (vs := vs) r t, h => by
    rw [List.lookup_cons] at h ⊢
    cases e : f == n with
    | true => rw [e] at h; simp at h
    | false =>
      rw [e] at h
      simp only at h ⊢
      exact Refs.none t h
def putD (f : Str) (d : D) : List (Str × D) → List (Str × D)
  | [] => [(f, d)]
  | (g, y) :: r => if g = f then (g, d) :: r else (g, y) :: putD f d r
theorem Refs.length {B : Hp} : ∀ {vs : List (Str × V)} {ds : List (Str × D)}, Refs B vs ds → vs.length = ds.length
  | _, _, .nil => rfl
  | _, _, .cons _ t => by rw [List.length_cons, List.length_cons, Refs.length t]

/-! ### objects that change -/
inductive MO where
  | lst (xs : List D) | dK (kvs : List (Key × D)) | ins (C : Addr) (fs : List (Str × D)) | raw (o : HO) | err (d : D)
abbrev AHp := Addr → Option MO
def updM (M : AHp) (p : Addr) (o : MO) : AHp := fun b => if b = p then some o else M b
def delM (M : AHp) (p : Addr) : AHp := fun b => if b = p then none else M b
theorem updM_same {M : AHp} {p : Addr} {o : MO} : updM M p o p = some o := if_pos rfl
theorem updM_ne {M : AHp} {p b : Addr} {o : MO} (h : b ≠ p) : updM M p o b = M b := if_neg h
theorem delM_same {M : AHp} {p : Addr} : delM M p p = none := if_pos rfl
theorem delM_ne {M : AHp} {p b : Addr} (h : b ≠ p) : delM M p b = M b := if_neg h
theorem updM_updM {M : AHp} {p : Addr} {o u : MO} : updM (updM M p o) p u = updM M p u := by
  funext b; unfold updM; split <;> rfl
theorem neM {M : AHp} {a b : Addr} {o : MO} (h : M a = some o) (n : M b = none) : a ≠ b := fun e => by rw [e, n] at h; cases h

def MRep (B H : Hp) (p : Addr) : MO → Prop
  | .lst ds => ∃ xs, H p = some (.lst xs) ∧ Reps B xs ds
  | .dK kvs => ∃ ws, H p = some (.dK ws) ∧ Kreps B ws kvs
  | .ins C fs => ∃ dx ws, H p = some (.ins C dx ws) ∧ H dx = some (.own p) ∧ B dx = none ∧ Refs B ws fs
  | .raw o => H p = some o ∧ ∀ x, o ≠ .own x
  | .err d => ∃ v, H p = some (.xd [(("value" : Str), v)]) ∧ Rep B v d
/-- B: what stays as it is; M: what may change; both within H, apart -/
structure Cf (B : Hp) (M : AHp) (H : Hp) : Prop where
  ex : Same B H
  m : ∀ p o, M p = some o → B p = none ∧ MRep B H p o
theorem MRep.there {B H : Hp} {p : Addr} {o : MO} (h : MRep B H p o) : ∃ u, H p = some u := by
  cases o with
  | lst ds => obtain ⟨xs, e, _⟩ := h; exact ⟨_, e⟩
  | dK kvs => obtain ⟨xs, e, _⟩ := h; exact ⟨_, e⟩
  | ins C fs => obtain ⟨dx, ws, e, _⟩ := h; exact ⟨_, e⟩
  | raw o => exact ⟨_, h.1⟩
  | err d => obtain ⟨v, e, _⟩ := h; exact ⟨_, e⟩
theorem Cf.none {B : Hp} {M : AHp} {H : Hp} (c : Cf B M H) {p : Addr} (h : H p = Option.none) : M p = Option.none := by
  cases e : M p with
  | none => rfl
  | some o =>
    obtain ⟨u, q⟩ := (c.m p o e).2.there
    rw [h] at q; cases q
theorem Cf.noneB {B : Hp} {M : AHp} {H : Hp} (c : Cf B M H) {p : Addr} (h : H p = Option.none) : B p = Option.none := c.ex.free h
/-- a thing that stays is laid -/
theorem MRep.grow {B B' H H' : Hp} {p : Addr} {o : MO} (h : MRep B H p o) (eB : Same B B') (eH : Same H H') (n : ∀ a u, B' a = some u → B a = some u ∨ H a = none) : MRep B' H' p o := by
  cases o with
  | lst ds => obtain ⟨xs, e, r⟩ := h; exact ⟨xs, eH _ _ e, r.mono eB⟩
  | dK kvs => obtain ⟨xs, e, r⟩ := h; exact ⟨xs, eH _ _ e, r.mono eB⟩
  | ins C fs =>
    obtain ⟨dx, ws, e, k, z, r⟩ := h
    refine ⟨dx, ws, eH _ _ e, eH _ _ k, ?_, r.mono eB⟩
    cases q : B' dx with
    | none => rfl
    | some u =>
      rcases n dx u q with y | y
      · rw [z] at y; cases y
      · rw [k] at y; cases y
  | raw o => exact ⟨eH _ _ h.1, h.2⟩
  | err d => obtain ⟨v, e, r⟩ := h; exact ⟨v, eH _ _ e, r.mono eB⟩
theorem same_upd {H : Hp} {p : Addr} {o : HO} (h : H p = none) : Same H (upd H p o) := fun b u e => by
  rw [upd_ne (ne_of_none e h)]; exact e
theorem same_upd2 {B H : Hp} {p : Addr} {o : HO} (h : Same B H) : B p = none → Same B (upd H p o) := fun n b u e => by
  rw [upd_ne (ne_of_none e n)]; exact h _ _ e
theorem upd_mono {B H : Hp} {p : Addr} {o : HO} (h : Same B H) : Same (upd B p o) (upd H p o) := fun b u e => by
  by_cases q : b = p
  · subst q; rw [upd_same] at e ⊢; exact e
  · rw [upd_ne q] at e ⊢; exact h _ _ e
theorem Cf.newI {B : Hp} {M : AHp} {H : Hp} (c : Cf B M H) {p : Addr} (o : HO) (h : H p = Option.none) : Same B (upd B p o) ∧ Cf (upd B p o) M (upd H p o) := by
  refine ⟨same_upd (c.noneB h), upd_mono c.ex, fun q u e => ?_⟩
  have np : q ≠ p := fun z => by rw [z, c.none h] at e; cases e
  obtain ⟨b, r⟩ := c.m q u e
  refine ⟨by rw [upd_ne np]; exact b, r.grow (same_upd (c.noneB h)) (same_upd h) fun a w z => ?_⟩
  by_cases y : a = p
  · exact .inr (y ▸ h)
  · rw [upd_ne y] at z; exact .inl z
/-- .. a thing that may change -/
theorem Cf.newM {B : Hp} {M : AHp} {H : Hp} (c : Cf B M H) {p : Addr} {o : HO} (w : MO) (h : H p = Option.none) (r : MRep B (upd H p o) p w) : Cf B (updM M p w) (upd H p o) := by
  refine ⟨c.ex.trans (same_upd h), fun q u e => ?_⟩
  by_cases np : q = p
  · subst np
    rw [updM_same] at e; cases e
    exact ⟨c.noneB h, r⟩
  · rw [updM_ne np] at e
    obtain ⟨b, r⟩ := c.m q u e
    exact ⟨b, r.grow (Same.refl _) (same_upd h) fun a w z => .inl z⟩
/-- a thing is changed -/
theorem Cf.set {B : Hp} {M : AHp} {H : Hp} (c : Cf B M H) {p : Addr} {o : HO} {w0 : MO} (w : MO) (h : M p = some w0) (hno : ∀ x, H p ≠ some (.own x)) (r : MRep B (upd H p o) p w) : Cf B (updM M p w) (upd H p o) := by
  have bp := (c.m p w0 h).1
  refine ⟨same_upd2 c.ex bp, fun q u e => ?_⟩
  by_cases np : q = p
  · subst np
    rw [updM_same] at e; cases e
    exact ⟨bp, r⟩
  · rw [updM_ne np] at e
    obtain ⟨b, r⟩ := c.m q u e
    refine ⟨b, ?_⟩
    cases u with
    | lst ds => obtain ⟨xs, e, r⟩ := r; exact ⟨xs, by rw [upd_ne np]; exact e, r⟩
    | dK kvs => obtain ⟨xs, e, r⟩ := r; exact ⟨xs, by rw [upd_ne np]; exact e, r⟩
    | ins C fs =>
      obtain ⟨dx, ws, e, k, z, r⟩ := r
      have nd : dx ≠ p := fun y => by rw [y] at k; exact hno q k
      exact ⟨dx, ws, by rw [upd_ne np]; exact e, by rw [upd_ne nd]; exact k, z, r⟩
    | raw o =>
      refine ⟨?_, r.2⟩
      rw [upd_ne np]
      exact r.1
    | err d => obtain ⟨v, e, r⟩ := r; exact ⟨v, by rw [upd_ne np]; exact e, r⟩
theorem Cf.forget {B : Hp} {M M' : AHp} {H : Hp} (c : Cf B M H) (h : ∀ p o, M' p = some o → M p = some o) : Cf B M' H := ⟨c.ex, fun p o e => c.m p o (h p o e)⟩
/-- a list changes no more -/
theorem Cf.freeze {B : Hp} {M : AHp} {H : Hp} (c : Cf B M H) {p : Addr} {ds : List D} (h : M p = some (.lst ds)) : ∃ B', Same B B' ∧ Cf B' (delM M p) H ∧ Rep B' (.ref p) (.lst ds) := by
  obtain ⟨bp, xs, e, r⟩ := c.m p _ h
  have s1 : Same B (upd B p (.lst xs)) := same_upd bp
  refine ⟨upd B p (.lst xs), s1, ⟨fun b u z => ?_, fun q u z => ?_⟩, .lst upd_same (r.mono s1)⟩
  · by_cases y : b = p
    · subst y; rw [upd_same] at z; rw [e]; exact z
    · rw [upd_ne y] at z; exact c.ex _ _ z
  · have np : q ≠ p := fun y => by rw [y, delM_same] at z; cases z
    rw [delM_ne np] at z
    obtain ⟨b, m⟩ := c.m q u z
    refine ⟨by rw [upd_ne np]; exact b, ?_⟩
    cases u with
    | lst ds => obtain ⟨xs, e, r⟩ := m; exact ⟨xs, e, r.mono s1⟩
    | dK kvs => obtain ⟨xs, e, r⟩ := m; exact ⟨xs, e, r.mono s1⟩
    | ins C fs =>
      obtain ⟨dx, ws, e', k, z, r⟩ := m
      refine ⟨dx, ws, e', k, ?_, r.mono s1⟩
      rw [upd_ne (fun y => by rw [y, e] at k; cases k)]
      exact z
    | raw o => exact m
    | err d => obtain ⟨v, e', r⟩ := m; exact ⟨v, e', r.mono s1⟩
/-- a dict changes no more -/
theorem Cf.freezeK {B : Hp} {M : AHp} {H : Hp} (c : Cf B M H) {p : Addr} {kvs : List (Key × D)} (h : M p = some (.dK kvs)) : ∃ B', Same B B' ∧ Cf B' (delM M p) H ∧ Rep B' (.ref p) (.dic kvs) := by
  obtain ⟨bp, xs, e, r⟩ := c.m p _ h
  have s1 : Same B (upd B p (.dK xs)) := same_upd bp
  refine ⟨upd B p (.dK xs), s1, ⟨fun b u z => ?_, fun q u z => ?_⟩, .dic upd_same (r.mono s1)⟩
  · by_cases y : b = p
    · subst y; rw [upd_same] at z; rw [e]; exact z
    · rw [upd_ne y] at z; exact c.ex _ _ z
  · have np : q ≠ p := fun y => by rw [y, delM_same] at z; cases z
    rw [delM_ne np] at z
    obtain ⟨b, m⟩ := c.m q u z
    refine ⟨by rw [upd_ne np]; exact b, ?_⟩
    cases u with
    | lst ds => obtain ⟨xs, e, r⟩ := m; exact ⟨xs, e, r.mono s1⟩
    | dK kvs => obtain ⟨xs, e, r⟩ := m; exact ⟨xs, e, r.mono s1⟩
    | ins C fs =>
      obtain ⟨dx, ws, e', k, z, r⟩ := m
      refine ⟨dx, ws, e', k, ?_, r.mono s1⟩
      rw [upd_ne (fun y => by rw [y, e] at k; cases k)]
      exact z
    | raw o => exact m
    | err d => obtain ⟨v, e', r⟩ := m; exact ⟨v, e', r.mono s1⟩
/-- an instance changes no more -/
theorem Cf.freezeI {B : Hp} {M : AHp} {H : Hp} (c : Cf B M H) {p C : Addr} {fs : List (Str × D)} (h : M p = some (.ins C fs)) : ∃ B', Same B B' ∧ Cf B' (delM M p) H ∧ Rep B' (.ref p) (.obj C fs) := by
  obtain ⟨bp, dx, ws, e, k, z, r⟩ := c.m p _ h
  have np : p ≠ dx := fun y => by rw [y, k] at e; cases e
  have s1 : Same B (upd (upd B dx (.own p)) p (.ins C dx ws)) := (same_upd z).trans (same_upd (by rw [upd_ne np]; exact bp))
  refine ⟨upd (upd B dx (.own p)) p (.ins C dx ws), s1, ⟨fun b u z => ?_, fun q u z => ?_⟩, .obj upd_same (by rw [upd_ne np.symm]; exact upd_same) (r.mono s1)⟩
  · by_cases y : b = p
    · subst y; rw [upd_same] at z; rw [e]; exact z
    · rw [upd_ne y] at z
      by_cases y2 : b = dx
      · subst y2; rw [upd_same] at z; rw [k]; exact z
      · rw [upd_ne y2] at z; exact c.ex _ _ z
  · have nq : q ≠ p := fun y => by rw [y, delM_same] at z; cases z
    rw [delM_ne nq] at z
    obtain ⟨b, m⟩ := c.m q u z
    have nd : q ≠ dx := fun y => by
      subst y
      cases u with
      | lst ds => obtain ⟨xs, e, r⟩ := m; rw [k] at e; cases e
      | dK kvs => obtain ⟨xs, e, r⟩ := m; rw [k] at e; cases e
      | ins C fs => obtain ⟨dx, ws, e', _⟩ := m; rw [k] at e'; cases e'
      | raw o =>
        have m1 : H q = some o := m.1
        rw [k] at m1
        exact m.2 p (Option.some.inj m1).symm
      | err d => obtain ⟨v, e, _⟩ := m; rw [k] at e; cases e
    refine ⟨by rw [upd_ne nq, upd_ne nd]; exact b, ?_⟩
    cases u with
    | lst ds => obtain ⟨xs, e, r⟩ := m; exact ⟨xs, e, r.mono s1⟩
    | dK kvs => obtain ⟨xs, e, r⟩ := m; exact ⟨xs, e, r.mono s1⟩
    | ins C2 fs2 =>
      obtain ⟨dx2, ws2, e', k2, z2, r2⟩ := m
      refine ⟨dx2, ws2, e', k2, ?_, r2.mono s1⟩
      have h1 : dx2 ≠ p := fun y => by rw [y, e] at k2; cases k2
      have h2 : dx2 ≠ dx := fun y => by rw [y, k] at k2; cases k2; exact nq rfl
      rw [upd_ne h1, upd_ne h2]
      exact z2
    | raw o => exact m
    | err d => obtain ⟨v, e', r⟩ := m; exact ⟨v, e', r.mono s1⟩

/-! ### names -/
abbrev DE := List (Option D)
structure RepS (B : Hp) (σ : L2.St) (δ : DE) : Prop where
  len : σ.length = δ.length
  at_ : ∀ (i : Nat) (d : D), δ[i]? = some (some d) → ∃ v, σ[i]? = some (some v) ∧ Rep B v d
theorem RepS.mono {B B' : Hp} {σ : L2.St} {δ : DE} (r : RepS B σ δ) (e : Same B B') : RepS B' σ δ := ⟨r.len, fun i d h => let ⟨v, h1, h2⟩ := r.at_ i d h; ⟨v, h1, h2.mono e⟩⟩
theorem RepS.set {B : Hp} {σ : L2.St} {δ : DE} (r : RepS B σ δ) {i : Nat} {v : V} {d : D} (h : Rep B v d) : RepS B (σ.set i (some v)) (δ.set i (some d)) := by
  refine ⟨by rw [List.length_set, List.length_set]; exact r.len, fun j x e => ?_⟩
  by_cases q : i = j
  · subst q
    by_cases hl : i < δ.length
    · rw [List.getElem?_set_self hl] at e
      cases e
      exact ⟨v, by rw [List.getElem?_set_self (by rw [r.len]; exact hl)], h⟩
    · rw [List.getElem?_eq_none_iff.mpr (by rw [List.length_set]; omega)] at e
      cases e
  · rw [List.getElem?_set_ne q] at e ⊢
    exact r.at_ j x e
/-- some names are forgotten -/
def wipeD (δ : DE) : List Nat → DE
  | [] => δ
  | i :: is => (wipeD δ is).set i none
end Ab
/-! Readings over data. -/
namespace Ab
open PySem PySem.Spec PyProof.Rows L2

/-! ### the widest readings -/
def wE (X : Cx) (e : Expr) : TE := fun σ H Q => ∀ (pins : List (Addr × Obj)) (s : Shared), Inv X pins σ H s → wpAny (model X.prog X.w) X.A (eval e X.env) (EP X pins σ Q) X.xe s
def wT (X : Cx) (e : Expr) : TT := fun σ H Q => ∀ (pins : List (Addr × Obj)) (s : Shared), Inv X pins σ H s → wpAny (model X.prog X.w) X.A (isTrue e X.env (eval e X.env)) (TP X pins σ Q) X.xe s
def wA (X : Cx) (es : List Expr) : TA := fun σ H Q => ∀ (pos : Pos) (pins : List (Addr × Obj)) (s : Shared), Inv X pins σ H s → wpAny (model X.prog X.w) X.A (spliced (backTo pos (starEach es X.env))) (AP X pins σ Q) X.xe s
def wS (X : Cx) (st : Stmt) : TS := fun D σ H => ∀ (pins : List (Addr × Obj)) (s : Shared), Inv X pins σ H s → wpAny (model X.prog X.w) X.A (exec st X.env) (SP X pins D) X.xe s
def wSs (X : Cx) (st : List Stmt) : TS := fun D σ H => ∀ (pins : List (Addr × Obj)) (s : Shared), Inv X pins σ H s → wpAny (model X.prog X.w) X.A (execs st X.env) (SP X pins D) X.xe s
def wG (X : Cx) (tg : Expr) : TG := fun v σ H Q => ∀ (pins : List (Addr × Obj)) (s : Shared) (u : Value), Inv X pins σ H s → RelV v u →
    wpAny (model X.prog X.w) X.A (assign tg X.env u) (fun _ s' => ∃ σ' H', Inv X pins σ' H' s' ∧ Q σ' H') X.xe s
section
variable {X : Cx} {e : Expr} {es : List Expr} {st : Stmt} {sts : List Stmt}
theorem pe_w : PE X e (wE X e) := ⟨fun pins s σ H Q I h => h pins s I⟩
theorem pt_w : PT X e (wT X e) := ⟨fun pins s σ H Q I h => h pins s I⟩
theorem pa_w : PA X es (wA X es) := ⟨fun pos pins s σ H Q I h => h pos pins s I⟩
theorem ps_w : PS X st (wS X st) := ⟨fun pins s σ H D I h => h pins s I⟩
theorem pss_w : PSs X sts (wSs X sts) := ⟨fun pins s σ H D I h => h pins s I⟩
theorem pg_w : PG X e (wG X e) := ⟨fun pins s σ H v u Q I r h => h pins s u I r⟩
theorem wE_of {t : TE} {σ : L2.St} {H : Hp} {Q : VK} (h : PE X e t) (q : t σ H Q) : wE X e σ H Q := fun pins s I => h.run pins s σ H Q I q
theorem wT_of {t : TT} {σ : L2.St} {H : Hp} {Q : Bool → Hp → Prop} (h : PT X e t) (q : t σ H Q) : wT X e σ H Q := fun pins s I => h.run pins s σ H Q I q
theorem wA_of {t : TA} {σ : L2.St} {H : Hp} {Q : List V → Hp → Prop} (h : PA X es t) (q : t σ H Q) : wA X es σ H Q := fun pos pins s I => h.run pos pins s σ H Q I q
theorem wS_of {t : TS} {σ : L2.St} {H : Hp} {D : Ends} (h : PS X st t) (q : t D σ H) : wS X st D σ H := fun pins s I => h.run pins s σ H D I q
theorem wSs_of {t : TS} {σ : L2.St} {H : Hp} {D : Ends} (h : PSs X sts t) (q : t D σ H) : wSs X sts D σ H := fun pins s I => h.run pins s σ H D I q
theorem wG_of {t : TG} {σ : L2.St} {H : Hp} {v : V} {Q : L2.St → Hp → Prop} (h : PG X e t) (q : t v σ H Q) : wG X e v σ H Q := fun pins s u I r => h.run pins s σ H v u Q I r q
theorem wE.imp {σ : L2.St} {H : Hp} {Q Q' : VK} (h : wE X e σ H Q) (k : ∀ v H', Q v H' → Q' v H') : wE X e σ H Q' := fun pins s I => thn (h pins s I) fun u s' ⟨v, H', I', r, q⟩ => ⟨v, H', I', r, k _ _ q⟩
theorem wT.imp {σ : L2.St} {H : Hp} {Q Q' : Bool → Hp → Prop} (h : wT X e σ H Q) (k : ∀ v H', Q v H' → Q' v H') : wT X e σ H Q' := fun pins s I => thn (h pins s I) fun u s' ⟨H', I', q⟩ => ⟨H', I', k _ _ q⟩
theorem wA.imp {σ : L2.St} {H : Hp} {Q Q' : List V → Hp → Prop} (h : wA X es σ H Q) (k : ∀ v H', Q v H' → Q' v H') : wA X es σ H Q' := fun pos pins s I => thn (h pos pins s I) fun u s' ⟨v, H', I', r, q⟩ => ⟨v, H', I', r, k _ _ q⟩
theorem wG.imp {σ : L2.St} {H : Hp} {v : V} {Q Q' : L2.St → Hp → Prop} (h : wG X e v σ H Q) (k : ∀ v H', Q v H' → Q' v H') : wG X e v σ H Q' := fun pins s u I r => thn (h pins s u I r) fun _ s' ⟨v, H', I', q⟩ => ⟨v, H', I', k _ _ q⟩
structure EndsImp (D D' : Ends) : Prop where
  nx : ∀ σ H, D.nx σ H → D'.nx σ H
  rt : ∀ v H, D.rt v H → D'.rt v H
  bk : ∀ σ H, D.bk σ H → D'.bk σ H
  ct : ∀ σ H, D.ct σ H → D'.ct σ H
theorem SP.imp {pins : List (Addr × Obj)} {D D' : Ends} (i : EndsImp D D') {f : Flow} {s' : Shared} (h : SP X pins D f s') : SP X pins D' f s' := by
  cases f with
  | next => obtain ⟨σ', H', I, q⟩ := h; exact ⟨σ', H', I, i.nx _ _ q⟩
  | brk => obtain ⟨σ', H', I, q⟩ := h; exact ⟨σ', H', I, i.bk _ _ q⟩
  | cont => obtain ⟨σ', H', I, q⟩ := h; exact ⟨σ', H', I, i.ct _ _ q⟩
  | ret u => obtain ⟨v, σ', H', I, r, q⟩ := h; exact ⟨v, σ', H', I, r, i.rt _ _ q⟩
theorem wS.imp {σ : L2.St} {H : Hp} {D D' : Ends} (h : wS X st D σ H) (i : EndsImp D D') : wS X st D' σ H := fun pins s I => thn (h pins s I) fun f s' q => SP.imp i q
theorem wSs.imp {σ : L2.St} {H : Hp} {D D' : Ends} (h : wSs X sts D σ H) (i : EndsImp D D') : wSs X sts D' σ H := fun pins s I => thn (h pins s I) fun f s' q => SP.imp i q
end

/-! ### readings over data -/
abbrev DK := D → AHp → Prop
def aE (X : Cx) (e : Expr) (δ : DE) (M : AHp) (Q : DK) : Prop := ∀ (σ : L2.St) (H B : Hp), RepS B σ δ → Cf B M H → wE X e σ H fun v H' => ∃ d M' B', Same B B' ∧ Rep B' v d ∧ Cf B' M' H' ∧ Q d M'
def aT (X : Cx) (e : Expr) (δ : DE) (M : AHp) (Q : Bool → AHp → Prop) : Prop := ∀ (σ : L2.St) (H B : Hp), RepS B σ δ → Cf B M H → wT X e σ H fun b H' => ∃ M' B', Same B B' ∧ Cf B' M' H' ∧ Q b M'
def aA (X : Cx) (es : List Expr) (δ : DE) (M : AHp) (Q : List D → AHp → Prop) : Prop := ∀ (σ : L2.St) (H B : Hp), RepS B σ δ → Cf B M H → wA X es σ H fun vs H' => ∃ ds M' B', Same B B' ∧ Reps B' vs ds ∧ Cf B' M' H' ∧ Q ds M'
def aG (X : Cx) (tg : Expr) (d : D) (δ : DE) (M : AHp) (Q : DE → AHp → Prop) : Prop := ∀ (σ : L2.St) (H B : Hp) (v : V), RepS B σ δ → Cf B M H → Rep B v d → wG X tg v σ H fun σ' H' => ∃ δ' M' B', Same B B' ∧ RepS B' σ' δ' ∧ Cf B' M' H' ∧ Q δ' M'
structure AEnds where
  nx : DE → AHp → Prop
  rt : DK
  bk : DE → AHp → Prop := fun _ _ => False
  ct : DE → AHp → Prop := fun _ _ => False
def cN (B : Hp) (Q : DE → AHp → Prop) : L2.St → Hp → Prop := fun σ' H' => ∃ δ' M' B', Same B B' ∧ RepS B' σ' δ' ∧ Cf B' M' H' ∧ Q δ' M'
def cV (B : Hp) (Q : DK) : VK := fun v H' => ∃ d M' B', Same B B' ∧ Rep B' v d ∧ Cf B' M' H' ∧ Q d M'
def cEnds (B : Hp) (A : AEnds) : Ends := { nx := cN B A.nx, rt := cV B A.rt, bk := cN B A.bk, ct := cN B A.ct }
def aS (X : Cx) (st : Stmt) (A : AEnds) (δ : DE) (M : AHp) : Prop := ∀ (σ : L2.St) (H B : Hp), RepS B σ δ → Cf B M H → wS X st (cEnds B A) σ H
def aSs (X : Cx) (st : List Stmt) (A : AEnds) (δ : DE) (M : AHp) : Prop := ∀ (σ : L2.St) (H B : Hp), RepS B σ δ → Cf B M H → wSs X st (cEnds B A) σ H
theorem cN.mono {B B' : Hp} {Q : DE → AHp → Prop} (e : Same B B') {σ : L2.St} {H : Hp} (h : cN B' Q σ H) : cN B Q σ H := let ⟨δ, M, B2, s, r, c, q⟩ := h; ⟨δ, M, B2, e.trans s, r, c, q⟩
theorem cV.mono {B B' : Hp} {Q : DK} (e : Same B B') {v : V} {H : Hp} (h : cV B' Q v H) : cV B Q v H := let ⟨d, M, B2, s, r, c, q⟩ := h; ⟨d, M, B2, e.trans s, r, c, q⟩
theorem cEnds.mono {B B' : Hp} {A : AEnds} (e : Same B B') : EndsImp (cEnds B' A) (cEnds B A) := ⟨fun _ _ h => cN.mono e h, fun _ _ h => cV.mono e h, fun _ _ h => cN.mono e h, fun _ _ h => cN.mono e h⟩

section
variable {X : Cx} {e : Expr} {es : List Expr} {st : Stmt} {sts : List Stmt} {δ : DE} {M : AHp} {Q : DK} {σ : L2.St} {H B : Hp} {A : AEnds}
theorem aE.run (h : aE X e δ M Q) (rs : RepS B σ δ) (c : Cf B M H) {Q2 : VK} (k : ∀ v d M' B' H', Same B B' → Rep B' v d → Cf B' M' H' → Q d M' → Q2 v H') : wE X e σ H Q2 :=
  (h σ H B rs c).imp fun v H' ⟨d, M', B', s, r, c', q⟩ => k v d M' B' H' s r c' q
theorem aT.run {Q : Bool → AHp → Prop} (h : aT X e δ M Q) (rs : RepS B σ δ) (c : Cf B M H) {Q2 : Bool → Hp → Prop} (k : ∀ b M' B' H', Same B B' → Cf B' M' H' → Q b M' → Q2 b H') : wT X e σ H Q2 :=
  (h σ H B rs c).imp fun v H' ⟨M', B', s, c', q⟩ => k v M' B' H' s c' q
theorem aA.run {Q : List D → AHp → Prop} (h : aA X es δ M Q) (rs : RepS B σ δ) (c : Cf B M H) {Q2 : List V → Hp → Prop} (k : ∀ v d M' B' H', Same B B' → Reps B' v d → Cf B' M' H' → Q d M' → Q2 v H') : wA X es σ H Q2 :=
  (h σ H B rs c).imp fun v H' ⟨d, M', B', s, r, c', q⟩ => k v d M' B' H' s r c' q
theorem aG.run {d : D} {Q : DE → AHp → Prop} (h : aG X e d δ M Q) (rs : RepS B σ δ) (c : Cf B M H) {v : V} (r : Rep B v d) {Q2 : L2.St → Hp → Prop} (k : ∀ σ' δ' M' B' H', Same B B' → RepS B' σ' δ' → Cf B' M' H' → Q δ' M' → Q2 σ' H') : wG X e v σ H Q2 :=
  (h σ H B v rs c r).imp fun σ' H' ⟨δ', M', B', s, r, c', q⟩ => k σ' δ' M' B' H' s r c' q
theorem aE.imp {Q' : DK} (h : aE X e δ M Q) (k : ∀ d M', Q d M' → Q' d M') : aE X e δ M Q' := fun σ H B rs c => h.run rs c fun v d M' B' H' s r c' q => ⟨d, M', B', s, r, c', k _ _ q⟩
theorem aT.imp {Q Q' : Bool → AHp → Prop} (h : aT X e δ M Q) (k : ∀ d M', Q d M' → Q' d M') : aT X e δ M Q' := fun σ H B rs c => h.run rs c fun b M' B' H' s c' q => ⟨M', B', s, c', k _ _ q⟩
theorem aA.imp {Q Q' : List D → AHp → Prop} (h : aA X es δ M Q) (k : ∀ d M', Q d M' → Q' d M') : aA X es δ M Q' := fun σ H B rs c => h.run rs c fun v d M' B' H' s r c' q => ⟨d, M', B', s, r, c', k _ _ q⟩
/-- pure: an expression, a test, arguments -/
def aV (X : Cx) (e : Expr) (δ : DE) (M : AHp) (d : D) : Prop := ∀ (Q : DK), Q d M → aE X e δ M Q
def aTV (X : Cx) (e : Expr) (δ : DE) (M : AHp) (b : Bool) : Prop := ∀ (Q : Bool → AHp → Prop), Q b M → aT X e δ M Q
def aAV (X : Cx) (es : List Expr) (δ : DE) (M : AHp) (ds : List D) : Prop := ∀ (Q : List D → AHp → Prop), Q ds M → aA X es δ M Q
theorem ev {d : D} (h : aV X e δ M d) (q : Q d M) : aE X e δ M Q := h Q q
theorem et {b : Bool} {Q : Bool → AHp → Prop} (h : aTV X e δ M b) (q : Q b M) : aT X e δ M Q := h Q q
theorem ea {ds : List D} {Q : List D → AHp → Prop} (h : aAV X es δ M ds) (q : Q ds M) : aA X es δ M Q := h Q q
theorem aV.to {d d' : D} (h : aV X e δ M d) (q : d = d') : aV X e δ M d' := q ▸ h
theorem aTV.to {d d' : Bool} (h : aTV X e δ M d) (q : d = d') : aTV X e δ M d' := q ▸ h
theorem aV.run {d : D} (h : aV X e δ M d) (rs : RepS B σ δ) (c : Cf B M H) {Q2 : VK} (k : ∀ v B' H', Same B B' → Rep B' v d → Cf B' M H' → Q2 v H') : wE X e σ H Q2 :=
  (h (fun d' M' => d' = d ∧ M' = M) ⟨rfl, rfl⟩).run rs c fun v d' M' B' H' s r c' q => by
    obtain ⟨rfl, rfl⟩ := q
    exact k v B' H' s r c'
theorem aTV.run {d : Bool} (h : aTV X e δ M d) (rs : RepS B σ δ) (c : Cf B M H) {Q2 : Bool → Hp → Prop} (k : ∀ B' H', Same B B' → Cf B' M H' → Q2 d H') : wT X e σ H Q2 :=
  (h (fun d' M' => d' = d ∧ M' = M) ⟨rfl, rfl⟩).run rs c fun d' M' B' H' s c' q => by
    obtain ⟨rfl, rfl⟩ := q
    exact k B' H' s c'
theorem aAV.run {ds : List D} (h : aAV X es δ M ds) (rs : RepS B σ δ) (c : Cf B M H) {Q2 : List V → Hp → Prop} (k : ∀ vs B' H', Same B B' → Reps B' vs ds → Cf B' M H' → Q2 vs H') : wA X es σ H Q2 :=
  (h (fun d' M' => d' = ds ∧ M' = M) ⟨rfl, rfl⟩).run rs c fun v d' M' B' H' s r c' q => by
    obtain ⟨rfl, rfl⟩ := q
    exact k v B' H' s r c'

/-! ### where one stands -/
structure Gx where
  prog : Program
  w : World
  K : PySem.W.Frag
  mg : Str → Option Value
  base : Heap
def gxOf (X : Cx) : Gx := ⟨X.prog, X.w, X.K, X.mg, X.base⟩
structure XF (X : Cx) (G : Gx) (N : List Str) (sc : Scope) : Prop where
  gx : gxOf X = G
  hN : X.N = N
  hsc : X.env.scope = sc
  calm : X.calm = true
  nd : X.N.Nodup
  po : PassesOwn (model X.prog X.w) X.A X.env X.xe
  gd : X.A.guards = some []
/-- .. in a def's own body -/
structure XD (X : Cx) (G : Gx) (N : List Str) (sc : Scope) : Prop extends XF X G N sc where
  fn : ∀ x, X.fn x = true
  stk : X.stack = X.env :: X.outer
  frm : X.env.frame = some X.env.locals

variable {G : Gx} {N : List Str} {sc : Scope}
theorem XF.K (g : XF X G N sc) : X.K = G.K := by rw [← g.gx]; rfl
theorem XF.mg (g : XF X G N sc) : X.mg = G.mg := by rw [← g.gx]; rfl
theorem XF.gl (g : XF X G N sc) {x : Str} (h : sc.names.lookup x = some .globalImplicit) : Gl X x := by
  unfold Gl Env.kindOf
  rw [g.hsc]; exact h

/-! ### expressions -/
def visB (sc : Scope) (x : Str) : Bool := match sc.names.lookup x with
  | some .local => true
  | some .cell => true
  | some .free => true
  | _ => false
theorem vis_of {sc : Scope} {x : Str} (h : visB sc x = true) : Vis sc x := by
  unfold visB at h
  unfold Vis
  split at h
  · left; assumption
  · right; left; assumption
  · right; right; assumption
  · cases h
def locB (sc : Scope) (x : Str) : Bool := match sc.names.lookup x with
  | some .local => true
  | some .cell => true
  | _ => false
theorem loc_of {sc : Scope} {x : Str} (h : locB sc x = true) : L2.Loc sc x := by
  unfold locB at h
  unfold L2.Loc
  split at h
  · left; assumption
  · right; assumption
  · cases h
variable {pos : Pos} {x : Str}
theorem av_of {t : TE} {d : D} (h : PE X e t) (q : ∀ σ H B (Q : VK), RepS B σ δ → Cf B M H → (∀ v B' H', Same B B' → Rep B' v d → Cf B' M H' → Q v H') → t σ H Q) : aV X e δ M d := fun Q hq σ H B rs c =>
  wE_of h (q σ H B _ rs c fun v B' H' s r c' => ⟨d, M, B', s, r, c', hq⟩)
theorem ae_of {t : TE} (h : PE X e t) (q : ∀ σ H B (Q2 : VK), RepS B σ δ → Cf B M H → (∀ v d M' B' H', Same B B' → Rep B' v d → Cf B' M' H' → Q d M' → Q2 v H') → t σ H Q2) : aE X e δ M Q := fun σ H B rs c =>
  wE_of h (q σ H B _ rs c fun v d M' B' H' s r c' hq => ⟨d, M', B', s, r, c', hq⟩)
theorem av_name (g : XF X G N sc) (i : Nat) {d : D} (h : δ[i]? = some (some d) := by rfl) (hN : N[i]? = some x := by rfl) (hv : visB sc x = true := by rfl) (hd : (x == ("__debug__" : Str)) = false := by decide) (hcd : (x == ("__classdict__" : Str)) = false := by decide) : aV X (.Name x pos) δ M d :=
  av_of (pe_var (i := i) (by rw [g.hN]; exact hN) (by rw [g.hsc]; exact vis_of hv) hd hcd) fun σ H B Q rs c k => by
    obtain ⟨v, h1, h2⟩ := rs.at_ i d h
    exact ⟨v, h1, k v B H (Same.refl _) h2 c⟩
theorem av_int {i : Int} {j} : aV X (.Constant (.int i) j pos) δ M (.int i) := av_of pe_int fun σ H B Q rs c k => k _ B H (Same.refl _) (.int i) c
theorem av_bl {b : Bool} {j} : aV X (.Constant (.bool b) j pos) δ M (.bl b) := av_of pe_bl fun σ H B Q rs c k => k _ B H (Same.refl _) (.bl b) c
theorem av_non {j} : aV X (.Constant .none j pos) δ M .non := av_of pe_non fun σ H B Q rs c k => k _ B H (Same.refl _) .non c
theorem av_str {z : Str} {j} : aV X (.Constant (.str z) j pos) δ M (.str z) := av_of pe_str fun σ H B Q rs c k => k _ B H (Same.refl _) (.str z) c
/-- an operation on two values -/
def aR (r : R2) (da db : D) (M : AHp) (Q : DK) : Prop := ∀ (x y : V) (B H : Hp) (Q2 : VK), Rep B x da → Rep B y db → Cf B M H → (∀ v d M' B' H', Same B B' → Rep B' v d → Cf B' M' H' → Q d M' → Q2 v H') → r x y H Q2
/-- .. pure -/
def pR (r : R2) (M : AHp) (da db d : D) : Prop := ∀ (x y : V) (B H : Hp) (Q2 : VK), Rep B x da → Rep B y db → Cf B M H → (∀ v B' H', Same B B' → Rep B' v d → Cf B' M H' → Q2 v H') → r x y H Q2
theorem pR.to {r : R2} {da db d d' : D} (h : pR r M da db d) (e : d = d') : pR r M da db d' := e ▸ h
theorem pR.aR {r : R2} {da db d : D} (h : pR r M da db d) (q : Q d M) : aR r da db M Q := fun x y B H Q2 ra rb c k => h x y B H Q2 ra rb c fun v B' H' s r c' => k v d M B' H' s r c' q
theorem op_core {r : R2} {a b : Expr} {da db : D} (ha : aV X a δ M da) (hb : aV X b δ M db) (σ : L2.St) (H B : Hp) (Q2 : VK) (rs : RepS B σ δ) (c : Cf B M H)
    (k : ∀ x y B' H', Same B B' → Rep B' x da → Rep B' y db → Cf B' M H' → r x y H' Q2) : tOp r (wE X a) (wE X b) σ H Q2 :=
  ha.run rs c fun x B1 H1 s1 r1 c1 => hb.run (rs.mono s1) c1 fun y B2 H2 s2 r2 c2 => k x y B2 H2 (s1.trans s2) (r1.mono s2) r2 c2
theorem op_coreE {r : R2} {a b : Expr} {σ : L2.St} {H B : Hp} {Q2 : VK} (h : aE X a δ M fun da M1 => aE X b δ M1 fun db M2 => aR r da db M2 Q) (rs : RepS B σ δ) (c : Cf B M H)
    (k : ∀ v d M' B' H', Same B B' → Rep B' v d → Cf B' M' H' → Q d M' → Q2 v H') : tOp r (wE X a) (wE X b) σ H Q2 :=
  h.run rs c fun x da M1 B1 H1 s1 r1 c1 q1 => aE.run q1 (rs.mono s1) c1 fun y db M2 B2 H2 s2 r2 c2 q2 => q2 x y B2 H2 _ (r1.mono s2) r2 c2 fun v d M' B' H' s r c' q => k v d M' B' H' ((s1.trans s2).trans s) r c' q
theorem ae_op {op : Operator} {r : R2} {a b : Expr} (ho : OpR X (binaryOp op) r) (h : aE X a δ M fun da M1 => aE X b δ M1 fun db M2 => aR r da db M2 Q) : aE X (.BinOp a op b pos) δ M Q :=
  ae_of (pe_op ho pe_w pe_w) fun σ H B Q2 rs c k => op_coreE h rs c k
theorem ae_cmp {op : CmpOp} {r : R2} {a b : Expr} (ho : OpR X (compareOp op) r) (h : aE X a δ M fun da M1 => aE X b δ M1 fun db M2 => aR r da db M2 Q) (hm : behindInMarks op b = false := by first | exact nomark _ | rfl) : aE X (.Compare a [op] [b] pos) δ M Q :=
  ae_of (pe_cmpR ho pe_w pe_w hm) fun σ H B Q2 rs c k => op_coreE h rs c k
theorem at_cmp {op : CmpOp} {r : R2} {a b : Expr} {Q : Bool → AHp → Prop} (ho : OpR X (compareOp op) r) (h : aE X a δ M fun da M1 => aE X b δ M1 fun db M2 => aR r da db M2 fun d M3 => ∃ k, d = .bl k ∧ Q k M3) (hm : behindInMarks op b = false := by first | exact nomark _ | rfl) : aT X (.Compare a [op] [b] pos) δ M Q := fun σ H B rs c =>
  wT_of (pt_cmpR ho pe_w pe_w hm) (op_coreE h rs c fun v d M' B' H' s r c' ⟨k, e, q⟩ => by
    subst e
    cases r
    exact ⟨k, rfl, M', B', s, c', q⟩)
theorem av_op {op : Operator} {r : R2} {a b : Expr} {da db d : D} (ho : OpR X (binaryOp op) r) (ha : aV X a δ M da) (hb : aV X b δ M db) (hr : pR r M da db d) : aV X (.BinOp a op b pos) δ M d :=
  fun Q q => ae_op ho (ha _ (hb _ (hr.aR q)))
theorem av_cmp {op : CmpOp} {r : R2} {a b : Expr} {da db d : D} (ho : OpR X (compareOp op) r) (ha : aV X a δ M da) (hb : aV X b δ M db) (hr : pR r M da db d) (hm : behindInMarks op b = false := by first | exact nomark _ | rfl) : aV X (.Compare a [op] [b] pos) δ M d :=
  fun Q q => ae_cmp ho (ha _ (hb _ (hr.aR q))) hm
theorem atv_of {t : TT} {b : Bool} (h : PT X e t) (q : ∀ σ H B (Q : Bool → Hp → Prop), RepS B σ δ → Cf B M H → (∀ B' H', Same B B' → Cf B' M H' → Q b H') → t σ H Q) : aTV X e δ M b := fun Q hq σ H B rs c =>
  wT_of h (q σ H B _ rs c fun B' H' s c' => ⟨M, B', s, c', hq⟩)
theorem atv_cmp {op : CmpOp} {r : R2} {a b : Expr} {da db : D} {k : Bool} (ho : OpR X (compareOp op) r) (ha : aV X a δ M da) (hb : aV X b δ M db) (hr : pR r M da db (.bl k)) (hm : behindInMarks op b = false := by first | exact nomark _ | rfl) : aTV X (.Compare a [op] [b] pos) δ M k :=
  fun Q q => at_cmp ho (ha _ (hb _ (hr.aR ⟨k, rfl, q⟩))) hm
theorem at_val {Q : Bool → AHp → Prop} (h : aE X e δ M fun d M' => ∃ b, d = .bl b ∧ Q b M') (he : ∀ whole, isTrue e X.env whole = (do let v ← whole; standAt e.pos; holding [v] (truthy v)) := by intro _; rfl) : aT X e δ M Q := fun σ H B rs c =>
  wT_of (pt_val pe_w he) (h.run rs c fun x d1 M1 B1 H1 s1 r1 c1 q1 => by
    obtain ⟨b, rfl, q⟩ := q1
    cases r1
    exact ⟨b, rfl, M1, B1, s1, c1, q⟩)
theorem atv_val {b : Bool} (h : aV X e δ M (.bl b)) (he : ∀ whole, isTrue e X.env whole = (do let v ← whole; standAt e.pos; holding [v] (truthy v)) := by intro _; rfl) : aTV X e δ M b :=
  fun Q q => at_val (h _ ⟨b, rfl, q⟩) he
theorem at_not {a : Expr} {Q : Bool → AHp → Prop} (h : aT X a δ M fun b M' => Q (!b) M') : aT X (.UnaryOp .Not a pos) δ M Q := fun σ H B rs c =>
  wT_of (pt_not pt_w) (h.run rs c fun d1 M1 B1 H1 s1 c1 q1 => ⟨M1, B1, s1, c1, q1⟩)
theorem atv_not {a : Expr} {b : Bool} (h : aTV X a δ M b) : aTV X (.UnaryOp .Not a pos) δ M (!b) := fun Q q => at_not (h _ q)

/-! ### and, or -/
def wW (X : Cx) (e : Expr) : TT := fun σ H Q => ∀ (whole : Sem Value) (pins : List (Addr × Obj)) (s : Shared), Inv X pins σ H s → wpAny (model X.prog X.w) X.A (isTrue e X.env whole) (TP X pins σ Q) X.xe s
theorem pw_w : PW X e (wW X e) := ⟨fun wh pins s σ H Q I h => h wh pins s I⟩
theorem wW_of {t : TT} {σ : L2.St} {H : Hp} {Q : Bool → Hp → Prop} (h : PW X e t) (q : t σ H Q) : wW X e σ H Q := fun wh pins s I => h.run wh pins s σ H Q I q
theorem wW.imp {σ : L2.St} {H : Hp} {Q Q' : Bool → Hp → Prop} (h : wW X e σ H Q) (k : ∀ v H', Q v H' → Q' v H') : wW X e σ H Q' := fun wh pins s I => thn (h wh pins s I) fun u s' ⟨H', I', q⟩ => ⟨H', I', k _ _ q⟩
def aW (X : Cx) (e : Expr) (δ : DE) (M : AHp) (Q : Bool → AHp → Prop) : Prop := ∀ (σ : L2.St) (H B : Hp), RepS B σ δ → Cf B M H → wW X e σ H fun b H' => ∃ M' B', Same B B' ∧ Cf B' M' H' ∧ Q b M'
theorem aW.t {Q : Bool → AHp → Prop} (h : aW X e δ M Q) : aT X e δ M Q := fun σ H B rs c => wT_of (PW.pt pw_w) (h σ H B rs c)
theorem aw_and1 {a : Expr} {Q : Bool → AHp → Prop} (h : aT X a δ M Q) : aW X (.BoolOp .And [a] pos) δ M Q := fun σ H B rs c => wW_of (pw_and1 pt_w) (h σ H B rs c)
theorem aw_or1 {a : Expr} {Q : Bool → AHp → Prop} (h : aT X a δ M Q) : aW X (.BoolOp .Or [a] pos) δ M Q := fun σ H B rs c => wW_of (pw_or1 pt_w) (h σ H B rs c)
theorem aw_and {a b : Expr} {rest : List Expr} {Q : Bool → AHp → Prop} (h : aT X a δ M fun k M' => (k = true → aW X (.BoolOp .And (b :: rest) pos) δ M' Q) ∧ (k = false → Q false M')) : aW X (.BoolOp .And (a :: b :: rest) pos) δ M Q := fun σ H B rs c =>
  wW_of (pw_and pt_w pw_w) (h.run rs c fun k M' B' H' s c' q => by
    cases k with
    | true =>
      refine (if_pos rfl).mpr ?_
      exact (q.1 rfl σ H' B' (rs.mono s) c').imp fun b H2 ⟨M2, B2, s2, c2, q2⟩ => ⟨M2, B2, s.trans s2, c2, q2⟩
    | false => exact (if_neg Bool.false_ne_true).mpr ⟨M', B', s, c', q.2 rfl⟩)
theorem aw_or {a b : Expr} {rest : List Expr} {Q : Bool → AHp → Prop} (h : aT X a δ M fun k M' => (k = false → aW X (.BoolOp .Or (b :: rest) pos) δ M' Q) ∧ (k = true → Q true M')) : aW X (.BoolOp .Or (a :: b :: rest) pos) δ M Q := fun σ H B rs c =>
  wW_of (pw_or pt_w pw_w) (h.run rs c fun k M' B' H' s c' q => by
    cases k with
    | true => exact (if_pos rfl).mpr ⟨M', B', s, c', q.2 rfl⟩
    | false =>
      refine (if_neg Bool.false_ne_true).mpr ?_
      exact (q.1 rfl σ H' B' (rs.mono s) c').imp fun b H2 ⟨M2, B2, s2, c2, q2⟩ => ⟨M2, B2, s.trans s2, c2, q2⟩)
def aWV (X : Cx) (e : Expr) (δ : DE) (M : AHp) (b : Bool) : Prop := ∀ (Q : Bool → AHp → Prop), Q b M → aW X e δ M Q
theorem aWV.t {b : Bool} (h : aWV X e δ M b) : aTV X e δ M b := fun Q q => (h Q q).t
theorem awv_and1 {a : Expr} {k : Bool} (h : aTV X a δ M k) : aWV X (.BoolOp .And [a] pos) δ M k := fun Q q => aw_and1 (h Q q)
theorem awv_or1 {a : Expr} {k : Bool} (h : aTV X a δ M k) : aWV X (.BoolOp .Or [a] pos) δ M k := fun Q q => aw_or1 (h Q q)
theorem awv_and {a b : Expr} {rest : List Expr} {k l : Bool} (h : aTV X a δ M k) (h2 : k = true → aWV X (.BoolOp .And (b :: rest) pos) δ M l) : aWV X (.BoolOp .And (a :: b :: rest) pos) δ M (k && l) := fun Q q => aw_and (h _ (by
  cases k with
  | true => exact ⟨fun _ => h2 rfl Q (by simpa using q), fun z => (nomatch z)⟩
  | false => exact ⟨fun z => (nomatch z), fun _ => by simpa using q⟩))
theorem awv_or {a b : Expr} {rest : List Expr} {k l : Bool} (h : aTV X a δ M k) (h2 : k = false → aWV X (.BoolOp .Or (b :: rest) pos) δ M l) : aWV X (.BoolOp .Or (a :: b :: rest) pos) δ M (k || l) := fun Q q => aw_or (h _ (by
  cases k with
  | true => exact ⟨fun z => (nomatch z), fun _ => by simpa using q⟩
  | false => exact ⟨fun _ => h2 rfl Q (by simpa using q), fun z => (nomatch z)⟩))
end
end Ab
/-! Rules for expressions over data. -/
namespace Ab
open PySem PySem.Spec PyProof.Rows L2
section
variable {X : Cx} {e a b : Expr} {es : List Expr} {st : Stmt} {sts : List Stmt} {δ : DE} {M : AHp} {Q : DK} {σ : L2.St} {H B : Hp} {A : AEnds} {G : Gx} {N : List Str} {sc : Scope} {pos : Pos} {x : Str}

/-! ### and, or, if as values -/
theorem av_one {op : BoolOp} {d : D} (h : aV X a δ M d) : aV X (.BoolOp op [a] pos) δ M d := av_of (pe_one pe_w) fun σ H B Q rs c k => h.run rs c k
theorem av_and {rest : List Expr} {k l : Bool} (h : aV X a δ M (.bl k)) (h2 : k = true → aV X (.BoolOp .And (b :: rest) pos) δ M (.bl l)) : aV X (.BoolOp .And (a :: b :: rest) pos) δ M (.bl (k && l)) :=
  av_of (pe_and pe_w pe_w) fun σ H B Q rs c kk => h.run rs c fun x B1 H1 s1 r1 c1 => by
    cases r1
    refine ⟨k, rfl, ?_⟩
    cases k with
    | true => exact (if_pos rfl).mpr ((h2 rfl).run (rs.mono s1) c1 fun y B2 H2 s2 r2 c2 => kk _ _ _ (s1.trans s2) r2 c2)
    | false => exact (if_neg Bool.false_ne_true).mpr (kk _ _ _ s1 (.bl false) c1)
theorem av_or {rest : List Expr} {k l : Bool} (h : aV X a δ M (.bl k)) (h2 : k = false → aV X (.BoolOp .Or (b :: rest) pos) δ M (.bl l)) : aV X (.BoolOp .Or (a :: b :: rest) pos) δ M (.bl (k || l)) :=
  av_of (pe_or pe_w pe_w) fun σ H B Q rs c kk => h.run rs c fun x B1 H1 s1 r1 c1 => by
    cases r1
    refine ⟨k, rfl, ?_⟩
    cases k with
    | true => exact (if_pos rfl).mpr (kk _ _ _ s1 (.bl true) c1)
    | false => exact (if_neg Bool.false_ne_true).mpr ((h2 rfl).run (rs.mono s1) c1 fun y B2 H2 s2 r2 c2 => kk _ _ _ (s1.trans s2) (by simpa using r2) c2)
theorem ae_one {op : BoolOp} (h : aE X a δ M Q) : aE X (.BoolOp op [a] pos) δ M Q := ae_of (pe_one pe_w) fun σ H B Q rs c k => h.run rs c k
theorem ae_and {rest : List Expr} (h : aE X a δ M fun d M1 => ∃ k, d = .bl k ∧ (k = true → aE X (.BoolOp .And (b :: rest) pos) δ M1 Q) ∧ (k = false → Q (.bl false) M1)) : aE X (.BoolOp .And (a :: b :: rest) pos) δ M Q :=
  ae_of (pe_and pe_w pe_w) fun σ H B Q rs c kk => h.run rs c fun x d M1 B1 H1 s1 r1 c1 q => by
    obtain ⟨k, rfl, q1, q2⟩ := q
    cases r1
    refine ⟨k, rfl, ?_⟩
    cases k with
    | true => exact (if_pos rfl).mpr ((q1 rfl).run (rs.mono s1) c1 fun y d2 M2 B2 H2 s2 r2 c2 q => kk _ _ _ _ _ (s1.trans s2) r2 c2 q)
    | false => exact (if_neg Bool.false_ne_true).mpr (kk _ _ _ _ _ s1 (.bl false) c1 (q2 rfl))
theorem ae_or {rest : List Expr} (h : aE X a δ M fun d M1 => ∃ k, d = .bl k ∧ (k = false → aE X (.BoolOp .Or (b :: rest) pos) δ M1 Q) ∧ (k = true → Q (.bl true) M1)) : aE X (.BoolOp .Or (a :: b :: rest) pos) δ M Q :=
  ae_of (pe_or pe_w pe_w) fun σ H B Q rs c kk => h.run rs c fun x d M1 B1 H1 s1 r1 c1 q => by
    obtain ⟨k, rfl, q1, q2⟩ := q
    cases r1
    refine ⟨k, rfl, ?_⟩
    cases k with
    | true => exact (if_pos rfl).mpr (kk _ _ _ _ _ s1 (.bl true) c1 (q2 rfl))
    | false => exact (if_neg Bool.false_ne_true).mpr ((q1 rfl).run (rs.mono s1) c1 fun y d2 M2 B2 H2 s2 r2 c2 q => kk _ _ _ _ _ (s1.trans s2) r2 c2 q)
theorem av_not {k : Bool} (h : aV X a δ M (.bl k)) : aV X (.UnaryOp .Not a pos) δ M (.bl (!k)) :=
  av_of (pe_not pe_w) fun σ H B Q rs c kk => h.run rs c fun x B1 H1 s1 r1 c1 => by
    cases r1
    exact ⟨k, rfl, kk _ _ _ s1 (.bl _) c1⟩
theorem ae_if {c : Expr} (h : aT X c δ M fun k M1 => (k = true → aE X a δ M1 Q) ∧ (k = false → aE X b δ M1 Q)) : aE X (.IfExp c a b pos) δ M Q :=
  ae_of (pe_ifExp pt_w pe_w pe_w) fun σ H B Q rs c kk => h.run rs c fun k M1 B1 H1 s1 c1 q => by
    cases k with
    | true => exact (if_pos rfl).mpr ((q.1 rfl).run (rs.mono s1) c1 fun y d2 M2 B2 H2 s2 r2 c2 q => kk _ _ _ _ _ (s1.trans s2) r2 c2 q)
    | false => exact (if_neg Bool.false_ne_true).mpr ((q.2 rfl).run (rs.mono s1) c1 fun y d2 M2 B2 H2 s2 r2 c2 q => kk _ _ _ _ _ (s1.trans s2) r2 c2 q)
theorem av_if {c : Expr} {k : Bool} {d1 d2 : D} (h : aTV X c δ M k) (h1 : k = true → aV X a δ M d1) (h2 : k = false → aV X b δ M d2) : aV X (.IfExp c a b pos) δ M (if k = true then d1 else d2) := fun Q q => ae_if (h _ (by
  cases k with
  | true => exact ⟨fun _ => h1 rfl _ (by simpa using q), fun z => (nomatch z)⟩
  | false => exact ⟨fun z => (nomatch z), fun _ => h2 rfl _ (by simpa using q)⟩))

/-! ### operators on ints -/
theorem pr_I0 {g : Int → Int → V} {i j : Int} {d : D} (hd : ∀ B, Rep B (g i j) d) : pR (rI0 g) M (.int i) (.int j) d := fun x y B H Q2 ra rb c k => by
  cases ra; cases rb
  exact ⟨i, j, rfl, rfl, k _ B H (Same.refl _) (hd B) c⟩
theorem pr_I {C : Int → Int → Prop} {g : Int → Int → V} {i j : Int} {d : D} (hc : C i j) (hd : ∀ B, Rep B (g i j) d) : pR (rI C g) M (.int i) (.int j) d := fun x y B H Q2 ra rb c k => by
  cases ra; cases rb
  exact ⟨i, j, rfl, rfl, hc, k _ B H (Same.refl _) (hd B) c⟩
variable {i j : Int}
theorem p_add : pR (rI0 fun i j => .int (i + j)) M (.int i) (.int j) (.int (i + j)) := pr_I0 fun _ => .int _
theorem p_sub : pR (rI0 fun i j => .int (i - j)) M (.int i) (.int j) (.int (i - j)) := pr_I0 fun _ => .int _
theorem p_mul (hc : CMul i j) : pR (rI CMul fun i j => .int (i * j)) M (.int i) (.int j) (.int (i * j)) := pr_I hc fun _ => .int _
theorem p_mod (hc : 0 < j) : pR (rI (fun _ j => 0 < j) fun i j => .int (i % j)) M (.int i) (.int j) (.int (i % j)) := pr_I hc fun _ => .int _
theorem p_fdiv (hc : CDiv i j) : pR (rI CDiv fun i j => .int (i / j)) M (.int i) (.int j) (.int (i / j)) := pr_I hc fun _ => .int _
theorem p_lt : pR (rI0 fun i j => .bl (decide (i < j))) M (.int i) (.int j) (.bl (decide (i < j))) := pr_I0 fun _ => .bl _
theorem p_le : pR (rI0 fun i j => .bl (decide (i ≤ j))) M (.int i) (.int j) (.bl (decide (i ≤ j))) := pr_I0 fun _ => .bl _
theorem p_gt : pR (rI0 fun i j => .bl (decide (j < i))) M (.int i) (.int j) (.bl (decide (j < i))) := pr_I0 fun _ => .bl _
theorem p_ge : pR (rI0 fun i j => .bl (decide (j ≤ i))) M (.int i) (.int j) (.bl (decide (j ≤ i))) := pr_I0 fun _ => .bl _
theorem p_eq : pR rEq M (.int i) (.int j) (.bl (decide (i = j))) := fun x y B H Q2 ra rb c k => by
  cases ra; cases rb
  refine ⟨rfl, ?_⟩
  rw [dec_int, Bool.beq_eq_decide_eq]
  exact k _ B H (Same.refl _) (.bl _) c
theorem p_ne : pR rNe M (.int i) (.int j) (.bl (!decide (i = j))) := fun x y B H Q2 ra rb c k => by
  cases ra; cases rb
  refine ⟨rfl, ?_⟩
  rw [dec_int, Bool.beq_eq_decide_eq]
  exact k _ B H (Same.refl _) (.bl _) c
theorem p_eqS {z w : Str} : pR rEq M (.str z) (.str w) (.bl (decide (z = w))) := fun x y B H Q2 ra rb c k => by
  cases ra; cases rb
  refine ⟨rfl, ?_⟩
  rw [dec_str, Bool.beq_eq_decide_eq]
  exact k _ B H (Same.refl _) (.bl _) c
theorem p_neS {z w : Str} : pR rNe M (.str z) (.str w) (.bl (!decide (z = w))) := fun x y B H Q2 ra rb c k => by
  cases ra; cases rb
  refine ⟨rfl, ?_⟩
  rw [dec_str, Bool.beq_eq_decide_eq]
  exact k _ B H (Same.refl _) (.bl _) c
theorem p_eqB {z w : Bool} : pR rEq M (.bl z) (.bl w) (.bl (decide (z = w))) := fun x y B H Q2 ra rb c k => by
  cases ra; cases rb
  refine ⟨rfl, ?_⟩
  rw [dec_bl, Bool.beq_eq_decide_eq]
  exact k _ B H (Same.refl _) (.bl _) c
/-- a price: an int or None -/
def dP : Option Int → D
  | none => .non
  | some i => .int i
theorem Rep.price {B : Hp} {v : V} : ∀ {p : Option Int}, Rep B v (dP p) → v = (match p with | none => .non | some i => .int i)
  | none, h => by cases h; rfl
  | some i, h => by cases h; rfl
theorem rep_price {B : Hp} : ∀ p : Option Int, Rep B (match p with | none => .non | some i => .int i) (dP p)
  | none => .non
  | some i => .int i
theorem p_eqP {p q : Option Int} : pR rEq M (dP p) (dP q) (.bl (decide (p = q))) := fun x y B H Q2 ra rb c k => by
  rw [ra.price, rb.price]
  cases p with
  | none => cases q with
    | none => exact ⟨rfl, k _ B H (Same.refl _) (.bl _) c⟩
    | some j => exact ⟨rfl, k _ B H (Same.refl _) (.bl _) c⟩
  | some i => cases q with
    | none => exact ⟨rfl, k _ B H (Same.refl _) (.bl _) c⟩
    | some j =>
      refine ⟨rfl, ?_⟩
      show Q2 (.bl (decide (V.int i = V.int j))) H
      rw [dec_int, Bool.beq_eq_decide_eq]
      have e : decide (i = j) = decide (some i = some j) := by
        by_cases h : i = j
        · simp [h]
        · simp [h]
      rw [e]
      exact k _ B H (Same.refl _) (.bl _) c
theorem p_neP {p q : Option Int} : pR rNe M (dP p) (dP q) (.bl (!decide (p = q))) := fun x y B H Q2 ra rb c k => by
  rw [ra.price, rb.price]
  cases p with
  | none => cases q with
    | none => exact ⟨rfl, k _ B H (Same.refl _) (.bl _) c⟩
    | some j => exact ⟨rfl, k _ B H (Same.refl _) (.bl _) c⟩
  | some i => cases q with
    | none => exact ⟨rfl, k _ B H (Same.refl _) (.bl _) c⟩
    | some j =>
      refine ⟨rfl, ?_⟩
      show Q2 (.bl (!decide (V.int i = V.int j))) H
      rw [dec_int, Bool.beq_eq_decide_eq]
      have e : decide (i = j) = decide (some i = some j) := by
        by_cases h : i = j
        · simp [h]
        · simp [h]
      rw [e]
      exact k _ B H (Same.refl _) (.bl _) c
def rIsN : R2 := fun x y H Q => y = .non ∧ Q (.bl (decide (x = .non))) H
def rNotN : R2 := fun x y H Q => y = .non ∧ Q (.bl (!decide (x = .non))) H
theorem op_isN1 {X : Cx} : OpR X (compareOp .Is) rIsN := op_isN
theorem op_notN1 {X : Cx} : OpR X (compareOp .IsNot) rNotN := op_notN
def isNon : D → Bool
  | .non => true
  | _ => false
theorem Rep.isNon {B : Hp} {v : V} {d : D} (h : Rep B v d) : decide (v = .non) = isNon d := by cases h <;> rfl
theorem p_isN {d : D} : pR rIsN M d .non (.bl (isNon d)) := fun x y B H Q2 ra rb c k => by
  cases rb
  exact ⟨rfl, k _ B H (Same.refl _) (by rw [ra.isNon]; exact .bl _) c⟩
theorem p_notN {d : D} : pR rNotN M d .non (.bl (!isNon d)) := fun x y B H Q2 ra rb c k => by
  cases rb
  exact ⟨rfl, k _ B H (Same.refl _) (by rw [ra.isNon]; exact .bl _) c⟩
theorem av_neg (h : aV X a δ M (.int i)) : aV X (.UnaryOp .USub a pos) δ M (.int (-i)) :=
  av_of (pe_un un_neg pe_w) fun σ H B Q rs c kk => h.run rs c fun x B1 H1 s1 r1 c1 => by
    cases r1
    exact ⟨i, rfl, kk _ _ _ s1 (.int _) c1⟩

/-! ### arguments, displays -/
theorem aa_nil {Q : List D → AHp → Prop} (q : Q [] M) : aA X [] δ M Q := fun σ H B rs c => wA_of pa_nil ⟨[], M, B, Same.refl _, .nil, c, q⟩
theorem aa_cons {Q : List D → AHp → Prop} (h : aE X e δ M fun d M1 => aA X es δ M1 fun ds M2 => Q (d :: ds) M2) (hs : starEach (e :: es) X.env = (false, eval e X.env) :: starEach es X.env := by rfl) : aA X (e :: es) δ M Q := fun σ H B rs c =>
  wA_of (pa_cons pe_w pa_w hs) (h.run rs c fun x d M1 B1 H1 s1 r1 c1 q1 => aA.run q1 (rs.mono s1) c1 fun xs ds M2 B2 H2 s2 r2 c2 q2 => ⟨_, M2, B2, s1.trans s2, .cons (r1.mono s2) r2, c2, q2⟩)
theorem aav_nil : aAV X [] δ M [] := fun Q q => aa_nil q
theorem aav_cons {d : D} {ds : List D} (h : aV X e δ M d) (hr : aAV X es δ M ds) (hs : starEach (e :: es) X.env = (false, eval e X.env) :: starEach es X.env := by rfl) : aAV X (e :: es) δ M (d :: ds) := fun Q q => aa_cons (h _ (hr _ q)) hs
theorem ln_le {n : Nat} (h : n ≤ 10000) : n ≤ sizeLine := by rw [sizeLine_eq]; omega
theorem ae_tup {x1} (h : aA X es δ M fun ds M1 => ds.length ≤ 10000 ∧ Q (.tup ds) M1) : aE X (.Tuple es x1 pos) δ M Q :=
  ae_of (pe_tup pa_w) fun σ H B Q2 rs c kk => h.run rs c fun xs ds M1 B1 H1 s1 r1 c1 q => by
    refine ⟨by rw [r1.length]; exact ln_le q.1, fun p hp => ?_⟩
    obtain ⟨s2, c2⟩ := c1.newI (.tup xs) hp
    exact kk _ _ _ _ _ (s1.trans s2) (.tup upd_same (r1.mono s2)) c2 q.2
theorem av_tup {x1} {ds : List D} (h : aAV X es δ M ds) (hl : ds.length ≤ 10000 := by first | decide | exact Nat.le_of_ble_eq_true rfl) : aV X (.Tuple es x1 pos) δ M (.tup ds) := fun Q q => ae_tup (h _ ⟨hl, q⟩)
/-- a list display as data -/
theorem ae_lst (h : aA X es δ M fun ds M1 => ds.length ≤ 10000 ∧ Q (.lst ds) M1) : aE X (.List es pos) δ M Q :=
  ae_of (pe_lst pa_w) fun σ H B Q2 rs c kk => h.run rs c fun xs ds M1 B1 H1 s1 r1 c1 q => by
    refine ⟨by rw [r1.length]; exact ln_le q.1, fun p hp => ?_⟩
    obtain ⟨s2, c2⟩ := c1.newI (.lst xs) hp
    exact kk _ _ _ _ _ (s1.trans s2) (.lst upd_same (r1.mono s2)) c2 q.2
theorem av_lst {ds : List D} (h : aAV X es δ M ds) (hl : ds.length ≤ 10000 := by first | decide | exact Nat.le_of_ble_eq_true rfl) : aV X (.List es pos) δ M (.lst ds) := fun Q q => ae_lst (h _ ⟨hl, q⟩)
/-- .. as a new list that may change -/
theorem ae_lstM (h : aA X es δ M fun ds M1 => ds.length ≤ 10000 ∧ ∀ p, M1 p = none → Q (.adr p) (updM M1 p (.lst ds))) : aE X (.List es pos) δ M Q :=
  ae_of (pe_lst pa_w) fun σ H B Q2 rs c kk => h.run rs c fun xs ds M1 B1 H1 s1 r1 c1 q => by
    refine ⟨by rw [r1.length]; exact ln_le q.1, fun p hp => ?_⟩
    exact kk _ _ _ _ _ s1 (.adr p) (c1.newM (.lst ds) hp ⟨xs, upd_same, r1⟩) (q.2 p (c1.none hp))
theorem ae_dictM (h : ∀ p, M p = none → Q (.adr p) (updM M p (.dK []))) : aE X (.Dict [] [] pos) δ M Q :=
  ae_of pe_dnewK fun σ H B Q2 rs c kk p hp => kk _ _ _ _ _ (Same.refl _) (.adr p) (c.newM (.dK []) hp ⟨[], upd_same, .nil⟩) (h p (c.none hp))
end
end Ab
/-! Statements, loops, comprehensions, calls over data. -/
namespace Ab
open PySem PySem.Spec PyProof.Rows L2
section
variable {X : Cx} {e a b : Expr} {es : List Expr} {st : Stmt} {sts : List Stmt} {δ : DE} {M : AHp} {Q : DK} {σ : L2.St} {H B : Hp} {A : AEnds} {G : Gx} {N : List Str} {sc : Scope} {pos : Pos} {x : Str}

theorem aS.run (h : aS X st A δ M) (rs : RepS B σ δ) (c : Cf B M H) {D : Ends} (i : EndsImp (cEnds B A) D) : wS X st D σ H := (h σ H B rs c).imp i
theorem aSs.run (h : aSs X sts A δ M) (rs : RepS B σ δ) (c : Cf B M H) {D : Ends} (i : EndsImp (cEnds B A) D) : wSs X sts D σ H := (h σ H B rs c).imp i

/-! ### blocks -/
theorem as_nil (q : A.nx δ M) : aSs X [] A δ M := fun σ H B rs c => wSs_of pss_nil ⟨δ, M, B, Same.refl _, rs, c, q⟩
theorem as_cons (h : aS X st { A with nx := fun δ' M' => aSs X sts A δ' M' } δ M) : aSs X (st :: sts) A δ M := fun σ H B rs c =>
  wSs_of (pss_cons ps_w pss_w) ((h σ H B rs c).imp ⟨fun σ' H' ⟨δ', M', B', s, r, c', q⟩ => (q σ' H' B' r c').imp (cEnds.mono s), fun _ _ z => z, fun _ _ z => z, fun _ _ z => z⟩)
theorem as_one (h : aS X st A δ M) : aSs X [st] A δ M := fun σ H B rs c => wSs_of (pss_one ps_w) (h σ H B rs c)
theorem aSs.imp {A' : AEnds} (h : aSs X sts A δ M) (h1 : ∀ δ' M', A.nx δ' M' → A'.nx δ' M') (h2 : ∀ d M', A.rt d M' → A'.rt d M') (h3 : ∀ δ' M', A.bk δ' M' → A'.bk δ' M') (h4 : ∀ δ' M', A.ct δ' M' → A'.ct δ' M') : aSs X sts A' δ M := fun σ H B rs c =>
  (h σ H B rs c).imp ⟨fun _ _ ⟨δ', M', B', s, r, c', q⟩ => ⟨δ', M', B', s, r, c', h1 _ _ q⟩, fun _ _ ⟨δ', M', B', s, r, c', q⟩ => ⟨δ', M', B', s, r, c', h2 _ _ q⟩, fun _ _ ⟨δ', M', B', s, r, c', q⟩ => ⟨δ', M', B', s, r, c', h3 _ _ q⟩, fun _ _ ⟨δ', M', B', s, r, c', q⟩ => ⟨δ', M', B', s, r, c', h4 _ _ q⟩⟩
theorem as_pass (q : A.nx δ M) : aS X (.Pass pos) A δ M := fun σ H B rs c => wS_of ps_pass ⟨δ, M, B, Same.refl _, rs, c, q⟩
theorem as_break (q : A.bk δ M) : aS X (.Break pos) A δ M := fun σ H B rs c => wS_of ps_break ⟨δ, M, B, Same.refl _, rs, c, q⟩
theorem as_continue (q : A.ct δ M) : aS X (.Continue pos) A δ M := fun σ H B rs c => wS_of ps_continue ⟨δ, M, B, Same.refl _, rs, c, q⟩
theorem as_never (h : False) : aS X st A δ M := h.elim
theorem as_ret (h : aE X e δ M A.rt) : aS X (.Return (some e) pos) A δ M := fun σ H B rs c => wS_of (ps_ret pe_w) (h σ H B rs c)
theorem as_retN (q : A.rt .non M) : aS X (.Return none pos) A δ M := fun σ H B rs c => wS_of ps_retN ⟨.non, M, B, Same.refl _, .non, c, q⟩
theorem as_expr (h : aE X e δ M fun _ M' => A.nx δ M') (hs : swapsWith e none pos.line X.env = pure false := by rfl) : aS X (.Expr e pos) A δ M := fun σ H B rs c =>
  wS_of (ps_expr pe_w hs) (h.run rs c fun v d M' B' H' s r c' q => ⟨δ, M', B', s, rs.mono s, c', q⟩)
theorem as_if {c : Expr} {s1 s2 : List Stmt} (h : aT X c δ M fun k M' => (k = true → aSs X s1 A δ M') ∧ (k = false → aSs X s2 A δ M')) : aS X (.If c s1 s2 pos) A δ M := fun σ H B rs c =>
  wS_of (ps_if pt_w pss_w pss_w) (h.run rs c fun k M' B' H' s c' q => by
    cases k with
    | true => exact (if_pos rfl).mpr ((q.1 rfl σ H' B' (rs.mono s) c').imp (cEnds.mono s))
    | false => exact (if_neg Bool.false_ne_true).mpr ((q.2 rfl σ H' B' (rs.mono s) c').imp (cEnds.mono s)))
theorem as_ifV {c : Expr} {s1 s2 : List Stmt} {k : Bool} (h : aTV X c δ M k) (h1 : k = true → aSs X s1 A δ M) (h2 : k = false → aSs X s2 A δ M) : aS X (.If c s1 s2 pos) A δ M := as_if (h _ ⟨h1, h2⟩)
theorem as_ifP {c : Expr} {s1 s2 : List Stmt} {k : Prop} [Decidable k] (h : aTV X c δ M (decide k)) (h1 : k → aSs X s1 A δ M) (h2 : ¬ k → aSs X s2 A δ M) : aS X (.If c s1 s2 pos) A δ M := as_if (h _ ⟨fun q => h1 (of_decide_eq_true q), fun q => h2 (of_decide_eq_false q)⟩)

/-! ### stores -/
theorem ag_name (g : XD X G N sc) (i : Nat) {d : D} {Q : DE → AHp → Prop} (q : Q (δ.set i (some d)) M) (hN : N[i]? = some x := by rfl) (hv : locB sc x = true := by rfl) : aG X (.Name x pos) d δ M Q := fun σ H B v rs c r =>
  wG_of (pg_name (i := i) g.nd (by rw [g.hN]; exact hN) (by rw [g.hsc]; exact loc_of hv) (.inl (g.fn x))) ⟨_, M, B, Same.refl _, rs.set r, c, q⟩
/-- several targets, from the left -/
def aGs (X : Cx) (ts : List Expr) (ds : List D) (δ : DE) (M : AHp) (Q : DE → AHp → Prop) : Prop := ∀ (σ : L2.St) (H B : Hp) (vs : List V), RepS B σ δ → Cf B M H → Reps B vs ds → ∃ t, PGs X ts t ∧ t vs σ H fun σ' H' => ∃ δ' M' B', Same B B' ∧ RepS B' σ' δ' ∧ Cf B' M' H' ∧ Q δ' M'
def wGs (X : Cx) (ts : List Expr) : TGs := fun vs σ H Q => ∀ (pins : List (Addr × Obj)) (s : Shared) (us : List Value), Inv X pins σ H s → Vals vs us →
    wpAny (model X.prog X.w) X.A (assignInOrder ((assignEach ts X.env).map (·.2)) us) (fun _ s' => ∃ σ' H', Inv X pins σ' H' s' ∧ Q σ' H') X.xe s
theorem pgs_w {ts : List Expr} : PGs X ts (wGs X ts) := ⟨fun pins s σ H vs us Q I r h => h pins s us I r⟩
def aGs' (X : Cx) (ts : List Expr) (ds : List D) (δ : DE) (M : AHp) (Q : DE → AHp → Prop) : Prop := ∀ (σ : L2.St) (H B : Hp) (vs : List V), RepS B σ δ → Cf B M H → Reps B vs ds → wGs X ts vs σ H fun σ' H' => ∃ δ' M' B', Same B B' ∧ RepS B' σ' δ' ∧ Cf B' M' H' ∧ Q δ' M'
theorem wGs_of {ts : List Expr} {t : TGs} {vs : List V} {Q : L2.St → Hp → Prop} (h : PGs X ts t) (q : t vs σ H Q) : wGs X ts vs σ H Q := fun pins s us I r => h.run pins s σ H vs us Q I r q
theorem ags_nil {Q : DE → AHp → Prop} (q : Q δ M) : aGs' X [] [] δ M Q := fun σ H B vs rs c r => wGs_of pgs_nil (by cases r; exact ⟨rfl, δ, M, B, Same.refl _, rs, c, q⟩)
theorem wGs.imp {ts : List Expr} {vs : List V} {Q Q' : L2.St → Hp → Prop} (h : wGs X ts vs σ H Q) (k : ∀ v H', Q v H' → Q' v H') : wGs X ts vs σ H Q' := fun pins s u I r => thn (h pins s u I r) fun _ s' ⟨v, H', I', q⟩ => ⟨v, H', I', k _ _ q⟩
theorem ags_cons {ts : List Expr} {d : D} {ds : List D} {Q : DE → AHp → Prop} (h : aG X e d δ M fun δ' M' => aGs' X ts ds δ' M' Q) (hs : (assignEach (e :: ts) X.env).map (·.2) = assign e X.env :: (assignEach ts X.env).map (·.2) := by rfl) : aGs' X (e :: ts) (d :: ds) δ M Q := fun σ H B vs rs c r => by
  cases r with
  | cons r1 r2 => exact wGs_of (pgs_cons pg_w pgs_w hs) ⟨_, _, rfl, h.run rs c r1 fun σ' δ' M' B' H' s rs' c' q => wGs.imp (q σ' H' B' _ rs' c' (r2.mono s)) fun σ2 H2 ⟨δ2, M2, B2, s2, rs2, c2, q2⟩ => ⟨δ2, M2, B2, s.trans s2, rs2, c2, q2⟩⟩
theorem ag_tup (g : XF X G N sc) {ts : List Expr} {k : Nat} {ds : List D} {Q : DE → AHp → Prop} (h : aGs' X ts ds δ M Q) (hn : (assignEach ts X.env).length = ds.length := by rfl) (hst : (assignEach ts X.env).findIdx? (·.1) = none := by rfl) : aG X (.Tuple ts k pos) (.tup ds) δ M Q := fun σ H B v rs c r => by
  cases r with
  | tup h1 h2 => exact wG_of (pg_tup g.calm pgs_w hn hst) ⟨_, _, rfl, .inl (.inl (c.ex _ _ h1)), h2.length, h σ H B _ rs c h2⟩
theorem as_asg {tg : Expr} (h : aE X e δ M fun d M' => aG X tg d δ M' A.nx) (hs : swapsWithSole [tg] e pos.line X.env = pure false := by rfl) (hw : swappedStores [tg] e X.env = pure none := by rfl) (h1 : (assignEach [tg] X.env).map (·.2) = [assign tg X.env] := by rfl) : aS X (.Assign [tg] e pos) A δ M := fun σ H B rs c =>
  wS_of (ps_asg pe_w pg_w hs hw h1) (h.run rs c fun v d M' B' H' s r c' q => aG.run q (rs.mono s) c' r fun σ2 δ2 M2 B2 H2 s2 rs2 c2 q2 => ⟨δ2, M2, B2, s.trans s2, rs2, c2, q2⟩)
theorem as_set (g : XD X G N sc) (i : Nat) {pos' : Pos} (h : aE X e δ M fun d M' => A.nx (δ.set i (some d)) M') (hN : N[i]? = some x := by rfl) (hv : locB sc x = true := by rfl) (hs : swapsWith e (some (.Name x pos')) pos.line X.env = pure false := by rfl) : aS X (.Assign [.Name x pos'] e pos) A δ M := fun σ H B rs c =>
  wS_of (ps_set (i := i) g.nd (by rw [g.hN]; exact hN) (by rw [g.hsc]; exact loc_of hv) pe_w hs (.inl (g.fn x))) (h.run rs c fun v d M' B' H' s r c' q => ⟨_, M', B', s, (rs.mono s).set r, c', q⟩)
theorem as_setV (g : XD X G N sc) (i : Nat) {pos' : Pos} {d : D} (h : aV X e δ M d) (q : A.nx (δ.set i (some d)) M) (hN : N[i]? = some x := by rfl) (hv : locB sc x = true := by rfl) (hs : swapsWith e (some (.Name x pos')) pos.line X.env = pure false := by rfl) : aS X (.Assign [.Name x pos'] e pos) A δ M := as_set g i (h _ q) hN hv hs
/-- a, b = .., .. of two local names -/
theorem sw_of (g : XF X G N sc) {ts : List Expr} {v : Expr} {r : Sem (Option (List Str))} (h : ∀ env : Env, env.scope = sc → swappedStores ts v env = r) : swappedStores ts v X.env = r := h _ g.hsc
theorem as_par (g : XD X G N sc) (i j : Nat) {y : Str} {px py pt : Pos} {kt k2 pt2}
    (h : aA X [a, b] δ M fun ds M' => ∃ d1 d2, ds = [d1, d2] ∧ A.nx ((δ.set i (some d1)).set j (some d2)) M') (hij : i ≠ j := by decide) (hN : N[i]? = some x := by rfl) (hN2 : N[j]? = some y := by rfl) (hv : sc.names.lookup x = some .local := by rfl) (hv2 : sc.names.lookup y = some .local := by rfl)
    (hs : swapsWithSole [.Tuple [.Name x px, .Name y py] kt pt] (.Tuple [a, b] k2 pt2) pos.line X.env = pure false := by rfl) (hw : ∀ env : Env, env.scope = sc → swappedStores [.Tuple [.Name x px, .Name y py] kt pt] (.Tuple [a, b] k2 pt2) env = pure (some [x, y]) := by intro env e; cases env; cases e; rfl) : aS X (.Assign [.Tuple [.Name x px, .Name y py] kt pt] (.Tuple [a, b] k2 pt2) pos) A δ M := fun σ H B rs c =>
  wS_of (ps_par (i := i) (j := j) g.calm g.nd (by rw [g.hN]; exact hN) (by rw [g.hN]; exact hN2) hij (by rw [g.hsc]; exact hv) (by rw [g.hsc]; exact hv2) pa_w (sw_of g.toXF hw) hs) (h.run rs c fun vs ds M' B' H' s r c' q => by
    obtain ⟨d1, d2, rfl, q⟩ := q
    cases r with
    | cons r1 r2 => cases r2 with
      | cons r2 r3 => cases r3; exact ⟨_, _, rfl, _, M', B', s, ((rs.mono s).set r1).set r2, c', q⟩)
theorem as_par3 (g : XD X G N sc) (i j l : Nat) {c : Expr} {y z : Str} {px py pz pt : Pos} {kt k2 pt2}
    (h : aA X [a, b, c] δ M fun ds M' => ∃ d1 d2 d3, ds = [d1, d2, d3] ∧ A.nx (((δ.set i (some d1)).set j (some d2)).set l (some d3)) M') (hij : i ≠ j := by decide) (hil : i ≠ l := by decide) (hjl : j ≠ l := by decide) (hN : N[i]? = some x := by rfl) (hN2 : N[j]? = some y := by rfl) (hN3 : N[l]? = some z := by rfl)
    (hv : sc.names.lookup x = some .local := by rfl) (hv2 : sc.names.lookup y = some .local := by rfl) (hv3 : sc.names.lookup z = some .local := by rfl)
    (hs : swapsWithSole [.Tuple [.Name x px, .Name y py, .Name z pz] kt pt] (.Tuple [a, b, c] k2 pt2) pos.line X.env = pure false := by rfl) (hw : ∀ env : Env, env.scope = sc → swappedStores [.Tuple [.Name x px, .Name y py, .Name z pz] kt pt] (.Tuple [a, b, c] k2 pt2) env = pure (some [x, y, z]) := by intro env e; cases env; cases e; rfl) : aS X (.Assign [.Tuple [.Name x px, .Name y py, .Name z pz] kt pt] (.Tuple [a, b, c] k2 pt2) pos) A δ M := fun σ H B rs c =>
  wS_of (ps_par3 (i := i) (j := j) (l := l) g.calm g.nd (by rw [g.hN]; exact hN) (by rw [g.hN]; exact hN2) (by rw [g.hN]; exact hN3) hij hil hjl (by rw [g.hsc]; exact hv) (by rw [g.hsc]; exact hv2) (by rw [g.hsc]; exact hv3) pa_w (sw_of g.toXF hw) hs) (h.run rs c fun vs ds M' B' H' s r c' q => by
    obtain ⟨d1, d2, d3, rfl, q⟩ := q
    cases r with
    | cons r1 r2 => cases r2 with
      | cons r2 r3 => cases r3 with
        | cons r3 r4 => cases r4; exact ⟨_, _, _, rfl, _, M', B', s, (((rs.mono s).set r1).set r2).set r3, c', q⟩)
/-- x += e, x -= e -/
theorem as_aug {f : Int → Int → Int} {op : Operator} (ho : PIp X op (ipI f)) (g : XD X G N sc) (i : Nat) {pos' : Pos} {m : Int} (h : aE X e δ M fun d M' => ∃ n, d = .int n ∧ A.nx (δ.set i (some (.int (f m n)))) M') (hd : δ[i]? = some (some (.int m)) := by rfl) (hN : N[i]? = some x := by rfl) (hv : locB sc x = true := by rfl) : aS X (.AugAssign (.Name x pos') op e pos) A δ M := fun σ H B rs c => by
  obtain ⟨v, h1, h2⟩ := rs.at_ i _ hd
  cases h2
  exact wS_of (ps_aug (i := i) g.nd (by rw [g.hN]; exact hN) (by rw [g.hsc]; exact loc_of hv) pe_w ho (.inl (g.fn x))) ⟨_, h1, h.run rs c fun v d M' B' H' s r c' q => by
    obtain ⟨n, rfl, q⟩ := q
    cases r
    exact ⟨m, n, rfl, rfl, _, M', B', s, (rs.mono s).set (.int _), c', q⟩⟩
/-- a list, seen as data from here on -/
theorem as_freeze (i : Nat) {p : Addr} {ds : List D} (hd : δ[i]? = some (some (.adr p))) (hm : M p = some (.lst ds)) (h : aSs X sts A (δ.set i (some (.lst ds))) (delM M p)) : aSs X sts A δ M := fun σ H B rs c => by
  obtain ⟨B', s, c', r⟩ := c.freeze hm
  obtain ⟨v, h1, h2⟩ := rs.at_ i _ hd
  cases h2
  have rs2 : RepS B' σ (δ.set i (some (.lst ds))) := by
    have z := (rs.mono s).set (i := i) r
    have e : σ.set i (some (.ref p)) = σ := by
      refine List.ext_getElem? fun j => ?_
      by_cases q : i = j
      · subst q
        rw [List.getElem?_set_self (List.getElem?_eq_some_iff.mp h1).1]
        exact h1.symm
      · rw [List.getElem?_set_ne q]
    rw [e] at z
    exact z
  exact (h σ H B' rs2 c').imp (cEnds.mono s)
theorem as_forget {M' : AHp} (hm : ∀ p o, M' p = some o → M p = some o) (h : aSs X sts A δ M') : aSs X sts A δ M := fun σ H B rs c => h σ H B rs (c.forget hm)

/-! ### what is walked -/
def wI (X : Cx) (tg it : Expr) : TI := fun σ H R => ∀ (pins : List (Addr × Obj)) (s : Shared), Inv X pins σ H s →
    wpAny (model X.prog X.w) X.A (eval it X.env) (fun v s1 => wpAny (model X.prog X.w) X.A (pyIter v) (PIE X pins σ tg R) X.xe s1) X.xe s
theorem pi_w {tg it : Expr} : PI X tg it (wI X tg it) := ⟨fun pins s σ H R I h => h pins s I⟩
theorem wI_of {tg it : Expr} {wi : TI} {R : It → Hp → Prop} (h : PI X tg it wi) (q : wi σ H R) : wI X tg it σ H R := fun pins s I => h.run pins s σ H R I q
/-- the iterator J hands out ds, one after the other, as long as C holds -/
structure Hands (J : It) (B0 : Hp) (C : AHp → Prop) (ds : List D) : Prop where
  go : ∀ (i : Nat) (B : Hp) (M : AHp) (H : Hp) (d : D), Same B0 B → Cf B M H → C M → ds[i]? = some d → J.go i H ∧ ∀ x H', J.yld i H x H' → ∃ B', Same B B' ∧ Cf B' M H' ∧ Rep B' x d
  stop : ∀ (i : Nat) (B : Hp) (M : AHp) (H : Hp), Same B0 B → Cf B M H → C M → ds.length ≤ i → J.stop i H
def aI (X : Cx) (tg it : Expr) (δ : DE) (M : AHp) (P : (AHp → Prop) → List D → AHp → Prop) : Prop := ∀ (σ : L2.St) (H B : Hp), RepS B σ δ → Cf B M H → ∀ R : It → Hp → Prop,
  (∀ J M' B' H' C ds, Same B B' → Cf B' M' H' → Hands J B' C ds → P C ds M' → R J H') → wI X tg it σ H R
theorem ai_list {tg it : Expr} {P : (AHp → Prop) → List D → AHp → Prop} (h : aE X it δ M fun d M' => ∃ ds, d = .lst ds ∧ P (fun _ => True) ds M') : aI X tg it δ M P := fun σ H B rs c R k =>
  wI_of (pi_list pe_w) (h.run rs c fun v d M' B' H' s r c' q => by
    obtain ⟨ds, rfl, q⟩ := q
    cases r with
    | @lst a xs ds h1 h2 =>
      refine ⟨a, rfl, ⟨xs, .inl (.inl (c'.ex _ _ h1))⟩, k _ M' B' H' _ ds s c' ⟨fun i B2 M2 H2 d s2 c2 _ hd => ?_, fun i B2 M2 H2 s2 c2 _ hl => ?_⟩ q⟩
      · obtain ⟨v, hv, rv⟩ := h2.get hd
        have hq : SqL X.K H2 a xs := .inl (.inl (c2.ex _ _ (s2 _ _ h1)))
        exact ⟨⟨xs, v, hq, hv⟩, fun x H3 ⟨e, y⟩ => by
          subst e
          have z := y xs hq
          rw [hv] at z; cases z
          exact ⟨B2, Same.refl _, c2, rv.mono s2⟩⟩
      · exact ⟨xs, .inl (.inl (c2.ex _ _ (s2 _ _ h1))), by rw [h2.length]; exact hl⟩)
theorem ai_listM {tg it : Expr} {P : (AHp → Prop) → List D → AHp → Prop} (h : aE X it δ M fun d M' => ∃ p ds, d = .adr p ∧ M' p = some (.lst ds) ∧ P (fun M2 => M2 p = some (.lst ds)) ds M') : aI X tg it δ M P := fun σ H B rs c R k =>
  wI_of (pi_list pe_w) (h.run rs c fun v d M' B' H' s r c' q => by
    obtain ⟨p, ds, rfl, hp, q⟩ := q
    cases r
    obtain ⟨bp, xs, h1, h2⟩ := c'.m p _ hp
    refine ⟨p, rfl, ⟨xs, .inl (.inl h1)⟩, k _ M' B' H' _ ds s c' ⟨fun i B2 M2 H2 d s2 c2 hc hd => ?_, fun i B2 M2 H2 s2 c2 hc hl => ?_⟩ q⟩
    · obtain ⟨_, ys, k1, k2⟩ := c2.m p _ hc
      obtain ⟨v, hv, rv⟩ := k2.get hd
      have hq : SqL X.K H2 p ys := .inl (.inl k1)
      exact ⟨⟨ys, v, hq, hv⟩, fun x H3 ⟨e, y⟩ => by
          subst e
          have z := y ys hq
          rw [hv] at z; cases z
          exact ⟨B2, Same.refl _, c2, rv⟩⟩
    · obtain ⟨_, ys, k1, k2⟩ := c2.m p _ hc
      exact ⟨ys, .inl (.inl k1), by rw [k2.length]; exact hl⟩)
theorem ai_tup {tg it : Expr} {P : (AHp → Prop) → List D → AHp → Prop} (h : aE X it δ M fun d M' => ∃ ds, d = .tup ds ∧ P (fun _ => True) ds M') : aI X tg it δ M P := fun σ H B rs c R k =>
  wI_of (pi_tup pe_w) (h.run rs c fun v d M' B' H' s r c' q => by
    obtain ⟨ds, rfl, q⟩ := q
    cases r with
    | @tup a xs ds h1 h2 =>
      refine ⟨a, rfl, ⟨xs, .inl (.inl (c'.ex _ _ h1))⟩, k _ M' B' H' _ ds s c' ⟨fun i B2 M2 H2 d s2 c2 _ hd => ?_, fun i B2 M2 H2 s2 c2 _ hl => ?_⟩ q⟩
      · obtain ⟨v, hv, rv⟩ := h2.get hd
        have hq : SqT X.K H2 a xs := .inl (.inl (c2.ex _ _ (s2 _ _ h1)))
        exact ⟨⟨xs, v, hq, hv⟩, fun x H3 ⟨e, y⟩ => by
          subst e
          have z := y xs hq
          rw [hv] at z; cases z
          exact ⟨B2, Same.refl _, c2, rv.mono s2⟩⟩
      · exact ⟨xs, .inl (.inl (c2.ex _ _ (s2 _ _ h1))), by rw [h2.length]; exact hl⟩)
/-- lo, lo + 1, .. -/
def rgD (lo : Int) (n : Nat) : List D := (List.range n).map fun (i : Nat) => D.int (lo + i)
theorem rgD_get {lo : Int} {n i : Nat} {d : D} (h : (rgD lo n)[i]? = some d) : i < n ∧ d = .int (lo + i) := by
  unfold rgD at h
  rw [List.getElem?_map] at h
  by_cases q : i < n
  · rw [List.getElem?_range q] at h
    exact ⟨q, (Option.some.inj h).symm⟩
  · rw [List.getElem?_eq_none_iff.mpr (by rw [List.length_range]; omega)] at h
    cases h
theorem rgD_len {lo : Int} {n : Nat} : (rgD lo n).length = n := by unfold rgD; rw [List.length_map, List.length_range]
theorem hands_range {lo : Int} {n : Nat} : Hands (Itr lo n) B (fun _ => True) (rgD lo n) := ⟨fun i B2 M2 H2 d s2 c2 _ hd => by
    obtain ⟨h1, h2⟩ := rgD_get hd
    subst h2
    exact ⟨h1, fun x H' ⟨e1, e2⟩ => by subst e1 e2; exact ⟨B2, Same.refl _, c2, .int _⟩⟩, fun i B2 M2 H2 s2 c2 _ hl => by rw [rgD_len] at hl; exact hl⟩
theorem ai_range1 {tg : Expr} {p : Pos} {P : (AHp → Prop) → List D → AHp → Prop} (g : XF X G N sc) (hm : G.mg "range" = none) (h : aA X [a] δ M fun ds M' => ∃ n : Int, ds = [.int n] ∧ -(2 ^ 62) ≤ n ∧ n < 2 ^ 62 ∧ P (fun _ => True) (rgD 0 n.toNat) M')
    (hg : sc.names.lookup ("range" : Str) = some .globalImplicit := by rfl) (hs : starEach [a] X.env = [(false, eval a X.env)] := by rfl) : aI X tg (.Call (.Name "range" p) [a] [] pos) δ M P := fun σ H B rs c R k =>
  wI_of (pi_range1 (g.gl hg) (by rw [g.mg]; exact hm) pa_w hs) (h.run rs c fun vs ds M' B' H' s r c' q => by
    obtain ⟨n, rfl, h1, h2, q⟩ := q
    cases r with
    | cons r1 r2 => cases r2; cases r1; exact ⟨n, rfl, h1, h2, k _ M' B' H' _ _ s c' hands_range q⟩)
theorem ai_range2 {tg : Expr} {p : Pos} {P : (AHp → Prop) → List D → AHp → Prop} (g : XF X G N sc) (hm : G.mg "range" = none) (h : aA X [a, b] δ M fun ds M' => ∃ i n : Int, ds = [.int i, .int n] ∧ (-(2 ^ 62) ≤ i ∧ i < 2 ^ 62 ∧ -(2 ^ 62) ≤ n ∧ n < 2 ^ 62) ∧ P (fun _ => True) (rgD i (n - i).toNat) M')
    (hg : sc.names.lookup ("range" : Str) = some .globalImplicit := by rfl) (hs : starEach [a, b] X.env = [(false, eval a X.env), (false, eval b X.env)] := by rfl) (hs2 : starEach [b] X.env = [(false, eval b X.env)] := by rfl) : aI X tg (.Call (.Name "range" p) [a, b] [] pos) δ M P := fun σ H B rs c R k =>
  wI_of (pi_range2 (g.gl hg) (by rw [g.mg]; exact hm) pa_w hs hs2) (h.run rs c fun vs ds M' B' H' s r c' q => by
    obtain ⟨i, n, rfl, h1, q⟩ := q
    cases r with
    | cons r1 r2 => cases r2 with
      | cons r2 r3 => cases r3; cases r1; cases r2; exact ⟨i, n, rfl, h1, k _ M' B' H' _ _ s c' hands_range q⟩)
theorem as_for {tg it : Expr} (g : XF X G N sc)
    (h : aI X tg it δ M fun C ds M1 => ∃ J : Nat → DE → AHp → Prop, J 0 δ M1 ∧ (∀ i δ' M', J i δ' M' → C M') ∧ (∀ i d δ' M', ds[i]? = some d → J i δ' M' → aG X tg d δ' M' fun δ2 M2 => aSs X sts { nx := J (i + 1), rt := A.rt, bk := A.nx, ct := J (i + 1) } δ2 M2) ∧ ∀ δ' M', J ds.length δ' M' → A.nx δ' M') (hs : ∀ x, foldedSetIterable it X.env x = pure x := by intro _; rfl) :
    aS X (.For tg it sts [] pos) A δ M := fun σ H B rs c =>
  wS_of (ps_for g.po g.calm pi_w pg_w pss_w hs) (h σ H B rs c _ fun K M1 B1 H1 C ds s1 c1 hn ⟨J, j0, jc, js, je⟩ => by
    refine ⟨fun i m σ' H' => m = ds.length - i ∧ i ≤ ds.length ∧ cN B1 (J i) σ' H', ⟨_, rfl, Nat.zero_le _, δ, M1, B1, Same.refl _, rs.mono s1, c1, j0⟩, ?_⟩
    rintro i m σ' H' ⟨rfl, hi, δ', M', B', s', rs', c', ji⟩
    by_cases hlt : i < ds.length
    · refine .inr ?_
      obtain ⟨g1, g2⟩ := hn.go i B' M' H' ds[i] s' c' (jc _ _ _ ji) (by simp [hlt])
      refine ⟨g1, cN B1 (J (i + 1)), fun σ2 H2 q => ⟨ds.length - (i + 1), by omega, rfl, hlt, q⟩, fun x H2 y => ?_⟩
      obtain ⟨B2, s2, c2, r2⟩ := g2 x H2 y
      refine (js i ds[i] δ' M' (by simp [hlt]) ji).run (rs'.mono s2) c2 r2 fun σ3 δ3 M3 B3 H3 s3 rs3 c3 q3 => ?_
      have s13 : Same B1 B3 := (s'.trans s2).trans s3
      exact (q3 σ3 H3 B3 rs3 c3).imp ⟨fun _ _ z => cN.mono s13 z, fun _ _ z => cV.mono (s1.trans s13) z, fun _ _ z => cN.mono (s1.trans s13) z, fun _ _ z => cN.mono s13 z⟩
    · have e : i = ds.length := by omega
      subst e
      exact .inl ⟨hn.stop _ B' M' H' s' c' (jc _ _ _ ji) (Nat.le_refl _), δ', M', B', s1.trans s', rs', c', je _ _ ji⟩)
end
end Ab
/-! Defs and their promises, items, comprehensions. -/
namespace Ab
open PySem PySem.Spec PyProof.Rows L2

section
variable {X : Cx} {e a b : Expr} {es : List Expr} {st : Stmt} {sts : List Stmt} {δ : DE} {M : AHp} {Q : DK} {σ : L2.St} {H B : Hp} {A : AEnds} {G : Gx} {N : List Str} {sc : Scope} {pos : Pos} {x : Str}
/-! ### items -/
theorem p_ixT {ds : List D} {i : Int} {d : D} (h : atI ds i = some d) : pR (rIxT X.K) M (.tup ds) (.int i) d := fun x y B H Q2 ra rb c k => by
  cases rb
  cases ra with
  | @tup a xs ds h1 h2 =>
    unfold atI at h
    rw [← h2.length] at h
    cases e : ixN xs.length i with
    | none => rw [e] at h; cases h
    | some j =>
      rw [e] at h
      have h : ds[j]? = some d := h
      obtain ⟨v, hv, rv⟩ := h2.get h
      refine ⟨a, xs, i, v, rfl, rfl, .inl (.inl (c.ex _ _ h1)), ?_, k v B H (Same.refl _) rv c⟩
      unfold atI
      rw [e]
      exact hv
theorem p_ixL {ds : List D} {i : Int} {d : D} (h : atI ds i = some d) : pR (rIxL X.K) M (.lst ds) (.int i) d := fun x y B H Q2 ra rb c k => by
  cases rb
  cases ra with
  | @lst a xs ds h1 h2 =>
    unfold atI at h
    rw [← h2.length] at h
    cases e : ixN xs.length i with
    | none => rw [e] at h; cases h
    | some j =>
      rw [e] at h
      have h : ds[j]? = some d := h
      obtain ⟨v, hv, rv⟩ := h2.get h
      refine ⟨a, xs, i, v, rfl, rfl, .inl (.inl (c.ex _ _ h1)), ?_, k v B H (Same.refl _) rv c⟩
      unfold atI
      rw [e]
      exact hv
theorem p_ixM {p : Addr} {ds : List D} {i : Int} {d : D} (hp : M p = some (.lst ds)) (h : atI ds i = some d) : pR (rIxL X.K) M (.adr p) (.int i) d := fun x y B H Q2 ra rb c k => by
  cases rb
  cases ra
  obtain ⟨_, xs, h1, h2⟩ := c.m p _ hp
  unfold atI at h
  rw [← h2.length] at h
  cases e : ixN xs.length i with
  | none => rw [e] at h; cases h
  | some j =>
    rw [e] at h
    have h : ds[j]? = some d := h
    obtain ⟨v, hv, rv⟩ := h2.get h
    refine ⟨p, xs, i, v, rfl, rfl, .inl (.inl h1), ?_, k v B H (Same.refl _) rv c⟩
    unfold atI
    rw [e]
    exact hv
theorem av_ix {r : R2} {da db d : D} (ho : IxR X r) (ha : aV X a δ M da) (hb : aV X b δ M db) (hr : pR r M da db d) (hs : PlainIx b := by exact fun _ _ => rfl) : aV X (.Subscript a b pos) δ M d :=
  av_of (pe_ix ho pe_w pe_w hs) fun σ H B Q rs c k => op_core ha hb σ H B Q rs c fun x y B' H' s rx ry c' => hr x y B' H' Q rx ry c' fun v B2 H2 s2 r2 c2 => k v B2 H2 (s.trans s2) r2 c2
theorem ae_ix {r : R2} (ho : IxR X r) (h : aE X a δ M fun da M1 => aE X b δ M1 fun db M2 => aR r da db M2 Q) (hs : PlainIx b := by exact fun _ _ => rfl) : aE X (.Subscript a b pos) δ M Q :=
  ae_of (pe_ix ho pe_w pe_w hs) fun σ H B Q2 rs c k => op_coreE h rs c k
theorem atD {α : Type} {f : α → D} {xs : List α} {j : Nat} {y : α} (h : xs[j]? = some y) : atI (xs.map f) (j : Int) = some (f y) := atI_nat (by rw [List.getElem?_map, h]; rfl)

/-! ### lists that change -/
theorem noOwn {p : Addr} {o : MO} (c : Cf B M H) (h : M p = some o) (hn : ∀ u, o ≠ .raw u) : ∀ x, H p ≠ some (.own x) := fun x e => by
  have m := (c.m p o h).2
  cases o with
  | lst ds => obtain ⟨xs, q, _⟩ := m; rw [e] at q; cases q
  | dK kvs => obtain ⟨xs, q, _⟩ := m; rw [e] at q; cases q
  | ins C fs => obtain ⟨dx, ws, q, _⟩ := m; rw [e] at q; cases q
  | raw u => exact hn u rfl
  | err d => obtain ⟨v, q, _⟩ := m; rw [e] at q; cases q
/-- o[i] = v -/
theorem ag_setL {o i : Expr} {d : D} {Q : DE → AHp → Prop}
    (h : aE X o δ M fun d1 M1 => aE X i δ M1 fun d2 M2 => ∃ p ds k j, d1 = .adr p ∧ d2 = .int k ∧ M2 p = some (.lst ds) ∧ ixN ds.length k = some j ∧ Q δ (updM M2 p (.lst (ds.set j d)))) (ha : ∀ v, assign (.Subscript o i pos) X.env v = (do
      let ov ← holding [v] (eval o X.env)
      let iv ← holding [v, ov] (eval i X.env)
      standAt pos
      holding [v, ov, iv] (setItem ov iv v)
      release [v, ov, iv] []) := by intro _; rfl) : aG X (.Subscript o i pos) d δ M Q := fun σ H B v rs c r =>
  wG_of (pg_sub pe_w pe_w set_list ha) (h.run rs c fun x d1 M1 B1 H1 s1 r1 c1 q1 => aE.run q1 (rs.mono s1) c1 fun y d2 M2 B2 H2 s2 r2 c2 q2 => by
    obtain ⟨p, ds, k, j, rfl, rfl, hp, hj, q⟩ := q2
    cases r1; cases r2
    obtain ⟨_, xs, h1, h2⟩ := c2.m p _ hp
    have r' := (r.mono s1).mono s2
    refine ⟨p, xs, k, j, rfl, rfl, h1, by rw [h2.length]; exact hj, ?_⟩
    exact ⟨δ, _, B2, s1.trans s2, (rs.mono s1).mono s2, c2.set (.lst (ds.set j d)) hp (noOwn c2 hp fun _ z => (nomatch z)) ⟨_, upd_same, h2.set r' j⟩, q⟩)
/-- methods of a built-in list -/
theorem ae_append {o : Expr} {apos : Pos} (h : aE X o δ M fun d1 M1 => ∃ p ds1, d1 = .adr p ∧ M1 p = some (.lst ds1) ∧ aE X e δ M1 fun d2 M2 => ∃ ds, M2 p = some (.lst ds) ∧ ds.length < 100000 ∧ Q .non (updM M2 p (.lst (ds ++ [d2])))) (hbase : attributeBase o "append" X.env (eval o X.env) = eval o X.env := by rfl) (hline : (apos.endLine == pos.line) = true := by rfl) (hs : starEach [e] X.env = (false, eval e X.env) :: starEach [] X.env := by rfl)
    (hfew : ((backTo pos (starEach [e] X.env)).all (fun x => !x.1) && (backToKw pos (keywordEach [] X.env)).all (fun x => x.1.isSome)
      && decide ((e :: []).length + ([] : List Keyword).length + (if ([] : List Keyword).isEmpty then 0 else 1) < 30)) = true := by rfl) :
    aE X (.Call (.Attribute o "append" apos) [e] [] pos) δ M Q :=
  ae_of (pe_bm PySem.F.plainAttrs_list PySem.F.slot_list_append PySem.F.type_list_append mt_append pe_w (pa_cons pe_w pa_nil hs) hbase hfew hline hs rfl) fun σ H B Q2 rs c kk => h.run rs c fun x d1 M1 B1 H1 s1 r1 c1 q1 => by
    obtain ⟨p, ds1, rfl, hp, q1⟩ := q1
    cases r1
    obtain ⟨_, xs1, hx1, _⟩ := c1.m p _ hp
    refine ⟨.inl ⟨rfl, _, .inl (.inl hx1)⟩, ?_⟩
    refine aE.run q1 (rs.mono s1) c1 fun y d2 M2 B2 H2 s2 r2 c2 q2 => ?_
    obtain ⟨ds, hp2, hl, q⟩ := q2
    obtain ⟨_, xs, hx, rx⟩ := c2.m p _ hp2
    refine ⟨p, xs, y, rfl, rfl, hx, by rw [rx.length, sizeLine_eq]; omega, ?_⟩
    exact kk _ _ _ _ _ (s1.trans s2) .non (c2.set (.lst (ds ++ [d2])) hp2 (noOwn c2 hp2 fun _ z => (nomatch z)) ⟨_, upd_same, rx.append (.one r2)⟩) q
theorem ae_clear {o : Expr} {apos : Pos} (h : aE X o δ M fun d1 M1 => ∃ p ds1, d1 = .adr p ∧ M1 p = some (.lst ds1) ∧ Q .non (updM M1 p (.lst [])))(hbase : attributeBase o "clear" X.env (eval o X.env) = eval o X.env := by rfl) (hline : (apos.endLine == pos.line) = true := by rfl) :
    aE X (.Call (.Attribute o "clear" apos) [] [] pos) δ M Q :=
  ae_of (pe_bm0 PySem.F.plainAttrs_list PySem.F.slot_list_clear PySem.F.type_list_clear mt_clear pe_w hbase hline) fun σ H B Q2 rs c kk => h.run rs c fun x d1 M1 B1 H1 s1 r1 c1 q1 => by
    obtain ⟨p, ds1, rfl, hp, q⟩ := q1
    cases r1
    obtain ⟨_, xs, hx, rx⟩ := c1.m p _ hp
    refine ⟨.inl ⟨rfl, _, .inl (.inl hx)⟩, p, xs, rfl, rfl, hx, ?_⟩
    exact kk _ _ _ _ _ s1 .non (c1.set (.lst []) hp (noOwn c1 hp fun _ z => (nomatch z)) ⟨_, upd_same, .nil⟩) q
theorem ae_reverse {o : Expr} {apos : Pos} (h : aE X o δ M fun d1 M1 => ∃ p ds1, d1 = .adr p ∧ M1 p = some (.lst ds1) ∧ Q .non (updM M1 p (.lst ds1.reverse)))(hbase : attributeBase o "reverse" X.env (eval o X.env) = eval o X.env := by rfl) (hline : (apos.endLine == pos.line) = true := by rfl) :
    aE X (.Call (.Attribute o "reverse" apos) [] [] pos) δ M Q :=
  ae_of (pe_bm0 PySem.F.plainAttrs_list PySem.F.slot_list_reverse PySem.F.type_list_reverse mt_reverse pe_w hbase hline) fun σ H B Q2 rs c kk => h.run rs c fun x d1 M1 B1 H1 s1 r1 c1 q1 => by
    obtain ⟨p, ds1, rfl, hp, q⟩ := q1
    cases r1
    obtain ⟨_, xs, hx, rx⟩ := c1.m p _ hp
    refine ⟨.inl ⟨rfl, _, .inl (.inl hx)⟩, p, xs, rfl, rfl, hx, ?_⟩
    exact kk _ _ _ _ _ s1 .non (c1.set (.lst ds1.reverse) hp (noOwn c1 hp fun _ z => (nomatch z)) ⟨_, upd_same, rx.reverse⟩) q
theorem ae_pop {o : Expr} {apos : Pos} (h : aE X o δ M fun d1 M1 => ∃ p ds1 d, d1 = .adr p ∧ M1 p = some (.lst (ds1 ++ [d])) ∧ Q d (updM M1 p (.lst ds1)))(hbase : attributeBase o "pop" X.env (eval o X.env) = eval o X.env := by rfl) (hline : (apos.endLine == pos.line) = true := by rfl) :
    aE X (.Call (.Attribute o "pop" apos) [] [] pos) δ M Q :=
  ae_of (pe_bm0 PySem.F.plainAttrs_list PySem.F.slot_list_pop PySem.F.type_list_pop mt_pop pe_w hbase hline) fun σ H B Q2 rs c kk => h.run rs c fun x d1 M1 B1 H1 s1 r1 c1 q1 => by
    obtain ⟨p, ds1, d, rfl, hp, q⟩ := q1
    cases r1
    obtain ⟨_, xs, hx, rx⟩ := c1.m p _ hp
    obtain ⟨v, hv, rv⟩ := rx.get (i := ds1.length) (d := d) (by simp)
    have hl : xs.length = ds1.length + 1 := by rw [rx.length]; simp
    have rd : Reps B1 xs.dropLast ds1 := by
      have z := rx.take ds1.length
      rw [List.take_left] at z
      rw [List.dropLast_eq_take, hl]
      exact z
    refine ⟨.inl ⟨rfl, _, .inl (.inl hx)⟩, p, xs, v, rfl, rfl, hx, by rw [hl]; exact hv, ?_⟩
    exact kk _ _ _ _ _ s1 rv (c1.set (.lst ds1) hp (noOwn c1 hp fun _ z => (nomatch z)) ⟨_, upd_same, rd⟩) q

/-! ### built-in functions by values -/
def pC (r : List V → Hp → VK → Prop) (M : AHp) (ds : List D) (d : D) : Prop := ∀ (xs : List V) (B H : Hp) (Q2 : VK), Reps B xs ds → Cf B M H → (∀ v B' H', Same B B' → Rep B' v d → Cf B' M H' → Q2 v H') → r xs H Q2
def aC (r : List V → Hp → VK → Prop) (ds : List D) (M : AHp) (Q : DK) : Prop := ∀ (xs : List V) (B H : Hp) (Q2 : VK), Reps B xs ds → Cf B M H → (∀ v d M' B' H', Same B B' → Rep B' v d → Cf B' M' H' → Q d M' → Q2 v H') → r xs H Q2
theorem pC.go {r : List V → Hp → VK → Prop} {ds : List D} {d : D} (h : pC r M ds d) (q : Q d M) : aC r ds M Q := fun xs B H Q2 rx c k => h xs B H Q2 rx c fun v B' H' s r c' => k v d M B' H' s r c' q
theorem ae_callB {id : String} {r : List V → Hp → VK → Prop} {p : Pos} (g : XF X G N sc) (hc : CallR X (.builtin id) r) (hm : G.mg x = none) (hv : bootBuiltins x = some (.builtin id)) (h : aA X (e :: es) δ M fun ds M1 => aC r ds M1 Q) (hg : sc.names.lookup x = some .globalImplicit := by rfl) (hn : x ≠ "__name__" := by decide) (hdb : (x == ("__debug__" : Str)) = false := by decide)
    (he : starEach (e :: es) X.env = (false, eval e X.env) :: starEach es X.env := by rfl) (hpl : (backTo pos (starEach es X.env)).any (·.1) = false := by rfl) : aE X (.Call (.Name x p) (e :: es) [] pos) δ M Q :=
  ae_of (pe_callB hc (g.gl hg) (by rw [g.mg]; exact hm) hv pa_w hn hdb he hpl) fun σ H B Q2 rs c kk => h.run rs c fun vs ds M1 B1 H1 s1 r1 c1 q => q vs B1 H1 Q2 r1 c1 fun v d M' B' H' s r c' q => kk v d M' B' H' (s1.trans s) r c' q
theorem ae_callTy {T : String} {r : List V → Hp → VK → Prop} {p : Pos} (g : XF X G N sc) (hc : CallR X (.type T) r) (hm : G.mg x = none) (hv : bootBuiltins x = some (.type T)) (h : aA X (e :: es) δ M fun ds M1 => aC r ds M1 Q) (hg : sc.names.lookup x = some .globalImplicit := by rfl) (hn : x ≠ "__name__" := by decide) (hdb : (x == ("__debug__" : Str)) = false := by decide)
    (he : starEach (e :: es) X.env = (false, eval e X.env) :: starEach es X.env := by rfl) (hpl : (backTo pos (starEach es X.env)).any (·.1) = false := by rfl) : aE X (.Call (.Name x p) (e :: es) [] pos) δ M Q :=
  ae_of (pe_callTy hc (g.gl hg) (by rw [g.mg]; exact hm) hv pa_w hn hdb he hpl) fun σ H B Q2 rs c kk => h.run rs c fun vs ds M1 B1 H1 s1 r1 c1 q => q vs B1 H1 Q2 r1 c1 fun v d M' B' H' s r c' q => kk v d M' B' H' (s1.trans s) r c' q
theorem av_callB {id : String} {r : List V → Hp → VK → Prop} {p : Pos} {ds : List D} {d : D} (g : XF X G N sc) (hc : CallR X (.builtin id) r) (hm : G.mg x = none) (hv : bootBuiltins x = some (.builtin id)) (h : aAV X (e :: es) δ M ds) (hr : pC r M ds d) (hg : sc.names.lookup x = some .globalImplicit := by rfl) (hn : x ≠ "__name__" := by decide) (hdb : (x == ("__debug__" : Str)) = false := by decide)
    (he : starEach (e :: es) X.env = (false, eval e X.env) :: starEach es X.env := by rfl) (hpl : (backTo pos (starEach es X.env)).any (·.1) = false := by rfl) : aV X (.Call (.Name x p) (e :: es) [] pos) δ M d := fun Q q => ae_callB g hc hm hv (h _ (hr.go q)) hg hn hdb he hpl
theorem av_callTy {T : String} {r : List V → Hp → VK → Prop} {p : Pos} {ds : List D} {d : D} (g : XF X G N sc) (hc : CallR X (.type T) r) (hm : G.mg x = none) (hv : bootBuiltins x = some (.type T)) (h : aAV X (e :: es) δ M ds) (hr : pC r M ds d) (hg : sc.names.lookup x = some .globalImplicit := by rfl) (hn : x ≠ "__name__" := by decide) (hdb : (x == ("__debug__" : Str)) = false := by decide)
    (he : starEach (e :: es) X.env = (false, eval e X.env) :: starEach es X.env := by rfl) (hpl : (backTo pos (starEach es X.env)).any (·.1) = false := by rfl) : aV X (.Call (.Name x p) (e :: es) [] pos) δ M d := fun Q q => ae_callTy g hc hm hv (h _ (hr.go q)) hg hn hdb he hpl
theorem c_abs {i : Int} : pC (fun xs H Q => ∃ i, xs = [.int i] ∧ Q (.int (if i < 0 then -i else i)) H) M [.int i] (.int (if i < 0 then -i else i)) := fun xs B H Q2 rx c k => by
  cases rx with
  | cons r1 r2 => cases r2; cases r1; exact ⟨i, rfl, k _ B H (Same.refl _) (.int _) c⟩
theorem c_max2 {i j : Int} : pC (fun xs H Q => ∃ i j, xs = [.int i, .int j] ∧ Q (.int (if j > i then j else i)) H) M [.int i, .int j] (.int (if j > i then j else i)) := fun xs B H Q2 rx c k => by
  cases rx with
  | cons r1 r2 => cases r2 with
    | cons r2 r3 => cases r3; cases r1; cases r2; exact ⟨i, j, rfl, k _ B H (Same.refl _) (.int _) c⟩
theorem c_min2 {i j : Int} : pC (fun xs H Q => ∃ i j, xs = [.int i, .int j] ∧ Q (.int (if j < i then j else i)) H) M [.int i, .int j] (.int (if j < i then j else i)) := fun xs B H Q2 rx c k => by
  cases rx with
  | cons r1 r2 => cases r2 with
    | cons r2 r3 => cases r3; cases r1; cases r2; exact ⟨i, j, rfl, k _ B H (Same.refl _) (.int _) c⟩
theorem c_int {i : Int} : pC (fun xs H Q => (∃ i, xs = [.int i] ∧ Q (.int i) H) ∨ ∃ k, xs = [.bl k] ∧ Q (.int (if k then 1 else 0)) H) M [.int i] (.int i) := fun xs B H Q2 rx c k => by
  cases rx with
  | cons r1 r2 => cases r2; cases r1; exact .inl ⟨i, rfl, k _ B H (Same.refl _) (.int _) c⟩
abbrev rLen (K : PySem.W.Frag) : List V → Hp → VK → Prop := fun xs H Q => ∃ p ys, xs = [.ref p] ∧ (SqL K H p ys ∨ SqT K H p ys) ∧ Q (.int ys.length) H
theorem c_lenL {ds : List D} : pC (rLen X.K) M [.lst ds] (.int ds.length) := fun xs B H Q2 rx c k => by
  cases rx with
  | cons r1 r2 =>
    cases r2
    cases r1 with
    | lst h1 h2 =>
      refine ⟨_, _, rfl, .inl (.inl (.inl (c.ex _ _ h1))), ?_⟩
      rw [h2.length]
      exact k _ B H (Same.refl _) (.int _) c
theorem c_lenT {ds : List D} : pC (rLen X.K) M [.tup ds] (.int ds.length) := fun xs B H Q2 rx c k => by
  cases rx with
  | cons r1 r2 =>
    cases r2
    cases r1 with
    | tup h1 h2 =>
      refine ⟨_, _, rfl, .inr (.inl (.inl (c.ex _ _ h1))), ?_⟩
      rw [h2.length]
      exact k _ B H (Same.refl _) (.int _) c
theorem c_lenM {p : Addr} {ds : List D} (hp : M p = some (.lst ds)) : pC (rLen X.K) M [.adr p] (.int ds.length) := fun xs B H Q2 rx c k => by
  cases rx with
  | cons r1 r2 =>
    cases r2
    cases r1
    obtain ⟨_, xs, h1, h2⟩ := c.m p _ hp
    refine ⟨_, _, rfl, .inl (.inl (.inl h1)), ?_⟩
    rw [h2.length]
    exact k _ B H (Same.refl _) (.int _) c
end
end Ab
/-! Defs and their promises; no object is being shown (repr) while they run. -/
namespace Ab
open PySem PySem.Spec PyProof.Rows L2

/-- a def keeps a promise wherever no repr runs -/
structure FnG (G : Gx) (CX : CXT) (k : Nat) (f : Addr) (fd : FuncData) (ps : List Str) (sp : Sp) : Prop where
  len : ∀ vs H Q E, sp vs H Q E → vs.length = ps.length
  run : ∀ (A : Around) (outer : List Env) (s : Shared) (H : Hp) (args : Args) (us : List Value) (vs : List V) (Q : VK) (E : XK), A.guards = some [] → Room k A → Env0 G.prog G.w G.K G.mg G.base A outer s H →
    BindsTo s fd args (ps.zip us) → Vals vs us → sp vs H Q E → codeAny (model G.prog G.w) A (.call (.ref f) args) (CR CX outer G.prog G.w H s Q E) s
theorem FnG.mono {G : Gx} {CX : CXT} {j k : Nat} {f : Addr} {fd : FuncData} {ps : List Str} {sp : Sp} (F : FnG G CX j f fd ps sp) (h : j ≤ k) : FnG G CX k f fd ps sp :=
  ⟨F.len, fun A outer s H args us vs Q E hg hr => F.run A outer s H args us vs Q E hg (hr.mono h)⟩
/-- the rule for a def: its body -/
theorem fnG_of {G : Gx} {CX : CXT} {k : Nat} {f : Addr} {fd : FuncData} {qual x : Str} {st : Stmt} {N ps : List Str} {sp : Sp} (F : L2.Fun G.K x qual st f fd) (S : FnScope N ps (defScope st)) (len : ∀ vs H Q E, sp vs H Q E → vs.length = ps.length)
    (body : ∀ (cd : Value) (A : Around) (outer : List Env) (s : Shared) (H : Hp) (vs : List V) (Q : VK) (E : XK), A.guards = some [] → Room k (A.deeper (envOfC qual (defScope st) s.heap.objs.size f cd)) → sp vs H Q E →
      wSs (cxOf CX G.prog G.w G.K G.mg G.base N qual (defScope st) f cd A outer s H E) (defBody st) { nx := fun _ H' => Q .non H', rt := Q } (L2.start N vs) H) : FnG G CX (k + 1) f fd ps sp := by
  obtain ⟨oc, od, kV, doc, pm, an, cdv, ct, osl, rfl, lk, hcd⟩ := F.ex
  refine ⟨len, fun A outer s H args us vs Q E gd hr e0 hb r hsp => ?_⟩
  have lenV := len _ _ _ _ hsp
  have KX : G.K.In s.heap := e0.mod.kin.keeps fun b o z => (e0.bs b o z).1
  have noLim : s.heap.NoLimit := e0.mod.nolimit.keeps fun b o z => (e0.bs b o z).1
  have places : ∀ y ∈ ps.zip us, (defScope st).names.lookup y.1 = some .local ∨ ((defScope st).names.lookup y.1 = some .cell ∧ ((cellsFrom (s.heap.objs.size + 1) (defScope st).names []).lookup y.1).isSome = true) := by
    rintro ⟨n, v⟩ hy
    rcases S.par n (List.of_mem_zip hy).1 with q | q
    · exact .inl q
    · refine .inr ⟨q, ?_⟩
      exact PySem.W.cellsFrom_some _ _ _ (.inl q)
  refine codeAny_call_function hr.depth (KX _ _ lk) rfl S.co S.gen rfl (PySem.W.codeRec_of KX hcd) (hb _ _ _ _ ?_)
  refine wpAny_newFunctionEnv_cells S.kind places fun env he s1 ic => ?_
  subst he
  refine ⟨noLim.keeps ic.toInCall.keep, codeAny_func ?_⟩
  have I : Inv (cxOf CX G.prog G.w G.K G.mg G.base N qual (defScope st) f cdv A outer s H E) [] (L2.start N vs) H s1 := inv_start S hr.hd e0 lenV r ic
  have W := body cdv A outer s H vs Q E gd (hr.deeper _) hsp [] s1 I
  refine wpAny_mono W (fun fl s' hs => ?_) fun _ _ z => z
  cases fl with
  | ret u =>
    obtain ⟨v, σ', H', J, rv, q⟩ := hs
    exact ⟨v, H', J.os, J.bare, J.base, J.hok, rv, q⟩
  | next =>
    obtain ⟨σ', H', J, q⟩ := hs
    exact ⟨V.non, H', J.os, J.bare, J.base, J.hok, rfl, q⟩
  | brk => obtain ⟨_, _, _, q⟩ := hs; exact q.elim
  | cont => obtain ⟨_, _, _, q⟩ := hs; exact q.elim

/-- a promise over data: the arguments, what may change, the wanted end, the wanted error (its class, its value) -/
abbrev AXK := Addr → D → AHp → Prop
abbrev ASp := List D → AHp → DK → AXK → Prop
def toSp (a : ASp) : Sp := fun vs H Q E => ∃ (B : Hp) (M : AHp) (ds : List D), Reps B vs ds ∧ Cf B M H ∧
  a ds M (fun d M' => ∀ v B' H', Same B B' → Rep B' v d → Cf B' M' H' → Q v H') (fun C d M' => ∀ v dx B' H', Same B B' → Rep B' v d → Cf B' M' H' → (B' dx = none ∧ M' dx = none) → H' dx = some (.xd [(("value" : Str), v)]) → E (.ref C) (some dx) H')
/-- promises carry over to weaker ends -/
structure Up (sp : ASp) : Prop where
  up : ∀ {ds : List D} {M : AHp} {Q Q' : DK} {E E' : AXK}, (∀ d M', Q d M' → Q' d M') → (∀ C d M', E C d M' → E' C d M') → sp ds M Q E → sp ds M Q' E'
abbrev noX : AXK := fun _ _ _ => False
/-- a def under a name, a method, a class with its __init__, a property's getter -/
structure Fn (G : Gx) (k : Nat) (x : Str) (a : ASp) : Prop where
  ex : ∃ (f : Addr) (fd : FuncData) (ps : List Str), FnG G CX0 k f fd ps (toSp a) ∧ G.mg x = some (.ref f) ∧ PySem.W.keepIn G.K (.ref f) = true ∧ Binds G.K fd ps []
  up : Up a
structure Mt (G : Gx) (k : Nat) (C : Addr) (m : Str) (a : ASp) : Prop where
  ex : ∃ (f : Addr) (fd : FuncData) (ps : List Str), FnG G CX0 k f fd ps (toSp a) ∧ Meth G.K C m f ∧ Binds G.K fd ps []
  cl : Cls G.K C
  up : Up a
structure Cn (G : Gx) (k : Nat) (x : Str) (C : Addr) (a : ASp) : Prop where
  ex : ∃ (f : Addr) (fd : FuncData) (ps : List Str), FnG G CX0 k f fd ps (toSp a) ∧ Mk G.K C f ∧ Binds G.K fd ps []
  mg : G.mg x = some (.ref C)
  up : Up a
structure Pr (G : Gx) (k : Nat) (C : Addr) (m : Str) (a : ASp) : Prop where
  ex : ∃ (p f : Addr) (fd : FuncData) (ps : List Str), FnG G CX0 k f fd ps (toSp a) ∧ PropOf G.K C m p f ∧ Binds G.K fd ps []
  cl : Cls G.K C
  up : Up a
theorem Fn.mono {G : Gx} {j k : Nat} {x : Str} {a : ASp} (F : Fn G j x a) (h : j ≤ k) : Fn G k x a := let ⟨f, fd, ps, F1, r⟩ := F.ex; ⟨⟨f, fd, ps, F1.mono h, r⟩, F.up⟩
theorem Mt.mono {G : Gx} {j k : Nat} {C : Addr} {x : Str} {a : ASp} (F : Mt G j C x a) (h : j ≤ k) : Mt G k C x a := let ⟨f, fd, ps, F1, r⟩ := F.ex; ⟨⟨f, fd, ps, F1.mono h, r⟩, F.cl, F.up⟩
theorem Cn.mono {G : Gx} {j k : Nat} {C : Addr} {x : Str} {a : ASp} (F : Cn G j x C a) (h : j ≤ k) : Cn G k x C a := let ⟨f, fd, ps, F1, r⟩ := F.ex; ⟨⟨f, fd, ps, F1.mono h, r⟩, F.mg, F.up⟩
theorem Pr.mono {G : Gx} {j k : Nat} {C : Addr} {x : Str} {a : ASp} (F : Pr G j C x a) (h : j ≤ k) : Pr G k C x a := let ⟨p, f, fd, ps, F1, r⟩ := F.ex; ⟨⟨p, f, fd, ps, F1.mono h, r⟩, F.cl, F.up⟩

def startD (N : List Str) (ds : List D) : DE := ds.map some ++ List.replicate (N.length - ds.length) none
theorem start_rep {B : Hp} {N : List Str} {vs : List V} {ds : List D} (r : Reps B vs ds) : RepS B (L2.start N vs) (startD N ds) := by
  refine ⟨?_, fun i d h => ?_⟩
  · unfold L2.start startD
    rw [List.length_append, List.length_append, List.length_map, List.length_map, List.length_replicate, List.length_replicate, r.length]
  · unfold startD at h
    by_cases q : i < ds.length
    · rw [List.getElem?_append_left (by rw [List.length_map]; exact q), List.getElem?_map] at h
      cases e : ds[i]? with
      | none => rw [e] at h; cases h
      | some d' =>
        rw [e] at h
        cases h
        obtain ⟨v, h1, h2⟩ := r.get e
        refine ⟨v, ?_, h2⟩
        unfold L2.start
        rw [List.getElem?_append_left (by rw [List.length_map, r.length]; exact q), List.getElem?_map, h1]
        rfl
    · rw [List.getElem?_append_right (by rw [List.length_map]; omega), List.getElem?_replicate] at h
      split at h <;> cases h
/-- a def's body keeps its promise; nothing is raised -/
theorem aok {G : Gx} {x qual : Str} {st : Stmt} {f : Addr} {fd : FuncData} {N ps : List Str} {k : Nat} {a : ASp} (F : L2.Fun G.K x qual st f fd) (S : FnScope N ps (defScope st)) (len : ∀ ds M Q E, a ds M Q E → ds.length = ps.length)
    (hb : ∀ X : Cx, XD X G N (defScope st) → Room k X.A → ∀ ds M Q E, a ds M Q E → aSs X (defBody st) { nx := fun _ M' => Q .non M', rt := Q } (startD N ds) M) : FnG G CX0 (k + 1) f fd ps (toSp a) := by
  refine fnG_of F S (fun vs H Q E h => ?_) (fun cdv A outer s H vs Q E gd hr h => ?_)
  · obtain ⟨B, M, ds, r, c, q⟩ := h
    rw [r.length]
    exact len _ _ _ _ q
  · obtain ⟨B, M, ds, r, c, q⟩ := h
    have g : XD (cxOf CX0 G.prog G.w G.K G.mg G.base N qual (defScope st) f cdv A outer s H E).nox G N (defScope st) := ⟨⟨rfl, rfl, rfl, rfl, S.nd, PassesOwn.never, gd⟩, fun _ => rfl, rfl, rfl⟩
    have z := (hb _ g hr ds M _ _ q (L2.start N vs) H B (start_rep r) c).imp (D' := { nx := fun _ H' => Q .non H', rt := Q }) ⟨fun _ _ ⟨δ', M', B', s, r, c', q⟩ => q .non B' _ s .non c', fun _ _ ⟨d, M', B', s, r, c', q⟩ => q _ B' _ s r c', fun _ _ ⟨_, _, _, _, _, _, z⟩ => z, fun _ _ ⟨_, _, _, _, _, _, z⟩ => z⟩
    exact wSs_of (PSs.nox ⟨fun pins s σ H D I h => h pins s I⟩ : PSs (cxOf CX0 G.prog G.w G.K G.mg G.base N qual (defScope st) f cdv A outer s H E) (defBody st) (wSs (cxOf CX0 G.prog G.w G.K G.mg G.base N qual (defScope st) f cdv A outer s H E).nox (defBody st))) z

section
variable {X : Cx} {e a b o : Expr} {es : List Expr} {st : Stmt} {sts : List Stmt} {δ : DE} {M : AHp} {Q : DK} {σ : L2.St} {H B : Hp} {A : AEnds} {G : Gx} {N : List Str} {sc : Scope} {pos p apos : Pos} {x m : Str} {k : Nat} {sp : ASp} {C : Addr}
/-- the callee runs -/
theorem run_g {CX : CXT} {f : Addr} {fd : FuncData} {ps : List Str} {sp : Sp} {E : XK} {pins : List (Addr × Obj)} {s : Shared} {Q : VK} {us : List Value} {vs : List V} (F : FnG (gxOf X) CX k f fd ps sp) (gd : X.A.guards = some []) (hr : Room k X.A) (hb : Binds X.K fd ps []) (hx : Passes CX X E)
    (I : Inv X pins σ H s) (r : Vals vs us) (h : sp vs H Q E) : wpAny (model X.prog X.w) X.A (call (.ref f) us) (EP X pins σ Q) X.xe s := by
  have hl : (us ++ []).length = ps.length := by rw [List.append_nil, ← r.length]; exact F.len _ _ _ _ h
  have b := hb s us I.kIn hl
  rw [List.append_nil] at b
  refine wpAny_call (codeAny_mono (F.run X.A X.stack s H ⟨us, []⟩ us vs Q E gd hr I.env0 b r h) fun res s' hq => ?_)
  match res, hq with
  | .error er, hq => exact hx pins σ H s er s' I hq
  | .ok (.ret u), hq => exact I.after hq
  | .ok .next, hq => exact False.elim hq
  | .ok .brk, hq => exact False.elim hq
  | .ok .cont, hq => exact False.elim hq
theorem toSp_of {vs : List V} {ds : List D} (r : Reps B vs ds) (c : Cf B M H) {Q2 : VK} (h : sp ds M Q noX) (up : Up sp)
    (kk : ∀ v d M' B' H', Same B B' → Rep B' v d → Cf B' M' H' → Q d M' → Q2 v H') : toSp sp vs H Q2 E0 :=
  ⟨B, M, ds, r, c, up.up (fun d M' q v B' H' s r c' => kk v d M' B' H' s r c' q) (fun _ _ _ z => z.elim) h⟩
/-- f(e, ..) -/
theorem ae_call (g : XF X G N sc) (F : Fn G k x sp) (hr : Room k X.A) (h : aA X (e :: es) δ M fun ds M1 => sp ds M1 Q noX) (hg : sc.names.lookup x = some .globalImplicit := by rfl) (hdb : (x == ("__debug__" : Str)) = false := by decide)
    (he : starEach (e :: es) X.env = (false, eval e X.env) :: starEach es X.env := by rfl) (hpl : (backTo pos (starEach es X.env)).any (·.1) = false := by rfl) : aE X (.Call (.Name x p) (e :: es) [] pos) δ M Q := fun σ H B rs c pins s I => by
  have gl := g.gl hg
  have gd := g.gd
  obtain ⟨rfl, _⟩ := g
  obtain ⟨f, fd, ps, F1, hm, hk, hb⟩ := F.ex
  refine wpAny_Call_Name_kw (ld_glob I gl hm ?_ hdb)
  refine PySem.W.callWith_K (h₀ := X.base) I.ok.mod.kin hk (thn (h σ H B rs c pos pins s I) fun us s1 ⟨vs, H1, I1, r, q⟩ => ⟨I1.kIn, ?_⟩) he hpl
  obtain ⟨ds, M1, B1, s1, r1, c1, q⟩ := q
  exact run_g F1 gd hr hb pass0 I1 r (toSp_of r1 c1 q F.up fun v d M' B' H' s r c' q => ⟨d, M', B', s1.trans s, r, c', q⟩)
theorem ae_call0 (g : XF X G N sc) (F : Fn G k x sp) (hr : Room k X.A) (h : sp [] M Q noX) (hg : sc.names.lookup x = some .globalImplicit := by rfl) (hdb : (x == ("__debug__" : Str)) = false := by decide) : aE X (.Call (.Name x p) [] [] pos) δ M Q := fun σ H B rs c pins s I => by
  have gl := g.gl hg
  have gd := g.gd
  obtain ⟨rfl, _⟩ := g
  obtain ⟨f, fd, ps, F1, hm, hk, hb⟩ := F.ex
  refine wpAny_Call_Name_kw (ld_glob I gl hm ?_ hdb)
  exact PySem.W.callWith_K0 I.kIn hk (run_g (us := []) F1 gd hr hb pass0 I .nil (toSp_of .nil c h F.up fun v d M' B' H' s r c' q => ⟨d, M', B', s, r, c', q⟩))

/-! ### instances -/
/-- an instance of C, its attributes -/
inductive IsI (M : AHp) (C : Addr) : D → List (Str × D) → Prop
  | obj {fs : List (Str × D)} : IsI M C (.obj C fs) fs
  | adr {p : Addr} {fs : List (Str × D)} : M p = some (.ins C fs) → IsI M C (.adr p) fs
theorem IsI.ins {d : D} {fs : List (Str × D)} (h : IsI M C d fs) {v : V} (r : Rep B v d) (c : Cf B M H) : ∃ a dx ws, v = .ref a ∧ H a = some (.ins C dx ws) ∧ Refs B ws fs := by
  cases h with
  | obj =>
    cases r with
    | obj h1 h2 h3 => exact ⟨_, _, _, rfl, c.ex _ _ h1, h3⟩
  | adr hp =>
    cases r
    obtain ⟨_, dx, ws, h1, _, _, h3⟩ := c.m _ _ hp
    exact ⟨_, _, _, rfl, h1, h3⟩
/-- o.f, an attribute -/
theorem ae_fld (g : XF X G N sc) (cl : Cls G.K C) (nf : NoAttr G.K C m) (h : aE X o δ M fun d M1 => ∃ fs d', IsI M1 C d fs ∧ fs.lookup m = some d' ∧ Q d' M1) (hb : attributeBase o m X.env (eval o X.env) = eval o X.env := by rfl) : aE X (.Attribute o m pos) δ M Q :=
  ae_of (pe_fld pe_w hb) fun σ H B Q2 rs c kk => h.run rs c fun v d M1 B1 H1 s1 r1 c1 q => by
    obtain ⟨fs, d', hi, hl, q⟩ := q
    obtain ⟨a, dx, ws, rfl, ha, hf⟩ := hi.ins r1 c1
    obtain ⟨w, hw, rw_⟩ := hf.look hl
    exact ⟨a, C, dx, ws, w, rfl, ha, by rw [g.K]; exact cl, by rw [g.K]; exact nf, hw, kk _ _ _ _ _ s1 rw_ c1 q⟩
theorem av_fld (g : XF X G N sc) (cl : Cls G.K C) (nf : NoAttr G.K C m) {d d' : D} {fs : List (Str × D)} (h : aV X o δ M d) (hi : IsI M C d fs) (hl : fs.lookup m = some d') (hb : attributeBase o m X.env (eval o X.env) = eval o X.env := by rfl) : aV X (.Attribute o m pos) δ M d' :=
  fun Q q => ae_fld g cl nf (h _ ⟨fs, d', hi, hl, q⟩) hb
theorem Refs.put {B : Hp} {f : Str} {v : V} {d : D} (r : Rep B v d) : ∀ {ws : List (Str × V)} {fs : List (Str × D)}, Refs B ws fs → Refs B (putF f v ws) (putD f d fs)
  | _, _, .nil => .cons r .nil
  | _, _, .cons (n := n) q t => by
    unfold putF putD
    by_cases e : n = f
    · rw [if_pos e, if_pos e]; exact .cons r t
    · rw [if_neg e, if_neg e]; exact .cons q (Refs.put r t)
/-- o.f = e -/
theorem as_fld (g : XF X G N sc) (cl : Cls G.K C) (nf : NoAttr G.K C m) {pos' : Pos} (h : aE X e δ M fun d M1 => aE X o δ M1 fun d2 M2 => ∃ p fs, d2 = .adr p ∧ M2 p = some (.ins C fs) ∧ fs.length < 1000 ∧ A.nx δ (updM M2 p (.ins C (putD m d fs))))
    (hs : swapsWith e (some (.Attribute o m pos')) pos.line X.env = pure false := by rfl) : aS X (.Assign [.Attribute o m pos'] e pos) A δ M := fun σ H B rs c =>
  wS_of (ps_fld pe_w pe_w hs) (h.run rs c fun v d M1 B1 H1 s1 r1 c1 q1 => aE.run q1 (rs.mono s1) c1 fun y d2 M2 B2 H2 s2 r2 c2 q2 => by
    obtain ⟨p, fs, rfl, hp, hl, q⟩ := q2
    cases r2
    obtain ⟨bp, dx, ws, h1, h2, h3, h4⟩ := c2.m p _ hp
    have np : dx ≠ p := fun z => by rw [z, h1] at h2; cases h2
    refine ⟨p, C, dx, ws, rfl, h1, by rw [g.K]; exact cl, by rw [g.K]; exact nf, by rw [h4.length]; exact hl, ?_⟩
    exact ⟨δ, _, B2, s1.trans s2, (rs.mono s1).mono s2, c2.set (.ins C (putD m d fs)) hp (noOwn c2 hp fun _ z => (nomatch z)) ⟨dx, _, upd_same, by rw [upd_ne np]; exact h2, h3, h4.put (r1.mono s2)⟩, q⟩)
/-- o.m(e, ..), o.m() -/
theorem ae_meth {pl : Sem Bool} (g : XF X G N sc) (F : Mt G k C m sp) (hr : Room k X.A) (h : aE X o δ M fun d M1 => ∃ fs, IsI M1 C d fs ∧ fs.lookup m = none ∧ aA X (e :: es) δ M1 fun ds M2 => sp (d :: ds) M2 Q noX)
    (hst : starEach (e :: es) X.env = (false, eval e X.env) :: starEach es X.env := by rfl) (hpl : (backTo pos (starEach es X.env)).any (·.1) = false := by rfl)
    (ht : eval (.Call (.Attribute o m apos) (e :: es) [] pos) X.env = (do
      let ov ← eval o X.env
      standAt apos.atName
      let (fn, first) ← holding [ov] (getMethod ov m pl)
      callWith pos fn first (backTo pos (starEach (e :: es) X.env)) (backToKw pos (keywordEach [] X.env))) := by rfl) : aE X (.Call (.Attribute o m apos) (e :: es) [] pos) δ M Q := fun σ H B rs c pins s I => by
  have gd := g.gd
  obtain ⟨rfl, _⟩ := g
  obtain ⟨f, fd, ps, F1, hm, hb⟩ := F.ex
  refine PySem.W.methodCall_KW (pl := pl) (thn (h σ H B rs c pins s I) fun u s1 ⟨v, H1, I1, rv, d, M1, B1, sm, r1, c1, fs, hi, hl, q⟩ => ?_) ht
  obtain ⟨a, dx, ws, rfl, ha, hf⟩ := hi.ins r1 c1
  obtain rfl : u = Value.ref a := rv
  refine getmeth_ok I1 ha F.cl hm (hf.none hl) ?_
  refine PySem.W.callWith_K (first := [.ref a]) (h₀ := X.base) I.ok.mod.kin hm.kp (thn (q σ H1 B1 (rs.mono sm) c1 pos pins s1 I1) fun us s2 ⟨vs, H2, I2, r, ds, M2, B2, sm2, r2, c2, q2⟩ => ⟨I2.kIn, ?_⟩) hst hpl
  exact run_g (us := .ref a :: us) (vs := .ref a :: vs) F1 gd hr hb pass0 I2 (.cons rfl r) (toSp_of (.cons (r1.mono sm2) r2) c2 q2 F.up fun v d M' B' H' s r c' q => ⟨d, M', B', (sm.trans sm2).trans s, r, c', q⟩)
theorem ae_meth0 {pl : Sem Bool} (g : XF X G N sc) (F : Mt G k C m sp) (hr : Room k X.A) (h : aE X o δ M fun d M1 => ∃ fs, IsI M1 C d fs ∧ fs.lookup m = none ∧ sp [d] M1 Q noX)
    (ht : eval (.Call (.Attribute o m apos) [] [] pos) X.env = (do
      let ov ← eval o X.env
      standAt apos.atName
      let (fn, first) ← holding [ov] (getMethod ov m pl)
      callWith pos fn first (backTo pos (starEach [] X.env)) (backToKw pos (keywordEach [] X.env))) := by rfl) : aE X (.Call (.Attribute o m apos) [] [] pos) δ M Q := fun σ H B rs c pins s I => by
  have gd := g.gd
  obtain ⟨rfl, _⟩ := g
  obtain ⟨f, fd, ps, F1, hm, hb⟩ := F.ex
  refine PySem.W.methodCall_KW (pl := pl) (thn (h σ H B rs c pins s I) fun u s1 ⟨v, H1, I1, rv, d, M1, B1, sm, r1, c1, fs, hi, hl, q⟩ => ?_) ht
  obtain ⟨a, dx, ws, rfl, ha, hf⟩ := hi.ins r1 c1
  obtain rfl : u = Value.ref a := rv
  refine getmeth_ok I1 ha F.cl hm (hf.none hl) ?_
  exact PySem.W.callWith_K0 (first := [.ref a]) I1.kIn hm.kp (run_g (us := [.ref a]) (vs := [.ref a]) F1 gd hr hb pass0 I1 (.cons rfl .nil) (toSp_of (.cons r1 .nil) c1 q F.up fun v d M' B' H' s r c' q => ⟨d, M', B', sm.trans s, r, c', q⟩))
/-- C(..): a new instance; its __init__ is promised at it -/
theorem run_mk {pins : List (Addr × Obj)} {s : Shared} {us : List Value} {vs : List V} {ds : List D} (F : Cn (gxOf X) k x C sp) (gd : X.A.guards = some []) (hr : Room (k + 1) X.A) (I : Inv X pins σ H s) (r : Vals vs us) (rd : Reps B vs ds) (c : Cf B M H)
    (h : ∀ p, M p = none → sp (.adr p :: ds) (updM M p (.ins C [])) (fun d M' => d = .non ∧ Q (.adr p) M') noX) : wpAny (model X.prog X.w) X.A (call (.ref C) us) (EP X pins σ fun v H' => ∃ d M' B', Same B B' ∧ Rep B' v d ∧ Cf B' M' H' ∧ Q d M') X.xe s := by
  obtain ⟨f, fd, ps, F1, hM, hb⟩ := F.ex
  have fx : H (s.heap.objs.size + 1) = none := I.hok.fresh (Nat.le_succ _)
  have fd0 : H s.heap.objs.size = none := I.hok.fresh (Nat.le_refl _)
  have ne : s.heap.objs.size + 1 ≠ s.heap.objs.size := Nat.succ_ne_self _
  have I2 := Inv.made (C := C) I
  have cM : Cf B (updM M (s.heap.objs.size + 1) (.ins C [])) (upd (upd H s.heap.objs.size (.own (s.heap.objs.size + 1))) (s.heap.objs.size + 1) (.ins C s.heap.objs.size [])) := by
    have c0 : Cf B M (upd H s.heap.objs.size (.own (s.heap.objs.size + 1))) := ⟨c.ex.trans (same_upd fd0), fun q u z => by
      obtain ⟨b, mr⟩ := c.m q u z
      exact ⟨b, mr.grow (Same.refl _) (same_upd fd0) fun a w z => .inl z⟩⟩
    refine c0.newM (.ins C []) (by rw [upd_ne ne]; exact fx) ⟨s.heap.objs.size, [], upd_same, by rw [upd_ne (Ne.symm ne), upd_same], c.noneB fd0, .nil⟩
  have rr : Reps B (V.ref (s.heap.objs.size + 1) :: vs) (.adr (s.heap.objs.size + 1) :: ds) := .cons (.adr _) rd
  have hs : toSp sp (V.ref (s.heap.objs.size + 1) :: vs) (upd (upd H s.heap.objs.size (.own (s.heap.objs.size + 1))) (s.heap.objs.size + 1) (.ins C s.heap.objs.size [])) (fun v H' => v = .non ∧ ∃ d M' B', Same B B' ∧ Rep B' (.ref (s.heap.objs.size + 1)) d ∧ Cf B' M' H' ∧ Q d M') E0 :=
    toSp_of rr cM (h _ (c.none fx)) F.up fun v d M' B' H' s r c' q => by
      obtain ⟨rfl, q⟩ := q
      cases r
      exact ⟨rfl, _, M', B', s, .adr _, c', q⟩
  have hl : ((Value.ref (s.heap.objs.size + 1) :: us) ++ []).length = ps.length := by
    have z := F1.len _ _ _ _ hs
    rw [List.append_nil, ← z, List.length_cons, List.length_cons, r.length]
  have bd := hb _ (Value.ref (s.heap.objs.size + 1) :: us) I2.kIn hl
  rw [List.append_nil] at bd
  refine wpAny_call (make_map (f := f) I.kIn hM.makes hM.init (beq_iff_eq.mp hM.fn) (codeAny_mono (F1.run _ X.stack _ _ ⟨Value.ref (s.heap.objs.size + 1) :: us, []⟩ (Value.ref (s.heap.objs.size + 1) :: us) (V.ref (s.heap.objs.size + 1) :: vs) _ E0 (by exact gd) (hr.make C us []) (I2.env0.make C us []) bd (.cons rfl r) hs) fun res s' hq => ?_))
  match res, hq with
  | .error er, hq => exact hq.elim
  | .ok (.ret u), hq =>
    obtain ⟨v, H', I3, rv, ev, q3⟩ := I2.after hq
    subst ev
    exact ⟨rv, ⟨V.ref (s.heap.objs.size + 1), H', I3, rfl, q3⟩⟩
  | .ok .next, hq => exact False.elim hq
  | .ok .brk, hq => exact False.elim hq
  | .ok .cont, hq => exact False.elim hq
theorem ae_make (g : XF X G N sc) (F : Cn G k x C sp) (hr : Room (k + 1) X.A) (h : aA X (e :: es) δ M fun ds M1 => ∀ p, M1 p = none → sp (.adr p :: ds) (updM M1 p (.ins C [])) (fun d M' => d = .non ∧ Q (.adr p) M') noX) (hg : sc.names.lookup x = some .globalImplicit := by rfl) (hdb : (x == ("__debug__" : Str)) = false := by decide)
    (he : starEach (e :: es) X.env = (false, eval e X.env) :: starEach es X.env := by rfl) (hpl : (backTo pos (starEach es X.env)).any (·.1) = false := by rfl) : aE X (.Call (.Name x p) (e :: es) [] pos) δ M Q := fun σ H B rs c pins s I => by
  have gl := g.gl hg
  have gd := g.gd
  obtain ⟨rfl, _⟩ := g
  obtain ⟨f, fd, ps, F1, hM, hb⟩ := F.ex
  refine wpAny_Call_Name_kw (ld_glob I gl F.mg ?_ hdb)
  refine PySem.W.callWith_K (h₀ := X.base) I.ok.mod.kin hM.kp (thn (h σ H B rs c pos pins s I) fun us s1 ⟨vs, H1, I1, r, q⟩ => ⟨I1.kIn, ?_⟩) he hpl
  obtain ⟨ds, M1, B1, sm, r1, c1, q⟩ := q
  refine thn (run_mk (Q := Q) F gd hr I1 r r1 c1 q) fun u s2 ⟨v, H2, I2, rv, d, M2, B2, sm2, r2, c2, q2⟩ => ⟨v, H2, I2, rv, d, M2, B2, sm.trans sm2, r2, c2, q2⟩
/-- o.f, a property -/
theorem ae_prop (g : XF X G N sc) (F : Pr G k C m sp) (hr : Room (k + 1) X.A) (h : aE X o δ M fun d M1 => ∃ fs, IsI M1 C d fs ∧ sp [d] M1 Q noX) (hb : attributeBase o m X.env (eval o X.env) = eval o X.env := by rfl) : aE X (.Attribute o m pos) δ M Q := fun σ H B rs c pins s I => by
  have gd := g.gd
  obtain ⟨rfl, _⟩ := g
  obtain ⟨p, f, fd, ps, F1, hP, hb2⟩ := F.ex
  refine attr_of hb (thn (h σ H B rs c pins s I) fun u s1 ⟨v, H1, I1, rv, d, M1, B1, sm, r1, c1, fs, hi, q⟩ => ?_)
  obtain ⟨a, dx, ws, rfl, ha, hf⟩ := hi.ins r1 c1
  obtain rfl : u = Value.ref a := rv
  obtain ⟨mA, O, _, _, _, _⟩ := ins_get I1.hok ha
  obtain ⟨od, J, _⟩ := O.look
  obtain ⟨rest, hrec⟩ := hP.rec_
  have I4 := I1.tok (s1.toks + 1)
  have hs : toSp sp [V.ref a] H1 (fun v H' => ∃ d M' B', Same B B' ∧ Rep B' v d ∧ Cf B' M' H' ∧ Q d M') E0 := toSp_of (.cons r1 .nil) c1 q F.up fun v d M' B' H' s r c' q => ⟨d, M', B', sm.trans s, r, c', q⟩
  have hl : ([Value.ref a] ++ []).length = ps.length := (F1.len _ _ _ _ hs)
  have bd := hb2 { s1 with toks := s1.toks + 1 } [.ref a] I4.kIn hl
  have hc : (PySem.W.clsIn X.K C).isSome = true := by
    obtain ⟨cd, hc, _⟩ := PySem.W.any_some F.cl.hd
    rw [show PySem.W.clsIn X.K C = _ from hc] <;> rfl
  refine PySem.W.get_bind I1.kIn J (PySem.W.plainGet_of (F.cl.get m)).1 (PySem.W.findObj_data hc hP.at_ hP.get hP.tak) (PySem.W.plainGet_of (F.cl.get m)).2 (wpAny_call (PySem.W.prop_get (s := { s1 with toks := s1.toks + 1 }) I1.kIn hrec ?_))
  refine codeAny_mono (F1.run X.A.in1 X.stack { s1 with toks := s1.toks + 1 } H1 ⟨[.ref a], []⟩ [Value.ref a] [V.ref a] _ E0 gd hr.in1 I4.env0.in1 bd (.cons rfl .nil) hs) fun res s' hq => ?_
  match res, hq with
  | .error er, hq => exact hq.elim
  | .ok (.ret u), hq =>
    obtain ⟨v, H', I3, rv, q3⟩ := I4.after hq
    show wpAny _ _ (handedOut u) _ _ _
    rw [PySem.W.handedOut_of (handed_of rv)]
    exact wpAny_pure ⟨v, H', I3, rv, q3⟩
  | .ok .next, hq => exact False.elim hq
  | .ok .brk, hq => exact False.elim hq
  | .ok .cont, hq => exact False.elim hq
end
end Ab
/-! More rules: powers of great ints. -/
namespace Ab
open PySem PySem.Spec PyProof.Rows L2
section
variable {X : Cx} {M : AHp}
def CPowW (i j : Int) : Prop := 0 ≤ j ∧ j ≤ 1000 ∧ i.natAbs < 2 ^ 1000
theorem op_powW : OpR X (binaryOp .Pow) (rI CPowW fun i j => .int (i ^ j.toNat)) := opI fun i j _ _ _ _ _ hc q => pow_int hc.1 (by
  have b : Builtin.Int.intBits i ≤ i.natAbs.log2 + 1 := by
    unfold Builtin.Int.intBits
    split <;> omega
  have l := PySem.Flt.log2_lt_of (by decide) hc.2.2
  have h1 := hc.1
  have h2 := hc.2.1
  have e : (Builtin.Int.intBits i : Int) * j ≤ 1000 * 1000 := by
    have h3 : (Builtin.Int.intBits i : Int) ≤ 1000 := by omega
    exact Int.le_trans (Int.mul_le_mul_of_nonneg_right h3 h1) (Int.mul_le_mul_of_nonneg_left h2 (by decide))
  refine Int.le_trans e (by decide)) q
theorem p_powW {i j : Int} (hc : CPowW i j) : pR (rI CPowW fun i j => .int (i ^ j.toNat)) M (.int i) (.int j) (.int (i ^ j.toNat)) := pr_I hc fun _ => .int _
end

end Ab
/-! Comparison and repr of data, dicts, conversions, slices. -/
namespace Ab
open PySem PySem.Spec PyProof.Rows L2

/-! ### data as PyData -/
mutual
def D.py : D → PyData
  | .non => .none
  | .bl b => .bool b
  | .int i => .int i
  | .str x => .str x
  | .lst xs => .list (D.pys xs)
  | .tup xs => .tuple (D.pys xs)
  | .adr _ => .none
  | .ty _ => .none
  | .obj _ _ => .none
  | .pin _ => .none
  | .dic _ => .none
def D.pys : List D → List PyData
  | [] => []
  | x :: xs => D.py x :: D.pys xs
end
mutual
def D.plain : D → Bool
  | .non => true
  | .bl _ => true
  | .int _ => true
  | .str _ => true
  | .lst xs => D.plains xs
  | .tup xs => D.plains xs
  | .adr _ => false
  | .ty _ => false
  | .obj _ _ => false
  | .pin _ => false
  | .dic _ => false
def D.plains : List D → Bool
  | [] => true
  | x :: xs => D.plain x && D.plains xs
end
theorem pys_map {α : Type} (f : α → D) (l : List α) : D.pys (l.map f) = l.map fun x => (f x).py := by
  induction l with
  | nil => rfl
  | cons x r ih => rw [List.map_cons, List.map_cons, D.pys, ih]
theorem plains_map {α : Type} {f : α → D} {l : List α} (h : ∀ x ∈ l, (f x).plain = true) : D.plains (l.map f) = true := by
  induction l with
  | nil => rfl
  | cons x r ih =>
    rw [List.map_cons, D.plains, h x List.mem_cons_self, ih fun y hy => h y (List.mem_cons_of_mem _ hy)]
    rfl
mutual
theorem Rep.dp {K : PySem.W.Frag} {B H : Hp} (e : Same B H) : ∀ {v : V} {d : D}, Rep B v d → d.plain = true → Dp K H v d.py
  | _, _, .non, _ => by unfold D.py; exact .non
  | _, _, .bl b, _ => by unfold D.py; exact .bl b
  | _, _, .int i, _ => by unfold D.py; exact .int i
  | _, _, .str x, _ => by unfold D.py; exact .str x
  | _, _, .adr a, h => by unfold D.plain at h; cases h
  | _, _, .ty n, h => by unfold D.plain at h; cases h
  | _, _, .lst h1 r, h => by unfold D.plain at h; unfold D.py; exact .lst (.inl (.inl (e _ _ h1))) (Reps.dp e r h)
  | _, _, .tup h1 r, h => by unfold D.plain at h; unfold D.py; exact .tup (.inl (.inl (e _ _ h1))) (Reps.dp e r h)
  | _, _, .obj _ _ _, h => by unfold D.plain at h; cases h
  | _, _, .pin _, h => by unfold D.plain at h; cases h
  | _, _, .dic _ _, h => by unfold D.plain at h; cases h
theorem Reps.dp {K : PySem.W.Frag} {B H : Hp} (e : Same B H) : ∀ {vs : List V} {ds : List D}, Reps B vs ds → D.plains ds = true → DpAll K H vs (D.pys ds)
  | _, _, .nil, _ => by unfold D.pys; exact .nil
  | _, _, .cons r t, h => by
    unfold D.plains at h
    obtain ⟨h1, h2⟩ := Bool.and_eq_true_iff.mp h
    unfold D.pys
    exact .cons (Rep.dp e r h1) (Reps.dp e t h2)
end

/-! ### a way to write values as data, told apart by == -/
structure En {α : Type} [DecidableEq α] (n : Nat) (f : α → D) : Prop where
  plain : ∀ x, (f x).plain = true
  lay : ∀ x, (f x).py.canLay0 = true
  dep : ∀ x, (f x).py.depth ≤ n
  eq : ∀ x y, PyData.eqv (f x).py (f y).py = decide (x = y)
section
variable {α β : Type} [DecidableEq α] [DecidableEq β] {n m : Nat} {f : α → D} {g : β → D}
theorem En.mono (e : En n f) (h : n ≤ m) : En m f := ⟨e.plain, e.lay, fun x => Nat.le_trans (e.dep x) h, e.eq⟩
theorem en_int : En 0 D.int := ⟨fun _ => rfl, fun _ => rfl, fun _ => Nat.le_refl _, fun x y => by
  show (x == y) = _
  exact Bool.beq_eq_decide_eq ..⟩
theorem en_bl : En 0 D.bl := ⟨fun _ => rfl, fun _ => rfl, fun _ => Nat.le_refl _, fun x y => by
  show (x == y) = _
  exact Bool.beq_eq_decide_eq ..⟩
theorem en_price : En 0 dP := ⟨fun x => by cases x <;> rfl, fun x => by cases x <;> rfl, fun x => by cases x <;> exact Nat.le_refl _, fun x y => by
  cases x with
  | none => cases y <;> rfl
  | some i => cases y with
    | none => rfl
    | some j =>
      show (i == j) = _
      rw [Bool.beq_eq_decide_eq]
      by_cases h : i = j
      · simp [h]
      · simp [h]⟩
theorem depthAll_le {n : Nat} : ∀ {l : List PyData}, (∀ d ∈ l, d.depth ≤ n) → PyData.depthAll l ≤ n
  | [], _ => Nat.zero_le _
  | x :: r, h => by
    unfold PyData.depthAll
    exact Nat.max_le.mpr ⟨h x List.mem_cons_self, depthAll_le fun d hd => h d (List.mem_cons_of_mem _ hd)⟩
theorem canLayAll_of : ∀ {l : List PyData}, (∀ d ∈ l, d.canLay0 = true) → PyData.canLayAll0 l = true
  | [], _ => rfl
  | x :: r, h => by
    unfold PyData.canLayAll0
    rw [h x List.mem_cons_self, canLayAll_of fun d hd => h d (List.mem_cons_of_mem _ hd)]
    rfl
theorem eqvAll_map (e : En n f) : ∀ (l m : List α), PyData.eqvAll (l.map fun x => (f x).py) (m.map fun x => (f x).py) = decide (l = m)
  | [], [] => rfl
  | [], _ :: _ => rfl
  | _ :: _, [] => rfl
  | x :: l, y :: m => by
    rw [List.map_cons, List.map_cons, PyData.eqvAll, e.eq, eqvAll_map e l m]
    by_cases h1 : x = y
    · by_cases h2 : l = m
      · simp [h1, h2]
      · simp [h1, h2]
    · simp [h1]
theorem en_list (e : En n f) : En (n + 1) fun l : List α => D.lst (l.map f) := ⟨fun l => by
    unfold D.plain
    exact plains_map fun x _ => e.plain x, fun l => by
    unfold D.py PyData.canLay0
    rw [pys_map]
    exact canLayAll_of fun d hd => by
      obtain ⟨x, _, rfl⟩ := List.mem_map.mp hd
      exact e.lay x, fun l => by
    unfold D.py PyData.depth
    rw [pys_map]
    refine Nat.succ_le_succ (depthAll_le fun d hd => ?_)
    obtain ⟨x, _, rfl⟩ := List.mem_map.mp hd
    exact e.dep x, fun l m => by
    unfold D.py PyData.eqv
    rw [pys_map, pys_map]
    exact eqvAll_map e l m⟩
theorem en_pair (e : En n f) (k : En n g) : En (n + 1) fun p : α × β => D.tup [f p.1, g p.2] := ⟨fun p => by
    simp only [D.plain, D.plains, e.plain, k.plain, Bool.and_true], fun p => by
    simp only [D.py, D.pys, PyData.canLay0, PyData.canLayAll0, e.lay, k.lay, Bool.and_true], fun p => by
    simp only [D.py, D.pys, PyData.depth, PyData.depthAll]
    have h1 := e.dep p.1
    have h2 := k.dep p.2
    omega, fun p q => by
    simp only [D.py, D.pys, PyData.eqv, PyData.eqvAll, e.eq, k.eq, Bool.and_true]
    obtain ⟨a, b⟩ := p
    obtain ⟨c, d⟩ := q
    by_cases h1 : a = c
    · by_cases h2 : b = d
      · simp [h1, h2]
      · simp [h1, h2]
    · simp [h1]⟩
theorem En.shaped (e : En n f) (h : n ≤ 64) (x : α) : SeqAt.shaped (f x).py = true := by
  unfold SeqAt.shaped
  rw [e.lay x, decide_eq_true (Nat.le_trans (e.dep x) h)]
  rfl
end
/-- an entry, entries -/
abbrev dE (p : Int × Option Int) : D := .tup [.int p.1, dP p.2]
abbrev dEs (l : List (Int × Option Int)) : D := .lst (l.map dE)
theorem en_entry : En 1 dE := en_pair en_int en_price
theorem en_entries : En 2 dEs := en_list en_entry

section
variable {X : Cx} {e a b o i : Expr} {es : List Expr} {st : Stmt} {sts : List Stmt} {δ : DE} {M : AHp} {Q : DK} {σ : L2.St} {H B : Hp} {A : AEnds} {G : Gx} {N : List Str} {sc : Scope} {pos p apos : Pos} {x m : Str} {k j0 : Nat} {sp : ASp} {C : Addr}
theorem p_eqD {d e : D} (hd : d.plain = true) (he : e.plain = true) (sd : SeqAt.shaped d.py = true) (se : SeqAt.shaped e.py = true) : pR (rEqD X.K) M d e (.bl (PyData.eqv d.py e.py)) := fun x y B H Q2 ra rb c k =>
  ⟨_, _, ra.dp c.ex hd, rb.dp c.ex he, sd, se, k _ B H (Same.refl _) (.bl _) c⟩
theorem p_neD {d e : D} (hd : d.plain = true) (he : e.plain = true) (sd : SeqAt.shaped d.py = true) (se : SeqAt.shaped e.py = true) : pR (rNeD X.K) M d e (.bl (!PyData.eqv d.py e.py)) := fun x y B H Q2 ra rb c k =>
  ⟨_, _, ra.dp c.ex hd, rb.dp c.ex he, sd, se, k _ B H (Same.refl _) (.bl _) c⟩
theorem p_eqE {α : Type} [DecidableEq α] {n : Nat} {f : α → D} (en : En n f) (x y : α) (hn : n ≤ 64 := by decide) : pR (rEqD X.K) M (f x) (f y) (.bl (decide (x = y))) :=
  (p_eqD (en.plain x) (en.plain y) (en.shaped hn x) (en.shaped hn y)).to (by rw [en.eq])
theorem p_neE {α : Type} [DecidableEq α] {n : Nat} {f : α → D} (en : En n f) (x y : α) (hn : n ≤ 64 := by decide) : pR (rNeD X.K) M (f x) (f y) (.bl (!decide (x = y))) :=
  (p_neD (en.plain x) (en.plain y) (en.shaped hn x) (en.shaped hn y)).to (by rw [en.eq])
/-- what compares and shows as py: data, or a list that may change -/
inductive IsPy (M : AHp) : D → PyData → Prop
  | dat {d : D} : d.plain = true → IsPy M d d.py
  | adr {p : Addr} {ds : List D} : M p = some (.lst ds) → D.plains ds = true → IsPy M (.adr p) (.list (D.pys ds))
theorem IsPy.dp {K : PySem.W.Frag} {d : D} {y : PyData} (h : IsPy M d y) {v : V} (r : Rep B v d) (c : Cf B M H) : Dp K H v y := by
  cases h with
  | dat hp => exact r.dp c.ex hp
  | adr hm hp =>
    cases r
    obtain ⟨_, xs, h1, h2⟩ := c.m _ _ hm
    exact .lst (.inl (.inl h1)) (h2.dp c.ex hp)
theorem p_eqY {d e : D} {x y : PyData} (hd : IsPy M d x) (he : IsPy M e y) (sd : SeqAt.shaped x = true) (se : SeqAt.shaped y = true) : pR (rEqD X.K) M d e (.bl (PyData.eqv x y)) := fun u v B H Q2 ra rb c k =>
  ⟨_, _, hd.dp ra c, he.dp rb c, sd, se, k _ B H (Same.refl _) (.bl _) c⟩
theorem p_neY {d e : D} {x y : PyData} (hd : IsPy M d x) (he : IsPy M e y) (sd : SeqAt.shaped x = true) (se : SeqAt.shaped y = true) : pR (rNeD X.K) M d e (.bl (!PyData.eqv x y)) := fun u v B H Q2 ra rb c k =>
  ⟨_, _, hd.dp ra c, he.dp rb c, sd, se, k _ B H (Same.refl _) (.bl _) c⟩
/-- x written by f, as data or as a list that may change -/
inductive IsEn {α : Type} (M : AHp) (f : α → D) : D → α → Prop
  | dat {x : α} : IsEn M f (f x) x
  | adr {p : Addr} {x : α} {ds : List D} : M p = some (.lst ds) → f x = .lst ds → IsEn M f (.adr p) x
theorem IsEn.py {α : Type} [DecidableEq α] {n : Nat} {f : α → D} (en : En n f) {d : D} {x : α} (h : IsEn M f d x) : IsPy M d (f x).py := by
  cases h with
  | dat => exact .dat (en.plain x)
  | adr hm e =>
    have hp := en.plain x
    rw [e] at hp ⊢
    unfold D.plain at hp
    unfold D.py
    exact .adr hm hp
theorem p_eqN {α : Type} [DecidableEq α] {n : Nat} {f : α → D} (en : En n f) {d e : D} {x y : α} (hd : IsEn M f d x) (he : IsEn M f e y) (hn : n ≤ 64 := by decide) : pR (rEqD X.K) M d e (.bl (decide (x = y))) :=
  (p_eqY (hd.py en) (he.py en) (en.shaped hn x) (en.shaped hn y)).to (by rw [en.eq])
theorem p_neN {α : Type} [DecidableEq α] {n : Nat} {f : α → D} (en : En n f) {d e : D} {x y : α} (hd : IsEn M f d x) (he : IsEn M f e y) (hn : n ≤ 64 := by decide) : pR (rNeD X.K) M d e (.bl (!decide (x = y))) :=
  (p_neY (hd.py en) (he.py en) (en.shaped hn x) (en.shaped hn y)).to (by rw [en.eq])
/-! ### repr -/
/-- can be shown, in at most n signs -/
structure Shw (n : Nat) (d : D) : Prop where
  plain : d.plain = true
  able : d.py.showable = true
  len : d.py.shown.length ≤ n
  dep : d.py.depth ≤ 30
mutual
theorem noDict : ∀ d : D, d.py.hasDict = false
  | .non => by rfl
  | .bl _ => by rfl
  | .int _ => by rfl
  | .str _ => by rfl
  | .adr _ => by rfl
  | .ty _ => by rfl
  | .lst xs => by unfold D.py PyData.hasDict; exact noDicts xs
  | .tup xs => by unfold D.py PyData.hasDict; exact noDicts xs
  | .obj _ _ => by rfl
  | .pin _ => by rfl
  | .dic _ => by rfl
theorem noDicts : ∀ ds : List D, PyData.hasDictAll (D.pys ds) = false
  | [] => by rfl
  | x :: xs => by unfold D.pys PyData.hasDictAll; rw [noDict x, noDicts xs]; rfl
end
def rRepr (K : PySem.W.Frag) : List V → Hp → VK → Prop := fun xs H Q => ∃ x d, xs = [x] ∧ Dp K H x d ∧ d.showable = true ∧ d.hasDict = false ∧ d.shown.length ≤ sizeLine ∧ d.depth ≤ 30 ∧ Q (.str d.shown) H
theorem call_repr (hr : Room k X.A) (gd : X.A.guards = some []) : CallR X (.builtin "repr") (rRepr X.K) := by
  intro pins s σ H xs us Q I r h
  obtain ⟨x, d, rfl, hd, h1, h2, h3, h4, q⟩ := h
  obtain ⟨u, rfl, ru⟩ := vals1 r
  cases hd with
  | non => cases ru; exact PySem.P.repr_of_none ⟨.str _, H, I.tok _, ⟨_, rfl⟩, q⟩
  | bl b =>
    cases ru
    exact PySem.P.repr_of_bool ⟨.str (PyData.bool b).shown, H, I.tok _, ⟨s.toks, by cases b <;> rfl⟩, q⟩
  | int i =>
    obtain ⟨t, rfl⟩ := ru
    unfold PyData.showable at h1
    exact PySem.P.repr_of_int (of_decide_eq_true h1) ⟨.str _, H, I.tok _, ⟨_, rfl⟩, q⟩
  | str z =>
    obtain ⟨t, rfl⟩ := ru
    exact PySem.P.repr_of_str (hsz := h3) ⟨.str _, H, I.tok _, ⟨_, rfl⟩, q⟩
  | lst ha hs =>
    cases ru
    obtain ⟨as, rd⟩ := Dp.reads I _ _ _ (.lst ha hs) rfl
    refine repr_of_reads' rd h1 (by rw [h2]; intro z; cases z) gd (by have := hr.un; omega) (fun _ _ z => z) (fun h' u tk kk => ?_) h3
    exact ⟨.str _, H, I.kept kk, ⟨_, rfl⟩, q⟩
  | tup ha hs =>
    cases ru
    obtain ⟨as, rd⟩ := Dp.reads I _ _ _ (.tup ha hs) rfl
    refine repr_of_reads' rd h1 (by rw [h2]; intro z; cases z) gd (by have := hr.un; omega) (fun _ _ z => z) (fun h' u tk kk => ?_) h3
    exact ⟨.str _, H, I.kept kk, ⟨_, rfl⟩, q⟩
theorem c_repr {n : Nat} {d : D} (h : Shw n d) (hn : n ≤ 10000000) : pC (rRepr X.K) M [d] (.str d.py.shown) := fun xs B H Q2 rx c kk => by
  cases rx with
  | cons r1 r2 =>
    cases r2
    refine ⟨_, _, rfl, r1.dp c.ex h.plain, h.able, noDict d, ?_, h.dep, kk _ B H (Same.refl _) (.str _) c⟩
    rw [sizeLine_eq]
    have := h.len
    omega
theorem Shw.mono {n m : Nat} {d : D} (h : Shw n d) (l : n ≤ m) : Shw m d := ⟨h.plain, h.able, Nat.le_trans h.len l, h.dep⟩
theorem log2_small {n : Nat} (h : n < 2 ^ 64) : n.log2 < 64 := by
  by_cases z : n = 0
  · subst z; decide
  · exact (Nat.log2_lt z).mpr h
theorem shw_non : Shw 4 .non := ⟨rfl, rfl, by decide, Nat.zero_le _⟩
theorem shw_bl (b : Bool) : Shw 5 (.bl b) := ⟨rfl, rfl, by cases b <;> decide, Nat.zero_le _⟩
theorem shw_int {i : Int} (h : i.natAbs < 2 ^ 64) : Shw 66 (.int i) := ⟨rfl, by
    show decide _ = true
    refine decide_eq_true ?_
    have := log2_small h
    omega, by
    show (Str.ofString (toString i)).length ≤ 66
    rw [PySem.ofString_length]
    exact Nat.le_succ_of_le (PySem.int_text_length_le (by decide) (log2_small h)), Nat.zero_le _⟩
def smallP : Option Int → Prop
  | none => True
  | some i => i.natAbs < 2 ^ 64
theorem shw_price {q : Option Int} (h : smallP q) : Shw 66 (dP q) := by
  cases q with
  | none => exact shw_non.mono (by decide)
  | some i => exact shw_int h
theorem shownAll_map {α : Type} (f : α → PyData) : ∀ l : List α, PyData.shownAll (l.map f) = l.map fun x => (f x).shown
  | [] => rfl
  | x :: l => by rw [List.map_cons, List.map_cons, PyData.shownAll, shownAll_map f l]
theorem showableAll_of : ∀ {l : List PyData}, (∀ d ∈ l, d.showable = true) → PyData.showableAll l = true
  | [], _ => rfl
  | x :: r, h => by
    unfold PyData.showableAll
    rw [h x List.mem_cons_self, showableAll_of fun d hd => h d (List.mem_cons_of_mem _ hd)]
    rfl
theorem sum_le_mul {n : Nat} : ∀ {l : List Nat}, (∀ x ∈ l, x ≤ n) → l.sum ≤ l.length * n
  | [], _ => by simp
  | x :: r, h => by
    have h1 := h x List.mem_cons_self
    have h2 := sum_le_mul (l := r) fun y hy => h y (List.mem_cons_of_mem _ hy)
    rw [List.sum_cons, List.length_cons, Nat.succ_mul]
    omega
theorem shw_list {α : Type} {n m : Nat} {f : α → D} {l : List α} (h : ∀ x ∈ l, Shw n (f x)) (hl : l.length ≤ m) (hd : ∀ x ∈ l, (f x).py.depth ≤ 29) : Shw (m * (n + 2) + 3) (.lst (l.map f)) := ⟨by
    unfold D.plain
    exact plains_map fun x hx => (h x hx).plain, by
    unfold D.py PyData.showable
    rw [pys_map]
    exact showableAll_of fun d hd => by
      obtain ⟨x, hx, rfl⟩ := List.mem_map.mp hd
      exact (h x hx).able, by
    unfold D.py PyData.shown
    rw [pys_map, shownAll_map]
    refine Nat.le_trans (listText_len_le _) ?_
    have z := sum_le_mul (n := n) (l := (l.map fun x => (f x).py.shown).map (·.length)) fun y hy => by
      rw [List.map_map] at hy
      obtain ⟨x, hx, rfl⟩ := List.mem_map.mp hy
      exact (h x hx).len
    rw [List.length_map, List.length_map] at z
    rw [List.length_map]
    have y1 : l.length * n ≤ m * n := Nat.mul_le_mul_right _ hl
    rw [Nat.mul_add]
    omega, by
    unfold D.py PyData.depth
    rw [pys_map]
    refine Nat.succ_le_succ (depthAll_le fun d hd' => ?_)
    obtain ⟨x, hx, rfl⟩ := List.mem_map.mp hd'
    exact hd x hx⟩
theorem shw_tup2 {n : Nat} {d1 d2 : D} (h1 : Shw n d1) (h2 : Shw n d2) (k1 : d1.py.depth ≤ 29) (k2 : d2.py.depth ≤ 29) : Shw (2 * n + 7) (.tup [d1, d2]) := ⟨by
    simp only [D.plain, D.plains, h1.plain, h2.plain, Bool.and_true], by
    simp only [D.py, D.pys, PyData.showable, PyData.showableAll, h1.able, h2.able, Bool.and_true], by
    simp only [D.py, D.pys, PyData.shown, PyData.shownAll]
    refine Nat.le_trans (tupleText_len_le _) ?_
    have := h1.len
    have := h2.len
    simp only [List.map_cons, List.map_nil, List.sum_cons, List.sum_nil, List.length_cons, List.length_nil]
    omega, by
    simp only [D.py, D.pys, PyData.depth, PyData.depthAll]
    omega⟩
theorem shw_entry {q : Int × Option Int} (h1 : q.1.natAbs < 2 ^ 64) (h2 : smallP q.2) : Shw 139 (dE q) := shw_tup2 (shw_int h1) (shw_price h2) (Nat.zero_le _) (by cases q.2 <;> exact Nat.zero_le _)
theorem dep_entry (q : Int × Option Int) : (dE q).py.depth ≤ 29 := Nat.le_trans (en_entry.dep q) (by decide)

/-! ### dicts that change -/
def lookK : List (Key × D) → Key → Option D
  | [], _ => none
  | (j, d) :: r, k => if j = k then some d else lookK r k
theorem Kreps.val {B : Hp} : ∀ {ws : List (Key × V)} {kvs : List (Key × D)} {k : Key} {d : D}, Kreps B ws kvs → lookK kvs k = some d → ∃ v, valV ws k = some v ∧ Rep B v d
  | _, _, k, d, .nil, h => by simp [lookK] at h
  | _, _, k, d, .cons (k := j) (v := v) (vs := vs) r t, h => by
    unfold lookK at h
    by_cases e : j = k
    · rw [if_pos e] at h
      cases h
      exact ⟨v, valV_pos (p := (j, v)) e, r⟩
    · rw [if_neg e] at h
      obtain ⟨v', h1, h2⟩ := Kreps.val t h
      exact ⟨v', by rw [valV_neg (p := (j, v)) e]; exact h1, h2⟩
theorem Kreps.noval {B : Hp} : ∀ {ws : List (Key × V)} {kvs : List (Key × D)} {k : Key}, Kreps B ws kvs → lookK kvs k = none → valV ws k = none
  | _, _, k, .nil, h => rfl
  | _, _, k, .cons (k := j) (v := v) (vs := vs) r t, h => by
    unfold lookK at h
    by_cases e : j = k
    · rw [if_pos e] at h; cases h
    · rw [if_neg e] at h
      rw [valV_neg (p := (j, v)) e]
      exact Kreps.noval t h
def putKD (kvs : List (Key × D)) (k : Key) (d : D) : List (Key × D) := if (lookK kvs k).isSome then kvs.map fun kv => if kv.1 = k then (kv.1, d) else kv else kvs ++ [(k, d)]
theorem Kreps.append {B : Hp} : ∀ {ws us : List (Key × V)} {kvs es : List (Key × D)}, Kreps B ws kvs → Kreps B us es → Kreps B (ws ++ us) (kvs ++ es)
  | _, _, _, _, .nil, h => h
  | _, _, _, _, .cons r t, h => .cons r (Kreps.append t h)
theorem Kreps.mapd {B : Hp} {k : Key} {v : V} {d : D} (r : Rep B v d) : ∀ {ws : List (Key × V)} {kvs : List (Key × D)}, Kreps B ws kvs → Kreps B (ws.map fun kv => if kv.1 = k then (kv.1, v) else kv) (kvs.map fun kv => if kv.1 = k then (kv.1, d) else kv)
  | _, _, .nil => .nil
  | _, _, .cons (k := j) q t => by
    rw [List.map_cons, List.map_cons]
    by_cases e : j = k
    · rw [if_pos e, if_pos e]; exact .cons r (Kreps.mapd r t)
    · rw [if_neg e, if_neg e]; exact .cons q (Kreps.mapd r t)
theorem Kreps.put {B : Hp} {ws : List (Key × V)} {kvs : List (Key × D)} {k : Key} {v : V} {d : D} (h : Kreps B ws kvs) (r : Rep B v d) : Kreps B (putK ws k v) (putKD kvs k d) := by
  unfold putK putKD
  rw [valV_any]
  cases q : lookK kvs k with
  | none =>
    rw [h.noval q]
    exact h.append (.cons r .nil)
  | some d' =>
    obtain ⟨v', h1, _⟩ := h.val q
    rw [h1]
    exact h.mapd r
theorem Kreps.length {B : Hp} : ∀ {ws : List (Key × V)} {kvs : List (Key × D)}, Kreps B ws kvs → ws.length = kvs.length
  | _, _, .nil => rfl
  | _, _, .cons _ t => by rw [List.length_cons, List.length_cons, Kreps.length t]
/-- a key's data -/
def dK : Key → D
  | .inl i => .int i
  | .inr x => .str x
theorem Rep.key {B : Hp} {v : V} {k : Key} (h : Rep B v (dK k)) : v = kV k := by
  cases k with
  | inl i => cases h; rfl
  | inr x => cases h; rfl
/-- k in d, k not in d, d[k], d[k] = e -/
theorem at_din (hr : Room j0 X.A) {Q : Bool → AHp → Prop} (h : aE X i δ M fun d1 M1 => aE X o δ M1 fun d2 M2 => ∃ k p kvs, d1 = dK k ∧ d2 = .adr p ∧ M2 p = some (.dK kvs) ∧ Q (lookK kvs k).isSome M2) (hm : behindInMarks .In o = false := by rfl) : aT X (.Compare i [.In] [o] pos) δ M Q := fun σ H B rs c =>
  wT_of (pt_cmp (pc_din (hu_of hr) pe_w pe_w) hm) (h.run rs c fun y d1 M1 B1 H1 s1 r1 c1 q1 => aE.run q1 (rs.mono s1) c1 fun x d2 M2 B2 H2 s2 r2 c2 q2 => by
    obtain ⟨k, p, kvs, rfl, rfl, hp, q⟩ := q2
    cases r2
    obtain ⟨_, ws, h1, h2⟩ := c2.m p _ hp
    rw [r1.key]
    refine ⟨p, _, rfl, DGet.k h1, _, rfl, M2, B2, s1.trans s2, c2, ?_⟩
    have e : (valV ws k).isSome = (lookK kvs k).isSome := by
      cases z : lookK kvs k with
      | none => rw [h2.noval z] <;> rfl
      | some d' => obtain ⟨v', z1, _⟩ := h2.val z; rw [z1]; rfl
    rw [e]
    exact q)
theorem at_dnotin (hr : Room j0 X.A) {Q : Bool → AHp → Prop} (h : aE X i δ M fun d1 M1 => aE X o δ M1 fun d2 M2 => ∃ k p kvs, d1 = dK k ∧ d2 = .adr p ∧ M2 p = some (.dK kvs) ∧ Q (!(lookK kvs k).isSome) M2) (hm : behindInMarks .NotIn o = false := by rfl) : aT X (.Compare i [.NotIn] [o] pos) δ M Q := fun σ H B rs c =>
  wT_of (pt_cmp (pc_dnotin (hu_of hr) pe_w pe_w) hm) (h.run rs c fun y d1 M1 B1 H1 s1 r1 c1 q1 => aE.run q1 (rs.mono s1) c1 fun x d2 M2 B2 H2 s2 r2 c2 q2 => by
    obtain ⟨k, p, kvs, rfl, rfl, hp, q⟩ := q2
    cases r2
    obtain ⟨_, ws, h1, h2⟩ := c2.m p _ hp
    rw [r1.key]
    refine ⟨p, _, rfl, DGet.k h1, _, rfl, M2, B2, s1.trans s2, c2, ?_⟩
    have e : (valV ws k).isSome = (lookK kvs k).isSome := by
      cases z : lookK kvs k with
      | none => rw [h2.noval z] <;> rfl
      | some d' => obtain ⟨v', z1, _⟩ := h2.val z; rw [z1]; rfl
    rw [e]
    exact q)
theorem ae_dget (hr : Room j0 X.A) (h : aE X o δ M fun d1 M1 => aE X i δ M1 fun d2 M2 => ∃ p kvs k d, d1 = .adr p ∧ d2 = dK k ∧ M2 p = some (.dK kvs) ∧ lookK kvs k = some d ∧ Q d M2) (hs : NoSl i := by exact fun _ _ => rfl) : aE X (.Subscript o i pos) δ M Q :=
  ae_of (pe_dget (hu_of hr) pe_w pe_w hs) fun σ H B Q2 rs c kk => h.run rs c fun x d1 M1 B1 H1 s1 r1 c1 q1 => aE.run q1 (rs.mono s1) c1 fun y d2 M2 B2 H2 s2 r2 c2 q2 => by
    obtain ⟨p, kvs, k, d, rfl, rfl, hp, hl, q⟩ := q2
    cases r1
    obtain ⟨_, ws, h1, h2⟩ := c2.m p _ hp
    obtain ⟨v, hv, rv⟩ := h2.val hl
    rw [r2.key]
    refine ⟨p, v, rfl, by rw [← hv]; exact DGet.k h1, kk _ _ _ _ _ (s1.trans s2) rv c2 q⟩
theorem as_dput (hr : Room j0 X.A) {pos' : Pos} (h : aE X e δ M fun d M0 => aE X o δ M0 fun d1 M1 => aE X i δ M1 fun d2 M2 => ∃ p kvs k, d1 = .adr p ∧ d2 = dK k ∧ M2 p = some (.dK kvs) ∧ kvs.length < 100000 ∧ A.nx δ (updM M2 p (.dK (putKD kvs k d))))
    (hs : swapsWith e (some (.Subscript o i pos')) pos.line X.env = pure false := by rfl) : aS X (.Assign [.Subscript o i pos'] e pos) A δ M := fun σ H B rs c =>
  wS_of (ps_dput (hu_of hr) pe_w pe_w pe_w hs) (h.run rs c fun v d M0 B0 H0 s0 r0 c0 q0 => aE.run q0 (rs.mono s0) c0 fun x d1 M1 B1 H1 s1 r1 c1 q1 => aE.run q1 ((rs.mono s0).mono s1) c1 fun y d2 M2 B2 H2 s2 r2 c2 q2 => by
    obtain ⟨p, kvs, k, rfl, rfl, hp, hl, q⟩ := q2
    cases r1
    obtain ⟨_, ws, h1, h2⟩ := c2.m p _ hp
    rw [r2.key]
    refine ⟨p, _, rfl, DPut.k h1 (by rw [h2.length, sizeLine_eq]; omega), δ, _, B2, (s0.trans s1).trans s2, ((rs.mono s0).mono s1).mono s2, ?_, q⟩
    exact c2.set (.dK (putKD kvs k d)) hp (noOwn c2 hp fun _ z => (nomatch z)) ⟨_, upd_same, h2.put ((r0.mono s1).mono s2)⟩)

/-! ### conversions, sums of lists, cuts -/
abbrev rListOf (K : PySem.W.Frag) : List V → Hp → VK → Prop := fun xs H Q => ∃ p ys, xs = [.ref p] ∧ (SqL K H p ys ∨ SqT K H p ys) ∧ ∀ l, H l = none → Q (.ref l) (upd H l (.lst ys))
/-- the items of a list or tuple -/
inductive ItemsD (M : AHp) : D → List D → Prop
  | lst {ds : List D} : ItemsD M (.lst ds) ds
  | tup {ds : List D} : ItemsD M (.tup ds) ds
  | adr {p : Addr} {ds : List D} : M p = some (.lst ds) → ItemsD M (.adr p) ds
theorem ItemsD.at_ {d : D} {ds : List D} {K : PySem.W.Frag} (h : ItemsD M d ds) {v : V} (r : Rep B v d) (c : Cf B M H) : ∃ a xs, v = .ref a ∧ (SqL K H a xs ∨ SqT K H a xs) ∧ Reps B xs ds := by
  cases h with
  | lst => cases r with
    | lst h1 h2 => exact ⟨_, _, rfl, .inl (.inl (.inl (c.ex _ _ h1))), h2⟩
  | tup => cases r with
    | tup h1 h2 => exact ⟨_, _, rfl, .inr (.inl (.inl (c.ex _ _ h1))), h2⟩
  | adr hp =>
    cases r
    obtain ⟨_, xs, h1, h2⟩ := c.m _ _ hp
    exact ⟨_, xs, rfl, .inl (.inl (.inl h1)), h2⟩
/-- list(xs): as data; as a list that may change -/
theorem c_list {d : D} {ds : List D} (h : ItemsD M d ds) : pC (rListOf X.K) M [d] (.lst ds) := fun xs B H Q2 rx c kk => by
  cases rx with
  | cons r1 r2 =>
    cases r2
    obtain ⟨a, ys, rfl, hs, hr⟩ := h.at_ (K := X.K) r1 c
    refine ⟨a, ys, rfl, hs, fun l hl => ?_⟩
    obtain ⟨s2, c2⟩ := c.newI (.lst ys) hl
    exact kk _ _ _ s2 (.lst upd_same (hr.mono s2)) c2
theorem a_listM {d : D} {ds : List D} (h : ItemsD M d ds) (q : ∀ p, M p = none → Q (.adr p) (updM M p (.lst ds))) : aC (rListOf X.K) [d] M Q := fun xs B H Q2 rx c kk => by
  cases rx with
  | cons r1 r2 =>
    cases r2
    obtain ⟨a, ys, rfl, hs, hr⟩ := h.at_ (K := X.K) r1 c
    refine ⟨a, ys, rfl, hs, fun l hl => ?_⟩
    exact kk _ _ _ _ _ (Same.refl _) (.adr l) (c.newM (.lst ds) hl ⟨ys, upd_same, hr⟩) (q l (c.none hl))
abbrev rTupOf (K : PySem.W.Frag) : List V → Hp → VK → Prop := fun xs H Q => ∃ p ys, xs = [.ref p] ∧ ((SqL K H p ys ∧ ∀ l, H l = none → Q (.ref l) (upd H l (.tup ys))) ∨ (SqT K H p ys ∧ Q (.ref p) H))
theorem c_tupL {ds : List D} : pC (rTupOf X.K) M [.lst ds] (.tup ds) := fun xs B H Q2 rx c kk => by
  cases rx with
  | cons r1 r2 =>
    cases r2
    cases r1 with
    | lst h1 h2 =>
      refine ⟨_, _, rfl, .inl ⟨.inl (.inl (c.ex _ _ h1)), fun l hl => ?_⟩⟩
      obtain ⟨s2, c2⟩ := c.newI (.tup _) hl
      exact kk _ _ _ s2 (.tup upd_same (h2.mono s2)) c2
theorem c_tupM {q : Addr} {ds : List D} (hq : M q = some (.lst ds)) : pC (rTupOf X.K) M [.adr q] (.tup ds) := fun xs B H Q2 rx c kk => by
  cases rx with
  | cons r1 r2 =>
    cases r2
    cases r1
    obtain ⟨_, ys, h1, h2⟩ := c.m _ _ hq
    refine ⟨_, _, rfl, .inl ⟨.inl (.inl h1), fun l hl => ?_⟩⟩
    obtain ⟨s2, c2⟩ := c.newI (.tup _) hl
    exact kk _ _ _ s2 (.tup upd_same (h2.mono s2)) c2
/-- xs + ys -/
theorem p_cat {xs ys : List D} (hl : xs.length + ys.length ≤ 1000000) : pR rCat M (.lst xs) (.lst ys) (.lst (xs ++ ys)) := fun x y B H Q2 ra rb c kk => by
  cases ra with
  | lst h1 h2 =>
    cases rb with
    | lst h3 h4 =>
      refine ⟨_, _, _, _, rfl, rfl, c.ex _ _ h1, c.ex _ _ h3, by rw [h2.length, h4.length, sizeLine_eq]; omega, fun p hp => ?_⟩
      obtain ⟨s2, c2⟩ := c.newI (.lst _) hp
      exact kk _ _ _ s2 (.lst upd_same ((h2.append h4).mono s2)) c2
theorem p_catM {x0 y0 : D} {xs ys : List D} (h1 : ItemsD M x0 xs) (h2 : ItemsD M y0 ys) (n1 : ∀ ds, x0 ≠ .tup ds) (n2 : ∀ ds, y0 ≠ .tup ds) (hl : xs.length + ys.length ≤ 1000000) : pR rCat M x0 y0 (.lst (xs ++ ys)) := fun x y B H Q2 ra rb c kk => by
  have key : ∀ {d : D} {ds : List D} {v : V}, ItemsD M d ds → (∀ es, d ≠ .tup es) → Rep B v d → ∃ a zs, v = .ref a ∧ H a = some (.lst zs) ∧ Reps B zs ds := fun {d ds v} hi hn r => by
    cases hi with
    | lst => cases r with
      | lst h1 h2 => exact ⟨_, _, rfl, c.ex _ _ h1, h2⟩
    | tup => exact absurd rfl (hn _)
    | adr hp =>
      cases r
      obtain ⟨_, zs, h1, h2⟩ := c.m _ _ hp
      exact ⟨_, zs, rfl, h1, h2⟩
  obtain ⟨a, xs', rfl, ha, ra'⟩ := key h1 n1 ra
  obtain ⟨b, ys', rfl, hb, rb'⟩ := key h2 n2 rb
  refine ⟨a, b, xs', ys', rfl, rfl, ha, hb, by rw [ra'.length, rb'.length, sizeLine_eq]; omega, fun p hp => ?_⟩
  obtain ⟨s2, c2⟩ := c.newI (.lst (xs' ++ ys')) hp
  exact kk _ _ _ s2 (.lst upd_same ((ra'.append rb').mono s2)) c2
end
end Ab
/-! Own operators of a class; sorting. -/
namespace Ab
open PySem PySem.Spec PyProof.Rows L2

/-! ### ascending lists -/
section
variable {α : Type}
/-- insert by a number -/
def insBy (k : α → Int) (x : α) : List α → List α
  | [] => [x]
  | y :: r => if k x ≤ k y then x :: y :: r else y :: insBy k x r
def srtBy (k : α → Int) : List α → List α
  | [] => []
  | x :: r => insBy k x (srtBy k r)
theorem insBy_perm (k : α → Int) (x : α) : ∀ l : List α, (insBy k x l).Perm (x :: l)
  | [] => List.Perm.refl _
  | y :: r => by
    unfold insBy
    by_cases h : k x ≤ k y
    · rw [if_pos h]
    · rw [if_neg h]
      exact ((insBy_perm k x r).cons y).trans (List.Perm.swap x y r)
theorem srtBy_perm (k : α → Int) : ∀ l : List α, (srtBy k l).Perm l
  | [] => List.Perm.refl _
  | x :: r => (insBy_perm k x _).trans ((srtBy_perm k r).cons x)
theorem insBy_srt {k : α → Int} {x : α} : ∀ {l : List α}, l.Pairwise (fun a b => k a ≤ k b) → (insBy k x l).Pairwise fun a b => k a ≤ k b
  | [], _ => List.pairwise_singleton _ _
  | y :: r, h => by
    unfold insBy
    have h1 := List.pairwise_cons.mp h
    by_cases e : k x ≤ k y
    · rw [if_pos e]
      refine List.pairwise_cons.mpr ⟨fun z hz => ?_, h⟩
      rcases List.mem_cons.mp hz with q | q
      · rw [q]; exact e
      · exact Int.le_trans e (h1.1 z q)
    · rw [if_neg e]
      refine List.pairwise_cons.mpr ⟨fun z hz => ?_, insBy_srt h1.2⟩
      rcases List.mem_cons.mp ((insBy_perm k x r).mem_iff.mp hz) with q | q
      · rw [q]; omega
      · exact h1.1 z q
theorem srtBy_srt (k : α → Int) : ∀ l : List α, (srtBy k l).Pairwise fun a b => k a ≤ k b
  | [] => List.Pairwise.nil
  | x :: r => insBy_srt (srtBy_srt k r)
/-- two ascending rearrangements are one, where equal numbers mean equal things -/
theorem asc_uniq {k : α → Int} : ∀ {l m : List α}, l.Perm m → l.Pairwise (fun a b => k a ≤ k b) → m.Pairwise (fun a b => k a ≤ k b) → (∀ a ∈ l, ∀ b ∈ l, k a = k b → a = b) → l = m
  | [], m, h, _, _, _ => (List.Perm.eq_nil h.symm).symm
  | x :: l, [], h, _, _, _ => absurd h.length_eq (by simp)
  | x :: l, y :: m, h, hl, hm, hd => by
    have h1 := List.pairwise_cons.mp hl
    have h2 := List.pairwise_cons.mp hm
    have hy : y ∈ x :: l := h.mem_iff.mpr List.mem_cons_self
    have hx : x ∈ y :: m := h.mem_iff.mp List.mem_cons_self
    have e1 : k x ≤ k y := by
      rcases List.mem_cons.mp hy with q | q
      · rw [q]; exact Int.le_refl _
      · exact h1.1 y q
    have e2 : k y ≤ k x := by
      rcases List.mem_cons.mp hx with q | q
      · rw [q]; exact Int.le_refl _
      · exact h2.1 x q
    have e : x = y := hd x List.mem_cons_self y hy (by omega)
    subst e
    rw [asc_uniq h.cons_inv h1.2 h2.2 fun a ha b hb => hd a (List.mem_cons_of_mem _ ha) b (List.mem_cons_of_mem _ hb)]
end
abbrev srtI : List Int → List Int := srtBy id

section
variable {X : Cx} {e a b o i : Expr} {es : List Expr} {st : Stmt} {sts : List Stmt} {δ : DE} {M : AHp} {Q : DK} {σ : L2.St} {H B : Hp} {A : AEnds} {G : Gx} {N : List Str} {sc : Scope} {pos p apos : Pos} {x m : Str} {k j0 : Nat} {sp : ASp} {C : Addr}
/-! ### o[i], len(o) of an own class -/
/-- the callee runs, one unit deeper -/
theorem run_g1 {CX : CXT} {f : Addr} {fd : FuncData} {ps : List Str} {sp : Sp} {pins : List (Addr × Obj)} {s : Shared} {Q : VK} {us : List Value} {vs : List V} {E : XK} {E2 : Value → Shared → Prop} (F : FnG (gxOf X) CX k f fd ps sp) (gd : X.A.guards = some []) (hr : Room (k + 1) X.A) (hb : Binds X.K fd ps [])
    (hx : ∀ e s', CX X.stack H s E e s' → E2 e s') (I : Inv X pins σ H s) (r : Vals vs us) (h : sp vs H Q E) : wpAny (model X.prog X.w) X.A.in1 (call (.ref f) us) (EP X pins σ Q) E2 s := by
  have hl : (us ++ []).length = ps.length := by rw [List.append_nil, ← r.length]; exact F.len _ _ _ _ h
  have b := hb s us I.kIn hl
  rw [List.append_nil] at b
  refine wpAny_call (codeAny_mono (F.run X.A.in1 X.stack s H ⟨us, []⟩ us vs Q E gd hr.in1 I.env0.in1 b r h) fun res s' hq => ?_)
  match res, hq with
  | .error er, hq => exact hx er s' hq
  | .ok (.ret u), hq => exact I.after hq
  | .ok .next, hq => exact False.elim hq
  | .ok .brk, hq => exact False.elim hq
  | .ok .cont, hq => exact False.elim hq
structure Gi (G : Gx) (k : Nat) (C : Addr) (a : ASp) : Prop where
  ex : ∃ (f : Addr) (fd : FuncData) (ps : List Str), FnG G CX0 k f fd ps (toSp a) ∧ Meth G.K C "__getitem__" f ∧ Binds G.K fd ps [] ∧ PySem.W.fnIn G.K f = true
  up : Up a
theorem ae_getitem (g : XF X G N sc) (F : Gi G k C sp) (hr : Room (k + 1) X.A) (h : aE X a δ M fun d1 M1 => aE X b δ M1 fun d2 M2 => ∃ fs, IsI M2 C d1 fs ∧ sp [d1, d2] M2 Q noX) (hs : ∀ o i, subscripted b true o i = runValue (.builtin "lifetime.subscript" ⟨[o, i], []⟩) := by exact fun _ _ => by with_unfolding_all rfl) : aE X (.Subscript a b pos) δ M Q := by
  have gd := g.gd
  obtain ⟨rfl, _⟩ := g
  obtain ⟨f, fd, ps, F1, hm, hb, fi⟩ := F.ex
  intro σ H B rs c pins s I
  refine Subscript_ (thn (h σ H B rs c pins s I) fun v s1 ⟨x, H1, I1, r1, d1, M1, B1, sm1, rd1, c1, q1⟩ => ?_)
  refine thn (q1 σ H1 B1 (rs.mono sm1) c1 pins s1 I1) fun u s2 ⟨y, H2, I2, r2, d2, M2, B2, sm2, rd2, c2, fs, hi, q2⟩ => ?_
  obtain ⟨a, dx, ws, rfl, ha, hf⟩ := hi.ins (rd1.mono sm2) c2
  obtain rfl : v = Value.ref a := r1
  obtain ⟨mA, O, _, _, _, _⟩ := ins_get I2.hok ha
  obtain ⟨od, J, _⟩ := O.look
  obtain ⟨m', Fm⟩ := I2.fr
  refine PySem.W.sub_K Fm I2.mod.kin J hm.at_ fi hm.fn ?_ (hs _ _)
  exact run_g1 (vs := [V.ref a, y]) (E := E0) F1 gd hr hb (fun _ _ z => z.elim) I2 (.cons rfl (.cons r2 .nil)) (toSp_of (.cons (rd1.mono sm2) (.cons rd2 .nil)) c2 q2 F.up fun v d M' B' H' s r c' q => ⟨d, M', B', (sm1.trans sm2).trans s, r, c', q⟩)
theorem cr_lenOwn (F : Mt (gxOf X) k C "__len__" sp) (gd : X.A.guards = some []) (hr : Room (k + 1) X.A) : CallR X (.builtin "len") (fun xs H Q => ∃ a dx ws, xs = [.ref a] ∧ H a = some (.ins C dx ws) ∧ toSp sp [.ref a] H (fun v H' => ∃ n : Int, v = .int n ∧ 0 ≤ n ∧ n < 2 ^ 63 ∧ Q (.int n) H') E0) := by
  intro pins s σ H xs us Q I r hq
  obtain ⟨a, dx, ws, rfl, ha, hq⟩ := hq
  obtain ⟨u, rfl, ru⟩ := vals1 r
  obtain rfl : u = Value.ref a := ru
  obtain ⟨f, fd, ps, F1, hm, hb⟩ := F.ex
  obtain ⟨mA, O, _, _, _, _⟩ := ins_get I.hok ha
  obtain ⟨od, J, _⟩ := O.look
  obtain ⟨m', Fm⟩ := I.fr
  refine PySem.W.len_K Fm I.mod.kin J hm.at_ hm.fn (thn (run_g1 (vs := [V.ref a]) (E := E0) F1 gd hr hb (fun _ _ z => z.elim) I (.cons rfl .nil) hq) fun v s' ⟨w, H', I', rw_, n, e, h0, h1, q⟩ => ?_)
  subst e
  obtain ⟨t, rfl⟩ := rw_
  exact ⟨⟨h0, h1⟩, .int n, H', I'.tok _, ⟨_, rfl⟩, q⟩
theorem ae_lenOwn (g : XF X G N sc) (F : Mt G k C "__len__" sp) (hr : Room (k + 1) X.A) (hm : G.mg "len" = none) (h : aE X e δ M fun d M1 => ∃ fs, IsI M1 C d fs ∧ sp [d] M1 (fun d' M' => ∃ n : Int, d' = .int n ∧ 0 ≤ n ∧ n < 2 ^ 63 ∧ Q (.int n) M') noX)
    (hg : sc.names.lookup ("len" : Str) = some .globalImplicit := by rfl) (he : starEach (e :: []) X.env = (false, eval e X.env) :: starEach [] X.env := by rfl) : aE X (.Call (.Name "len" p) [e] [] pos) δ M Q := by
  have gl := g.gl hg
  have gm : X.mg "len" = none := by rw [g.mg]; exact hm
  have gd := g.gd
  obtain ⟨rfl, _⟩ := g
  refine ae_of (pe_callB (cr_lenOwn F gd hr) gl gm PySem.boot_len (pa_cons pe_w pa_nil he) (by decide) (by decide) he rfl) fun σ H B Q2 rs c kk => h.run rs c fun v d M1 B1 H1 s1 r1 c1 q => ?_
  obtain ⟨fs, hi, q⟩ := q
  obtain ⟨a, dx, ws, rfl, ha, hf⟩ := hi.ins r1 c1
  refine ⟨a, dx, ws, rfl, ha, toSp_of (.cons r1 .nil) c1 q F.up fun v d M' B' H' s r c' q => ?_⟩
  obtain ⟨n, rfl, h0, h1, q⟩ := q
  cases r
  exact ⟨n, rfl, h0, h1, kk _ _ _ _ _ (s1.trans s) (.int n) c' q⟩

/-! ### sorted -/
theorem reps_ints {B : Hp} : ∀ {xs : List V} {ns : List Int}, Reps B xs (ns.map D.int) → xs = ns.map V.int
  | _, [], h => by cases h; rfl
  | _, n :: ns, h => by
    cases h with
    | cons r t => cases r; rw [List.map_cons, reps_ints t]
theorem reps_of_ints {B : Hp} : ∀ ns : List Int, Reps B (ns.map V.int) (ns.map D.int)
  | [] => .nil
  | n :: ns => .cons (.int n) (reps_of_ints ns)
/-- the items of a list -/
inductive ListD (M : AHp) : D → List D → Prop
  | lst {ds : List D} : ListD M (.lst ds) ds
  | adr {p : Addr} {ds : List D} : M p = some (.lst ds) → ListD M (.adr p) ds
theorem ListD.at_ {d : D} {ds : List D} (h : ListD M d ds) {v : V} (r : Rep B v d) (c : Cf B M H) : ∃ a xs, v = .ref a ∧ H a = some (.lst xs) ∧ Reps B xs ds := by
  cases h with
  | lst => cases r with
    | lst h1 h2 => exact ⟨_, _, rfl, c.ex _ _ h1, h2⟩
  | adr hp =>
    cases r
    obtain ⟨_, xs, h1, h2⟩ := c.m _ _ hp
    exact ⟨_, xs, rfl, h1, h2⟩
theorem c_sortedI {d : D} {ns : List Int} (hi : ListD M d (ns.map D.int)) : pC (rSortedI X.K) M [d] (.lst ((srtI ns).map D.int)) := fun xs B H Q2 rx c kk => by
  cases rx with
  | cons r1 r2 =>
    cases r2
    obtain ⟨a, ys, rfl, hs, hr⟩ := hi.at_ r1 c
    refine ⟨a, ns, rfl, by rw [← reps_ints hr]; exact .inl (.inl hs), fun ns' p h1 h2 h3 => ?_⟩
    obtain ⟨s2, c2⟩ := c.newI (.lst (ns'.map V.int)) h3
    have e : ns' = srtI ns := asc_uniq (k := id) (h1.trans (srtBy_perm id ns).symm) h2 (srtBy_srt id ns) fun _ _ _ _ q => q
    rw [e] at s2 c2 ⊢
    exact kk _ _ _ s2 (.lst upd_same (reps_of_ints _)) c2

/-! ### sorted of pairs of an int and a price, unlike ints -/
def pV : Option Int → V
  | none => .non
  | some i => .int i
theorem flat_pV (q : Option Int) : flatV (pV q) = true := by cases q <;> rfl
theorem eqV_pV (q : Option Int) : eqV (pV q) (pV q) = true := by
  cases q with
  | none => rfl
  | some i =>
    show decide _ = true
    simp
/-- v is a tuple of an int and a price -/
def IsKP (h : Heap) (v : Value) (q : Int × Option Int) : Prop := ∃ a o t u n, v = .ref a ∧ h.get? a = some o ∧ o.cls = .type "tuple" ∧ o.data = .seq #[.int q.1 t, u] n ∧ RelV (pV q.2) u
theorem IsKP.keeps {h h' : Heap} {v : Value} {q : Int × Option Int} (z : IsKP h v q) (k : ∀ b o, h.get? b = some o → o.cls = .type "tuple" → h'.get? b = some o) : IsKP h' v q := by
  obtain ⟨a, o, t, u, n, e, ho, hc, r⟩ := z
  exact ⟨a, o, t, u, n, e, k _ _ ho hc, hc, r⟩
theorem swo_key {α : Type} (k : α → Int) : SrtO.Swo fun v u : α => decide (k v < k u) := by
  refine ⟨fun x y h => ?_, fun x y z h1 h2 => ?_⟩
  · have a := of_decide_eq_true h
    exact decide_eq_false (by omega)
  · have a := of_decide_eq_false h1
    have b := of_decide_eq_false h2
    exact decide_eq_false (by omega)
theorem kp_cmp {prog : Program} {w : World} {A : Around} {s : Shared} {vs : List Value} {k : Value → Int × Option Int} (hp : ∀ v ∈ vs, IsKP s.heap v (k v)) (hd : ∀ v ∈ vs, ∀ u ∈ vs, (k v).1 = (k u).1 → (k v).2 = (k u).2) :
    SrtO.Cmp prog w A s (tuples' true) (fun p => p.1 ∈ vs) (SrtO.lt2 fun v u => decide ((k v).1 < (k u).1)) := by
  intro p q hm hm'
  obtain ⟨a, o, t, u, n, e, ho, hc, hdt, ru⟩ := hp _ hm
  obtain ⟨a', o', t', u', n', e', ho', hc', hdt', ru'⟩ := hp _ hm'
  have hdd := hd _ hm _ hm'
  show wpAny (model prog w) A (keyLt' (tuples' true) p.1 q.1) (fun r s' => s' = s ∧ r = decide ((k p.1).1 < (k q.1).1)) (fun _ _ => False) s
  generalize (k p.1).1 = x1 at hdt hdd ⊢
  generalize (k q.1).1 = x2 at hdt' hdd ⊢
  rw [e, e']
  refine PySem.W.kat_lt ho hdt ho' hdt' ?_
  show PySem.W.KatLex prog w A true (decide (2 < 2)) _ [(.int x1 t, .int x2 t'), (u, u')] 0 s
  refine PySem.W.kat_cons (SeqAt.EqAt.int_int x1 t x2 t' prog w _ _ ?_)
  refine PySem.W.kat_go (fun e1 => ?_) (fun e1 => ?_)
  · have ex : x1 = x2 := by simpa using e1
    have e2 := hdd ex
    rw [← e2] at ru'
    refine PySem.W.kat_yes (PySem.W.kat_cons (L2.eqAt_V ru ru' (flat_pV _) (flat_pV _) prog w _ _ ?_))
    rw [eqV_pV]
    refine PySem.W.kat_yes (PySem.W.kat_nil ⟨rfl, ?_⟩)
    rw [ex]
    exact (decide_eq_false (Int.lt_irrefl _)).symm
  · have ex : ¬ x1 = x2 := by simpa using e1
    exact PySem.W.kat_no (oneLt_int ⟨rfl, rfl⟩)
theorem firsts_kp {h : Heap} : ∀ {vs : List Value} {k : Value → Int × Option Int}, (∀ v ∈ vs, IsKP h v (k v)) → ∃ fs, PySem.W.KatTups h vs fs ∧ fs.length = vs.length ∧ ∀ f ∈ fs, ∃ x t, f = Value.int x t
  | [], _, _ => ⟨[], trivial, rfl, fun _ z => (nomatch z)⟩
  | v :: vs, k, hp => by
    obtain ⟨fs, h1, h2, h3⟩ := firsts_kp (vs := vs) (k := k) fun u hu => hp u (List.mem_cons_of_mem _ hu)
    obtain ⟨a, o, t, u, n, e, ho, hc, hd, _⟩ := hp v List.mem_cons_self
    refine ⟨Value.int (k v).1 t :: fs, ?_, by rw [List.length_cons, List.length_cons, h2], fun f hf => ?_⟩
    · subst e
      first
        | exact ⟨⟨a, o, _, n, rfl, ho, hc, hd, rfl⟩, h1⟩
        | exact ⟨a, o, _, n, rfl, ho, hc, hd, h1⟩
    · rcases List.mem_cons.mp hf with q | q
      · exact ⟨_, _, q⟩
      · exact h3 f q
theorem sorted_kp {prog : Program} {w : World} {A : Around} {E : Value → Shared → Prop} {s : Shared} {l : Addr} {vs : List Value} {k : Value → Int × Option Int} {Q : Value → Shared → Prop} (hl : s.heap.IsList l vs.toArray) (hz : vs.length ≤ sizeLine) (hp : ∀ v ∈ vs, IsKP s.heap v (k v)) (hd : ∀ v ∈ vs, ∀ u ∈ vs, (k v).1 = (k u).1 → (k v).2 = (k u).2)
    (h : ∀ (h' : Heap) (d : Addr) (out : List Value), SrtO.Srtd (fun v u => decide ((k v).1 < (k u).1)) out → out.Perm vs → (∀ b o, s.heap.get? b = some o → h'.get? b = some o) → s.heap.objs.size ≤ d → (∃ n, h'.get? d = some (seqObj "list" out.toArray n)) → Q (.ref d) { s with heap := h' }) :
    wpAny (model prog w) A (call (.builtin "sorted") [.ref l]) Q E s := by
  refine SrtO.sorted_ord (swo_key fun v => (k v).1) hl hz (fun h2 h1 a ha kk => ?_) fun out hs hb => ?_
  · intro h' keep
    have hp' : ∀ v ∈ vs, IsKP h' v (k v) := fun v hm => ((hp v hm).keeps fun b o e _ => (kk b o e).2).keeps fun b o e c => keep b o (fun z => by
      have e' : some o = some (seqObj "list" vs.toArray 0) := (z ▸ e).symm.trans ha
      cases e'
      exact absurd (Value.type.inj c) (by decide)) e
    obtain ⟨fs, t1, t2, t3⟩ := firsts_kp hp'
    refine ⟨tuples' true, fun Q E hq => ?_, kp_cmp hp' hd⟩
    refine PySem.W.kat_kind (T := .type "int") t1 (by omega) (fun f hm => ?_) (by rfl) ?_
    · obtain ⟨x, t, rfl⟩ := t3 f hm
      exact PySem.W.Looks.now
    · have e : (Value.type "int" != Value.type "tuple") = true := by decide +kernel
      rw [e]
      exact hq
  · exact h _ _ out hs hb.perm (fun b o e => PyProof.Rows.sortedAll_old e) (Nat.le_succ _) (PyProof.Rows.sortedAll_at s.heap vs out.toArray)
def rSortKP : List V → Hp → VK → Prop := fun vs H Q => ∃ (a : Addr) (xs : List V) (k : V → Int × Option Int), vs = [V.ref a] ∧ H a = some (.lst xs) ∧ (∀ x ∈ xs, ∃ t, x = V.ref t ∧ H t = some (.tup [.int (k x).1, pV (k x).2])) ∧ (∀ x ∈ xs, ∀ y ∈ xs, (k x).1 = (k y).1 → (k x).2 = (k y).2) ∧
  ∀ ys p, SrtO.Srtd (fun x y => decide ((k x).1 < (k y).1)) ys → ys.Perm xs → H p = none → Q (.ref p) (upd H p (.lst ys))
theorem cr_sortKP : CallR X (.builtin "sorted") rSortKP := by
  intro pins s σ H vs us Q I r h
  obtain ⟨a, xs, k, rfl, hs, hx, hdd, q⟩ := h
  obtain ⟨its, rv, hl, hz⟩ := I.list (SqL.of hs)
  obtain ⟨u, rfl, ru⟩ := vals1 r
  obtain rfl : u = Value.ref a := ru
  obtain ⟨e1, e2⟩ := refs_back rv fun x m => let ⟨t, e, _⟩ := hx x m; ⟨t, e⟩
  have mem : ∀ v ∈ its, backV v ∈ xs := fun v hv => by rw [e1]; exact List.mem_map_of_mem hv
  refine sorted_kp (k := fun u => k (backV u)) hl.isList (by rw [← rv.length]; exact hz) (fun v hv => ?_) (fun v hv u hu => hdd _ (mem v hv) _ (mem u hu)) fun h' d out h1 h2 kp hd hn => ?_
  · obtain ⟨t, rfl⟩ := e2 v hv
    obtain ⟨t', e, ht⟩ := hx _ (mem _ hv)
    cases e
    obtain ⟨_, its2, r2, o, ho, hc, n, hd⟩ := I.hok _ _ ht
    obtain ⟨u1, u2, rfl, ri, rj⟩ := vals2 r2
    obtain ⟨t1, rfl⟩ := ri
    exact ⟨t, o, t1, u2, n, rfl, ho, hc, hd, rj⟩
  · have h3 : ∀ u ∈ out, ∃ a, u = Value.ref a := fun u hu => e2 u (h2.mem_iff.mp hu)
    obtain ⟨n, hn⟩ := hn
    have hb : (out.map backV).Perm xs := by rw [e1]; exact h2.map backV
    refine ⟨.ref d, upd H d (.lst (out.map backV)), I.laid (t' := s.toks) kp hd ⟨?_, out, n, vals_back h3, hn⟩, rfl, q _ d (List.pairwise_map.mpr h1) hb (I.hok.fresh hd)⟩
    rw [hb.length_eq]
    exact hz
/-- what a value tells as an entry -/
def keyOf (B : Hp) : V → Int × Option Int
  | .ref t => match B t with
    | some (.tup [.int i, .non]) => (i, none)
    | some (.tup [.int i, .int j]) => (i, some j)
    | _ => (0, none)
  | _ => (0, none)
theorem rep_entry {B : Hp} {v : V} {q : Int × Option Int} (h : Rep B v (dE q)) : keyOf B v = q ∧ ∃ t, v = .ref t ∧ B t = some (.tup [.int q.1, pV q.2]) := by
  obtain ⟨i, p⟩ := q
  cases h with
  | @tup a xs ds h1 h2 =>
    cases h2 with
    | cons r1 t1 => cases t1 with
      | cons r2 t2 =>
        cases t2
        cases r1
        have e := r2.price
        cases p with
        | none =>
          subst e
          refine ⟨?_, a, rfl, h1⟩
          unfold keyOf
          simp only [h1]
        | some j =>
          subst e
          refine ⟨?_, a, rfl, h1⟩
          unfold keyOf
          simp only [h1]
theorem reps_entries {B : Hp} : ∀ {xs : List V} {l : List (Int × Option Int)}, Reps B xs (l.map dE) → xs.map (keyOf B) = l ∧ ∀ x ∈ xs, Rep B x (dE (keyOf B x))
  | _, [], h => by cases h; exact ⟨rfl, fun _ z => (nomatch z)⟩
  | _, q :: l, h => by
    cases h with
    | cons r t =>
      obtain ⟨e, _⟩ := rep_entry r
      obtain ⟨h1, h2⟩ := reps_entries t
      refine ⟨by rw [List.map_cons, e, h1], fun x hx => ?_⟩
      rcases List.mem_cons.mp hx with z | z
      · rw [z, e]; exact r
      · exact h2 x z
theorem reps_of_all {B : Hp} {f : V → D} : ∀ {xs : List V}, (∀ x ∈ xs, Rep B x (f x)) → Reps B xs (xs.map f)
  | [], _ => .nil
  | x :: xs, h => .cons (h x List.mem_cons_self) (reps_of_all fun y hy => h y (List.mem_cons_of_mem _ hy))
abbrev srtE : List (Int × Option Int) → List (Int × Option Int) := srtBy (·.1)
theorem c_sortedE {d : D} {l : List (Int × Option Int)} (hi : ListD M d (l.map dE)) (hd : ∀ a ∈ l, ∀ b ∈ l, a.1 = b.1 → a = b) : pC rSortKP M [d] (dEs (srtE l)) := fun xs B H Q2 rx c kk => by
  cases rx with
  | cons r1 r2 =>
    cases r2
    obtain ⟨a, ys, rfl, hs, hr⟩ := hi.at_ r1 c
    obtain ⟨e1, e2⟩ := reps_entries hr
    have mem : ∀ x ∈ ys, keyOf B x ∈ l := fun x hx => by rw [← e1]; exact List.mem_map_of_mem hx
    refine ⟨a, ys, keyOf B, rfl, hs, fun x hx => ?_, fun x hx y hy q => by rw [hd _ (mem x hx) _ (mem y hy) q], fun zs p h1 h2 h3 => ?_⟩
    · obtain ⟨_, t, e, h⟩ := rep_entry (e2 x hx)
      exact ⟨t, e, c.ex _ _ h⟩
    · have pm : (zs.map (keyOf B)).Perm l := by rw [← e1]; exact h2.map _
      have e : zs.map (keyOf B) = srtE l := asc_uniq (k := fun q : Int × Option Int => q.1) (pm.trans (srtBy_perm _ l).symm) (List.pairwise_map.mpr (h1.imp fun {x y} q => by
        have z := of_decide_eq_false q
        omega)) (srtBy_srt _ l) fun x hx y hy q => hd x (pm.mem_iff.mp hx) y (pm.mem_iff.mp hy) q
      obtain ⟨s2, c2⟩ := c.newI (.lst zs) h3
      refine kk _ _ _ s2 (.lst upd_same ?_) c2
      rw [← e, List.map_map]
      exact (reps_of_all fun x hx => e2 x (h2.mem_iff.mp hx)).mono s2
end
end Ab
/-! Loops by their items, list comprehensions. -/
namespace Ab
open PySem PySem.Spec PyProof.Rows L2
section
variable {X : Cx} {e a b o i : Expr} {es : List Expr} {st : Stmt} {sts : List Stmt} {δ : DE} {M : AHp} {Q : DK} {σ : L2.St} {H B : Hp} {A : AEnds} {G : Gx} {N : List Str} {sc scope : Scope} {pos p apos : Pos} {x m : Str} {k j0 : Nat} {sp : ASp} {C : Addr}

/-! ### a loop by what is left -/
def aLoop (X : Cx) (tg : Expr) (body : List Stmt) (A : AEnds) : List D → DE → AHp → Prop
  | [], δ, M => A.nx δ M
  | d :: ds, δ, M => aG X tg d δ M fun δ2 M2 => aSs X body { nx := aLoop X tg body A ds, rt := A.rt, bk := A.nx, ct := aLoop X tg body A ds } δ2 M2
theorem al_nil {tg : Expr} (h : A.nx δ M) : aLoop X tg sts A [] δ M := h
theorem al_cons {tg : Expr} {d : D} {ds : List D} (h : aG X tg d δ M fun δ2 M2 => aSs X sts { nx := aLoop X tg sts A ds, rt := A.rt, bk := A.nx, ct := aLoop X tg sts A ds } δ2 M2) : aLoop X tg sts A (d :: ds) δ M := h
theorem drop_at {α : Type} {l : List α} {i : Nat} {x : α} (h : l[i]? = some x) : l.drop i = x :: l.drop (i + 1) := by
  obtain ⟨h1, h2⟩ := List.getElem?_eq_some_iff.mp h
  rw [← h2, List.getElem_cons_drop]
theorem as_loop {tg it : Expr} (g : XF X G N sc) (h : aI X tg it δ M fun C ds M1 => (∀ M', C M') ∧ aLoop X tg sts A ds δ M1) (hs : ∀ x, foldedSetIterable it X.env x = pure x := by intro _; rfl) : aS X (.For tg it sts [] pos) A δ M :=
  as_for g (fun σ H B rs c R kk => h σ H B rs c R fun J M' B' H' C ds s c' hn q => kk J M' B' H' C ds s c' hn ⟨fun i δ' M' => aLoop X tg sts A (ds.drop i) δ' M', q.2, fun _ _ _ _ => q.1 _, fun i d δ' M' hd hl => by
    have hl : aLoop X tg sts A (ds.drop i) δ' M' := hl
    rw [drop_at hd] at hl
    exact hl, fun δ' M' hl => by
    have hl : aLoop X tg sts A (ds.drop ds.length) δ' M' := hl
    rw [List.drop_length] at hl
    exact hl⟩) hs
/-- over a list, a tuple, a range -/
theorem as_forL {tg it : Expr} {ds : List D} (g : XF X G N sc) (h : aV X it δ M (.lst ds)) (q : aLoop X tg sts A ds δ M) (hs : ∀ x, foldedSetIterable it X.env x = pure x := by intro _; rfl) : aS X (.For tg it sts [] pos) A δ M :=
  as_loop g (ai_list (h _ ⟨ds, rfl, fun _ => trivial, q⟩)) hs
theorem as_forT {tg it : Expr} {ds : List D} (g : XF X G N sc) (h : aV X it δ M (.tup ds)) (q : aLoop X tg sts A ds δ M) (hs : ∀ x, foldedSetIterable it X.env x = pure x := by intro _; rfl) : aS X (.For tg it sts [] pos) A δ M :=
  as_loop g (ai_tup (h _ ⟨ds, rfl, fun _ => trivial, q⟩)) hs
theorem as_forE {tg it : Expr} (g : XF X G N sc) (h : aE X it δ M fun d M1 => ∃ ds, d = .lst ds ∧ aLoop X tg sts A ds δ M1) (hs : ∀ x, foldedSetIterable it X.env x = pure x := by intro _; rfl) : aS X (.For tg it sts [] pos) A δ M :=
  as_loop g (ai_list (h.imp fun d M1 ⟨ds, e, q⟩ => ⟨ds, e, fun _ => trivial, q⟩)) hs
theorem as_forR {tg : Expr} (g : XF X G N sc) (hm : G.mg "range" = none) (h : aE X a δ M fun d M' => ∃ n : Int, d = .int n ∧ -(2 ^ 62) ≤ n ∧ n < 2 ^ 62 ∧ aLoop X tg sts A (rgD 0 n.toNat) δ M')
    (hg : sc.names.lookup ("range" : Str) = some .globalImplicit := by rfl) (hs : starEach [a] X.env = [(false, eval a X.env)] := by rfl) (hs2 : ∀ x, foldedSetIterable (.Call (.Name "range" p) [a] [] pos) X.env x = pure x := by intro _; rfl) {pos2 : Pos} : aS X (.For tg (.Call (.Name "range" p) [a] [] pos) sts [] pos2) A δ M :=
  as_loop g (ai_range1 g hm (aa_cons (h.imp fun d M' ⟨n, e, h1, h2, q⟩ => aa_nil ⟨n, by rw [e], h1, h2, fun _ => trivial, q⟩) (by rw [hs]; rfl)) hg hs) hs2
theorem as_forR2 {tg : Expr} (g : XF X G N sc) (hm : G.mg "range" = none) (h : aE X a δ M fun d M' => aE X b δ M' fun d2 M2 => ∃ i n : Int, d = .int i ∧ d2 = .int n ∧ (-(2 ^ 62) ≤ i ∧ i < 2 ^ 62 ∧ -(2 ^ 62) ≤ n ∧ n < 2 ^ 62) ∧ aLoop X tg sts A (rgD i (n - i).toNat) δ M2)
    (hg : sc.names.lookup ("range" : Str) = some .globalImplicit := by rfl) (hs : starEach [a, b] X.env = [(false, eval a X.env), (false, eval b X.env)] := by rfl) (hs1 : starEach [b] X.env = [(false, eval b X.env)] := by rfl) (hs2 : ∀ x, foldedSetIterable (.Call (.Name "range" p) [a, b] [] pos) X.env x = pure x := by intro _; rfl) {pos2 : Pos} : aS X (.For tg (.Call (.Name "range" p) [a, b] [] pos) sts [] pos2) A δ M :=
  as_loop g (ai_range2 g hm (aa_cons (h.imp fun d M' q => aa_cons (q.imp fun d2 M2 ⟨i, n, e1, e2, h1, q⟩ => aa_nil ⟨i, n, by rw [e1, e2], h1, fun _ => trivial, q⟩) (by rw [hs1]; rfl)) (by rw [hs, hs1])) hg hs hs1) hs2
theorem rgD_succ (lo : Int) (n : Nat) : rgD lo (n + 1) = .int lo :: rgD (lo + 1) n := by
  unfold rgD
  rw [List.range_succ_eq_map, List.map_cons, List.map_map]
  refine congr (congrArg _ (by simp)) (List.map_congr_left fun i _ => ?_)
  show D.int (lo + ((i + 1 : Nat) : Int)) = D.int (lo + 1 + i)
  congr 1
  omega

/-! ### list comprehensions -/
/-- a block of this body -/
def BlkOf (X : Cx) (scope : Scope) (X' : Cx) : Prop := ∃ (s : Shared) (H : Hp) (C : Addr) (cl : List (Str × Addr)) (fp : List Addr), X' = X.blk s H scope (compEnvC scope cl C X.env) fp
theorem XF.blk (g : XF X G N sc) {X' : Cx} (h : BlkOf X scope X') : XF X' G N (relS scope sc) ∧ X'.A = X.A := by
  obtain ⟨s, H, C, cl, fp, rfl⟩ := h
  refine ⟨⟨g.gx, g.hN, ?_, g.calm, g.nd, PassesOwn.never, g.gd⟩, rfl⟩
  show relS scope X.env.scope = relS scope sc
  rw [g.hsc]
/-- a store that touches the names at vs alone -/
def Keeps (t : TG) (vs : List Nat) : Prop := ∀ v σ H Q, t v σ H Q → t v σ H fun σ2 H2 => wipe σ2 vs = wipe σ vs ∧ Q σ2 H2
theorem wipe_set {σ : L2.St} {j : Nat} {v : Option V} : ∀ {vs : List Nat}, j ∈ vs → wipe (σ.set j v) vs = wipe σ vs
  | [], h => by cases h
  | i :: is, h => by
    show (wipe (σ.set j v) is).set i none = (wipe σ is).set i none
    by_cases q : j ∈ is
    · rw [wipe_set q]
    · have e : i = j := by
        rcases List.mem_cons.mp h with z | z
        · exact z.symm
        · exact absurd z q
      subst e
      refine List.ext_getElem? fun n => ?_
      by_cases hn : i = n
      · subst hn
        by_cases hl : i < σ.length
        · rw [List.getElem?_set_self (by rw [wipe_length, List.length_set]; exact hl), List.getElem?_set_self (by rw [wipe_length]; exact hl)]
        · rw [List.getElem?_eq_none (by rw [List.length_set, wipe_length, List.length_set]; omega), List.getElem?_eq_none (by rw [List.length_set, wipe_length]; omega)]
      · rw [List.getElem?_set_ne hn, List.getElem?_set_ne hn]
        have key : ∀ (vs : List Nat) (n : Nat), i ≠ n → (wipe (σ.set i v) vs)[n]? = (wipe σ vs)[n]? := by
          intro vs
          induction vs with
          | nil => intro n h; exact List.getElem?_set_ne h
          | cons y ys ih =>
            intro n h
            show ((wipe (σ.set i v) ys).set y none)[n]? = ((wipe σ ys).set y none)[n]?
            by_cases hy : y = n
            · subst hy
              by_cases hl : y < σ.length
              · rw [List.getElem?_set_self (by rw [wipe_length, List.length_set]; exact hl), List.getElem?_set_self (by rw [wipe_length]; exact hl)]
              · rw [List.getElem?_eq_none (by rw [List.length_set, wipe_length, List.length_set]; omega), List.getElem?_eq_none (by rw [List.length_set, wipe_length]; omega)]
            · rw [List.getElem?_set_ne hy, List.getElem?_set_ne hy]
              exact ih n h
        exact key is n hn
theorem wipe_in {n : Nat} {σ : L2.St} : ∀ {vs : List Nat}, n ∈ vs → n < σ.length → (L2.wipe σ vs)[n]? = some none
  | [], h, _ => by cases h
  | i :: is, h, hl => by
    show ((L2.wipe σ is).set i none)[n]? = some none
    by_cases q : i = n
    · subst q
      rw [List.getElem?_set_self (by rw [wipe_length]; exact hl)]
    · rw [List.getElem?_set_ne q]
      rcases List.mem_cons.mp h with z | z
      · exact absurd z.symm q
      · exact wipe_in z hl
theorem wipe_off {n : Nat} {σ : L2.St} : ∀ {vs : List Nat}, n ∉ vs → (L2.wipe σ vs)[n]? = σ[n]?
  | [], _ => rfl
  | i :: is, h => by
    show ((L2.wipe σ is).set i none)[n]? = _
    rw [List.getElem?_set_ne (fun z => h (by rw [z]; exact List.mem_cons_self))]
    exact wipe_off fun z => h (List.mem_cons_of_mem _ z)
theorem wipe_wipe (σ : L2.St) (vs : List Nat) : L2.wipe (L2.wipe σ vs) vs = L2.wipe σ vs := by
  refine List.ext_getElem? fun n => ?_
  by_cases h : n ∈ vs
  · by_cases hl : n < σ.length
    · rw [wipe_in h (by rw [wipe_length]; exact hl), wipe_in h hl]
    · rw [List.getElem?_eq_none (by rw [wipe_length, wipe_length]; omega), List.getElem?_eq_none (by rw [wipe_length]; omega)]
  · rw [wipe_off h]
theorem keeps_name {j : Nat} {vs : List Nat} (h : j ∈ vs) : Keeps (gName j) vs := fun v σ H Q q => ⟨wipe_set h, q⟩
/-- two names, three names, from a tuple -/
def gTwo (K : PySem.W.Frag) (j1 j2 : Nat) : TG := gTup K 2 (gCons (gName j1) (gCons (gName j2) gNil))
def gThree (K : PySem.W.Frag) (j1 j2 j3 : Nat) : TG := gTup K 3 (gCons (gName j1) (gCons (gName j2) (gCons (gName j3) gNil)))
theorem keeps_two {K : PySem.W.Frag} {j1 j2 : Nat} {vs : List Nat} (h1 : j1 ∈ vs) (h2 : j2 ∈ vs) : Keeps (gTwo K j1 j2) vs := fun v σ H Q ⟨a, xs, e, ht, hl, v1, r1, e1, v2, r2, e2, e3, q⟩ =>
  ⟨a, xs, e, ht, hl, v1, r1, e1, v2, r2, e2, e3, by rw [wipe_set h2, wipe_set h1], q⟩
theorem keeps_three {K : PySem.W.Frag} {j1 j2 j3 : Nat} {vs : List Nat} (h1 : j1 ∈ vs) (h2 : j2 ∈ vs) (h3 : j3 ∈ vs) : Keeps (gThree K j1 j2 j3) vs := fun v σ H Q ⟨a, xs, e, ht, hl, v1, r1, e1, v2, r2, e2, v3, r3, e3, e4, q⟩ =>
  ⟨a, xs, e, ht, hl, v1, r1, e1, v2, r2, e2, v3, r3, e3, e4, by rw [wipe_set h3, wipe_set h2, wipe_set h1], q⟩
/-- what a store does over data -/
def aGt (t : TG) (d : D) (δ δ2 : DE) : Prop := ∀ (σ : L2.St) (H B : Hp) (M : AHp) (v : V) (Q : L2.St → Hp → Prop), RepS B σ δ → Cf B M H → Rep B v d → (∀ σ2, RepS B σ2 δ2 → Q σ2 H) → t v σ H Q
theorem agt_name {j : Nat} {d : D} : aGt (gName j) d δ (δ.set j (some d)) := fun σ H B M v Q rs c r k => k _ (rs.set r)
theorem agt_two {K : PySem.W.Frag} {j1 j2 : Nat} {d1 d2 : D} : aGt (gTwo K j1 j2) (.tup [d1, d2]) δ ((δ.set j1 (some d1)).set j2 (some d2)) := fun σ H B M v Q rs c r k => by
  cases r with
  | tup h1 h2 => cases h2 with
    | cons r1 t1 => cases t1 with
      | cons r2 t2 =>
        cases t2
        exact ⟨_, _, rfl, .inl (.inl (c.ex _ _ h1)), rfl, _, _, rfl, _, _, rfl, rfl, k _ ((rs.set r1).set r2)⟩
theorem agt_three {K : PySem.W.Frag} {j1 j2 j3 : Nat} {d1 d2 d3 : D} : aGt (gThree K j1 j2 j3) (.tup [d1, d2, d3]) δ (((δ.set j1 (some d1)).set j2 (some d2)).set j3 (some d3)) := fun σ H B M v Q rs c r k => by
  cases r with
  | tup h1 h2 => cases h2 with
    | cons r1 t1 => cases t1 with
      | cons r2 t2 => cases t2 with
        | cons r3 t3 =>
          cases t3
          exact ⟨_, _, rfl, .inl (.inl (c.ex _ _ h1)), rfl, _, _, rfl, _, _, rfl, _, _, rfl, rfl, k _ (((rs.set r1).set r2).set r3)⟩
/-- the target of a clause, in every block -/
structure TgOk (X : Cx) (scope : Scope) (tg : Expr) (t : TG) (vs : List Nat) : Prop where
  pg : ∀ X', BlkOf X scope X' → PG X' tg t
  kp : Keeps t vs
theorem blk_fn {X' : Cx} (h : BlkOf X scope X') {x : Str} (hx : scope.names.lookup x = some .cell ∨ (relS scope X.env.scope).names.lookup x = some .local) : X'.fn x = true ∨ X'.env.scope.names.lookup x = some .local := by
  obtain ⟨s, H, C, cl, fp, rfl⟩ := h
  rcases hx with q | q
  · left
    show (scope.names.lookup x == some .cell) = true
    rw [q]
    rfl
  · exact .inr q
def ownB (scope sc : Scope) (x : Str) : Bool := (match scope.names.lookup x with | some .cell => true | _ => false) || (match (relS scope sc).names.lookup x with | some .local => true | _ => false)
theorem own_of {x : Str} (h : ownB scope sc x = true) : scope.names.lookup x = some .cell ∨ (relS scope sc).names.lookup x = some .local := by
  unfold ownB at h
  rcases Bool.or_eq_true_iff.mp h with q | q
  · left
    split at q
    · assumption
    · cases q
  · right
    split at q
    · assumption
    · cases q
theorem tg_pg (g : XF X G N sc) {j : Nat} {x : Str} {p : Pos} (hN : N[j]? = some x) (hl : locB (relS scope sc) x = true) (ho : ownB scope sc x = true) {X' : Cx} (h : BlkOf X scope X') : PG X' (.Name x p) (gName j) := by
  obtain ⟨g', _⟩ := g.blk h
  refine pg_name g'.nd (by rw [g'.hN]; exact hN) (by rw [g'.hsc]; exact loc_of hl) (blk_fn h ?_)
  rw [g.hsc]
  exact own_of ho
theorem tg_name (g : XF X G N sc) (j : Nat) {vs : List Nat} {x : Str} {p : Pos} (hj : j ∈ vs := by decide) (hN : N[j]? = some x := by rfl) (hl : locB (relS scope sc) x = true := by rfl) (ho : ownB scope sc x = true := by rfl) : TgOk X scope (.Name x p) (gName j) vs :=
  ⟨fun X' h => tg_pg g hN hl ho h, keeps_name hj⟩
theorem tg_two (g : XF X G N sc) (j1 j2 : Nat) {vs : List Nat} {x1 x2 : Str} {p p1 p2 : Pos} {kt : Nat} (h1 : j1 ∈ vs := by decide) (h2 : j2 ∈ vs := by decide) (hN1 : N[j1]? = some x1 := by rfl) (hN2 : N[j2]? = some x2 := by rfl) (hl1 : locB (relS scope sc) x1 = true := by rfl) (hl2 : locB (relS scope sc) x2 = true := by rfl)
    (ho1 : ownB scope sc x1 = true := by rfl) (ho2 : ownB scope sc x2 = true := by rfl) : TgOk X scope (.Tuple [.Name x1 p1, .Name x2 p2] kt p) (gTwo X.K j1 j2) vs :=
  ⟨fun X' h => by
    have e : X'.K = X.K := by obtain ⟨s, H, C, cl, fp, rfl⟩ := h; rfl
    have c : X'.calm = true := (g.blk h).1.calm
    have z := pg_tup (k := kt) (pos := p) c (pgs_cons (tg_pg (p := p1) g hN1 hl1 ho1 h) (pgs_cons (tg_pg (p := p2) g hN2 hl2 ho2 h) pgs_nil))
    rw [e] at z
    exact z, keeps_two h1 h2⟩
/-- readings in every block of this body -/
def bE (X : Cx) (scope : Scope) (e : Expr) : TE := fun σ H Q => ∀ X', BlkOf X scope X' → wE X' e σ H Q
def bT (X : Cx) (scope : Scope) (e : Expr) : TT := fun σ H Q => ∀ X', BlkOf X scope X' → wT X' e σ H Q
theorem pe_b {X' : Cx} (h : BlkOf X scope X') : PE X' e (bE X scope e) := ⟨fun pins s σ H Q I q => q X' h pins s I⟩
theorem pt_b {X' : Cx} (h : BlkOf X scope X') : PT X' e (bT X scope e) := ⟨fun pins s σ H Q I q => q X' h pins s I⟩
theorem RepS.wipe {σ : L2.St} {δ : DE} (r : RepS B σ δ) : ∀ vs : List Nat, RepS B (L2.wipe σ vs) (wipeD δ vs)
  | [] => r
  | i :: is => by
    have ih := r.wipe is
    refine ⟨by show ((L2.wipe σ is).set i none).length = ((wipeD δ is).set i none).length; rw [List.length_set, List.length_set]; exact ih.len, fun j d h => ?_⟩
    have h : ((wipeD δ is).set i none)[j]? = some (some d) := h
    show ∃ v, ((L2.wipe σ is).set i none)[j]? = some (some v) ∧ _
    by_cases q : i = j
    · subst q
      by_cases hl : i < (wipeD δ is).length
      · rw [List.getElem?_set_self hl] at h; cases h
      · rw [List.getElem?_eq_none (by rw [List.length_set]; omega)] at h; cases h
    · rw [List.getElem?_set_ne q] at h ⊢
      exact ih.at_ j d h
/-- the tests of a clause: none, one -/
def ifsT (X : Cx) (scope : Scope) : List Expr → TT
  | [] => tYes
  | c :: _ => bT X scope c
theorem pts_b {X' : Cx} (h : BlkOf X scope X') : PTs X' [] (ifsT X scope []) := pts_nil
theorem pts_b1 {X' : Cx} {c : Expr} (h : BlkOf X scope X') : PTs X' [c] (ifsT X scope [c]) := pts_one (pt_b h)
/-- what a comprehension's new list is taken to -/
def aLC (X : Cx) (elt tg iter : Expr) (ifs : List Expr) (scope : Scope) (own : List (Str × Nat)) (t : TG) (δ : DE) (M : AHp) (Q : DK) : Prop := ∀ (σ : L2.St) (H B : Hp) (Q2 : VK), RepS B σ δ → Cf B M H →
  (∀ v d M' B' H', Same B B' → Rep B' v d → Cf B' M' H' → Q d M' → Q2 v H') → tLc (wI X tg iter) t (ifsT X scope ifs) (bE X scope elt) (own.map (·.2)) σ H Q2
section
variable {elt tg iter : Expr} {ifs : List Expr} {own : List (Str × Nat)} {t : TG}
theorem blk_pts (hifs : ifs = [] ∨ ∃ c, ifs = [c]) {X' : Cx} (hX : BlkOf X scope X') : PTs X' ifs (ifsT X scope ifs) := by
  rcases hifs with rfl | ⟨c, rfl⟩
  · exact pts_b hX
  · exact pts_b1 hX
theorem ae_ofLC (g : XF X G N sc) (okb : blkC N sc scope own = true) (tgo : TgOk X scope tg t (own.map (·.2))) (hifs : ifs = [] ∨ ∃ c, ifs = [c]) (h : aLC X elt tg iter ifs scope own t δ M Q) (hs : ∀ x, foldedSetIterable iter X.env x = pure x := by intro _; rfl) : aE X (.ListComp elt [⟨tg, iter, ifs, 0⟩] scope pos) δ M Q := by
  have ok : BlkOk X.N X.env.scope scope own := by rw [g.hN, g.hsc]; exact blkOk_by okb
  exact ae_of (pe_lc (te := bE X scope elt) (tt := ifsT X scope ifs) (g := t) (own := own) g.calm g.nd pi_w ok (fun s H C cl fp => tgo.pg _ ⟨s, H, C, cl, fp, rfl⟩) (fun s H C cl fp => blk_pts hifs ⟨s, H, C, cl, fp, rfl⟩) (fun s H C cl fp => pe_b ⟨s, H, C, cl, fp, rfl⟩) hs) h
/-- name = [..] where no stores are drawn together -/
theorem sx_of (g : XF X G N sc) {v : Expr} {tgt : Option Expr} {n : Nat} {r : Sem Bool} (h : ∀ env : Env, env.scope = sc → swapsWith v tgt n env = r) : swapsWith v tgt n X.env = r := h _ g.hsc
/-- name = [..] on one line -/
theorem as_ofLC (g : XD X G N sc) (i : Nat) {y : Str} {py spos : Pos} (okb : blkC N sc scope own = true) (tgo : TgOk X scope tg t (own.map (·.2))) (hifs : ifs = [] ∨ ∃ c, ifs = [c]) (h : aLC X elt tg iter ifs scope own t δ M fun d M' => A.nx (δ.set i (some d)) M') (hN : N[i]? = some y := by rfl) (hv : sc.names.lookup y = some .local := by rfl)
    (hsw : ∀ env : Env, env.scope = sc → swapsWith (.ListComp elt [⟨tg, iter, ifs, 0⟩] scope pos) (some (.Name y py)) spos.line env = pure true := by intro env e; cases env; cases e; rfl) (hs : ∀ x, foldedSetIterable iter X.env x = pure x := by intro _; rfl) : aS X (.Assign [.Name y py] (.ListComp elt [⟨tg, iter, ifs, 0⟩] scope pos) spos) A δ M := by
  have ok : BlkOk X.N X.env.scope scope own := by rw [g.hN, g.hsc]; exact blkOk_by okb
  refine fun σ H B rs c => wS_of (ps_setLc (i := i) (te := bE X scope elt) (tt := ifsT X scope ifs) (g := t) (own := own) g.calm g.nd (by rw [g.hN]; exact hN) (by rw [g.hsc]; exact hv) (hsw _ g.hsc) pi_w ok (fun s H C cl fp => tgo.pg _ ⟨s, H, C, cl, fp, rfl⟩) (fun s H C cl fp => blk_pts hifs ⟨s, H, C, cl, fp, rfl⟩) (fun s H C cl fp => pe_b ⟨s, H, C, cl, fp, rfl⟩) hs) ?_
  exact h σ H B _ rs c fun v d M' B' H' s r c' q => ⟨_, M', B', s, (rs.mono s).set r, c', q⟩
theorem aLC.frz (h : aLC X elt tg iter ifs scope own t δ M fun d M' => ∃ p ds, d = .adr p ∧ M' p = some (.lst ds) ∧ Q (.lst ds) (delM M' p)) : aLC X elt tg iter ifs scope own t δ M Q := fun σ H B Q2 rs c k => h σ H B Q2 rs c fun v d M' B' H' s r c' ⟨p, ds, e, hp, q⟩ => by
  subst e
  cases r
  obtain ⟨B2, s2, c2, r2⟩ := c'.freeze hp
  exact k _ _ _ _ _ (s.trans s2) r2 c2 q
end
/-- the general rule: D the new list, acc what it holds -/
theorem lc0 (g : XF X G N sc) {elt tg iter : Expr} {ifs : List Expr} {own : List (Str × Nat)} {t : TG} (tgo : TgOk X scope tg t (own.map (·.2))) (hifs : ifs = [] ∨ ∃ c, ifs = [c])
    (h : aI X tg iter δ M fun C ds M1 => ∀ L, M1 L = none → ∃ J : Nat → List D → AHp → Prop, J 0 [] (updM M1 L (.lst [])) ∧ (∀ i acc M', J i acc M' → C M' ∧ M' L = some (.lst acc) ∧ acc.length < 100000) ∧
      (∀ i d acc M', ds[i]? = some d → J i acc M' → ∃ δ2, aGt t d (wipeD δ (own.map (·.2))) δ2 ∧ (match ifs with
        | [] => ∀ X', XF X' G N (relS scope sc) → X'.A = X.A → aE X' elt δ2 M' fun y M4 => M4 L = some (.lst acc) ∧ J (i + 1) (acc ++ [y]) (updM M4 L (.lst (acc ++ [y])))
        | c :: _ => ∃ R : Bool → AHp → Prop, (∀ X', XF X' G N (relS scope sc) → X'.A = X.A → aT X' c δ2 M' R) ∧ (∀ M3, R true M3 → ∀ X', XF X' G N (relS scope sc) → X'.A = X.A → aE X' elt δ2 M3 fun y M4 => M4 L = some (.lst acc) ∧ J (i + 1) (acc ++ [y]) (updM M4 L (.lst (acc ++ [y])))) ∧ ∀ M3, R false M3 → J (i + 1) acc M3)) ∧
      ∀ acc M', J ds.length acc M' → Q (.adr L) M') : aLC X elt tg iter ifs scope own t δ M Q := by
  intro σ H B Q2 rs c kk
  refine h σ H B rs c _ fun I M1 B1 H1 C ds s1 c1 hn q => ?_
  intro L hL
  obtain ⟨J, j0, jc, js, je⟩ := q L (c1.none hL)
  refine ⟨fun i m H' => m = ds.length - i ∧ i ≤ ds.length ∧ ∃ acc M' B', Same B1 B' ∧ Cf B' M' H' ∧ J i acc M', ⟨_, rfl, Nat.zero_le _, [], _, B1, Same.refl _, c1.newM (.lst []) hL ⟨[], upd_same, .nil⟩, j0⟩, ?_⟩
  rintro i m H2 ⟨rfl, hi, acc, M2, B2, s2, c2, j2⟩
  obtain ⟨hc, hL2, hz⟩ := jc _ _ _ j2
  by_cases hlt : i < ds.length
  · refine .inr ?_
    obtain ⟨g1, g2⟩ := hn.go i B2 M2 H2 ds[i] s2 c2 hc (by simp [hlt])
    refine ⟨g1, fun H' => ∃ acc M' B', Same B1 B' ∧ Cf B' M' H' ∧ J (i + 1) acc M', fun H' q => ⟨_, by omega, rfl, hlt, q⟩, fun x H3 y => ?_⟩
    obtain ⟨B3, s3, c3, r3⟩ := g2 x H3 y
    obtain ⟨δ2, ht, tn⟩ := js i ds[i] acc M2 (by simp [hlt]) j2
    have rs3 : RepS B3 (L2.wipe σ (own.map (·.2))) (wipeD δ (own.map (·.2))) := (((rs.mono s1).mono s2).mono s3).wipe _
    have ww : L2.wipe (L2.wipe σ (own.map (·.2))) (own.map (·.2)) = L2.wipe σ (own.map (·.2)) := wipe_wipe σ _
    have kp := tgo.kp x (L2.wipe σ (own.map (·.2))) H3
    rw [ww] at kp
    refine kp _ (ht _ H3 B3 M2 x _ rs3 c3 r3 fun σ4 rs4 => ?_)
    have last : ∀ (M5 : AHp) (B5 H5 : Hp), Same B3 B5 → Cf B5 M5 H5 → (∀ X', XF X' G N (relS scope sc) → X'.A = X.A → aE X' elt δ2 M5 fun y M4 => M4 L = some (.lst acc) ∧ J (i + 1) (acc ++ [y]) (updM M4 L (.lst (acc ++ [y])))) →
        bE X scope elt σ4 H5 fun y H6 => ∃ ac, H6 L = some (.lst ac) ∧ ac.length < sizeLine ∧ ∃ acc M' B', Same B1 B' ∧ Cf B' M' (upd H6 L (.lst (ac ++ [y]))) ∧ J (i + 1) acc M' := fun M5 B5 H5 s5 c5 hE X' hX => by
      obtain ⟨gX, eA⟩ := g.blk hX
      refine (hE X' gX eA).run (rs4.mono s5) c5 fun v d M6 B6 H6 s6 r6 c6 q6 => ?_
      obtain ⟨hL6, j6⟩ := q6
      obtain ⟨_, ac, h7, r7⟩ := c6.m L _ hL6
      refine ⟨ac, h7, by rw [r7.length, sizeLine_eq]; omega, acc ++ [d], _, B6, ((s2.trans s3).trans s5).trans s6, ?_, j6⟩
      exact c6.set (.lst (acc ++ [d])) hL6 (noOwn c6 hL6 fun _ z => (nomatch z)) ⟨_, upd_same, r7.append (.one r6)⟩
    rcases hifs with rfl | ⟨cd, rfl⟩
    · unfold ifsT tYes
      dsimp only
      rw [if_pos rfl]
      exact last M2 B3 H3 (Same.refl _) c3 tn
    · obtain ⟨R, tR, tE, tF⟩ := tn
      intro X' hX
      obtain ⟨gX, eA⟩ := g.blk hX
      refine (tR X' gX eA).run rs4 c3 fun b M5 B5 H5 s5 c5 q5 => ?_
      cases b with
      | true =>
        rw [if_pos rfl]
        exact last M5 B5 H5 s5 c5 fun X'' gX'' eA'' => tE M5 q5 X'' gX'' eA''
      | false =>
        rw [if_neg Bool.false_ne_true]
        exact ⟨acc, M5, B5, (s2.trans s3).trans s5, c5, tF M5 q5⟩
  · have e : i = ds.length := by omega
    subst e
    exact .inl ⟨hn.stop _ B2 M2 H2 s2 c2 hc (Nat.le_refl _), kk _ _ _ _ _ (s1.trans s2) (.adr L) c2 (je _ _ j2)⟩
/-- a new list, seen as data -/
theorem ae_frz (h : aE X e δ M fun d M' => ∃ p ds, d = .adr p ∧ M' p = some (.lst ds) ∧ Q (.lst ds) (delM M' p)) : aE X e δ M Q := fun σ H B rs c => (h σ H B rs c).imp fun v H' ⟨d, M', B', s, r, c', p, ds, e, hp, q⟩ => by
  subst e
  cases r
  obtain ⟨B2, s2, c2, r2⟩ := c'.freeze hp
  exact ⟨_, _, B2, s.trans s2, r2, c2, q⟩
theorem delM_updM {M : AHp} {p : Addr} {o : MO} (h : M p = none) : delM (updM M p o) p = M := by
  funext b
  unfold delM updM
  by_cases e : b = p
  · rw [if_pos e, e, h]
  · rw [if_neg e, if_neg e]
/-- what stands apart from M stays -/
abbrev Ge (M M' : AHp) : Prop := ∀ q o, M q = some o → M' q = some o
theorem ge_new {M : AHp} {p : Addr} {o : MO} (h : M p = none) : Ge M (updM M p o) := fun q u e => by rw [updM_ne (neM e h)]; exact e
/-- items that a walk hands out as long as what stands in M stands -/
def SrcV (X : Cx) (tg iter : Expr) (δ : DE) (M : AHp) (ds : List D) : Prop := ∀ P : (AHp → Prop) → List D → AHp → Prop, (∀ C : AHp → Prop, (∀ M', Ge M M' → C M') → P C ds M) → aI X tg iter δ M P
/-- .. without any condition -/
def SrcT (X : Cx) (tg iter : Expr) (δ : DE) (M : AHp) (ds : List D) : Prop := ∀ P : (AHp → Prop) → List D → AHp → Prop, P (fun _ => True) ds M → aI X tg iter δ M P
theorem SrcT.v {tg iter : Expr} {ds : List D} (h : SrcT X tg iter δ M ds) : SrcV X tg iter δ M ds := fun P q => h P (q _ fun _ _ => trivial)
theorem srcT_list {tg it : Expr} {ds : List D} (h : aV X it δ M (.lst ds)) : SrcT X tg it δ M ds := fun P q => ai_list (h _ ⟨ds, rfl, q⟩)
theorem srcT_tup {tg it : Expr} {ds : List D} (h : aV X it δ M (.tup ds)) : SrcT X tg it δ M ds := fun P q => ai_tup (h _ ⟨ds, rfl, q⟩)
/-- pure comprehensions over typed items: without a test, with one -/
theorem lcV {α : Type} {elt tg iter : Expr} {own : List (Str × Nat)} {t : TG} (g : XF X G N sc) (f : α → D) (h : α → D) (l : List α) (dx : α → DE) (tgo : TgOk X scope tg t (own.map (·.2)))
    (hi : SrcV X tg iter δ M (l.map f)) (hl : l.length < 100000) (ht : ∀ x ∈ l, aGt t (f x) (wipeD δ (own.map (·.2))) (dx x))
    (he : ∀ x ∈ l, ∀ M', Ge M M' → ∀ X', XF X' G N (relS scope sc) → X'.A = X.A → aV X' elt (dx x) M' (h x)) (q : Q (.lst (l.map h)) M) : aLC X elt tg iter [] scope own t δ M Q := aLC.frz (lc0 g tgo (.inl rfl) (hi _ fun C hC L hL => ⟨fun i acc M' => M' = updM M L (.lst acc) ∧ acc = (l.take i).map h, ⟨rfl, by simp⟩, fun i acc M' ⟨e1, e2⟩ => ⟨hC _ (by rw [e1]; exact ge_new hL), by rw [e1, updM_same], by
      rw [e2, List.length_map, List.length_take]; omega⟩, fun i d acc M' hd ⟨e1, e2⟩ => by
      rw [List.getElem?_map] at hd
      cases z : l[i]? with
      | none => rw [z] at hd; cases hd
      | some x =>
        rw [z] at hd
        cases hd
        have hx := List.mem_of_getElem? z
        refine ⟨dx x, ht x hx, fun X' gX eA => he x hx M' (by rw [e1]; exact ge_new hL) X' gX eA _ ⟨by rw [e1, updM_same], by rw [e1, updM_updM], ?_⟩⟩
        rw [e2, List.take_succ, z]
        simp, fun acc M' ⟨e1, e2⟩ => by
      rw [List.length_map, List.take_length] at e2
      exact ⟨L, _, rfl, by rw [e1, updM_same], by rw [e1, delM_updM hL, e2]; exact q⟩⟩))
theorem lcVF {α : Type} {elt tg iter c : Expr} {own : List (Str × Nat)} {t : TG} (g : XF X G N sc) (f : α → D) (h : α → D) (pr : α → Bool) (l : List α) (dx : α → DE) (tgo : TgOk X scope tg t (own.map (·.2)))
    (hi : SrcV X tg iter δ M (l.map f)) (hl : l.length < 100000) (ht : ∀ x ∈ l, aGt t (f x) (wipeD δ (own.map (·.2))) (dx x))
    (hc : ∀ x ∈ l, ∀ M', Ge M M' → ∀ X', XF X' G N (relS scope sc) → X'.A = X.A → aTV X' c (dx x) M' (pr x))
    (he : ∀ x ∈ l, pr x = true → ∀ M', Ge M M' → ∀ X', XF X' G N (relS scope sc) → X'.A = X.A → aV X' elt (dx x) M' (h x)) (q : Q (.lst ((l.filter pr).map h)) M) : aLC X elt tg iter [c] scope own t δ M Q := aLC.frz (lc0 g tgo (.inr ⟨c, rfl⟩) (hi _ fun C hC L hL => ⟨fun i acc M' => M' = updM M L (.lst acc) ∧ acc = ((l.take i).filter pr).map h, ⟨rfl, by simp⟩, fun i acc M' ⟨e1, e2⟩ => ⟨hC _ (by rw [e1]; exact ge_new hL), by rw [e1, updM_same], by
      rw [e2, List.length_map]
      have z1 := List.length_filter_le pr (l.take i)
      rw [List.length_take] at z1
      omega⟩, fun i d acc M' hd ⟨e1, e2⟩ => by
      rw [List.getElem?_map] at hd
      cases z : l[i]? with
      | none => rw [z] at hd; cases hd
      | some x =>
        rw [z] at hd
        cases hd
        have hx := List.mem_of_getElem? z
        have gm : Ge M M' := by rw [e1]; exact ge_new hL
        refine ⟨dx x, ht x hx, fun b M3 => b = pr x ∧ M3 = M', fun X' gX eA => hc x hx M' gm X' gX eA _ ⟨rfl, rfl⟩, fun M3 ⟨b1, b2⟩ X' gX eA => ?_, fun M3 ⟨b1, b2⟩ => ?_⟩
        · subst b2
          refine he x hx b1.symm M3 gm X' gX eA _ ⟨by rw [e1, updM_same], by rw [e1, updM_updM], ?_⟩
          rw [e2, List.take_succ, z]
          simp [← b1]
        · subst b2
          refine ⟨e1, ?_⟩
          rw [e2, List.take_succ, z]
          simp [← b1], fun acc M' ⟨e1, e2⟩ => by
      rw [List.length_map, List.take_length] at e2
      exact ⟨L, _, rfl, by rw [e1, updM_same], by rw [e1, delM_updM hL, e2]; exact q⟩⟩))
theorem av_lc {α : Type} {elt tg iter : Expr} {own : List (Str × Nat)} {t : TG} (g : XF X G N sc) (f : α → D) (h : α → D) (l : List α) (dx : α → DE) (tgo : TgOk X scope tg t (own.map (·.2)))
    (hi : SrcV X tg iter δ M (l.map f)) (hl : l.length < 100000) (ht : ∀ x ∈ l, aGt t (f x) (wipeD δ (own.map (·.2))) (dx x))
    (he : ∀ x ∈ l, ∀ M', Ge M M' → ∀ X', XF X' G N (relS scope sc) → X'.A = X.A → aV X' elt (dx x) M' (h x)) (okb : blkC N sc scope own = true := by decide +kernel) (hs : ∀ x, foldedSetIterable iter X.env x = pure x := by intro _; rfl) :
    aV X (.ListComp elt [⟨tg, iter, [], 0⟩] scope pos) δ M (.lst (l.map h)) := fun Q q => ae_ofLC g okb tgo (.inl rfl) (lcV g f h l dx tgo hi hl ht he q) hs
theorem av_lcF {α : Type} {elt tg iter c : Expr} {own : List (Str × Nat)} {t : TG} (g : XF X G N sc) (f : α → D) (h : α → D) (pr : α → Bool) (l : List α) (dx : α → DE) (tgo : TgOk X scope tg t (own.map (·.2)))
    (hi : SrcV X tg iter δ M (l.map f)) (hl : l.length < 100000) (ht : ∀ x ∈ l, aGt t (f x) (wipeD δ (own.map (·.2))) (dx x))
    (hc : ∀ x ∈ l, ∀ M', Ge M M' → ∀ X', XF X' G N (relS scope sc) → X'.A = X.A → aTV X' c (dx x) M' (pr x))
    (he : ∀ x ∈ l, pr x = true → ∀ M', Ge M M' → ∀ X', XF X' G N (relS scope sc) → X'.A = X.A → aV X' elt (dx x) M' (h x)) (okb : blkC N sc scope own = true := by decide +kernel) (hs : ∀ x, foldedSetIterable iter X.env x = pure x := by intro _; rfl) :
    aV X (.ListComp elt [⟨tg, iter, [c], 0⟩] scope pos) δ M (.lst ((l.filter pr).map h)) := fun Q q => ae_ofLC g okb tgo (.inr ⟨c, rfl⟩) (lcVF g f h pr l dx tgo hi hl ht hc he q) hs
/-- .. as a statement on one line -/
theorem as_lc {α : Type} {elt tg iter : Expr} {own : List (Str × Nat)} {t : TG} (g : XD X G N sc) (i : Nat) {y : Str} {py spos : Pos} (f : α → D) (h : α → D) (l : List α) (dx : α → DE) (tgo : TgOk X scope tg t (own.map (·.2)))
    (hi : SrcV X tg iter δ M (l.map f)) (hl : l.length < 100000) (ht : ∀ x ∈ l, aGt t (f x) (wipeD δ (own.map (·.2))) (dx x))
    (he : ∀ x ∈ l, ∀ M', Ge M M' → ∀ X', XF X' G N (relS scope sc) → X'.A = X.A → aV X' elt (dx x) M' (h x)) (q : A.nx (δ.set i (some (.lst (l.map h)))) M) (okb : blkC N sc scope own = true := by decide +kernel) (hN : N[i]? = some y := by rfl) (hv : sc.names.lookup y = some .local := by rfl)
    (hsw : ∀ env : Env, env.scope = sc → swapsWith (.ListComp elt [⟨tg, iter, [], 0⟩] scope pos) (some (.Name y py)) spos.line env = pure true := by intro env e; cases env; cases e; rfl) (hs : ∀ x, foldedSetIterable iter X.env x = pure x := by intro _; rfl) : aS X (.Assign [.Name y py] (.ListComp elt [⟨tg, iter, [], 0⟩] scope pos) spos) A δ M := as_ofLC g i okb tgo (.inl rfl) (lcV g.toXF f h l dx tgo hi hl ht he q) hN hv hsw hs
theorem as_lcF {α : Type} {elt tg iter c : Expr} {own : List (Str × Nat)} {t : TG} (g : XD X G N sc) (i : Nat) {y : Str} {py spos : Pos} (f : α → D) (h : α → D) (pr : α → Bool) (l : List α) (dx : α → DE) (tgo : TgOk X scope tg t (own.map (·.2)))
    (hi : SrcV X tg iter δ M (l.map f)) (hl : l.length < 100000) (ht : ∀ x ∈ l, aGt t (f x) (wipeD δ (own.map (·.2))) (dx x))
    (hc : ∀ x ∈ l, ∀ M', Ge M M' → ∀ X', XF X' G N (relS scope sc) → X'.A = X.A → aTV X' c (dx x) M' (pr x))
    (he : ∀ x ∈ l, pr x = true → ∀ M', Ge M M' → ∀ X', XF X' G N (relS scope sc) → X'.A = X.A → aV X' elt (dx x) M' (h x)) (q : A.nx (δ.set i (some (.lst ((l.filter pr).map h)))) M) (okb : blkC N sc scope own = true := by decide +kernel) (hN : N[i]? = some y := by rfl) (hv : sc.names.lookup y = some .local := by rfl)
    (hsw : ∀ env : Env, env.scope = sc → swapsWith (.ListComp elt [⟨tg, iter, [c], 0⟩] scope pos) (some (.Name y py)) spos.line env = pure true := by intro env e; cases env; cases e; rfl) (hs : ∀ x, foldedSetIterable iter X.env x = pure x := by intro _; rfl) : aS X (.Assign [.Name y py] (.ListComp elt [⟨tg, iter, [c], 0⟩] scope pos) spos) A δ M := as_ofLC g i okb tgo (.inr ⟨c, rfl⟩) (lcVF g.toXF f h pr l dx tgo hi hl ht hc he q) hN hv hsw hs
/-- the sources of a pure comprehension -/
theorem src_list {tg it : Expr} {ds : List D} (h : aV X it δ M (.lst ds)) : SrcV X tg it δ M ds := fun P q => ai_list (h _ ⟨ds, rfl, q _ fun _ _ => trivial⟩)
theorem src_tup {tg it : Expr} {ds : List D} (h : aV X it δ M (.tup ds)) : SrcV X tg it δ M ds := fun P q => ai_tup (h _ ⟨ds, rfl, q _ fun _ _ => trivial⟩)
theorem src_adr {tg it : Expr} {p : Addr} {ds : List D} (h : aV X it δ M (.adr p)) (hp : M p = some (.lst ds)) : SrcV X tg it δ M ds := fun P q => ai_listM (h _ ⟨p, ds, rfl, hp, q _ fun M' g => g _ _ hp⟩)
theorem src_any {tg it : Expr} {d : D} {ds : List D} (hi : ItemsD M d ds) (h : aV X it δ M d) : SrcV X tg it δ M ds := by
  cases hi with
  | lst => exact src_list h
  | tup => exact src_tup h
  | adr hp => exact src_adr h hp
end
end Ab
/-! The script; the end of a law. -/
namespace Ab
open PySem PySem.Spec PyProof.Rows L2

/-- at a stands the script: it stays as it is -/
def ScrAt (K : PySem.W.Frag) (M : AHp) (a : Addr) (ns : List Int) : Prop := (∃ o, M a = some (.raw (.frz o (.lst (ns.map V.int))))) ∨ ∀ H : Hp, SqL K H a (ns.map V.int)
theorem ScrAt.sq {K : PySem.W.Frag} {M : AHp} {a : Addr} {ns : List Int} {B H : Hp} (h : ScrAt K M a ns) (c : Cf B M H) : SqL K H a (ns.map V.int) := by
  rcases h with ⟨o, e⟩ | q
  · exact .inl (.inr ⟨o, (c.m a _ e).2.1⟩)
  · exact q H
/-- what stood elsewhere than at p still stands -/
def Off (p : Addr) (M M' : AHp) : Prop := ∀ a o, a ≠ p → M a = some o → M' a = some o
theorem Off.refl (p : Addr) (M : AHp) : Off p M M := fun _ _ _ z => z
theorem Off.trans {p : Addr} {M M1 M2 : AHp} (a : Off p M M1) (b : Off p M1 M2) : Off p M M2 := fun x o h z => b x o h (a x o h z)
theorem off_upd {p : Addr} {M : AHp} {o : MO} : Off p M (updM M p o) := fun _ _ h z => by rw [updM_ne h]; exact z
/-- .. a new thing, changed, thrown away -/
theorem Off.new {p q : Addr} {M M' : AHp} {o : MO} (f : Off p M M') (e : M q = none) : Off p M (updM M' q o) := fun a u h z => by rw [updM_ne (neM z e)]; exact f a u h z
theorem Off.del {p q : Addr} {M M' : AHp} (f : Off p M M') (e : M q = none) : Off p M (delM M' q) := fun a u h z => by rw [delM_ne (neM z e)]; exact f a u h z
theorem Off.at {p q : Addr} {M M' : AHp} {o : MO} (f : Off p M M') (e : M q = some o) (ne : q ≠ p) : M' q = some o := f q o ne e
theorem ScrAt.off {K : PySem.W.Frag} {M M' : AHp} {a p : Addr} {ns : List Int} (h : ScrAt K M a ns) (f : Off p M M') (hp : ∀ o, M p ≠ some (.raw o)) : ScrAt K M' a ns := by
  rcases h with ⟨o, e⟩ | q
  · exact .inl ⟨o, f a _ (fun z => by rw [z] at e; exact hp _ e) e⟩
  · exact .inr q
theorem ScrAt.new {K : PySem.W.Frag} {M : AHp} {a p : Addr} {o : MO} {ns : List Int} (h : ScrAt K M a ns) (e : M p = none) : ScrAt K (updM M p o) a ns := by
  rcases h with ⟨u, z⟩ | q
  · exact .inl ⟨u, by rw [updM_ne (neM z e)]; exact z⟩
  · exact .inr q
section
variable {X : Cx} {δ : DE} {M : AHp} {Q : DK} {G : Gx}
theorem p_ixS {a : Addr} {ns : List Int} {i v : Int} (hs : ScrAt X.K M a ns) (h : atI ns i = some v) : pR (rIxL X.K) M (.adr a) (.int i) (.int v) := fun x y B H Q2 ra rb c k => by
  cases ra; cases rb
  refine ⟨a, _, i, .int v, rfl, rfl, hs.sq c, ?_, k _ B H (Same.refl _) (.int _) c⟩
  unfold atI at h ⊢
  rw [List.length_map]
  cases e : ixN ns.length i with
  | none => rw [e] at h; cases h
  | some j =>
    rw [e] at h
    have h : ns[j]? = some v := h
    show (ns.map V.int)[j]? = _
    rw [List.getElem?_map, h]
    rfl
theorem c_lenS {a : Addr} {ns : List Int} (hs : ScrAt X.K M a ns) : pC (rLen X.K) M [.adr a] (.int ns.length) := fun xs B H Q2 rx c k => by
  cases rx with
  | cons r1 r2 =>
    cases r2
    cases r1
    refine ⟨a, _, rfl, .inl (hs.sq c), ?_⟩
    rw [List.length_map]
    exact k _ B H (Same.refl _) (.int _) c
end
/-- a law's promise: True, of each script of at most n ints -/
def spLaw (K : PySem.W.Frag) (n : Nat) : ASp := fun ds M Q _ => ∃ (a : Addr) (ns : List Int), ds = [.adr a] ∧ ScrAt K M a ns ∧ ns.length ≤ n ∧ ∀ M', Q (.bl true) M'
theorem up_law {K : PySem.W.Frag} {n : Nat} : Up (spLaw K n) := ⟨fun f _ ⟨a, ns, h1, h2, h3, q⟩ => ⟨a, ns, h1, h2, h3, fun M' => f _ _ (q M')⟩⟩

theorem law_callG {P : Program} {w : World} {K : PySem.W.Frag} {mg mb : Str → Option Value} {n k : Nat} {fa a : Addr} {fd : FuncData} {x : Str} {s : Shared} {vs : List Value} {ns : List Int}
    (KX : K.In s.heap) (hns : s.heap.Ns mainGlobals mg) (hb : s.heap.Ns builtinsNs mb) (hbb : ∀ y : Str, y ≠ "__name__" → mb y = bootBuiltins y) (hlim : s.heap.NoLimit) (hg : s.gens = #[])
    (ha : s.heap.get? a = some { cls := .type "list", data := .seq vs.toArray }) (hi : IntsAre vs ns) (hl : ns.length ≤ sizeLine) (hn : ns.length ≤ n) (hr : Room k callerA)
    (F : ∀ base : Heap, K.In base → base.Ns mainGlobals mg → FnG ⟨P, w, K, mg, base⟩ CX0 k fa fd [x] (toSp (spLaw K n))) (hbind : ∀ (s : Shared) (u : Value), BindsTo s fd ⟨[u], []⟩ [(x, u)]) :
    codeAny (model P w) callerA (.call (.ref fa) ⟨[.ref a], []⟩) (fun r s' => r = .ok (.ret (.bool true)) ∧ OldK s.heap s'.heap ∧ s'.os = s.os ∧ AllBare s'.gens) s := by
  -- over a heap that tells of the script alone
  have run : ∀ (H : Hp) (M : AHp), Cf (fun _ => none) M H → ScrAt K M a ns → HOk P w H s.heap → (∀ b u, H b = some u → b = a ∧ K.lookup a = none ∧ ∃ o xs, u = .frz o (.lst xs)) →
      codeAny (model P w) callerA (.call (.ref fa) ⟨[.ref a], []⟩) (fun r s' => r = .ok (.ret (.bool true)) ∧ OldK s.heap s'.heap ∧ s'.os = s.os ∧ AllBare s'.gens) s := fun H M c hS hok hH => by
    have bare : ∀ {b : Addr} {o : Obj}, s.heap.get? b = some o → (b = a → K.lookup a = none → False) → (hidT s.heap H).get? b = some o := fun {b o} e ne => hidT_get e (by
      cases q : H b with
      | none => rfl
      | some u => obtain ⟨h1, h2, _⟩ := hH b u q; exact (ne h1 h2).elim)
    have ofNs : ∀ {b : Addr} {m : Str → Option Value}, s.heap.Ns b m → (hidT s.heap H).Ns b m := fun {b m} ⟨o, es, ep, e, d, r⟩ => ⟨o, es, ep, bare e fun z _ => (by
      subst z
      rw [ha] at e
      cases e
      cases d), d, r⟩
    have kb : K.In (hidT s.heap H) := fun b o e => bare (KX b o e) fun z n => by rw [z, n] at e; cases e
    have md : Mod K mg (hidT s.heap H) := ⟨kb, ofNs hns, ⟨mb, ofNs hb, hbb⟩, let ⟨mc, h1, h2⟩ := hlim; ⟨mc, ofNs h1, h2⟩⟩
    have e0 : Env0 P w K mg (hidT s.heap H) callerA [] s H := ⟨rfl, md, fun b o e => of_hidT e, Nat.le_of_eq (hidT_size _ _), trivial, fun b z => absurd (show b ∈ ([] : List Addr) from z) (by simp), hok, .of_eq hg⟩
    have hs : toSp (spLaw K n) [V.ref a] H (fun v _ => v = .bl true) E0 := ⟨fun _ => none, M, [.adr a], .cons (.adr a) .nil, c, a, ns, rfl, hS, hn, fun M' v B' H' _ r _ => by cases r; rfl⟩
    refine codeAny_mono ((F _ kb (ofNs hns)).run callerA [] s H ⟨[.ref a], []⟩ [.ref a] [.ref a] _ _ rfl hr e0 (hbind s (.ref a)) (.cons rfl .nil) hs) fun r s' h => ?_
    match r, h with
    | .error e, h => exact False.elim h
    | .ok .next, h => exact False.elim h
    | .ok .brk, h => exact False.elim h
    | .ok .cont, h => exact False.elim h
    | .ok (.ret u), h =>
      obtain ⟨v, H', os, br, un, hok', r', q⟩ := h
      have q : v = .bl true := q
      subst q
      obtain rfl : u = Value.bool true := r'
      refine ⟨rfl, OldK.of_keep fun b o e => ?_, os, br⟩
      cases q : H b with
      | none => exact un.keep b o e q (fun z => absurd (show b ∈ ([] : List Addr) from z) (by simp)) (by simp)
      | some u =>
        obtain ⟨_, _, ob, xs, rfl⟩ := hH b u q
        have z := un.frzs b ob _ q
        obtain ⟨e1, _⟩ := hok b _ q
        obtain ⟨e2, _⟩ := hok' b _ z
        rw [e] at e1
        cases e1
        exact e2
  have rv := vals_ints hi
  cases hk : K.lookup a with
  | some o =>
    have e := KX a o hk
    rw [ha] at e
    cases e
    refine run (fun _ => none) (fun _ => none) ⟨fun _ _ z => (nomatch z), fun _ _ z => (nomatch z)⟩ (.inr fun H => .inr ⟨_, vs.toArray, _, hk, rfl, rfl, rfl, by rw [List.size_toArray, hi.length]; exact hl, by simpa using rv⟩) (fun b u z => (nomatch z)) fun b u z => (nomatch z)
  | none =>
    refine run (fun b => if b = a then some (.frz { cls := .type "list", data := .seq vs.toArray } (.lst (ns.map V.int))) else none) (fun b => if b = a then some (.raw (.frz { cls := .type "list", data := .seq vs.toArray } (.lst (ns.map V.int)))) else none)
      ⟨fun _ _ z => (nomatch z), fun b u z => ?_⟩ (.inl ⟨_, if_pos rfl⟩) (fun b u z => ?_) fun b u z => ?_
    · by_cases q : b = a
      · rw [if_pos q] at z
        cases z
        exact ⟨rfl, if_pos q, fun x y => (nomatch y)⟩
      · rw [if_neg q] at z; cases z
    · by_cases q : b = a
      · have z := (if_pos q).symm.trans z
        cases z
        subst q
        exact ⟨ha, by rw [List.length_map]; exact hl, vs, _, rv, ha⟩
      · have z := (if_neg q).symm.trans z
        cases z
    · by_cases q : b = a
      · have z := (if_pos q).symm.trans z
        cases z
        exact ⟨q, hk, _, _, rfl⟩
      · have z := (if_neg q).symm.trans z
        cases z
/-- the goal behind the head -/
theorem walkG {l : PySem.W.OpenLaw} {n k : Nat} {q : Program} {loose : List Str} {XP : (Str → Option Value) → Heap → Prop} {YP : World → Heap → Prop} {d : DefRec} {K : Params → PySem.W.Frag} {x : Str}
    (hn : l.most = some n) (hdf : d.params.defaults = []) (hY : ∀ (w : World) (h : Heap), YP w h → (K w.params).In h) (hn2 : n ≤ sizeLine) (hr : Room k callerA)
    (F : ∀ (w : World) (mg : Str → Option Value) (fa : Addr) (h : Heap), (K w.params).In h → h.Ns mainGlobals mg → mg d.name = some (.ref fa) → ∃ fd : FuncData, (∀ (s : Shared) (u : Value), BindsTo s fd ⟨[u], []⟩ [(x, u)]) ∧
      ∀ base : Heap, (K w.params).In base → base.Ns mainGlobals mg → FnG ⟨l.prog, w, K w.params, mg, base⟩ CX0 k fa fd [x] (toSp (spLaw (K w.params) n))) :
    PySem.W.WalkO q loose XP YP l.row.toRowW d [] (fun f vs => PySem.call f vs) := Att.attach_call hn hdf fun w s₀ s₁ mg mb fa o pm cd doc a vs ns G Y ho hd hcd hmg hobj hints hlen hg => by
  have KX := hY w _ Y
  obtain ⟨fd, hb, hF⟩ := F w mg fa _ KX G.T.g hmg
  exact law_callG KX G.T.g G.T.b G.T.builtins G.T.nolimit hg hobj hints (Nat.le_trans hlen hn2) hlen hr hF hb
end Ab
/-! Calls with keywords; instances that change no more; dicts made of lists, sorted dicts. -/
namespace Ab
open PySem PySem.Spec PyProof.Rows L2

/-- n values, then keywords named ks: bound in the order g -/
structure KwB (K : PySem.W.Frag) (fd : FuncData) (ps : List Str) (n : Nat) (ks : List Str) (g : {α : Type} → List α → List α → List α) : Prop where
  to : ∀ (s : Shared) (us ws : List Value), K.In s.heap → us.length = n → ws.length = ks.length → BindsTo s fd ⟨us, ks.zip ws⟩ (ps.zip (g us ws))
  relV : ∀ {vs zs : List V} {us ws : List Value}, Vals vs us → Vals zs ws → Vals (g vs zs) (g us ws)
  relD : ∀ {B : Hp} {vs zs : List V} {ds es : List D}, Reps B vs ds → Reps B zs es → Reps B (g vs zs) (g ds es)
abbrev gApp {α : Type} (a b : List α) : List α := a ++ b
theorem KwB.app {K : PySem.W.Frag} {fd : FuncData} {ps : List Str} {n : Nat} {ks : List Str} (h : ∀ us ws : List Value, us.length = n → ws.length = ks.length → bindArgs fd ⟨us, ks.zip ws⟩ = pure (ps.zip (us ++ ws))) : KwB K fd ps n ks gApp :=
  ⟨fun s us ws _ h1 h2 => .of_eq (h us ws h1 h2), fun r1 r2 => r1.append r2, fun r1 r2 => r1.append r2⟩
structure FnK (G : Gx) (k : Nat) (x : Str) (n : Nat) (ks : List Str) (g : {α : Type} → List α → List α → List α) (a : ASp) : Prop where
  ex : ∃ (f : Addr) (fd : FuncData) (ps : List Str), FnG G CX0 k f fd ps (toSp a) ∧ G.mg x = some (.ref f) ∧ PySem.W.keepIn G.K (.ref f) = true ∧ KwB G.K fd ps n ks g
  up : Up a
structure MtK (G : Gx) (k : Nat) (C : Addr) (m : Str) (n : Nat) (ks : List Str) (g : {α : Type} → List α → List α → List α) (a : ASp) : Prop where
  ex : ∃ (f : Addr) (fd : FuncData) (ps : List Str), FnG G CX0 k f fd ps (toSp a) ∧ Meth G.K C m f ∧ KwB G.K fd ps (n + 1) ks g
  cl : Cls G.K C
  up : Up a
structure CnK (G : Gx) (k : Nat) (x : Str) (C : Addr) (n : Nat) (ks : List Str) (g : {α : Type} → List α → List α → List α) (a : ASp) : Prop where
  ex : ∃ (f : Addr) (fd : FuncData) (ps : List Str), FnG G CX0 k f fd ps (toSp a) ∧ Mk G.K C f ∧ KwB G.K fd ps (n + 1) ks g
  mg : G.mg x = some (.ref C)
  up : Up a
theorem FnK.mono {G : Gx} {j k : Nat} {x : Str} {n : Nat} {ks : List Str} {g : {α : Type} → List α → List α → List α} {a : ASp} (F : FnK G j x n ks g a) (h : j ≤ k) : FnK G k x n ks g a := let ⟨f, fd, ps, F1, r⟩ := F.ex; ⟨⟨f, fd, ps, F1.mono h, r⟩, F.up⟩
theorem MtK.mono {G : Gx} {j k : Nat} {C : Addr} {x : Str} {n : Nat} {ks : List Str} {g : {α : Type} → List α → List α → List α} {a : ASp} (F : MtK G j C x n ks g a) (h : j ≤ k) : MtK G k C x n ks g a := let ⟨f, fd, ps, F1, r⟩ := F.ex; ⟨⟨f, fd, ps, F1.mono h, r⟩, F.cl, F.up⟩
theorem CnK.mono {G : Gx} {j k : Nat} {C : Addr} {x : Str} {n : Nat} {ks : List Str} {g : {α : Type} → List α → List α → List α} {a : ASp} (F : CnK G j x C n ks g a) (h : j ≤ k) : CnK G k x C n ks g a := let ⟨f, fd, ps, F1, r⟩ := F.ex; ⟨⟨f, fd, ps, F1.mono h, r⟩, F.mg, F.up⟩

section
variable {X : Cx} {e a b o : Expr} {es : List Expr} {kws : List Keyword} {δ : DE} {M : AHp} {Q : DK} {σ : L2.St} {H B : Hp} {A : AEnds} {G : Gx} {N : List Str} {sc : Scope} {pos p apos kpos : Pos} {x m : Str} {k n : Nat} {ks : List Str} {sp : ASp} {C : Addr} {go : {α : Type} → List α → List α → List α}
/-! ### the keywords' values -/
def wK (X : Cx) (kws : List Keyword) : TA := fun σ H Q => ∀ (pos : Pos) (pins : List (Addr × Obj)) (s : Shared), Inv X pins σ H s → wpAny (model X.prog X.w) X.A (evalAll ((backToKw pos (keywordEach kws X.env)).map (·.2))) (AP X pins σ Q) X.xe s
theorem pk_w : PK X kws (wK X kws) := ⟨fun pos pins s σ H Q I h => h pos pins s I⟩
theorem wK_of {t : TA} {Q : List V → Hp → Prop} (h : PK X kws t) (q : t σ H Q) : wK X kws σ H Q := fun pos pins s I => h.run pos pins s σ H Q I q
theorem wK.imp {Q Q' : List V → Hp → Prop} (h : wK X kws σ H Q) (k : ∀ v H', Q v H' → Q' v H') : wK X kws σ H Q' := fun pos pins s I => thn (h pos pins s I) fun u s' ⟨v, H', I', r, q⟩ => ⟨v, H', I', r, k _ _ q⟩
def aK (X : Cx) (kws : List Keyword) (δ : DE) (M : AHp) (Q : List D → AHp → Prop) : Prop := ∀ (σ : L2.St) (H B : Hp), RepS B σ δ → Cf B M H → wK X kws σ H fun vs H' => ∃ ds M' B', Same B B' ∧ Reps B' vs ds ∧ Cf B' M' H' ∧ Q ds M'
theorem ak_nil {Q : List D → AHp → Prop} (q : Q [] M) : aK X [] δ M Q := fun σ H B rs c => wK_of pk_nil ⟨[], M, B, Same.refl _, .nil, c, q⟩
theorem ak_cons {nm : Option Str} {Q : List D → AHp → Prop} (h : aE X e δ M fun d M1 => aK X kws δ M1 fun ds M2 => Q (d :: ds) M2) : aK X (⟨nm, e, kpos⟩ :: kws) δ M Q := fun σ H B rs c =>
  wK_of (pk_cons pe_w pk_w) (h.run rs c fun x d M1 B1 H1 s1 r1 c1 q1 => wK.imp (q1 _ H1 B1 (rs.mono s1) c1) fun xs H2 ⟨ds, M2, B2, s2, r2, c2, q2⟩ => ⟨_, M2, B2, s1.trans s2, .cons (r1.mono s2) r2, c2, q2⟩)

/-! ### the calls -/
theorem run_gK {f : Addr} {fd : FuncData} {ps : List Str} {pins : List (Addr × Obj)} {s : Shared} {us ws : List Value} {vs zs : List V} {ds es : List D} {M : AHp} {Q2 : VK} (F : FnG (gxOf X) CX0 k f fd ps (toSp sp)) (up : Up sp) (gd : X.A.guards = some []) (hr : Room k X.A) (hb : KwB X.K fd ps n ks go)
    (I : Inv X pins σ H s) (r : Vals vs us) (rz : Vals zs ws) (rd : Reps B vs ds) (rf : Reps B zs es) (c : Cf B M H) (l1 : us.length = n) (l2 : es.length = ks.length) (h : sp (go ds es) M Q noX)
    (kk : ∀ v d M' B' H', Same B B' → Rep B' v d → Cf B' M' H' → Q d M' → Q2 v H') : wpAny (model X.prog X.w) X.A (call (.ref f) us (ks.zip ws)) (EP X pins σ Q2) X.xe s := by
  have hs : toSp sp (go vs zs) H Q2 E0 := toSp_of (hb.relD rd rf) c h up kk
  refine wpAny_call (codeAny_mono (F.run X.A X.stack s H ⟨us, ks.zip ws⟩ (go us ws) (go vs zs) Q2 E0 gd hr I.env0 (hb.to s us ws I.kIn l1 (by rw [← rz.length, rf.length]; exact l2)) (hb.relV r rz) hs) fun res s' hq => ?_)
  match res, hq with
  | .error er, hq => exact hq.elim
  | .ok (.ret u), hq => exact I.after hq
  | .ok .next, hq => exact False.elim hq
  | .ok .brk, hq => exact False.elim hq
  | .ok .cont, hq => exact False.elim hq
/-- f(e, .., k = v, ..) -/
theorem ae_callK (g : XF X G N sc) (F : FnK G k x n ks go sp) (hr : Room k X.A) (h : aA X (e :: es) δ M fun ds M1 => aK X kws δ M1 fun zs M2 => ds.length = n ∧ zs.length = ks.length ∧ sp (go ds zs) M2 Q noX) (hg : sc.names.lookup x = some .globalImplicit := by rfl) (hdb : (x == ("__debug__" : Str)) = false := by decide)
    (hall : (backToKw pos (keywordEach kws X.env)).all (·.1.isSome) = true := by rfl) (hks : (backToKw pos (keywordEach kws X.env)).filterMap (·.1) = ks := by rfl)
    (he : starEach (e :: es) X.env = (false, eval e X.env) :: starEach es X.env := by rfl) (hpl : ((backTo pos (starEach (e :: es) X.env)).any (·.1) || (backToKw pos (keywordEach kws X.env)).any (·.1.isNone)) = false := by rfl) : aE X (.Call (.Name x p) (e :: es) kws pos) δ M Q := fun σ H B rs c pins s I => by
  have gl := g.gl hg
  have gd := g.gd
  obtain ⟨rfl, _⟩ := g
  obtain ⟨f, fd, ps, F1, hm, hk, hb⟩ := F.ex
  refine wpAny_Call_Name_kw (ld_glob I gl hm ?_ hdb)
  refine PySem.W.callWith_KW (h₀ := X.base) I.ok.mod.kin hk hall (thn (h σ H B rs c pos pins s I) fun us s1 ⟨vs, H1, I1, r, ds, M1, B1, sm1, r1, c1, q⟩ => ?_) hpl he
  refine thn (q σ H1 B1 (rs.mono sm1) c1 pos pins s1 I1) fun ws s2 ⟨zs, H2, I2, rz, es2, M2, B2, sm2, r2, c2, l1, l2, q2⟩ => ⟨I2.kIn, ?_⟩
  rw [hks]
  exact run_gK F1 F.up gd hr hb I2 r rz (r1.mono sm2) r2 c2 (by show us.length = n; rw [← r.length, r1.length]; exact l1) l2 q2 fun v d M' B' H' s' r' c' q' => ⟨d, M', B', (sm1.trans sm2).trans s', r', c', q'⟩
theorem ae_callK0 (g : XF X G N sc) (F : FnK G k x 0 ks go sp) (hr : Room k X.A) (h : aK X kws δ M fun zs M2 => zs.length = ks.length ∧ sp (go [] zs) M2 Q noX) (hg : sc.names.lookup x = some .globalImplicit := by rfl) (hdb : (x == ("__debug__" : Str)) = false := by decide)
    (hall : (backToKw pos (keywordEach kws X.env)).all (·.1.isSome) = true := by rfl) (hks : (backToKw pos (keywordEach kws X.env)).filterMap (·.1) = ks := by rfl)
    (hpl : ((backTo pos (starEach [] X.env)).any (·.1) || (backToKw pos (keywordEach kws X.env)).any (·.1.isNone)) = false := by rfl) : aE X (.Call (.Name x p) [] kws pos) δ M Q := fun σ H B rs c pins s I => by
  have gl := g.gl hg
  have gd := g.gd
  obtain ⟨rfl, _⟩ := g
  obtain ⟨f, fd, ps, F1, hm, hk, hb⟩ := F.ex
  refine wpAny_Call_Name_kw (ld_glob I gl hm ?_ hdb)
  refine PySem.W.callWith_KW0 (h₀ := X.base) I.ok.mod.kin hk hall (thn (h σ H B rs c pos pins s I) fun ws s2 ⟨zs, H2, I2, rz, es2, M2, B2, sm2, r2, c2, l2, q2⟩ => ⟨I2.kIn, ?_⟩) hpl
  rw [hks]
  exact run_gK (vs := []) (us := []) (ds := []) F1 F.up gd hr hb I2 .nil rz .nil r2 c2 rfl l2 q2 fun v d M' B' H' s' r' c' q' => ⟨d, M', B', sm2.trans s', r', c', q'⟩
/-- o.m(k = v, ..), o.m(e, .., k = v, ..) -/
theorem ae_methK0 {pl : Sem Bool} (g : XF X G N sc) (F : MtK G k C m 0 ks go sp) (hr : Room k X.A) (h : aE X o δ M fun d M1 => ∃ fs, IsI M1 C d fs ∧ fs.lookup m = none ∧ aK X kws δ M1 fun zs M2 => zs.length = ks.length ∧ sp (go [d] zs) M2 Q noX)
    (hall : (backToKw pos (keywordEach kws X.env)).all (·.1.isSome) = true := by rfl) (hks : (backToKw pos (keywordEach kws X.env)).filterMap (·.1) = ks := by rfl)
    (hpl : ((backTo pos (starEach [] X.env)).any (·.1) || (backToKw pos (keywordEach kws X.env)).any (·.1.isNone)) = false := by rfl)
    (ht : eval (.Call (.Attribute o m apos) [] kws pos) X.env = (do
      let ov ← eval o X.env
      standAt apos.atName
      let (fn, first) ← holding [ov] (getMethod ov m pl)
      callWith pos fn first (backTo pos (starEach [] X.env)) (backToKw pos (keywordEach kws X.env))) := by rfl) : aE X (.Call (.Attribute o m apos) [] kws pos) δ M Q := fun σ H B rs c pins s I => by
  have gd := g.gd
  obtain ⟨rfl, _⟩ := g
  obtain ⟨f, fd, ps, F1, hm, hb⟩ := F.ex
  refine PySem.W.methodCall_KW (pl := pl) (thn (h σ H B rs c pins s I) fun u s1 ⟨v, H1, I1, rv, d, M1, B1, sm, r1, c1, fs, hi, hl, q⟩ => ?_) ht
  obtain ⟨a, dx, ws, rfl, ha, hf⟩ := hi.ins r1 c1
  obtain rfl : u = Value.ref a := rv
  refine getmeth_ok I1 ha F.cl hm (hf.none hl) ?_
  refine PySem.W.callWith_KW0 (first := [.ref a]) (h₀ := X.base) I.ok.mod.kin hm.kp hall (thn (q σ H1 B1 (rs.mono sm) c1 pos pins s1 I1) fun ws s2 ⟨zs, H2, I2, rz, es2, M2, B2, sm2, r2, c2, l2, q2⟩ => ⟨I2.kIn, ?_⟩) hpl
  rw [hks]
  exact run_gK (vs := [.ref a]) (us := [.ref a]) F1 F.up gd hr hb I2 (.cons rfl .nil) rz (.cons (r1.mono sm2) .nil) r2 c2 rfl l2 q2 fun v d M' B' H' s' r' c' q' => ⟨d, M', B', (sm.trans sm2).trans s', r', c', q'⟩
theorem ae_methK {pl : Sem Bool} (g : XF X G N sc) (F : MtK G k C m n ks go sp) (hr : Room k X.A) (h : aE X o δ M fun d M1 => ∃ fs, IsI M1 C d fs ∧ fs.lookup m = none ∧ aA X (e :: es) δ M1 fun ds M2 => aK X kws δ M2 fun zs M3 => ds.length = n ∧ zs.length = ks.length ∧ sp (go (d :: ds) zs) M3 Q noX)
    (hall : (backToKw pos (keywordEach kws X.env)).all (·.1.isSome) = true := by rfl) (hks : (backToKw pos (keywordEach kws X.env)).filterMap (·.1) = ks := by rfl)
    (he : starEach (e :: es) X.env = (false, eval e X.env) :: starEach es X.env := by rfl) (hpl : ((backTo pos (starEach (e :: es) X.env)).any (·.1) || (backToKw pos (keywordEach kws X.env)).any (·.1.isNone)) = false := by rfl)
    (ht : eval (.Call (.Attribute o m apos) (e :: es) kws pos) X.env = (do
      let ov ← eval o X.env
      standAt apos.atName
      let (fn, first) ← holding [ov] (getMethod ov m pl)
      callWith pos fn first (backTo pos (starEach (e :: es) X.env)) (backToKw pos (keywordEach kws X.env))) := by rfl) : aE X (.Call (.Attribute o m apos) (e :: es) kws pos) δ M Q := fun σ H B rs c pins s I => by
  have gd := g.gd
  obtain ⟨rfl, _⟩ := g
  obtain ⟨f, fd, ps, F1, hm, hb⟩ := F.ex
  refine PySem.W.methodCall_KW (pl := pl) (thn (h σ H B rs c pins s I) fun u s1 ⟨v, H1, I1, rv, d, M1, B1, sm, r1, c1, fs, hi, hl, q⟩ => ?_) ht
  obtain ⟨a, dx, ws, rfl, ha, hf⟩ := hi.ins r1 c1
  obtain rfl : u = Value.ref a := rv
  refine getmeth_ok I1 ha F.cl hm (hf.none hl) ?_
  refine PySem.W.callWith_KW (first := [.ref a]) (h₀ := X.base) I.ok.mod.kin hm.kp hall (thn (q σ H1 B1 (rs.mono sm) c1 pos pins s1 I1) fun us s2 ⟨vs, H2, I2, r, ds, M2, B2, sm2, r2, c2, q2⟩ => ?_) hpl he
  refine thn (q2 σ H2 B2 ((rs.mono sm).mono sm2) c2 pos pins s2 I2) fun ws s3 ⟨zs, H3, I3, rz, es3, M3, B3, sm3, r3, c3, l1, l2, q3⟩ => ⟨I3.kIn, ?_⟩
  rw [hks]
  exact run_gK (vs := .ref a :: vs) (us := .ref a :: us) F1 F.up gd hr hb I3 (.cons rfl r) rz (.cons ((r1.mono sm2).mono sm3) (r2.mono sm3)) r3 c3 (by rw [List.length_cons, ← r.length, r2.length, l1]) l2 q3 fun v d M' B' H' s' r' c' q' => ⟨d, M', B', ((sm.trans sm2).trans sm3).trans s', r', c', q'⟩
/-- C(k = v, ..) -/
theorem run_mkK {pins : List (Addr × Obj)} {s : Shared} {us ws : List Value} {vs zs : List V} {ds es : List D} {M : AHp} (F : CnK (gxOf X) k x C n ks go sp) (gd : X.A.guards = some []) (hr : Room (k + 1) X.A) (I : Inv X pins σ H s) (r : Vals vs us) (rz : Vals zs ws) (rd : Reps B vs ds) (rf : Reps B zs es) (c : Cf B M H) (l1 : us.length = n) (l2 : es.length = ks.length)
    (h : ∀ p, M p = none → sp (go (.adr p :: ds) es) (updM M p (.ins C [])) (fun d M' => d = .non ∧ Q (.adr p) M') noX) : wpAny (model X.prog X.w) X.A (call (.ref C) us (ks.zip ws)) (EP X pins σ fun v H' => ∃ d M' B', Same B B' ∧ Rep B' v d ∧ Cf B' M' H' ∧ Q d M') X.xe s := by
  obtain ⟨f, fd, ps, F1, hM, hb⟩ := F.ex
  have fx : H (s.heap.objs.size + 1) = none := I.hok.fresh (Nat.le_succ _)
  have fd0 : H s.heap.objs.size = none := I.hok.fresh (Nat.le_refl _)
  have ne : s.heap.objs.size + 1 ≠ s.heap.objs.size := Nat.succ_ne_self _
  have I2 := Inv.made (C := C) I
  have cM : Cf B (updM M (s.heap.objs.size + 1) (.ins C [])) (upd (upd H s.heap.objs.size (.own (s.heap.objs.size + 1))) (s.heap.objs.size + 1) (.ins C s.heap.objs.size [])) := by
    have c0 : Cf B M (upd H s.heap.objs.size (.own (s.heap.objs.size + 1))) := ⟨c.ex.trans (same_upd fd0), fun q u z => by
      obtain ⟨b, mr⟩ := c.m q u z
      exact ⟨b, mr.grow (Same.refl _) (same_upd fd0) fun a w z => .inl z⟩⟩
    refine c0.newM (.ins C []) (by rw [upd_ne ne]; exact fx) ⟨s.heap.objs.size, [], upd_same, by rw [upd_ne (Ne.symm ne), upd_same], c.noneB fd0, .nil⟩
  have rr : Reps B (go (V.ref (s.heap.objs.size + 1) :: vs) zs) (go (.adr (s.heap.objs.size + 1) :: ds) es) := hb.relD (.cons (.adr _) rd) rf
  have hs : toSp sp (go (V.ref (s.heap.objs.size + 1) :: vs) zs) (upd (upd H s.heap.objs.size (.own (s.heap.objs.size + 1))) (s.heap.objs.size + 1) (.ins C s.heap.objs.size [])) (fun v H' => v = .non ∧ ∃ d M' B', Same B B' ∧ Rep B' (.ref (s.heap.objs.size + 1)) d ∧ Cf B' M' H' ∧ Q d M') E0 :=
    toSp_of rr cM (h _ (c.none fx)) F.up fun v d M' B' H' s r c' q => by
      obtain ⟨rfl, q⟩ := q
      cases r
      exact ⟨rfl, _, M', B', s, .adr _, c', q⟩
  have bd := hb.to _ (Value.ref (s.heap.objs.size + 1) :: us) ws I2.kIn (by rw [List.length_cons, l1]) (by rw [← rz.length, rf.length]; exact l2)
  refine wpAny_call (make_map (f := f) I.kIn hM.makes hM.init (beq_iff_eq.mp hM.fn) (codeAny_mono (F1.run _ X.stack _ _ ⟨Value.ref (s.heap.objs.size + 1) :: us, ks.zip ws⟩ (go (Value.ref (s.heap.objs.size + 1) :: us) ws) (go (V.ref (s.heap.objs.size + 1) :: vs) zs) _ E0 (by exact gd) (hr.make C us (ks.zip ws)) (I2.env0.make C us (ks.zip ws)) bd (hb.relV (.cons rfl r) rz) hs) fun res s' hq => ?_))
  match res, hq with
  | .error er, hq => exact hq.elim
  | .ok (.ret u), hq =>
    obtain ⟨v, H', I3, rv, ev, q3⟩ := I2.after hq
    subst ev
    exact ⟨rv, ⟨V.ref (s.heap.objs.size + 1), H', I3, rfl, q3⟩⟩
  | .ok .next, hq => exact False.elim hq
  | .ok .brk, hq => exact False.elim hq
  | .ok .cont, hq => exact False.elim hq
theorem ae_makeK0 (g : XF X G N sc) (F : CnK G k x C 0 ks go sp) (hr : Room (k + 1) X.A) (h : aK X kws δ M fun zs M1 => zs.length = ks.length ∧ ∀ p, M1 p = none → sp (go [.adr p] zs) (updM M1 p (.ins C [])) (fun d M' => d = .non ∧ Q (.adr p) M') noX) (hg : sc.names.lookup x = some .globalImplicit := by rfl) (hdb : (x == ("__debug__" : Str)) = false := by decide)
    (hall : (backToKw pos (keywordEach kws X.env)).all (·.1.isSome) = true := by rfl) (hks : (backToKw pos (keywordEach kws X.env)).filterMap (·.1) = ks := by rfl)
    (hpl : ((backTo pos (starEach [] X.env)).any (·.1) || (backToKw pos (keywordEach kws X.env)).any (·.1.isNone)) = false := by rfl) : aE X (.Call (.Name x p) [] kws pos) δ M Q := fun σ H B rs c pins s I => by
  have gl := g.gl hg
  have gd := g.gd
  obtain ⟨rfl, _⟩ := g
  obtain ⟨f, fd, ps, F1, hM, hb⟩ := F.ex
  refine wpAny_Call_Name_kw (ld_glob I gl F.mg ?_ hdb)
  refine PySem.W.callWith_KW0 (h₀ := X.base) I.ok.mod.kin hM.kp hall (thn (h σ H B rs c pos pins s I) fun ws s2 ⟨zs, H2, I2, rz, es2, M2, B2, sm2, r2, c2, l2, q2⟩ => ⟨I2.kIn, ?_⟩) hpl
  rw [hks]
  refine thn (run_mkK (Q := Q) (us := []) (vs := []) (ds := []) F gd hr I2 .nil rz .nil r2 c2 rfl l2 q2) fun u s2 ⟨v, H2, I2, rv, d, M2, B2, sm3, r2, c2, q2⟩ => ⟨v, H2, I2, rv, d, M2, B2, sm2.trans sm3, r2, c2, q2⟩
/-- an instance that changes no more -/
theorem ae_frzI (h : aE X e δ M fun d M' => ∃ p fs, d = .adr p ∧ M' p = some (.ins C fs) ∧ Q (.obj C fs) (delM M' p)) : aE X e δ M Q := fun σ H B rs c => (h σ H B rs c).imp fun v H' ⟨d, M', B', s, r, c', p, fs, e, hp, q⟩ => by
  subst e
  cases r
  obtain ⟨B2, s2, c2, r2⟩ := c'.freezeI hp
  exact ⟨_, _, B2, s.trans s2, r2, c2, q⟩

/-! ### dict(xs) of pairs, sorted(d) -/
abbrev rDictP (K : PySem.W.Frag) : List V → Hp → VK → Prop := fun xs H Q => ∃ (a : Addr) (ps : List Addr) (kvs : List (Key × V)), xs = [.ref a] ∧ SqL K H a (ps.map V.ref) ∧ Paired (fun p kv => SqT K H p [kV kv.1, kv.2]) ps kvs ∧ ∀ p, H p = none → Q (.ref p) (upd H p (.dK (mergeK [] kvs)))
def mergeD (kvs : List (Key × D)) (more : List (Key × D)) : List (Key × D) := more.foldl (fun acc kv => putKD acc kv.1 kv.2) kvs
theorem Kreps.merge {B : Hp} : ∀ {more : List (Key × V)} {md : List (Key × D)} {ws : List (Key × V)} {wd : List (Key × D)}, Kreps B more md → Kreps B ws wd → Kreps B (mergeK ws more) (mergeD wd md)
  | _, _, _, _, .nil, h => h
  | _, _, ws, wd, .cons (k := k) (v := v) (d := d) (vs := vs) (ds := ds) r t, h => by
    show Kreps B (mergeK (putK ws k v) vs) (mergeD (putKD wd k d) ds)
    exact Kreps.merge t (h.put r)
/-- the pairs of a list of pairs -/
theorem reps_pairs {K : PySem.W.Frag} {B H : Hp} (e : Same B H) : ∀ {kvs : List (Key × D)} {vs : List V}, Reps B vs (kvs.map fun kv => .tup [dK kv.1, kv.2]) → ∃ (ps : List Addr) (ws : List (Key × V)), vs = ps.map V.ref ∧ Kreps B ws kvs ∧ Paired (fun p kv => SqT K H p [kV kv.1, kv.2]) ps ws
  | [], _, h => by
    cases h
    exact ⟨[], [], rfl, .nil, .nil⟩
  | (k, d) :: r, _, h => by
    cases h with
    | cons h1 h2 =>
      obtain ⟨ps, ws, e1, e2, e3⟩ := reps_pairs e h2
      cases h1 with
      | @tup a xs ds g1 g2 =>
        cases g2 with
        | cons q1 q2 =>
          cases q2 with
          | @cons v _ _ _ q2 q3 =>
            cases q3
            have z := q1.key
            subst z
            exact ⟨a :: ps, (k, v) :: ws, by rw [e1]; rfl, .cons q2 e2, .cons (.inl (.inl (e _ _ g1))) e3⟩
theorem a_dict {d : D} {kvs : List (Key × D)} (hi : ListD M d (kvs.map fun kv => .tup [dK kv.1, kv.2])) (q : ∀ p, M p = none → Q (.adr p) (updM M p (.dK (mergeD [] kvs)))) : aC (rDictP X.K) [d] M Q := fun xs B H Q2 rx c kk => by
  cases rx with
  | cons r1 r2 =>
    cases r2
    obtain ⟨a, ys, rfl, hs, hr⟩ := hi.at_ r1 c
    obtain ⟨ps, ws, rfl, h2, h3⟩ := reps_pairs (K := X.K) c.ex hr
    refine ⟨a, ps, ws, rfl, .inl (.inl hs), h3, fun p hp => ?_⟩
    exact kk _ _ _ _ _ (Same.refl _) (.adr p) (c.newM (.dK (mergeD [] kvs)) hp ⟨_, upd_same, Kreps.merge h2 .nil⟩) (q p (c.none hp))
abbrev rSortD : List V → Hp → VK → Prop := fun xs H Q => ∃ (a : Addr) (kvs : List (Key × V)) (ks : List Int), xs = [.ref a] ∧ Rd H a (.dK kvs) ∧ kvs.map (·.1) = ks.map Sum.inl ∧ ks.length < 64 ∧
    ∀ (ys : List Int) (p : Addr), ys.Perm ks → ys.Pairwise (· ≤ ·) → H p = none → Q (.ref p) (upd H p (.lst (ys.map V.int)))
theorem Kreps.keys {B : Hp} : ∀ {ws : List (Key × V)} {kvs : List (Key × D)}, Kreps B ws kvs → ws.map (·.1) = kvs.map (·.1)
  | _, _, .nil => rfl
  | _, _, .cons _ t => by rw [List.map_cons, List.map_cons, Kreps.keys t]
theorem c_sortedD {p : Addr} {kvs : List (Key × D)} {ks : List Int} (hp : M p = some (.dK kvs)) (hk : kvs.map (·.1) = ks.map Sum.inl) (hl : ks.length < 64) : pC rSortD M [.adr p] (.lst ((srtI ks).map D.int)) := fun xs B H Q2 rx c kk => by
  cases rx with
  | cons r1 r2 =>
    cases r2
    cases r1
    obtain ⟨_, ws, h1, h2⟩ := c.m p _ hp
    refine ⟨p, ws, ks, rfl, .inl h1, by rw [h2.keys]; exact hk, hl, fun ys q g1 g2 g3 => ?_⟩
    obtain ⟨s2, c2⟩ := c.newI (.lst (ys.map V.int)) g3
    have e : ys = srtI ks := asc_uniq (k := id) (g1.trans (srtBy_perm id ks).symm) g2 (srtBy_srt id ks) fun _ _ _ _ q => q
    rw [e] at s2 c2 ⊢
    exact kk _ _ _ s2 (.lst upd_same (reps_of_ints _)) c2
end
end Ab
/-! Where draws come from; promises of functions that draw. -/
namespace Ab
open PySem PySem.Spec PyProof.Rows L2

def PurseAt (M : AHp) (p : Addr) (n : Int) : Prop := ∃ a b c : Int, M p = some (.lst [.int a, .int b, .int c]) ∧ 0 ≤ a ∧ 0 ≤ b ∧ b < 1000000000000000000000007 ∧ 0 ≤ c ∧ c ≤ n
theorem PurseAt.mono {M : AHp} {p : Addr} {n m : Int} (h : PurseAt M p n) (l : n ≤ m) : PurseAt M p m := by
  obtain ⟨a, b, c, e, h1, h2, h3, h4, h5⟩ := h
  exact ⟨a, b, c, e, h1, h2, h3, h4, by omega⟩
theorem PurseAt.nn {M : AHp} {p : Addr} {n : Int} (h : PurseAt M p n) : 0 ≤ n := by
  obtain ⟨a, b, c, e, h1, h2, h3, h4, h5⟩ := h
  omega
theorem PurseAt.some {M : AHp} {p : Addr} {n : Int} (h : PurseAt M p n) : ∃ ds, M p = .some (.lst ds) := by
  obtain ⟨a, b, c, e, _⟩ := h
  exact ⟨_, e⟩
theorem PurseAt.nraw {M : AHp} {p : Addr} {n : Int} (h : PurseAt M p n) : ∀ o, M p ≠ .some (.raw o) := fun o z => by
  obtain ⟨ds, h⟩ := h.some
  rw [h] at z; cases z
/-- a purse does not care for other places -/
theorem PurseAt.off {M M' : AHp} {p q : Addr} {n : Int} (h : PurseAt M p n) (f : Off q M M') (ne : p ≠ q) : PurseAt M' p n := by
  obtain ⟨a, b, c, e, r⟩ := h
  exact ⟨a, b, c, f p _ ne e, r⟩
theorem PurseAt.upd {M : AHp} {p q : Addr} {n : Int} {o : MO} (h : PurseAt M p n) (ne : p ≠ q) : PurseAt (updM M q o) p n := h.off off_upd ne
theorem PurseAt.del {M : AHp} {p q : Addr} {n : Int} (h : PurseAt M p n) (ne : p ≠ q) : PurseAt (delM M q) p n := by
  obtain ⟨a, b, c, e, r⟩ := h
  exact ⟨a, b, c, by rw [delM_ne ne]; exact e, r⟩
theorem PurseAt.ne {M : AHp} {p q : Addr} {n : Int} (h : PurseAt M p n) (e : M q = none) : p ≠ q := by
  obtain ⟨ds, h⟩ := h.some
  exact neM h e
theorem PurseAt.new {M : AHp} {p q : Addr} {n : Int} {o : MO} (h : PurseAt M p n) (e : M q = none) : PurseAt (updM M q o) p n := h.upd (h.ne e)
/-- a thing that is new there, where M' stands -/
theorem Off.add {p q : Addr} {M M' : AHp} {o : MO} (f : Off p M M') (e : M' q = none) : Off p M (updM M' q o) := fun a u h z => by
  have w := f a u h z
  rw [updM_ne (neM w e)]
  exact w
theorem Off.free {p q : Addr} {M M' : AHp} {n : Int} (f : Off p M M') (e : M' q = none) (hp : PurseAt M' p n) : M q = none := by
  cases z : M q with
  | none => rfl
  | some o =>
    have w := f q o (fun y => (hp.ne e) y.symm) z
    rw [e] at w; cases w
/-- a function that draws from its first argument, at most W times; S: what it promises of the others and the answer -/
def spDraw (W : Int) (S : List D → (D → Prop) → Prop) : ASp := fun ds M Q _ => ∃ (p : Addr) (n : Int) (rest : List D), ds = .adr p :: rest ∧ PurseAt M p n ∧ n + W < 18446744073709551616 ∧ S rest fun d => ∀ M', PurseAt M' p (n + W) → Off p M M' → Q d M'
structure MonS (S : List D → (D → Prop) → Prop) : Prop where
  mon : ∀ {r : List D} {k k' : D → Prop}, (∀ d, k d → k' d) → S r k → S r k'
theorem up_draw {W : Int} {S : List D → (D → Prop) → Prop} (m : MonS S) : Up (spDraw W S) := ⟨fun f _ ⟨p, n, rest, h1, h2, h3, h4⟩ => ⟨p, n, rest, h1, h2, h3, m.mon (fun d q M' z1 z2 => f _ _ (q M' z1 z2)) h4⟩⟩
/-- a function that draws nothing and changes nothing -/
def spPure (S : List D → AHp → (D → Prop) → Prop) : ASp := fun ds M Q _ => S ds M fun d => Q d M
structure MonP (S : List D → AHp → (D → Prop) → Prop) : Prop where
  mon : ∀ {r : List D} {M : AHp} {k k' : D → Prop}, (∀ d, k d → k' d) → S r M k → S r M k'
theorem up_pure {S : List D → AHp → (D → Prop) → Prop} (m : MonP S) : Up (spPure S) := ⟨fun f _ h => m.mon (fun d q => f _ _ q) h⟩
def SCoin : List D → (D → Prop) → Prop := fun rest k => ∃ m : Int, rest = [.int m] ∧ 1 ≤ m ∧ m < 1073741824 ∧ ∀ r : Int, 0 ≤ r → r < m → k (.int r)
theorem mon_coin : MonS SCoin := ⟨fun f ⟨m, h1, h2, h3, h4⟩ => ⟨m, h1, h2, h3, fun r a b => f _ (h4 r a b)⟩⟩
def spPurse (K : PySem.W.Frag) : ASp := fun ds M Q _ => ∃ (a : Addr) (ns : List Int) (i : Int), ds = [.adr a, .int i] ∧ ScrAt K M a ns ∧ ns.length < 1000 ∧ 0 ≤ i ∧ i < 1000000 ∧ ∀ p M', M p = none → PurseAt M' p 0 → Off p M M' → Q (.adr p) M'
theorem up_purse {K : PySem.W.Frag} : Up (spPurse K) := ⟨fun f _ ⟨a, ns, i, h1, h2, h3, h4, h5, q⟩ => ⟨a, ns, i, h1, h2, h3, h4, h5, fun p M' b c d => f _ _ (q p M' b c d)⟩⟩
/-- what a law asks of a purse: True -/
def spRight (W : Int) : ASp := spDraw W fun rest k => rest = [] ∧ k (.bl true)
theorem up_right {W : Int} : Up (spRight W) := up_draw ⟨fun f ⟨a, b⟩ => ⟨a, f _ b⟩⟩
section
variable {X : Cx} {ea e : Expr} {δ : DE} {M : AHp} {Q : DK} {G : Gx} {N : List Str} {sc : Scope} {pos pp : Pos} {k : Nat}
/-- _law_coin(purse, m) -/
theorem ae_coin (g : XF X G N sc) (F : Fn G k "_law_coin" (spDraw 1 SCoin)) (hr : Room k X.A) {p : Addr} {n m : Int} (ha : aV X ea δ M (.adr p)) (he : aV X e δ M (.int m)) (hp : PurseAt M p n) (hm : 1 ≤ m ∧ m < 1073741824) (hn : n + 1 < 18446744073709551616)
    (q : ∀ (r : Int) (M' : AHp), 0 ≤ r → r < m → PurseAt M' p (n + 1) → Off p M M' → Q (.int r) M') (hg : sc.names.lookup ("_law_coin" : Str) = some .globalImplicit := by rfl)
    (hs : starEach (ea :: [e]) X.env = (false, eval ea X.env) :: starEach [e] X.env := by rfl) (hs2 : starEach (e :: []) X.env = (false, eval e X.env) :: starEach [] X.env := by rfl) (hpl : (backTo pos (starEach [e] X.env)).any (·.1) = false := by rfl) : aE X (.Call (.Name "_law_coin" pp) [ea, e] [] pos) δ M Q :=
  ae_call g F hr (aa_cons (ha _ (aa_cons (he _ (aa_nil ⟨p, n, _, rfl, hp, hn, m, rfl, hm.1, hm.2, fun r a b M' c d => q r M' a b c d⟩)) hs2)) hs) hg (by decide) hs hpl
end
end Ab
/-! Loops by an invariant, comprehensions that draw, facts of dicts and rows. -/
namespace Ab
open PySem PySem.Spec PyProof.Rows L2
section
variable {X : Cx} {e a b : Expr} {sts : List Stmt} {δ : DE} {M : AHp} {Q : DK} {A : AEnds} {G : Gx} {N : List Str} {sc scope : Scope} {pos : Pos}
theorem aG.imp {tg : Expr} {d : D} {Q Q' : DE → AHp → Prop} (h : aG X tg d δ M Q) (k : ∀ δ' M', Q δ' M' → Q' δ' M') : aG X tg d δ M Q' := fun σ H B v rs c r => (h σ H B v rs c r).imp fun _ _ ⟨δ', M', B', s, r', c', q⟩ => ⟨δ', M', B', s, r', c', k _ _ q⟩
/-- a statement that ends in P, what follows from there -/
theorem as_seq {st : Stmt} (P : DE → AHp → Prop) (h : aS X st { A with nx := P } δ M) (k : ∀ δ' M', P δ' M' → aSs X sts A δ' M') : aSs X (st :: sts) A δ M := as_cons fun σ H B rs c =>
  (h σ H B rs c).imp ⟨fun _ _ ⟨δ', M', B', s, r, c', q⟩ => ⟨δ', M', B', s, r, c', k _ _ q⟩, fun _ _ z => z, fun _ _ z => z, fun _ _ z => z⟩
theorem atD' {α : Type} {f : α → D} {l : List α} {j : Int} (h0 : 0 ≤ j) (h1 : j < l.length) : ∃ y ∈ l, l[j.toNat]? = some y ∧ atI (l.map f) j = some (f y) := by
  have hlt : j.toNat < l.length := by omega
  have z := atD (f := f) (xs := l) (j := j.toNat) (y := l[j.toNat]) (by simp [hlt])
  rw [show ((j.toNat : Nat) : Int) = j by omega] at z
  exact ⟨_, List.getElem_mem hlt, by simp [hlt], z⟩
/-- a loop by what holds with ds left -/
theorem al_inv {tg : Expr} (J : List D → DE → AHp → Prop) (step : ∀ d ds δ M, J (d :: ds) δ M → aG X tg d δ M fun δ2 M2 => aSs X sts { nx := J ds, rt := A.rt, bk := J [], ct := J ds } δ2 M2) (fin : ∀ δ M, J [] δ M → A.nx δ M) :
    ∀ {ds : List D} {δ : DE} {M : AHp}, J ds δ M → aLoop X tg sts A ds δ M
  | [], _, _, h => fin _ _ h
  | d :: ds, δ, M, h => (step d ds δ M h).imp fun δ2 M2 q => aSs.imp q (fun _ _ z => al_inv J step fin z) (fun _ _ z => z) (fun _ _ z => fin _ _ z) (fun _ _ z => al_inv J step fin z)
/-- over a list, a tuple, a list that may change (but does not) -/
theorem as_forD {tg it : Expr} {d : D} {ds : List D} (g : XF X G N sc) (hi : ItemsD M d ds) (h : aV X it δ M d) (J : List D → DE → AHp → Prop) (h0 : J ds δ M) (hk : ∀ ds' δ' M', J ds' δ' M' → ∀ q, d = .adr q → M' q = M q)
    (step : ∀ d ds δ M, J (d :: ds) δ M → aG X tg d δ M fun δ2 M2 => aSs X sts { nx := J ds, rt := A.rt, bk := J [], ct := J ds } δ2 M2) (fin : ∀ δ M, J [] δ M → A.nx δ M) (hs : ∀ x, foldedSetIterable it X.env x = pure x := by intro _; rfl) : aS X (.For tg it sts [] pos) A δ M := by
  have key : ∀ C : AHp → Prop, (∀ ds' δ' M', J ds' δ' M' → C M') → ∃ J' : Nat → DE → AHp → Prop, J' 0 δ M ∧ (∀ i δ' M', J' i δ' M' → C M') ∧ (∀ i d δ' M', ds[i]? = some d → J' i δ' M' → aG X tg d δ' M' fun δ2 M2 => aSs X sts { nx := J' (i + 1), rt := A.rt, bk := A.nx, ct := J' (i + 1) } δ2 M2) ∧ ∀ δ' M', J' ds.length δ' M' → A.nx δ' M' := fun C hC => by
    refine ⟨fun i => J (ds.drop i), h0, fun i δ' M' z => hC _ _ _ z, fun i d δ' M' hd z => ?_, fun δ' M' z => fin _ _ (by have z : J (ds.drop ds.length) δ' M' := z; rw [List.drop_length] at z; exact z)⟩
    have z : J (ds.drop i) δ' M' := z
    rw [drop_at hd] at z
    exact (step _ _ _ _ z).imp fun δ2 M2 q => aSs.imp q (fun _ _ z => z) (fun _ _ z => z) (fun _ _ z => fin _ _ z) (fun _ _ z => z)
  cases hi with
  | lst => exact as_for g (ai_list (h _ ⟨ds, rfl, key _ fun _ _ _ _ => trivial⟩)) hs
  | tup => exact as_for g (ai_tup (h _ ⟨ds, rfl, key _ fun _ _ _ _ => trivial⟩)) hs
  | @adr p _ hp => exact as_for g (ai_listM (h _ ⟨p, ds, rfl, hp, key _ fun ds' δ' M' z => by rw [hk _ _ _ z p rfl]; exact hp⟩)) hs
theorem av_dget {o i : Expr} {j0 : Nat} {p : Addr} {kvs : List (Key × D)} {k : Key} {d : D} (hr : Room j0 X.A) (ho : aV X o δ M (.adr p)) (hi : aV X i δ M (dK k)) (hp : M p = some (.dK kvs)) (hl : lookK kvs k = some d) (hs : NoSl i := by exact fun _ _ => rfl) : aV X (.Subscript o i pos) δ M d :=
  fun Q q => ae_dget hr (ho _ (hi _ ⟨p, kvs, k, d, rfl, rfl, hp, hl, q⟩)) hs
/-- a comprehension without a test whose items may change what stands (not the new list) -/
theorem lcS {α β : Type} {elt tg iter : Expr} {own : List (Str × Nat)} {t : TG} (g : XF X G N sc) (f : α → D) (h : β → D) (l : List α) (dx : α → DE) (I : Nat → List β → AHp → Prop) (tgo : TgOk X scope tg t (own.map (·.2)))
    (hi : SrcT X tg iter δ M (l.map f)) (hl : l.length < 100000) (h0 : I 0 [] M) (hlen : ∀ i ys M', I i ys M' → ys.length = i)
    (hU : ∀ i ys M' L o, M L = none → I i ys M' → I i ys (updM M' L o)) (hD : ∀ i ys M' L, M L = none → I i ys M' → I i ys (delM M' L)) (ht : ∀ x ∈ l, aGt t (f x) (wipeD δ (own.map (·.2))) (dx x))
    (he : ∀ i x ys M', l[i]? = some x → I i ys M' → ∀ X', XF X' G N (relS scope sc) → X'.A = X.A → aE X' elt (dx x) M' fun d M4 => ∃ y, d = h y ∧ I (i + 1) (ys ++ [y]) M4 ∧ ∀ L o, M L = none → M' L = some o → M4 L = some o)
    (q : ∀ ys M', I l.length ys M' → Q (.lst (ys.map h)) M') : aLC X elt tg iter [] scope own t δ M Q :=
  aLC.frz (lc0 g tgo (.inl rfl) (hi _ fun L hL => ⟨fun i acc M' => ∃ ys, acc = ys.map h ∧ I i ys M' ∧ M' L = some (.lst acc) ∧ i ≤ l.length, ⟨[], rfl, hU _ _ _ _ _ hL h0, updM_same, Nat.zero_le _⟩, fun i acc M' ⟨ys, e1, e2, e3, e4⟩ => ⟨trivial, e3, by
      rw [e1, List.length_map, hlen _ _ _ e2]; omega⟩, fun i d acc M' hd ⟨ys, e1, e2, e3, e4⟩ => by
      rw [List.getElem?_map] at hd
      cases z : l[i]? with
      | none => rw [z] at hd; cases hd
      | some x =>
        rw [z] at hd
        cases hd
        have hx := List.mem_of_getElem? z
        have hlt : i < l.length := (List.getElem?_eq_some_iff.mp z).1
        refine ⟨dx x, ht x hx, fun X' gX eA => (he i x ys M' z e2 X' gX eA).imp fun d M4 ⟨y, y1, y2, y3⟩ => ?_⟩
        refine ⟨y3 L _ hL e3, ys ++ [y], ?_, hU _ _ _ _ _ hL y2, updM_same, hlt⟩
        rw [e1, y1]
        simp, fun acc M' ⟨ys, e1, e2, e3, e4⟩ => by
      rw [List.length_map] at e2
      refine ⟨L, _, rfl, e3, ?_⟩
      rw [e1]
      exact q ys _ (hD _ _ _ _ hL e2)⟩))
theorem ae_lcS {α β : Type} {elt tg iter : Expr} {own : List (Str × Nat)} {t : TG} (g : XF X G N sc) (f : α → D) (h : β → D) (l : List α) (dx : α → DE) (I : Nat → List β → AHp → Prop) (tgo : TgOk X scope tg t (own.map (·.2)))
    (hi : SrcT X tg iter δ M (l.map f)) (hl : l.length < 100000) (h0 : I 0 [] M) (hlen : ∀ i ys M', I i ys M' → ys.length = i)
    (hU : ∀ i ys M' L o, M L = none → I i ys M' → I i ys (updM M' L o)) (hD : ∀ i ys M' L, M L = none → I i ys M' → I i ys (delM M' L)) (ht : ∀ x ∈ l, aGt t (f x) (wipeD δ (own.map (·.2))) (dx x))
    (he : ∀ i x ys M', l[i]? = some x → I i ys M' → ∀ X', XF X' G N (relS scope sc) → X'.A = X.A → aE X' elt (dx x) M' fun d M4 => ∃ y, d = h y ∧ I (i + 1) (ys ++ [y]) M4 ∧ ∀ L o, M L = none → M' L = some o → M4 L = some o)
    (q : ∀ ys M', I l.length ys M' → Q (.lst (ys.map h)) M') (okb : blkC N sc scope own = true := by decide +kernel) (hs : ∀ x, foldedSetIterable iter X.env x = pure x := by intro _; rfl) : aE X (.ListComp elt [⟨tg, iter, [], 0⟩] scope pos) δ M Q :=
  ae_ofLC g okb tgo (.inl rfl) (lcS g f h l dx I tgo hi hl h0 hlen hU hD ht he q) hs
/-- the sources of ranges -/
theorem srcR {tg : Expr} {p : Pos} {n : Int} (g : XF X G N sc) (hm : G.mg "range" = none) (h : aV X a δ M (.int n)) (h1 : -(2 ^ 62) ≤ n) (h2 : n < 2 ^ 62) (hg : sc.names.lookup ("range" : Str) = some .globalImplicit := by rfl) (hs : starEach [a] X.env = [(false, eval a X.env)] := by rfl) :
    SrcT X tg (.Call (.Name "range" p) [a] [] pos) δ M (((List.range n.toNat).map fun (i : Nat) => (i : Int)).map D.int) := fun P q =>
  ai_range1 g hm (aa_cons (h _ (aa_nil ⟨n, rfl, h1, h2, by
    have e : rgD 0 n.toNat = ((List.range n.toNat).map fun (i : Nat) => (i : Int)).map D.int := by
      unfold rgD
      rw [List.map_map]
      refine List.map_congr_left fun i _ => ?_
      show D.int (0 + (i : Int)) = D.int (i : Int)
      rw [Int.zero_add]
    rw [e]
    exact q⟩)) (by rw [hs]; rfl)) hg hs
end

/-! ### dicts -/
theorem lookK_map (k j : Key) (d : D) : ∀ kvs : List (Key × D), lookK (kvs.map fun kv => if kv.1 = k then (kv.1, d) else kv) j = (lookK kvs j).map fun x => if j = k then d else x
  | [] => rfl
  | (i, x) :: r => by
    rw [List.map_cons]
    by_cases h : i = k
    · rw [if_pos h]
      unfold lookK
      by_cases q : i = j
      · rw [if_pos q, if_pos q, Option.map_some, if_pos (q.symm.trans h)]
      · rw [if_neg q, if_neg q]
        exact lookK_map k j d r
    · rw [if_neg h]
      unfold lookK
      by_cases q : i = j
      · rw [if_pos q, if_pos q, Option.map_some, if_neg (fun z => h (q.trans z))]
      · rw [if_neg q, if_neg q]
        exact lookK_map k j d r
theorem lookK_snoc (k j : Key) (d : D) : ∀ kvs : List (Key × D), lookK kvs k = none → lookK (kvs ++ [(k, d)]) j = if j = k then some d else lookK kvs j
  | [], _ => by
    show (if k = j then some d else none) = if j = k then some d else none
    by_cases h : j = k
    · rw [if_pos h, if_pos h.symm]
    · rw [if_neg h, if_neg (fun z => h z.symm)]
  | (i, x) :: r, h => by
    rw [List.cons_append]
    unfold lookK at h ⊢
    by_cases z : i = k
    · rw [if_pos z] at h; cases h
    · rw [if_neg z] at h
      by_cases q : i = j
      · rw [if_pos q, if_pos q, if_neg (fun y => z (q.trans y))]
      · rw [if_neg q, if_neg q]
        exact lookK_snoc k j d r h
theorem lookK_put (kvs : List (Key × D)) (k j : Key) (d : D) : lookK (putKD kvs k d) j = if j = k then some d else lookK kvs j := by
  unfold putKD
  cases h : lookK kvs k with
  | none => exact lookK_snoc k j d kvs h
  | some x =>
    rw [Option.isSome_some, if_pos rfl, lookK_map]
    by_cases q : j = k
    · rw [if_pos q, q, h, Option.map_some, if_pos rfl]
    · rw [if_neg q]
      cases lookK kvs j with
      | none => rfl
      | some y => rw [Option.map_some, if_neg q]
theorem putKD_len (kvs : List (Key × D)) (k : Key) (d : D) : (putKD kvs k d).length ≤ kvs.length + 1 := by
  unfold putKD
  split
  · rw [List.length_map]; omega
  · rw [List.length_append]; exact Nat.le_refl _
theorem putKD_new {kvs : List (Key × D)} {k : Key} (d : D) (h : lookK kvs k = none) : putKD kvs k d = kvs ++ [(k, d)] := by
  unfold putKD
  rw [h]
  rfl
/-- a dict of ints by a list of pairs -/
def kvI {α : Type} (h : α → D) (l : List (Int × α)) : List (Key × D) := l.map fun x => (Sum.inl x.1, h x.2)
def lookI {α : Type} : List (Int × α) → Int → Option α
  | [], _ => none
  | (j, y) :: r, i => if j = i then some y else lookI r i
theorem lookK_kvI {α : Type} (h : α → D) (i : Int) : ∀ l : List (Int × α), lookK (kvI h l) (.inl i) = (lookI l i).map h
  | [] => rfl
  | (j, y) :: r => by
    unfold kvI lookI
    rw [List.map_cons]
    unfold lookK
    by_cases q : j = i
    · rw [if_pos (congrArg Sum.inl q), if_pos q]; rfl
    · rw [if_neg (fun z => q (Sum.inl.inj z)), if_neg q]
      exact lookK_kvI h i r
theorem lookI_none {α : Type} {i : Int} : ∀ {l : List (Int × α)}, lookI l i = none ↔ i ∉ l.map (·.1)
  | [] => by simp [lookI]
  | (j, y) :: r => by
    unfold lookI
    by_cases q : j = i
    · rw [if_pos q]; simp [q]
    · rw [if_neg q, lookI_none (l := r)]
      simp
      intro _ z
      exact q z.symm
theorem lookI_some {α : Type} {i : Int} {y : α} : ∀ {l : List (Int × α)}, (l.map (·.1)).Nodup → (lookI l i = some y ↔ (i, y) ∈ l)
  | [], _ => by simp [lookI]
  | (j, z) :: r, h => by
    rw [List.map_cons] at h
    have h1 := List.nodup_cons.mp h
    unfold lookI
    by_cases q : j = i
    · rw [if_pos q]
      subst q
      constructor
      · intro e; cases e; exact List.mem_cons_self
      · intro e
        rcases List.mem_cons.mp e with e | e
        · cases e; rfl
        · exact absurd (List.mem_map_of_mem (f := (·.1)) e) h1.1
    · rw [if_neg q, lookI_some h1.2]
      constructor
      · exact fun e => List.mem_cons_of_mem _ e
      · intro e
        rcases List.mem_cons.mp e with e | e
        · cases e; exact absurd rfl q
        · exact e
/-- dict(rows): with unlike keys -/
theorem mergeD_nodup {kvs more : List (Key × D)} (h : ((kvs ++ more).map (·.1)).Nodup) : mergeD kvs more = kvs ++ more := by
  induction more generalizing kvs with
  | nil => simp [mergeD]
  | cons x r ih =>
    show mergeD (putKD kvs x.1 x.2) r = _
    have hn : lookK kvs x.1 = none := by
      have key : ∀ l : List (Key × D), x.1 ∉ l.map (·.1) → lookK l x.1 = none := by
        intro l
        induction l with
        | nil => intro _; rfl
        | cons y t ih =>
          intro hh
          obtain ⟨k, d⟩ := y
          unfold lookK
          rw [if_neg (fun z => hh (by rw [List.map_cons]; exact List.mem_cons.mpr (.inl z.symm)))]
          exact ih fun z => hh (by rw [List.map_cons]; exact List.mem_cons_of_mem _ z)
      refine key kvs fun z => ?_
      rw [List.map_append, List.map_cons] at h
      have := (List.nodup_append.mp h).2.2
      exact this _ z _ List.mem_cons_self rfl
    rw [putKD_new _ hn, ih (by rw [List.append_assoc]; exact h), List.append_assoc]
    rfl
end Ab
/-! Prices, entries. -/
namespace Ab
open PySem PySem.Spec PyProof.Rows L2
abbrev Ent := Int × Option Int
def OkP (q : Option Int) : Prop := ∀ i, q = some i → -100000 < i ∧ i < 100000
theorem okP_none : OkP none := fun _ z => (nomatch z)
theorem okP_some {i : Int} (h1 : -100000 < i) (h2 : i < 100000) : OkP (some i) := fun j e => by cases e; exact ⟨h1, h2⟩
theorem OkP.small {q : Option Int} (h : OkP q) : smallP q := by
  cases q with
  | none => trivial
  | some i =>
    have := h i rfl
    show i.natAbs < 2 ^ 64
    omega
/-- entries on unlike days from 0 to last -/
structure RowsOk (most last : Int) (l : List Ent) : Prop where
  len : (l.length : Int) ≤ most
  day : ∀ x ∈ l, 0 ≤ x.1 ∧ x.1 ≤ last
  nd : (l.map (·.1)).Nodup
  pr : ∀ x ∈ l, OkP x.2
theorem RowsOk.mono {m m' n n' : Int} {l : List Ent} (h : RowsOk m n l) (a : m ≤ m') (b : n ≤ n') : RowsOk m' n' l := ⟨Int.le_trans h.len a, fun x hx => ⟨(h.day x hx).1, Int.le_trans (h.day x hx).2 b⟩, h.nd, h.pr⟩
theorem RowsOk.nil {m n : Int} (h : 0 ≤ m) : RowsOk m n [] := ⟨by simpa using h, fun _ z => (nomatch z), .nil, fun _ z => (nomatch z)⟩
theorem RowsOk.inj {m n : Int} {l : List Ent} (h : RowsOk m n l) : ∀ a ∈ l, ∀ b ∈ l, a.1 = b.1 → a = b := fun a ha b hb e => by
  have h1 := (lookI_some (i := a.1) (y := a.2) h.nd).mpr ha
  have h2 := (lookI_some (i := b.1) (y := b.2) h.nd).mpr hb
  rw [e, h2] at h1
  cases a; cases b
  simp at h1 e
  rw [e, h1]
theorem shw_rows {m n : Int} {l : List Ent} (h : RowsOk m n l) (hm : m ≤ 1000) (hn : n < 1000000000) : Shw 200000 (dEs l) := (shw_list (n := 139) (m := 1000) (fun x hx => shw_entry (by have := h.day x hx; omega) (h.pr x hx).small) (by have := h.len; omega) (fun x _ => dep_entry x)).mono (by decide)
theorem RowsOk.snoc {m n : Int} {l : List Ent} (h : RowsOk m n l) {d : Int} {q : Option Int} (hl : (l.length : Int) < m) (h0 : 0 ≤ d) (h1 : d ≤ n) (hn : d ∉ l.map (·.1)) (hq : OkP q) : RowsOk m n (l ++ [(d, q)]) := ⟨by rw [List.length_append, List.length_singleton]; omega, fun x hx => by
    rcases List.mem_append.mp hx with hx | hx
    · exact h.day x hx
    · rw [List.mem_singleton.mp hx]; exact ⟨h0, h1⟩, by
    rw [List.map_append, List.nodup_append]
    refine ⟨h.nd, by simp, fun a ha b hb z => ?_⟩
    rw [List.map_cons, List.map_nil] at hb
    rw [List.mem_singleton.mp hb] at z
    exact hn (by rw [show d = a from z.symm]; exact ha), fun x hx => by
    rcases List.mem_append.mp hx with hx | hx
    · exact h.pr x hx
    · rw [List.mem_singleton.mp hx]; exact hq⟩
theorem RowsOk.perm {m n : Int} {l l' : List Ent} (h : RowsOk m n l) (p : l'.Perm l) : RowsOk m n l' := ⟨by rw [p.length_eq]; exact h.len, fun x hx => h.day x (p.mem_iff.mp hx), (p.map _).nodup_iff.mpr h.nd, fun x hx => h.pr x (p.mem_iff.mp hx)⟩
theorem RowsOk.sub {m n : Int} {l l' : List Ent} (h : RowsOk m n l) (p : l'.Sublist l) : RowsOk m n l' := ⟨by have := p.length_le; have := h.len; omega, fun x hx => h.day x (p.subset hx), h.nd.sublist (p.map _), fun x hx => h.pr x (p.subset hx)⟩
theorem map_erase {α β : Type} (f : α → β) : ∀ (l : List α) (i : Nat), (l.map f).eraseIdx i = (l.eraseIdx i).map f
  | [], _ => rfl
  | _ :: _, 0 => rfl
  | x :: r, i + 1 => congrArg (f x :: ·) (map_erase f r i)
theorem erase_perm {α : Type} : ∀ {l : List α} {j : Nat} {y : α}, l[j]? = some y → (y :: l.eraseIdx j).Perm l
  | [], _, _, h => by simp at h
  | x :: r, 0, y, h => by simp at h; subst h; exact .refl _
  | x :: r, j + 1, y, h => (List.Perm.swap x y _).trans ((erase_perm (l := r) (j := j) (by simpa using h)).cons x)
theorem days_map (l : List Ent) : (l.map fun x => D.int x.1) = (l.map (·.1)).map D.int := by rw [List.map_map]; rfl
theorem RowsOk.erase {m n : Int} {l : List Ent} {j : Nat} {y : Ent} (h : RowsOk m n l) (hy : l[j]? = some y) : RowsOk (m - 1) n (l.eraseIdx j) ∧ y.1 ∉ (l.eraseIdx j).map (·.1) := by
  have p := erase_perm hy
  have h2 := h.perm p
  have h3 := h2.nd
  rw [List.map_cons] at h3
  have h4 := List.nodup_cons.mp h3
  have h5 := h2.sub (l' := l.eraseIdx j) (List.sublist_cons_self _ _)
  have h6 := h2.len
  rw [List.length_cons] at h6
  exact ⟨⟨by omega, h5.day, h5.nd, h5.pr⟩, h4.1⟩
theorem ins_perm (l : List Ent) (i : Nat) (x : Ent) : (l.take i ++ [x] ++ l.drop i).Perm (l ++ [x]) := by
  have e : l ++ [x] = l.take i ++ (l.drop i ++ [x]) := by rw [← List.append_assoc, List.take_append_drop]
  rw [e, List.append_assoc]
  exact List.Perm.append_left _ List.perm_append_comm
theorem en_ints : En 1 fun l : List Int => D.lst (l.map D.int) := en_list en_int
def SPrice : List D → (D → Prop) → Prop := fun rest k => rest = [] ∧ ∀ q, OkP q → k (dP q)
theorem mon_price : MonS SPrice := ⟨fun f ⟨a, b⟩ => ⟨a, fun q h => f _ (b q h)⟩⟩
def SRows : List D → (D → Prop) → Prop := fun rest k => ∃ most last : Int, rest = [.int most, .int last] ∧ 0 ≤ most ∧ most ≤ 40 ∧ 0 ≤ last ∧ last < 1000000 ∧ ∀ l, RowsOk most last l → k (dEs l)
theorem mon_rows : MonS SRows := ⟨fun f ⟨m, n, h1, h2, h3, h4, h5, q⟩ => ⟨m, n, h1, h2, h3, h4, h5, fun l h => f _ (q l h)⟩⟩
def SAny : List D → (D → Prop) → Prop := fun rest k => rest = [] ∧ ∀ l, RowsOk 40 402 l → k (dEs l)
theorem mon_any : MonS SAny := ⟨fun f ⟨h1, q⟩ => ⟨h1, fun l h => f _ (q l h)⟩⟩
end Ab
/-! What is in force. -/
namespace Ab
open PySem PySem.Spec PyProof.Rows L2
/-- in force behind the days below n -/
def heldN (l : List Ent) : Nat → Option Int
  | 0 => none
  | n + 1 => match lookI l (n : Int) with
    | some q => q
    | none => heldN l n
theorem lookI_mem {α : Type} {i : Int} {y : α} : ∀ {l : List (Int × α)}, lookI l i = some y → (i, y) ∈ l
  | [], h => by cases h
  | (j, z) :: r, h => by
    unfold lookI at h
    by_cases q : j = i
    · rw [if_pos q] at h; cases h; rw [q]; exact List.mem_cons_self
    · rw [if_neg q] at h; exact List.mem_cons_of_mem _ (lookI_mem h)
theorem heldN_ok {l : List Ent} (h : ∀ x ∈ l, OkP x.2) : ∀ n, OkP (heldN l n)
  | 0 => okP_none
  | n + 1 => by
    unfold heldN
    cases e : lookI l (n : Int) with
    | none => exact heldN_ok h n
    | some q => exact h (_, q) (lookI_mem e)
theorem u64 {k : Nat} {A : Around} (r : Room k A) : A.units + 64 < cLine := by have := r.un; omega
/-- told_on -/
def toldL : List Ent → Int → Option Int → Option Int
  | [], _, f => f
  | (k, q) :: r, d, f => if d < k then f else toldL r d q
abbrev Asc (l : List Ent) : Prop := l.Pairwise fun a b => a.1 < b.1
theorem toldL_far : ∀ {l : List Ent} {d : Int} {f : Option Int}, (∀ x ∈ l, d < x.1) → toldL l d f = f
  | [], _, _, _ => rfl
  | (k, q) :: r, d, f, h => by
    unfold toldL
    exact if_pos (h (k, q) List.mem_cons_self)
theorem lookI_far {α : Type} {l : List (Int × α)} {d : Int} (h : ∀ x ∈ l, d < x.1) : lookI l d = none := lookI_none.mpr fun z => by
  obtain ⟨x, hx, e⟩ := List.mem_map.mp z
  have := h x hx
  omega
theorem toldL_step : ∀ {l : List Ent} {n : Int} {f : Option Int}, Asc l → toldL l n f = match lookI l n with
    | some q => q
    | none => toldL l (n - 1) f
  | [], n, f, _ => rfl
  | (k, q) :: r, n, f, h => by
    have h1 := List.pairwise_cons.mp h
    have e1 : toldL ((k, q) :: r) n f = if n < k then f else toldL r n q := rfl
    have e2 : toldL ((k, q) :: r) (n - 1) f = if n - 1 < k then f else toldL r (n - 1) q := rfl
    have e3 : lookI ((k, q) :: r) n = if k = n then some q else lookI r n := rfl
    rw [e1, e2, e3]
    by_cases a : n < k
    · rw [if_pos a, if_neg (by omega), if_pos (by omega), lookI_far (fun x hx => by have := h1.1 x hx; simp at this; omega)]
    · rw [if_neg a]
      by_cases b : k = n
      · rw [if_pos b]
        exact toldL_far fun x hx => by have := h1.1 x hx; simp at this; omega
      · rw [if_neg b, if_neg (by omega)]
        exact toldL_step h1.2
theorem toldL_held {l : List Ent} (h : Asc l) (h0 : ∀ x ∈ l, 0 ≤ x.1) : ∀ n : Nat, toldL l ((n : Int) - 1) none = heldN l n
  | 0 => toldL_far fun x hx => by have := h0 x hx; omega
  | n + 1 => by
    have e : (((n + 1 : Nat) : Int) - 1) = (n : Int) := by omega
    rw [e, toldL_step h, toldL_held h h0 n]
    rfl
theorem heldN_congr {l m : List Ent} (h : ∀ d, lookI l d = lookI m d) : ∀ n, heldN l n = heldN m n
  | 0 => rfl
  | n + 1 => by
    unfold heldN
    rw [h, heldN_congr h n]
theorem lookI_perm {l m : List Ent} (h : l.Perm m) (hn : (l.map (·.1)).Nodup) (d : Int) : lookI l d = lookI m d := by
  have hm : (m.map (·.1)).Nodup := (h.map _).nodup_iff.mp hn
  cases e : lookI m d with
  | none =>
    rw [lookI_none] at e ⊢
    exact fun z => e ((h.map _).mem_iff.mp z)
  | some q =>
    rw [lookI_some hm] at e
    rw [lookI_some hn]
    exact h.mem_iff.mpr e
theorem srtE_perm (l : List Ent) : (srtE l).Perm l := srtBy_perm _ l
theorem srtE_asc {l : List Ent} (hn : (l.map (·.1)).Nodup) : Asc (srtE l) := by
  have h1 := srtBy_srt (fun x : Ent => x.1) l
  have h2 : ((srtE l).map (·.1)).Nodup := ((srtE_perm l).map _).nodup_iff.mpr hn
  have h3 : (srtE l).Pairwise fun a b => a.1 ≠ b.1 := List.pairwise_map.mp h2
  refine (h1.and h3).imp fun {a b} h => ?_
  have := h.1
  have := h.2
  omega
/-- told by the sorted entries -/
theorem told_srt {l : List Ent} (hn : (l.map (·.1)).Nodup) (h0 : ∀ x ∈ l, 0 ≤ x.1) {d : Int} (hd : 0 ≤ d) : toldL (srtE l) d none = heldN l (d.toNat + 1) := by
  have z := toldL_held (srtE_asc hn) (fun x hx => h0 x ((srtE_perm l).mem_iff.mp hx)) (d.toNat + 1)
  rw [show (((d.toNat + 1 : Nat) : Int) - 1) = d by omega] at z
  rw [z]
  exact heldN_congr (lookI_perm (srtE_perm l) (((srtE_perm l).map _).nodup_iff.mpr hn)) _
/-- the sorted days with their prices -/
theorem srt_days {l : List Ent} (hn : (l.map (·.1)).Nodup) : (srtI (l.map (·.1))).map (fun d => ((d, (lookI l d).getD none) : Ent)) = srtE l := by
  have hs : srtI (l.map (·.1)) = (srtE l).map (·.1) := asc_uniq (k := id) ((srtBy_perm _ _).trans ((srtE_perm l).map _).symm) (srtBy_srt _ _) (List.pairwise_map.mpr (srtBy_srt (fun x : Ent => x.1) l)) fun _ _ _ _ e => e
  rw [hs, List.map_map]
  have : ∀ x ∈ srtE l, ((fun d => ((d, (lookI l d).getD none) : Ent)) ∘ fun x : Ent => x.1) x = x := fun x hx => by
    have e := (lookI_some (i := x.1) (y := x.2) hn).mpr ((srtE_perm l).mem_iff.mp hx)
    show (x.1, (lookI l x.1).getD none) = x
    rw [e]
    rfl
  rw [List.map_congr_left this, List.map_id']
end Ab
/-! More rules: in, pop, insert, isinstance, slices. -/
namespace Ab
open PySem PySem.Spec PyProof.Rows L2
section
variable {X : Cx} {e a b o i : Expr} {es : List Expr} {st : Stmt} {sts : List Stmt} {δ : DE} {M : AHp} {Q : DK} {σ : L2.St} {H B : Hp} {A : AEnds} {G : Gx} {N : List Str} {sc scope : Scope} {pos p apos : Pos} {x m : Str} {k j0 : Nat} {sp : ASp} {C : Addr}
/-! ### in -/
theorem inV_int (i : Int) : ∀ ns : List Int, inV (.int i) (ns.map V.int) = decide (i ∈ ns)
  | [] => rfl
  | n :: r => by
    show (eqV (.int n) (.int i) || inV (.int i) (r.map V.int)) = _
    rw [inV_int i r]
    have e : eqV (.int n) (.int i) = decide (i = n) := by
      show (n == i) = _
      rw [Bool.beq_eq_decide_eq]
      by_cases h : n = i
      · simp [h]
      · simp [h, fun z => h (Eq.symm z)]
        exact fun z => h z.symm
    rw [e]
    simp
theorem flat_ints (ns : List Int) : (ns.map V.int).all flatV = true := by
  rw [List.all_eq_true]
  intro v hv
  obtain ⟨n, _, rfl⟩ := List.mem_map.mp hv
  rfl
theorem p_inI {d : D} {ns : List Int} {n : Int} (h : ItemsD M d (ns.map D.int)) : pR (rIn X.K false) M (.int n) d (.bl (decide (n ∈ ns))) := fun u v B H Q2 ra rb c kk => by
  cases ra
  obtain ⟨a, xs, rfl, hs, hr⟩ := h.at_ (K := X.K) rb c
  have e := reps_ints hr
  subst e
  refine ⟨a, _, rfl, hs, rfl, flat_ints ns, ?_⟩
  rw [inV_int]
  exact kk _ B H (Same.refl _) (.bl _) c
theorem p_notInI {d : D} {ns : List Int} {n : Int} (h : ItemsD M d (ns.map D.int)) : pR (rIn X.K true) M (.int n) d (.bl (!decide (n ∈ ns))) := fun u v B H Q2 ra rb c kk => by
  cases ra
  obtain ⟨a, xs, rfl, hs, hr⟩ := h.at_ (K := X.K) rb c
  have e := reps_ints hr
  subst e
  refine ⟨a, _, rfl, hs, rfl, flat_ints ns, ?_⟩
  rw [inV_int]
  exact kk _ B H (Same.refl _) (.bl _) c
/-- in a list of what f writes -/
theorem any_eqv {α : Type} [DecidableEq α] {n : Nat} {f : α → D} (en : En n f) (x : α) : ∀ l : List α, (D.pys (l.map f)).any (fun z => PyData.eqv z (f x).py) = decide (x ∈ l)
  | [] => rfl
  | y :: l => by
    show (PyData.eqv (f y).py (f x).py || (D.pys (l.map f)).any fun z => PyData.eqv z (f x).py) = _
    rw [en.eq, any_eqv en x l]
    by_cases h : y = x
    · simp [h]
    · simp [h]
      exact fun z => absurd z.symm h
theorem p_inN {α : Type} [DecidableEq α] {n : Nat} {f : α → D} (en : En n f) {d e : D} {x : α} {l : List α} (hd : IsEn M f d x) (he : IsEn M (fun l : List α => D.lst (l.map f)) e l) (hn : n + 1 ≤ 64 := by decide) : pR (rInD X.K) M d e (.bl (decide (x ∈ l))) := fun u v B H Q2 ra rb c kk => by
  have z := (he.py (en_list en)).dp (K := X.K) rb c
  unfold D.py at z
  refine ⟨_, _, (hd.py en).dp ra c, z, en.shaped (by omega) x, ?_, ?_⟩
  · have z := (en_list en).shaped hn l
    unfold D.py at z
    exact z
  · rw [any_eqv en]
    exact kk _ B H (Same.refl _) (.bl _) c
theorem p_notInN {α : Type} [DecidableEq α] {n : Nat} {f : α → D} (en : En n f) {d e : D} {x : α} {l : List α} (hd : IsEn M f d x) (he : IsEn M (fun l : List α => D.lst (l.map f)) e l) (hn : n + 1 ≤ 64 := by decide) : pR (rNotInD X.K) M d e (.bl (!decide (x ∈ l))) := fun u v B H Q2 ra rb c kk => by
  have z := (he.py (en_list en)).dp (K := X.K) rb c
  unfold D.py at z
  refine ⟨_, _, (hd.py en).dp ra c, z, en.shaped (by omega) x, ?_, ?_⟩
  · have z := (en_list en).shaped hn l
    unfold D.py at z
    exact z
  · rw [any_eqv en]
    exact kk _ B H (Same.refl _) (.bl _) c

/-! ### xs.pop(i), xs.insert(i, y) -/
theorem Reps.eraseIdx {B : Hp} : ∀ {vs : List V} {ds : List D} (i : Nat), Reps B vs ds → Reps B (vs.eraseIdx i) (ds.eraseIdx i)
  | _, _, _, .nil => .nil
  | _, _, 0, .cons _ t => t
  | _, _, i + 1, .cons q t => .cons q (Reps.eraseIdx i t)
theorem ae_popAt {o : Expr} (h : aE X o δ M fun d1 M1 => ∃ p ds1, d1 = .adr p ∧ M1 p = some (.lst ds1) ∧ aE X e δ M1 fun d2 M2 => ∃ (ds : List D) (i : Int) (y : D), d2 = .int i ∧ M2 p = some (.lst ds) ∧ 0 ≤ i ∧ i < 2 ^ 62 ∧ ds[i.toNat]? = some y ∧ Q y (updM M2 p (.lst (ds.eraseIdx i.toNat)))) (hbase : attributeBase o "pop" X.env (eval o X.env) = eval o X.env := by rfl) (hline : (apos.endLine == pos.line) = true := by rfl) (hs : starEach [e] X.env = (false, eval e X.env) :: starEach [] X.env := by rfl)
    (hfew : ((backTo pos (starEach [e] X.env)).all (fun x => !x.1) && (backToKw pos (keywordEach [] X.env)).all (fun x => x.1.isSome)
      && decide ((e :: []).length + ([] : List Keyword).length + (if ([] : List Keyword).isEmpty then 0 else 1) < 30)) = true := by rfl) :
    aE X (.Call (.Attribute o "pop" apos) [e] [] pos) δ M Q :=
  ae_of (pe_bm PySem.F.plainAttrs_list PySem.F.slot_list_pop PySem.F.type_list_pop mt_popAt pe_w (pa_cons pe_w pa_nil hs) hbase hfew hline hs rfl) fun σ H B Q2 rs c kk => h.run rs c fun x d1 M1 B1 H1 s1 r1 c1 q1 => by
    obtain ⟨p, ds1, rfl, hp, q1⟩ := q1
    cases r1
    obtain ⟨_, xs1, hx1, _⟩ := c1.m p _ hp
    refine ⟨.inl ⟨rfl, _, .inl (.inl hx1)⟩, ?_⟩
    refine aE.run q1 (rs.mono s1) c1 fun y d2 M2 B2 H2 s2 r2 c2 q2 => ?_
    obtain ⟨ds, i, z, rfl, hp2, h0, h1, hz, q⟩ := q2
    cases r2
    obtain ⟨_, xs, hx, rx⟩ := c2.m p _ hp2
    obtain ⟨v, hv, rv⟩ := rx.get hz
    have hlt := (List.getElem?_eq_some_iff.mp hv).1
    refine ⟨p, xs, i, i.toNat, v, rfl, rfl, hx, by omega, by omega, ?_, hv, ?_⟩
    · unfold seqIndex?
      simp [show ¬ i < 0 by omega, h0, show i < (xs.length : Int) by omega]
    · exact kk _ _ _ _ _ (s1.trans s2) rv (c2.set (.lst (ds.eraseIdx i.toNat)) hp2 (noOwn c2 hp2 fun _ z => (nomatch z)) ⟨_, upd_same, rx.eraseIdx _⟩) q
theorem ae_insert {o : Expr} (h : aE X o δ M fun d1 M1 => ∃ p ds1, d1 = .adr p ∧ M1 p = some (.lst ds1) ∧ aE X a δ M1 fun d2 M2 => aE X b δ M2 fun d3 M3 => ∃ (ds : List D) (i : Int), d2 = .int i ∧ M3 p = some (.lst ds) ∧ ds.length < 100000 ∧ 0 ≤ i ∧ i < 2 ^ 62 ∧ Q .non (updM M3 p (.lst (ds.take i.toNat ++ [d3] ++ ds.drop i.toNat)))) (hbase : attributeBase o "insert" X.env (eval o X.env) = eval o X.env := by rfl) (hline : (apos.endLine == pos.line) = true := by rfl) (hs : starEach [a, b] X.env = (false, eval a X.env) :: starEach [b] X.env := by rfl) (hs2 : starEach [b] X.env = (false, eval b X.env) :: starEach [] X.env := by rfl)
    (hfew : ((backTo pos (starEach [a, b] X.env)).all (fun x => !x.1) && (backToKw pos (keywordEach [] X.env)).all (fun x => x.1.isSome)
      && decide ((a :: [b]).length + ([] : List Keyword).length + (if ([] : List Keyword).isEmpty then 0 else 1) < 30)) = true := by rfl) (hpl : (backTo pos (starEach [b] X.env)).any (·.1) = false := by rfl) :
    aE X (.Call (.Attribute o "insert" apos) [a, b] [] pos) δ M Q :=
  ae_of (pe_bm PySem.F.plainAttrs_list PySem.F.slot_list_insert PySem.F.type_list_insert mt_insert pe_w (pa_cons pe_w (pa_cons pe_w pa_nil hs2) hs) hbase hfew hline hs hpl) fun σ H B Q2 rs c kk => h.run rs c fun x d1 M1 B1 H1 s1 r1 c1 q1 => by
    obtain ⟨p, ds1, rfl, hp, q1⟩ := q1
    cases r1
    obtain ⟨_, xs1, hx1, _⟩ := c1.m p _ hp
    refine ⟨.inl ⟨rfl, _, .inl (.inl hx1)⟩, ?_⟩
    refine aE.run q1 (rs.mono s1) c1 fun y d2 M2 B2 H2 s2 r2 c2 q2 => ?_
    refine aE.run q2 ((rs.mono s1).mono s2) c2 fun y3 d3 M3 B3 H3 s3 r3 c3 q3 => ?_
    obtain ⟨ds, i, rfl, hp2, hl, h0, h1, q⟩ := q3
    cases r2
    obtain ⟨_, xs, hx, rx⟩ := c3.m p _ hp2
    refine ⟨p, xs, i, y3, rfl, rfl, hx, by rw [rx.length, sizeLine_eq]; omega, h0, by omega, ?_⟩
    exact kk _ _ _ _ _ ((s1.trans s2).trans s3) .non (c3.set (.lst (ds.take i.toNat ++ [d3] ++ ds.drop i.toNat)) hp2 (noOwn c3 hp2 fun _ z => (nomatch z)) ⟨_, upd_same, ((rx.take _).append (.one r3)).append (rx.drop _)⟩) q

/-- repr of a list that may change -/
theorem c_reprM {n : Nat} {p : Addr} {ds : List D} (hp : M p = some (.lst ds)) (h : Shw n (.lst ds)) (hn : n ≤ 10000000) : pC (rRepr X.K) M [.adr p] (.str (D.lst ds).py.shown) := fun xs B H Q2 rx c kk => by
  cases rx with
  | cons r1 r2 =>
    cases r2
    have hpl := h.plain
    unfold D.plain at hpl
    have z := (IsPy.adr hp hpl).dp (K := X.K) r1 c
    refine ⟨_, _, rfl, z, h.able, noDict (.lst ds), ?_, h.dep, kk _ B H (Same.refl _) (.str _) c⟩
    rw [sizeLine_eq]
    have := h.len
    have e : (D.lst ds).py.shown = (PyData.list (D.pys ds)).shown := rfl
    rw [← e]
    omega

/-! ### types -/
theorem av_ty {n : String} (g : XF X G N sc) (hm : G.mg x = none) (hv : bootBuiltins x = some (.type n)) (hg : sc.names.lookup x = some .globalImplicit := by rfl) (hn : x ≠ "__name__" := by decide) (hd : (x == ("__debug__" : Str)) = false := by decide) : aV X (.Name x pos) δ M (.ty n) :=
  av_of (pe_bltn (v := .ty n) (g.gl hg) (by rw [g.mg]; exact hm) hv rfl hn hd) fun σ H B Q rs c k => k _ B H (Same.refl _) (.ty n) c
theorem c_isL {d : D} {ds : List D} (h : ListD M d ds) : pC RZ.rIsTy M [d, .ty "list"] (.bl true) := by
  intro xs B H Q2 rx c kk
  cases rx with
  | cons r1 r2 => cases r2 with
    | cons r2 r3 =>
      cases r3; cases r2
      obtain ⟨a, ys, rfl, hs, hr⟩ := h.at_ r1 c
      unfold RZ.rIsTy
      exact ⟨_, _, rfl, .lst hs, kk _ B H (Same.refl _) (.bl _) c⟩
theorem c_isT {ds : List D} : pC RZ.rIsTy M [.tup ds, .ty "tuple"] (.bl true) := by
  intro xs B H Q2 rx c kk
  cases rx with
  | cons r1 r2 => cases r2 with
    | cons r2 r3 =>
      cases r3; cases r2
      cases r1 with
      | tup h1 h2 =>
        unfold RZ.rIsTy
        exact ⟨_, _, rfl, .tup (c.ex _ _ h1), kk _ B H (Same.refl _) (.bl _) c⟩
end
end Ab
/-! Days on which something else is in force. -/
namespace Ab
open PySem PySem.Spec PyProof.Rows L2
def chgL : Option Int → List Ent → List Ent
  | _, [] => []
  | last, (d, q) :: r => if q = last then chgL q r else (d, q) :: chgL q r
def lastL : Option Int → List Ent → Option Int
  | f, [] => f
  | _, (_, q) :: r => lastL q r
theorem chgL_append : ∀ (f : Option Int) (a b : List Ent), chgL f (a ++ b) = chgL f a ++ chgL (lastL f a) b
  | _, [], _ => rfl
  | f, (d, q) :: r, b => by
    show (if q = f then chgL q (r ++ b) else (d, q) :: chgL q (r ++ b)) = (if q = f then chgL q r else (d, q) :: chgL q r) ++ chgL (lastL q r) b
    rw [chgL_append q r b]
    split <;> rfl
theorem lastL_append : ∀ (f : Option Int) (a b : List Ent), lastL f (a ++ b) = lastL (lastL f a) b
  | _, [], _ => rfl
  | _, (_, q) :: r, b => lastL_append q r b
def below (s : List Ent) (n : Nat) : List Ent := s.filter fun x => decide (x.1 < (n : Int))
theorem below_none {r : List Ent} {n : Nat} (h : ∀ x ∈ r, (n : Int) ≤ x.1) : below r n = [] := List.filter_eq_nil_iff.mpr fun x hx => by
  have := h x hx
  simp
  omega
theorem below_succ : ∀ {s : List Ent} (n : Nat), Asc s → below s (n + 1) = below s n ++ (match lookI s (n : Int) with | some q => [((n : Int), q)] | none => [])
  | [], n, _ => rfl
  | (k, q) :: r, n, h => by
    have h1 := List.pairwise_cons.mp h
    have ih := below_succ n h1.2
    have e1 : ∀ m : Nat, below ((k, q) :: r) m = if k < (m : Int) then (k, q) :: below r m else below r m := fun m => by
      unfold below
      rw [List.filter_cons]
      by_cases z : k < (m : Int)
      · rw [if_pos z, if_pos (by simpa using z)]
      · rw [if_neg z, if_neg (by simpa using z)]
    have e3 : lookI ((k, q) :: r) (n : Int) = if k = (n : Int) then some q else lookI r n := rfl
    rw [e1, e1, e3]
    by_cases a : k < (n : Int)
    · rw [if_pos (by omega), if_pos a, if_neg (by omega), ih]
      rfl
    · rw [if_neg a]
      have far : ∀ x ∈ r, ((n + 1 : Nat) : Int) ≤ x.1 := fun x hx => by have := h1.1 x hx; simp at this; omega
      rw [below_none (n := n) (fun x hx => by have := far x hx; omega), below_none far]
      by_cases b : k = (n : Int)
      · rw [if_pos (by omega), if_pos b, b]
        rfl
      · rw [if_neg (by omega), if_neg b, lookI_far (fun x hx => by have := far x hx; omega)]
        rfl
/-- the days below n on which something else is in force than on the day ahead -/
def chgN (l : List Ent) (n : Nat) : List Ent := ((List.range n).filter fun i => !decide (heldN l (i + 1) = heldN l i)).map fun (i : Nat) => ((i : Int), heldN l (i + 1))
theorem chgN_succ (l : List Ent) (n : Nat) : chgN l (n + 1) = chgN l n ++ (if heldN l (n + 1) = heldN l n then [] else [((n : Int), heldN l (n + 1))]) := by
  unfold chgN
  rw [List.range_succ, List.filter_append, List.map_append]
  congr 1
  rw [List.filter_cons]
  by_cases h : heldN l (n + 1) = heldN l n
  · rw [if_pos h]; simp [h]
  · rw [if_neg h]; simp [h]
theorem chg_below {s : List Ent} (h : Asc s) (h0 : ∀ x ∈ s, 0 ≤ x.1) : ∀ n, chgL none (below s n) = chgN s n ∧ lastL none (below s n) = heldN s n
  | 0 => by
    rw [below_none (fun x hx => h0 x hx)]
    exact ⟨rfl, rfl⟩
  | n + 1 => by
    obtain ⟨i1, i2⟩ := chg_below h h0 n
    rw [below_succ n h, chgL_append, lastL_append, i1, i2, chgN_succ]
    have e : heldN s (n + 1) = match lookI s (n : Int) with | some q => q | none => heldN s n := rfl
    rw [e]
    cases lookI s (n : Int) with
    | none => exact ⟨by simp [chgL], rfl⟩
    | some q =>
      refine ⟨?_, rfl⟩
      show chgN s n ++ (if q = heldN s n then [] else [((n : Int), q)]) = _
      rfl
theorem chg_eq {s : List Ent} {n : Nat} (h : Asc s) (h0 : ∀ x ∈ s, 0 ≤ x.1) (hn : ∀ x ∈ s, x.1 < (n : Int)) : chgL none s = chgN s n := by
  have z := (chg_below h h0 n).1
  have e : below s n = s := List.filter_eq_self.mpr fun x hx => by simpa using hn x hx
  rw [e] at z
  exact z
theorem chgN_congr {l m : List Ent} (h : ∀ d, lookI l d = lookI m d) (n : Nat) : chgN l n = chgN m n := by
  have e : ∀ i, heldN l i = heldN m i := heldN_congr h
  unfold chgN
  simp only [e]
theorem chg_srt {l : List Ent} {n : Nat} (hn : (l.map (·.1)).Nodup) (h0 : ∀ x ∈ l, 0 ≤ x.1) (hl : ∀ x ∈ l, x.1 < (n : Int)) : chgL none (srtE l) = chgN l n := by
  have m := fun x => (srtE_perm l).mem_iff (a := x)
  rw [chg_eq (srtE_asc hn) (fun x hx => h0 x ((m x).mp hx)) (fun x hx => hl x ((m x).mp hx))]
  exact chgN_congr (lookI_perm (srtE_perm l) (((srtE_perm l).map _).nodup_iff.mpr hn)) _
theorem chgL_mem : ∀ {f : Option Int} {l : List Ent} {x : Ent}, x ∈ chgL f l → x ∈ l
  | _, [], _, h => h
  | f, (d, q) :: r, x, h => by
    have h : x ∈ (if q = f then chgL q r else (d, q) :: chgL q r) := h
    split at h
    · exact List.mem_cons_of_mem _ (chgL_mem h)
    · rcases List.mem_cons.mp h with h | h
      · rw [h]; exact List.mem_cons_self
      · exact List.mem_cons_of_mem _ (chgL_mem h)
theorem chgL_sub : ∀ (f : Option Int) (l : List Ent), (chgL f l).Sublist l
  | _, [] => .slnil
  | f, (d, q) :: r => by
    show (if q = f then chgL q r else (d, q) :: chgL q r).Sublist ((d, q) :: r)
    split
    · exact (chgL_sub q r).cons _
    · exact (chgL_sub q r).cons₂ _
theorem chgL_len : ∀ (f : Option Int) (l : List Ent), (chgL f l).length ≤ l.length
  | _, [] => Nat.le_refl _
  | f, (d, q) :: r => by
    show (if q = f then chgL q r else (d, q) :: chgL q r).length ≤ r.length + 1
    have := chgL_len q r
    split
    · omega
    · rw [List.length_cons]; omega
/-- the line of prices with what was ahead -/
def sweepL (l : List Ent) (n : Nat) : List (Option Int) := (List.range n).map fun i => heldN l (i + 1)
theorem sweep_cons (l : List Ent) (n : Nat) : none :: sweepL l n = (List.range (n + 1)).map fun i => heldN l i := by
  rw [List.range_succ_eq_map, List.map_cons, List.map_map]
  rfl
theorem sweepP_at (l : List Ent) {n i : Nat} (h : i ≤ n) : atI ((none :: sweepL l n).map dP) (i : Int) = some (dP (heldN l i)) := by
  rw [sweep_cons]
  exact atD (by rw [List.getElem?_map, List.getElem?_range (by omega)]; rfl)
theorem sweep_at (l : List Ent) {n : Nat} {d : Int} (h0 : 0 ≤ d) (h1 : d < n) : atI ((sweepL l n).map dP) d = some (dP (heldN l (d.toNat + 1))) := by
  have z := atD (f := dP) (xs := sweepL l n) (j := d.toNat) (y := heldN l (d.toNat + 1)) (by unfold sweepL; rw [List.getElem?_map, List.getElem?_range (by omega)]; rfl)
  rw [show ((d.toNat : Nat) : Int) = d by omega] at z
  exact z
theorem sweep_len (l : List Ent) (n : Nat) : (sweepL l n).length = n := by unfold sweepL; rw [List.length_map, List.length_range]
section
variable {X : Cx} {a : Expr} {δ : DE} {M : AHp} {G : Gx} {N : List Str} {sc : Scope} {pos : Pos}
/-- a range as a source, by places -/
theorem srcN {tg : Expr} {p : Pos} {n : Int} (g : XF X G N sc) (hm : G.mg "range" = none) (h : aV X a δ M (.int n)) (h1 : -(2 ^ 62) ≤ n) (h2 : n < 2 ^ 62) (hg : sc.names.lookup ("range" : Str) = some .globalImplicit := by rfl) (hs : starEach [a] X.env = [(false, eval a X.env)] := by rfl) :
    SrcV X tg (.Call (.Name "range" p) [a] [] pos) δ M ((List.range n.toNat).map fun (i : Nat) => D.int (i : Int)) := fun P q => srcR g hm h h1 h2 hg hs P (by rw [List.map_map]; exact q _ fun _ _ => trivial)
end
end Ab
/-! max(xs, default=d) of a list of ints; built-in functions with keywords. -/
namespace PySem
open Sem (wp)
section
variable {prog : Program} {w : World} {A : Around} {R : Result → Shared → Prop} {I : Addr} {fp wr : List Addr} {n : Nat} {P : Nat → Value → Prop} {St : Nat → Heap → Prop} {kw : List (Str × Value)}
theorem ab_max_name : (toString "max" ++ toString ".loop" : String) = "max.loop" := by decide
theorem ab_max_run (W : Walks prog w A.in1 I fp wr n P St) (bt : Nat → Nat → Bool) (cmp : CmpOf prog w A.in1 .Gt P bt) (S : Addr) (off : S ∉ fp) : ∀ (m i : Nat) (s : Shared) (top : Value) (c : Nat), n = i + 1 + m → St (i + 1) s.heap → P (argBest bt i) top →
    s.heap.get? S = some { cls := .type "list", dict := none, data := .seq #[top, top] c, slots := #[] } →
    (∀ v h' tk, P (argBest bt (n - 1)) v → (∀ b o, b ∉ wr → b ≠ S → s.heap.get? b = some o → h'.get? b = some o) → R (.ok (.ret v)) { s with heap := h', toks := tk }) → codeAny (model prog w) A (.builtin "max.loop" ⟨[.ref I, .none, .ref S], kw⟩) R s
  | 0, i, s, top, c, hn, st, pt, hS, k => by
    have off2 : S ∉ wr := fun z => off (W.sub _ z)
    have st2 : St n s.heap := by rw [show n = i + 1 from hn]; exact st
    refine codeAny_builtin F.entry_max_loop ?_
    rw [Around.under_plainId F.plain_max_loop ⟨[Value.ref I, .none, .ref S], kw⟩]
    show wpAny (model prog w) A.in1 (seqItems? (Value.ref S) >>= _) _ _ s
    refine wpAny_bind (wpAny_seqItems hS rfl ?_)
    show wpAny (model prog w) A.in1 (tryCatch (pyNext (Value.ref I)) _ >>= _) _ _ s
    refine wpAny_bind (wpAny_tryCatch (W.done s _ _ st2 fun h1 tk k1 => ?_))
    have hS1 := k1 S _ off2 hS
    show wpAny (model prog w) A.in1 (updateSeq S (fun _ => #[]) >>= _) _ _ { s with heap := h1, toks := tk }
    refine wpAny_bind (wpAny_updateSeq hS1 rfl (wpAny_bind (wpAny_letGo (wpAny_pure ?_))))
    exact k top _ tk (by rw [show n - 1 = i by omega]; exact pt) fun b o q1 q2 e => (Heap.get?_update_other _ _ (Ne.symm q2)).trans (k1 b o q1 e)
  | m + 1, i, s, top, c, hn, st, pt, hS, k => by
    have off2 : S ∉ wr := fun z => off (W.sub _ z)
    refine codeAny_builtin F.entry_max_loop ?_
    rw [Around.under_plainId F.plain_max_loop ⟨[Value.ref I, .none, .ref S], kw⟩]
    show wpAny (model prog w) A.in1 (seqItems? (Value.ref S) >>= _) _ _ s
    refine wpAny_bind (wpAny_seqItems hS rfl ?_)
    show wpAny (model prog w) A.in1 (tryCatch (pyNext (Value.ref I)) _ >>= _) _ _ s
    refine wpAny_bind (wpAny_tryCatch (W.item (i + 1) s _ _ (by omega) st fun v h1 tk pv st1 k1 => ?_))
    have hS1 := k1 S _ off2 hS
    show wpAny (model prog w) A.in1 (tryCatch (holding [v, v] (richCompare .Gt v top >>= _)) _ >>= _) _ _ { s with heap := h1, toks := tk }
    refine wpAny_bind (wpAny_tryCatch (wpAny_holding (wpAny_bind (cmp (i + 1) (argBest bt i) v top _ _ _ pv pt ?_))))
    refine wpAny_bind (wpAny_holding (wpAny_truthy_bool (wpAny_bind (wpAny_letGo (wpAny_pure ?_)))))
    cases hb : bt (i + 1) (argBest bt i) with
    | true =>
      rw [if_pos rfl]
      refine wpAny_bind (wpAny_updateSeq hS1 rfl (wpAny_bind (wpAny_letGo ?_)))
      rw [ab_max_name]
      have e1 : argBest bt (i + 1) = i + 1 := by show (if bt (i + 1) (argBest bt i) = true then i + 1 else argBest bt i) = i + 1; rw [hb, if_pos rfl]
      refine wpAny_pure ⟨plainId_quiet F.plain_max_loop _, ab_max_run W bt cmp S off m (i + 1) _ v _ (by omega) (W.frame _ _ _ st1 fun b q o e => ?_) (by rw [e1]; exact pv) (Heap.get?_update_self _ hS1 rfl) fun v2 h2 tk2 p2 k2 => ?_⟩
      · exact (Heap.get?_update_other _ _ (fun z : S = b => off (by rw [z]; exact q))).trans e
      · exact k v2 h2 tk2 p2 fun b o q1 q2 e => k2 b o q1 q2 ((Heap.get?_update_other _ _ (Ne.symm q2)).trans (k1 b o q1 e))
    | false =>
      rw [if_neg Bool.false_ne_true]
      refine wpAny_bind (wpAny_letGo ?_)
      rw [ab_max_name]
      have e1 : argBest bt (i + 1) = argBest bt i := by show (if bt (i + 1) (argBest bt i) = true then i + 1 else argBest bt i) = argBest bt i; rw [hb, if_neg Bool.false_ne_true]
      refine wpAny_pure ⟨plainId_quiet F.plain_max_loop _, ab_max_run W bt cmp S off m (i + 1) _ top c (by omega) st1 (by rw [e1]; exact pt) hS1 fun v2 h2 tk2 p2 k2 => k v2 h2 tk2 p2 fun b o q1 q2 e => k2 b o q1 q2 (k1 b o q1 e)⟩
theorem ab_max_start (W : Walks prog w A.in1 I fp wr n P St) (bt : Nat → Nat → Bool) (cmp : CmpOf prog w A.in1 .Gt P bt) (S : Addr) (off : S ∉ fp) (pos : 0 < n) {s : Shared} {c : Nat} (st : St 0 s.heap)
    (hS : s.heap.get? S = some { cls := .type "list", dict := none, data := .seq #[] c, slots := #[] })
    (k : ∀ v h' tk, P (argBest bt (n - 1)) v → (∀ b o, b ∉ wr → b ≠ S → s.heap.get? b = some o → h'.get? b = some o) → R (.ok (.ret v)) { s with heap := h', toks := tk }) : codeAny (model prog w) A (.builtin "max.loop" ⟨[.ref I, .none, .ref S], kw⟩) R s := by
  have off2 : S ∉ wr := fun z => off (W.sub _ z)
  refine codeAny_builtin F.entry_max_loop ?_
  rw [Around.under_plainId F.plain_max_loop ⟨[Value.ref I, .none, .ref S], kw⟩]
  show wpAny (model prog w) A.in1 (seqItems? (Value.ref S) >>= _) _ _ s
  refine wpAny_bind (wpAny_seqItems hS rfl ?_)
  show wpAny (model prog w) A.in1 (tryCatch (pyNext (Value.ref I)) _ >>= _) _ _ s
  refine wpAny_bind (wpAny_tryCatch (W.item 0 s _ _ pos st fun v h1 tk pv st1 k1 => ?_))
  have hS1 := k1 S _ off2 hS
  show wpAny (model prog w) A.in1 (updateSeq S (fun _ => #[v, v]) >>= _) _ _ { s with heap := h1, toks := tk }
  refine wpAny_bind (wpAny_updateSeq hS1 rfl ?_)
  rw [ab_max_name]
  refine wpAny_pure ⟨plainId_quiet F.plain_max_loop _, ab_max_run W bt cmp S off (n - 1) 0 _ v _ (by omega) (W.frame _ _ _ st1 fun b q o e => ?_) pv (Heap.get?_update_self _ hS1 rfl) fun v2 h2 tk2 p2 k2 => ?_⟩
  · exact (Heap.get?_update_other _ _ (fun z : S = b => off (by rw [z]; exact q))).trans e
  · exact k v2 h2 tk2 p2 fun b o q1 q2 e => k2 b o q1 q2 ((Heap.get?_update_other _ _ (Ne.symm q2)).trans (k1 b o q1 e))
theorem ab_max_none (W : Walks prog w A.in1 I fp wr 0 P St) (S : Addr) (off : S ∉ fp) {s : Shared} {c : Nat} {x : Str} {d : Value} (st : St 0 s.heap) (hS : s.heap.get? S = some { cls := .type "list", dict := none, data := .seq #[] c, slots := #[] })
    (k : ∀ h' tk, (∀ b o, b ∉ wr → b ≠ S → s.heap.get? b = some o → h'.get? b = some o) → R (.ok (.ret d)) { s with heap := h', toks := tk }) : codeAny (model prog w) A (.builtin "max.loop" ⟨[.ref I, .none, .ref S], [(x, d)]⟩) R s := by
  refine codeAny_builtin F.entry_max_loop ?_
  rw [Around.under_plainId F.plain_max_loop ⟨[Value.ref I, .none, .ref S], [(x, d)]⟩]
  show wpAny (model prog w) A.in1 (seqItems? (Value.ref S) >>= _) _ _ s
  refine wpAny_bind (wpAny_seqItems hS rfl ?_)
  show wpAny (model prog w) A.in1 (tryCatch (pyNext (Value.ref I)) _ >>= _) _ _ s
  refine wpAny_bind (wpAny_tryCatch (W.done s _ _ st fun h1 tk k1 => ?_))
  refine wpAny_bind (wpAny_rule (wpAny_pure ?_))
  exact k _ tk fun b o q1 _ e => k1 b o q1 e
end
section
variable {prog : Program} {w : World} {A : Around} {E : Value → Shared → Prop} {s : Shared}
theorem ab_args_max (a d : Value) : argsOk "max" ⟨[a], [(Str.ofString "default", d)]⟩ := by unfold argsOk; kernel_rfl
theorem ab_bind_max (d : Value) : Builtin.Builtins.bindParams "max" ["key", "default"] 0 ⟨[], [(Str.ofString "default", d)]⟩ = pure [none, some d] := by
  first
    | rfl
    | kernel_rfl
theorem ab_call_max {x d : Value} {Q : Value → Shared → Prop}
    (h : wpAny (model prog w) A.in1 (pyIter x) (fun it s₂ => ∃ I fp wr n P St bt, it = .ref I ∧ Walks prog w A.in1 I fp wr n P St ∧ St 0 s₂.heap ∧ (∀ b ∈ fp, b < s₂.heap.objs.size) ∧ CmpOf prog w A.in1 .Gt P bt ∧
      ∀ v h' tk, ((0 < n ∧ P (argBest bt (n - 1)) v) ∨ (n = 0 ∧ v = d)) → (∀ b o, b ∉ wr → s₂.heap.get? b = some o → h'.get? b = some o) → Q v { s₂ with heap := h', toks := tk }) E s) :
    wpAny (model prog w) A (call (.builtin "max") [x] [(Str.ofString "default", d)]) Q E s := by
  have body : wpAny (model prog w) A.in1 (Builtin.«max» ⟨[x], [(Str.ofString "default", d)]⟩) (fun fin s' => match fin with
      | .done f => (match (Except.ok f : Result) with | .ok (.ret v) => Q v s' | .ok _ => False | .error e => E e s')
      | .again c' => c'.quiet = true ∧ codeAny (model prog w) A c' (fun r s' => match r with | .ok (.ret v) => Q v s' | .ok _ => False | .error e => E e s') s') E s := by
    show wpAny (model prog w) A.in1 (Builtin.Builtins.bindParams "max" ["key", "default"] 0 ⟨[], [(Str.ofString "default", d)]⟩ >>= _) _ _ s
    refine wpAny_bind (wpAny_of_eq (ab_bind_max d) (wpAny_bind (wpAny_pure ?_)))
    refine wpAny_bind (wpAny_mono h (fun it s2 h2 => ?_) fun _ _ z => z)
    obtain ⟨I, fp, wr, n, P, St, bt, rfl, W, st, hfp, cmp, k⟩ := h2
    refine wpAny_bind (wpAny_newObj_type ?_)
    have off : s2.heap.objs.size ∉ fp := fun z => Nat.lt_irrefl _ (hfp _ z)
    have st1 := W.frame _ _ (s2.heap.push { cls := .type "list", data := .seq #[] }) st fun b _ o e => Heap.get?_push_of_some _ e
    have old : ∀ (h' : Heap), (∀ b o, b ∉ wr → b ≠ s2.heap.objs.size → (s2.heap.push { cls := .type "list", data := .seq #[] }).get? b = some o → h'.get? b = some o) → ∀ b o, b ∉ wr → s2.heap.get? b = some o → h'.get? b = some o := fun h' q b o q1 e => q b o q1 (Nat.ne_of_lt (Heap.lt_size e)) (Heap.get?_push_of_some _ e)
    rw [ab_max_name]
    by_cases hn : 0 < n
    · exact wpAny_pure ⟨plainId_quiet F.plain_max_loop _, ab_max_start W bt cmp _ off hn st1 (Heap.get?_push_size _ rfl) fun v h' tk p q => k v h' tk (.inl ⟨hn, p⟩) (old h' q)⟩
    · have hn : n = 0 := by omega
      subst hn
      exact wpAny_pure ⟨plainId_quiet F.plain_max_loop _, ab_max_none W _ off st1 (Heap.get?_push_size _ rfl) fun h' tk q => k d h' tk (.inr ⟨rfl, rfl⟩) (old h' q)⟩
  refine wpAny_call (codeAny_call_builtin F.plain_max F.entry_max ?_)
  simp only [checkBuiltinCall, F.kind_max]
  have ha := ab_args_max x d
  cases hsig : Manifest.signature? "max" with
  | none => exact wpAny_pure body
  | some sig =>
    have ha2 : Bind.checkArgs "max" sig ⟨[x], [(Str.ofString "default", d)]⟩ = pure () := by simpa only [argsOk, hsig] using ha
    simp only [ha2]
    exact wpAny_pure body
end
end PySem
namespace Ab
open PySem PySem.Spec PyProof.Rows L2
/-- the greatest of xs, or d -/
def maxOr (d : Int) : List Int → Int
  | [] => d
  | x :: r => r.foldl max x
theorem foldl_max (r : List Int) : ∀ x : Int, (r.foldl max x = x ∨ r.foldl max x ∈ r) ∧ x ≤ r.foldl max x ∧ ∀ y ∈ r, y ≤ r.foldl max x := by
  induction r with
  | nil => exact fun x => ⟨.inl rfl, Int.le_refl _, fun _ z => (nomatch z)⟩
  | cons a r ih =>
    intro x
    obtain ⟨h1, h2, h3⟩ := ih (max x a)
    rw [List.foldl_cons]
    refine ⟨?_, by omega, fun y hy => ?_⟩
    · rcases h1 with h1 | h1
      · rw [h1]
        by_cases z : x ≤ a
        · right; rw [Int.max_eq_right z]; exact List.mem_cons_self
        · left; exact Int.max_eq_left (by omega)
      · right; exact List.mem_cons_of_mem _ h1
    · rcases List.mem_cons.mp hy with rfl | hy
      · omega
      · exact h3 y hy
theorem maxOr_spec {d m : Int} {ns : List Int} (hp : 0 < ns.length) (h1 : m ∈ ns) (h2 : ∀ y ∈ ns, y ≤ m) : m = maxOr d ns := by
  cases ns with
  | nil => simp at hp
  | cons x r =>
    obtain ⟨a, b, c⟩ := foldl_max r x
    show m = r.foldl max x
    have g : r.foldl max x ≤ m := by
      rcases a with a | a
      · rw [a]; exact h2 x List.mem_cons_self
      · exact h2 _ (List.mem_cons_of_mem _ a)
    have l : m ≤ r.foldl max x := by
      rcases List.mem_cons.mp h1 with e | e
      · rw [e]; exact b
      · exact c m e
    omega
theorem maxOr_le {d b : Int} {ns : List Int} (hd : d ≤ b) (h : ∀ y ∈ ns, y ≤ b) : maxOr d ns ≤ b := by
  cases ns with
  | nil => exact hd
  | cons x r =>
    rcases (foldl_max r x).1 with a | a
    · show r.foldl max x ≤ b
      rw [a]; exact h x List.mem_cons_self
    · exact h _ (List.mem_cons_of_mem _ a)
theorem le_maxOr {d : Int} {ns : List Int} {y : Int} (h : y ∈ ns) : y ≤ maxOr d ns := by
  cases ns with
  | nil => cases h
  | cons x r =>
    rcases List.mem_cons.mp h with e | e
    · rw [e]; exact (foldl_max r x).2.1
    · exact (foldl_max r x).2.2 y e
def rMaxD (K : PySem.W.Frag) : List V → List V → Hp → VK → Prop := fun vs zs H Q => ∃ (a : Addr) (ns : List Int) (d : Int), vs = [V.ref a] ∧ zs = [.int d] ∧ SqL K H a (ns.map V.int) ∧ Q (.int (maxOr d ns)) H
section
variable {X : Cx}
theorem cr_maxDf (hc : X.calm = true) : CallRK X (.builtin "max") [Str.ofString "default"] (rMaxD X.K) := by
  intro pins s σ H vs zs us ws Q I r rz h
  obtain ⟨a, ns, d, rfl, rfl, hs, q⟩ := h
  obtain ⟨its, rv, hl, _⟩ := I.list hs
  rw [Vals.ref1 r]
  obtain ⟨w1, rfl, e1⟩ := vals1 rz
  obtain ⟨t, rfl⟩ := e1
  have hi := rv.ints
  obtain ⟨xs, e⟩ := hi.allInts.items
  have hn : numsOf (intItems xs).toList = ns := by rw [← e]; exact hi.numsOf
  rw [nums_intItems] at hn
  subst hn
  have hl := hl.isList
  rw [e] at hl
  refine ab_call_max (iter_intList hl fun s₂ e st hfp hlI => ?_)
  subst e
  refine ⟨_, _, _, _, _, _, _, rfl, Walks.list (A := X.A.in1) (I.ok.hd hc) _ a hlI (intItems xs), st, hfp, CmpOf.ints_gt (numAt xs) (fun _ _ => intItems_at), fun v h' tk hP hk => ?_⟩
  have kept := old_kept hk
  have sz : (intItems xs).size = xs.size := by simp [intItems]
  rcases hP with ⟨h0, hv⟩ | ⟨h0, rfl⟩
  · rw [sz] at h0
    obtain ⟨t2, rfl⟩ := intItems_at hv
    obtain ⟨h1, h2⟩ := argBest_gt (numAt xs) (xs.size - 1)
    rw [sz] at hv ⊢
    have m1 : numAt xs (argBest (fun i j => decide (numAt xs i > numAt xs j)) (xs.size - 1)) ∈ xs.toList.map (·.1) := by
      rw [numAt_eq]
      exact PySem.getD_mem (by rw [List.length_map, Array.length_toList]; omega)
    have m2 : ∀ y ∈ xs.toList.map (·.1), y ≤ numAt xs (argBest (fun i j => decide (numAt xs i > numAt xs j)) (xs.size - 1)) := fun y hy => by
      obtain ⟨j, hj, rfl⟩ := mem_getD hy
      rw [List.length_map, Array.length_toList] at hj
      rw [← numAt_eq]
      exact h2 j (by omega)
    rw [maxOr_spec (d := d) (by rw [List.length_map, Array.length_toList]; exact h0) m1 m2]
    exact ⟨.int _, H, I.kept kept, ⟨_, rfl⟩, q⟩
  · rw [sz] at h0
    have e2 : xs.toList.map (·.1) = [] := by rw [List.map_eq_nil_iff]; exact List.length_eq_zero_iff.mp (by rw [Array.length_toList]; exact h0)
    rw [e2] at q
    exact ⟨.int _, H, I.kept kept, ⟨_, rfl⟩, q⟩
end
section
variable {X : Cx} {e a : Expr} {es : List Expr} {kws : List Keyword} {δ : DE} {M : AHp} {Q : DK} {G : Gx} {N : List Str} {sc : Scope} {pos p kpos : Pos} {x : Str} {id : String} {ks : List Str} {r : List V → List V → Hp → VK → Prop}
theorem ae_callBK (g : XF X G N sc) (hc : CallRK X (.builtin id) ks r) (hm : G.mg x = none) (hv : bootBuiltins x = some (.builtin id))
    (h : aA X (e :: es) δ M fun ds M1 => aK X kws δ M1 fun zs M2 => ∀ (xs ys : List V) (B H : Hp) (Q2 : VK), Reps B xs ds → Reps B ys zs → Cf B M2 H → (∀ v d M' B' H', Same B B' → Rep B' v d → Cf B' M' H' → Q d M' → Q2 v H') → r xs ys H Q2)
    (hg : sc.names.lookup x = some .globalImplicit := by rfl) (hn : x ≠ "__name__" := by decide) (hdb : (x == ("__debug__" : Str)) = false := by decide)
    (he : backTo pos (starEach (e :: es) X.env) = (false, eval e X.env) :: backTo pos (starEach es X.env) := by rfl) (hpl : (backTo pos (starEach (e :: es) X.env)).any (·.1) = false := by rfl)
    (hall : (backToKw pos (keywordEach kws X.env)).all (·.1.isSome) = true := by rfl) (hnone : (backToKw pos (keywordEach kws X.env)).any (·.1.isNone) = false := by rfl) (hks : (backToKw pos (keywordEach kws X.env)).filterMap (·.1) = ks := by rfl) :
    aE X (.Call (.Name x p) (e :: es) kws pos) δ M Q :=
  ae_of (pe_callBK hc (g.gl hg) (by rw [g.mg]; exact hm) hv pa_w pk_w hn hdb he hpl hall hnone hks) fun σ H B Q2 rs c kk => h.run rs c fun vs ds M1 B1 H1 s1 r1 c1 q1 => wK.imp (q1 _ H1 B1 (rs.mono s1) c1) fun zs H2 ⟨es2, M2, B2, s2, r2, c2, q2⟩ =>
    q2 vs zs B2 H2 Q2 (r1.mono s2) r2 c2 fun v d M' B' H' s r c' q => kk v d M' B' H' ((s1.trans s2).trans s) r c' q
/-- max(xs, default=d) -/
theorem av_maxD (g : XF X G N sc) (hm : G.mg "max" = none) {dx : D} {ns : List Int} {d : Int} (he : aV X e δ M dx) (hi : ListD M dx (ns.map D.int)) (ha : aV X a δ M (.int d)) (hg : sc.names.lookup ("max" : Str) = some .globalImplicit := by rfl)
    (hs : starEach (e :: []) X.env = (false, eval e X.env) :: starEach [] X.env := by rfl) (h1 : backTo pos (starEach (e :: []) X.env) = (false, eval e X.env) :: backTo pos (starEach [] X.env) := by rfl) (hpl : (backTo pos (starEach (e :: []) X.env)).any (·.1) = false := by rfl)
    (hall : (backToKw pos (keywordEach [⟨some "default", a, kpos⟩] X.env)).all (·.1.isSome) = true := by rfl) (hnone : (backToKw pos (keywordEach [⟨some "default", a, kpos⟩] X.env)).any (·.1.isNone) = false := by rfl) (hks : (backToKw pos (keywordEach [⟨some "default", a, kpos⟩] X.env)).filterMap (·.1) = [Str.ofString "default"] := by rfl) :
    aV X (.Call (.Name "max" p) [e] [⟨some "default", a, kpos⟩] pos) δ M (.int (maxOr d ns)) := fun Q q =>
  ae_callBK g (cr_maxDf g.calm) hm (by rfl) (aa_cons (he _ (aa_nil (ak_cons (ha _ (ak_nil fun xs ys B H Q2 rx ry c kk => by
    cases rx with
    | cons r1 r2 =>
      cases r2
      cases ry with
      | cons q1 q2 =>
        cases q2; cases q1
        obtain ⟨b, zs, rfl, hz, hr⟩ := hi.at_ r1 c
        have e := reps_ints hr
        subst e
        exact ⟨b, ns, d, rfl, rfl, .inl (.inl hz), kk _ _ _ _ _ (Same.refl _) (.int _) c q⟩))))) hs) hg (by decide) (by decide) h1 hpl hall hnone hks
end
end Ab
/-! The first day on which two lists are unlike. -/
namespace Ab
open PySem PySem.Spec PyProof.Rows L2
theorem heldN_none {l : List Ent} {i : Nat} (h : lookI l (i : Int) = none) : heldN l (i + 1) = heldN l i := by
  show (match lookI l (i : Int) with | some q => q | none => heldN l i) = heldN l i
  rw [h]
def apartB (l m : List Ent) (i : Nat) : Bool := !decide (heldN l (i + 1) = heldN m (i + 1))
def apN (l m : List Ent) (n : Nat) : Option Nat := (List.range n).find? (apartB l m)
def apI (l m : List Ent) (n : Nat) : Option Int := (apN l m n).map fun (i : Nat) => (i : Int)
theorem apN_none {l m : List Ent} {n : Nat} : apN l m n = none ↔ ∀ i, i < n → heldN l (i + 1) = heldN m (i + 1) := by
  unfold apN
  rw [List.find?_eq_none]
  constructor
  · intro h i hi
    have := h i (List.mem_range.mpr hi)
    simpa [apartB] using this
  · intro h i hi
    have := h i (List.mem_range.mp hi)
    simp [apartB, this]
theorem apN_some {l m : List Ent} {n i : Nat} (h : apN l m n = some i) : i < n ∧ heldN l (i + 1) ≠ heldN m (i + 1) ∧ ∀ j, j < i → heldN l (j + 1) = heldN m (j + 1) := by
  unfold apN at h
  have h1 := List.find?_some h
  have h2 := List.mem_of_find?_eq_some h
  refine ⟨List.mem_range.mp h2, by simpa [apartB] using h1, fun j hj => ?_⟩
  obtain ⟨_, as, bs, e, h4⟩ := List.find?_eq_some_iff_append.mp h
  have hj2 : j ∈ as := by
    have hi := List.mem_range.mp h2
    have len : as.length = i := by
      have z : (List.range n)[as.length]? = some i := by rw [e]; simp
      obtain ⟨z1, z2⟩ := List.getElem?_eq_some_iff.mp z
      rw [List.getElem_range] at z2
      exact z2
    have z : (List.range n)[j]? = some j := List.getElem?_range (by omega)
    rw [e, List.getElem?_append_left (by omega)] at z
    exact List.mem_of_getElem? z
  have := h4 j hj2
  simpa [apartB] using this
theorem apI_none {l m : List Ent} {n : Nat} : apI l m n = none ↔ ∀ i, i < n → heldN l (i + 1) = heldN m (i + 1) := by
  unfold apI
  rw [Option.map_eq_none_iff, apN_none]
theorem find_sorted {p : Int → Bool} {x : Int} : ∀ {ds : List Int}, ds.Pairwise (· ≤ ·) → x ∈ ds → p x = true → (∀ y ∈ ds, y < x → p y = false) → ds.find? p = some x
  | [], _, h, _, _ => (nomatch h)
  | a :: r, hs, hx, px, hb => by
    have h1 := List.pairwise_cons.mp hs
    rw [List.find?_cons]
    cases ha : p a with
    | true =>
      have ge : ¬ a < x := fun z => by have := hb a List.mem_cons_self z; rw [ha] at this; cases this
      rcases List.mem_cons.mp hx with e | e
      · rw [e]
      · have := h1.1 x e
        have e2 : a = x := by omega
        rw [e2]
    | false =>
      rcases List.mem_cons.mp hx with e | e
      · rw [e, ha] at px; cases px
      · exact find_sorted h1.2 e px fun y hy => hb y (List.mem_cons_of_mem _ hy)
/-- what first_unlike looks for, by the entries' days -/
def unlikeI (s t : List Ent) : Option Int := (srtI ((s ++ t).map (·.1))).find? fun d => !decide (toldL s d none = toldL t d none)
theorem unlike_eq {l m : List Ent} {n : Nat} (hl : (l.map (·.1)).Nodup) (hm : (m.map (·.1)).Nodup) (l0 : ∀ x ∈ l, 0 ≤ x.1 ∧ x.1 < (n : Int)) (m0 : ∀ x ∈ m, 0 ≤ x.1 ∧ x.1 < (n : Int)) : unlikeI (srtE l) (srtE m) = apI l m n := by
  have told : ∀ d : Int, 0 ≤ d → (toldL (srtE l) d none = heldN l (d.toNat + 1) ∧ toldL (srtE m) d none = heldN m (d.toNat + 1)) := fun d hd => ⟨told_srt hl (fun x hx => (l0 x hx).1) hd, told_srt hm (fun x hx => (m0 x hx).1) hd⟩
  have mem : ∀ d : Int, d ∈ srtI ((srtE l ++ srtE m).map (·.1)) ↔ d ∈ l.map (·.1) ∨ d ∈ m.map (·.1) := fun d => by
    rw [(srtBy_perm _ _).mem_iff, List.map_append, List.mem_append, ((srtE_perm l).map _).mem_iff, ((srtE_perm m).map _).mem_iff]
  have rng : ∀ d : Int, d ∈ srtI ((srtE l ++ srtE m).map (·.1)) → 0 ≤ d ∧ d < (n : Int) := fun d hd => by
    rcases (mem d).mp hd with h | h
    · obtain ⟨x, hx, rfl⟩ := List.mem_map.mp h; exact l0 x hx
    · obtain ⟨x, hx, rfl⟩ := List.mem_map.mp h; exact m0 x hx
  unfold unlikeI apI
  cases e : apN l m n with
  | none =>
    rw [Option.map_none, List.find?_eq_none]
    intro d hd
    obtain ⟨d0, d1⟩ := rng d hd
    obtain ⟨t1, t2⟩ := told d d0
    rw [t1, t2, apN_none.mp e d.toNat (by omega)]
    simp
  | some i =>
    obtain ⟨hi, hne, hlt⟩ := apN_some e
    rw [Option.map_some]
    have isday : (i : Int) ∈ l.map (·.1) ∨ (i : Int) ∈ m.map (·.1) := by
      by_cases h1 : (i : Int) ∈ l.map (·.1)
      · exact .inl h1
      · by_cases h2 : (i : Int) ∈ m.map (·.1)
        · exact .inr h2
        · exfalso
          apply hne
          have e1 : heldN l (i + 1) = heldN l i := heldN_none (lookI_none.mpr h1)
          have e2 : heldN m (i + 1) = heldN m i := heldN_none (lookI_none.mpr h2)
          rw [e1, e2]
          cases i with
          | zero => rfl
          | succ k => exact hlt k (Nat.lt_succ_self k)
    refine find_sorted (srtBy_srt _ _) ((mem _).mpr isday) ?_ fun y hy hyl => ?_
    · obtain ⟨t1, t2⟩ := told (i : Int) (by omega)
      rw [t1, t2, Int.toNat_natCast]
      simp [hne]
    · obtain ⟨d0, d1⟩ := rng y hy
      obtain ⟨t1, t2⟩ := told y d0
      rw [t1, t2, hlt y.toNat (by omega)]
      simp
theorem mem_chgN {l : List Ent} {n : Nat} {x : Ent} : x ∈ chgN l n ↔ ∃ i, i < n ∧ heldN l (i + 1) ≠ heldN l i ∧ x = ((i : Int), heldN l (i + 1)) := by
  unfold chgN
  rw [List.mem_map]
  constructor
  · rintro ⟨i, hi, rfl⟩
    obtain ⟨h1, h2⟩ := List.mem_filter.mp hi
    exact ⟨i, List.mem_range.mp h1, by simpa using h2, rfl⟩
  · rintro ⟨i, h1, h2, rfl⟩
    exact ⟨i, List.mem_filter.mpr ⟨List.mem_range.mpr h1, by simp [h2]⟩, rfl⟩
theorem chgN_eq {l m : List Ent} {n : Nat} : chgN l n = chgN m n ↔ ∀ i, i < n → heldN l (i + 1) = heldN m (i + 1) := by
  constructor
  · intro h i
    have half : ∀ {a b : List Ent}, chgN a n = chgN b n → ∀ k, k < n → heldN a (k + 1) ≠ heldN a k → heldN b (k + 1) = heldN a (k + 1) := fun {a b} h k hk hne => by
      have z : ((k : Int), heldN a (k + 1)) ∈ chgN b n := by rw [← h]; exact mem_chgN.mpr ⟨k, hk, hne, rfl⟩
      obtain ⟨j, _, _, e⟩ := mem_chgN.mp z
      have e1 := congrArg Prod.fst e
      have e2 := congrArg Prod.snd e
      have e1 : (k : Int) = (j : Int) := e1
      have e3 : k = j := by omega
      rw [← e3] at e2
      exact e2.symm
    induction i with
    | zero =>
      intro hi
      by_cases h1 : heldN l 1 = heldN l 0
      · by_cases h2 : heldN m 1 = heldN m 0
        · rw [h1, h2]; rfl
        · exact half h.symm 0 hi h2
      · exact (half h 0 hi h1).symm
    | succ k ih =>
      intro hi
      have ih := ih (by omega)
      by_cases h1 : heldN l (k + 1 + 1) = heldN l (k + 1)
      · by_cases h2 : heldN m (k + 1 + 1) = heldN m (k + 1)
        · rw [h1, h2, ih]
        · exact half h.symm (k + 1) hi h2
      · exact (half h (k + 1) hi h1).symm
  · intro h
    have h2 : ∀ i, i < n → heldN l i = heldN m i := fun i hi => by
      cases i with
      | zero => rfl
      | succ k => exact h k (by omega)
    unfold chgN
    have e1 : (List.range n).filter (fun i => !decide (heldN l (i + 1) = heldN l i)) = (List.range n).filter (fun i => !decide (heldN m (i + 1) = heldN m i)) := List.filter_congr fun i hi => by
      have hi := List.mem_range.mp hi
      rw [h i hi, h2 i hi]
    rw [e1]
    refine List.map_congr_left fun i hi => ?_
    have hi := List.mem_range.mp (List.mem_filter.mp hi).1
    rw [h i hi]
theorem alike_eq {l m : List Ent} {n : Nat} (hl : (l.map (·.1)).Nodup) (hm : (m.map (·.1)).Nodup) (l0 : ∀ x ∈ l, 0 ≤ x.1 ∧ x.1 < (n : Int)) (m0 : ∀ x ∈ m, 0 ≤ x.1 ∧ x.1 < (n : Int)) : (chgL none (srtE l) = chgL none (srtE m)) ↔ apI l m n = none := by
  rw [chg_srt hl (fun x hx => (l0 x hx).1) (fun x hx => (l0 x hx).2), chg_srt hm (fun x hx => (m0 x hx).1) (fun x hx => (m0 x hx).2), chgN_eq, apI_none]
theorem apN_of {l m : List Ent} {n i : Nat} (hi : i < n) (hne : heldN l (i + 1) ≠ heldN m (i + 1)) (hlt : ∀ j, j < i → heldN l (j + 1) = heldN m (j + 1)) : apN l m n = some i := by
  cases e : apN l m n with
  | none => exact absurd (apN_none.mp e i hi) hne
  | some k =>
    obtain ⟨a, b, c⟩ := apN_some e
    by_cases h1 : k < i
    · exact absurd (hlt k h1) b
    · by_cases h2 : i < k
      · exact absurd (c i h2) hne
      · rw [show k = i by omega]
section
variable {X : Cx} {e : Expr} {δ : DE} {M : AHp} {Q : DK}
/-- what is new is forgotten -/
theorem ae_forget (h : aE X e δ M fun d M' => Ge M M' ∧ Q d M) : aE X e δ M Q := fun σ H B rs c => (h σ H B rs c).imp fun v H' ⟨d, M', B', s, r, c', g, q⟩ => ⟨d, M, B', s, r, c'.forget g, q⟩
theorem p_catA {xs ys : List D} (hl : xs.length + ys.length ≤ 1000000) : pR (rCatA X.K) M (.tup xs) (.tup ys) (.tup (xs ++ ys)) := fun x y B H Q2 ra rb c kk => by
  cases ra with
  | tup h1 h2 =>
    cases rb with
    | tup h3 h4 =>
      refine ⟨_, _, _, _, rfl, rfl, .inl (.inl (c.ex _ _ h1)), .inl (.inl (c.ex _ _ h3)), by rw [h2.length, h4.length, sizeLine_eq]; omega, fun e => ?_, fun _ e => ?_, fun _ _ p hp => ?_⟩
      · subst e
        cases h2
        exact kk _ B H (Same.refl _) (.tup h3 h4) c
      · subst e
        cases h4
        refine kk _ B H (Same.refl _) ?_ c
        rw [List.append_nil]
        exact .tup h1 h2
      · obtain ⟨s2, c2⟩ := c.newI (.tup _) hp
        exact kk _ _ _ s2 (.tup upd_same ((h2.append h4).mono s2)) c2
end
theorem unlikeI_find {s t : List Ent} {d : Int} (h : unlikeI s t = some d) : d ∈ (s ++ t).map (·.1) := (srtBy_perm _ _).mem_iff.mp (List.mem_of_find?_eq_some h)
end Ab
/-! Lists cut; three lists' first unlike days. -/
namespace Ab
open PySem PySem.Spec PyProof.Rows L2
theorem isNon_dP (o : Option Int) : isNon (dP o) = decide (o = none) := by cases o <;> rfl
theorem apI_lt {l m : List Ent} {n : Nat} {d : Int} (h : apI l m n = some d) : 0 ≤ d ∧ d < (n : Int) := by
  unfold apI at h
  cases e : apN l m n with
  | none => rw [e] at h; cases h
  | some i =>
    rw [e] at h
    have h : (i : Int) = d := Option.some.inj h
    have := (apN_some e).1
    omega
def cutL (l : List Ent) (d : Int) : List Ent := l.filter fun x => decide (x.1 < d)
theorem lookI_cut {d i : Int} : ∀ l : List Ent, lookI (cutL l d) i = if i < d then lookI l i else none
  | [] => by
    show none = if i < d then none else none
    split <;> rfl
  | (k, q) :: r => by
    have ih := lookI_cut (d := d) (i := i) r
    have e : cutL ((k, q) :: r) d = if k < d then (k, q) :: cutL r d else cutL r d := by
      unfold cutL
      rw [List.filter_cons]
      by_cases z : k < d
      · rw [if_pos z, if_pos (by simpa using z)]
      · rw [if_neg z, if_neg (by simpa using z)]
    have e2 : lookI ((k, q) :: r) i = if k = i then some q else lookI r i := rfl
    rw [e, e2]
    by_cases z : k < d
    · rw [if_pos z]
      have e3 : lookI ((k, q) :: cutL r d) i = if k = i then some q else lookI (cutL r d) i := rfl
      rw [e3, ih]
      by_cases y : k = i
      · rw [if_pos y, if_pos y, if_pos (by omega)]
      · rw [if_neg y, if_neg y]
    · rw [if_neg z, ih]
      by_cases y : i < d
      · rw [if_pos y, if_pos y, if_neg (by omega)]
      · rw [if_neg y, if_neg y]
theorem held_cut (l : List Ent) (d : Nat) : ∀ n, heldN (cutL l (d : Int)) n = heldN l (min n d)
  | 0 => by rw [Nat.zero_min]; rfl
  | n + 1 => by
    have ih := held_cut l d n
    have e : heldN (cutL l (d : Int)) (n + 1) = match lookI (cutL l (d : Int)) (n : Int) with | some q => q | none => heldN (cutL l (d : Int)) n := rfl
    rw [e, lookI_cut, ih]
    by_cases h : (n : Int) < (d : Int)
    · rw [if_pos h, Nat.min_eq_left (show n ≤ d by omega), Nat.min_eq_left (show n + 1 ≤ d by omega)]
      rfl
    · rw [if_neg h, Nat.min_eq_right (show d ≤ n by omega), Nat.min_eq_right (show d ≤ n + 1 by omega)]
theorem cut_alike {l m : List Ent} {n i : Nat} (h : apN l m n = some i) : apI (cutL l (i : Int)) (cutL m (i : Int)) n = none := by
  obtain ⟨_, _, hlt⟩ := apN_some h
  refine apI_none.mpr fun j _ => ?_
  rw [held_cut, held_cut]
  by_cases z : j + 1 ≤ i
  · rw [Nat.min_eq_left z]; exact hlt j (by omega)
  · rw [Nat.min_eq_right (by omega)]
    cases i with
    | zero => rfl
    | succ k => exact hlt k (Nat.lt_succ_self k)
theorem cut_unlike {l m : List Ent} {n i : Nat} (h : apN l m n = some i) : apI (cutL l ((i : Int) + 1)) (cutL m ((i : Int) + 1)) n = some (i : Int) := by
  obtain ⟨h1, h2, hlt⟩ := apN_some h
  have e : ((i : Int) + 1) = ((i + 1 : Nat) : Int) := rfl
  rw [e]
  unfold apI
  rw [apN_of h1]
  · rfl
  · rw [held_cut, held_cut, Nat.min_self]; exact h2
  · intro j hj
    rw [held_cut, held_cut, Nat.min_eq_left (by omega)]
    exact hlt j hj
theorem cut_rows {a b : Int} {l : List Ent} (h : RowsOk a b l) (d : Int) : RowsOk a b (cutL l d) := h.sub List.filter_sublist
/-- the day, or n -/
def apV (l m : List Ent) (n : Nat) : Int := (apI l m n).getD (n : Int)
theorem apV_spec {l m : List Ent} {n : Nat} {d : Int} (h0 : 0 ≤ d) (h1 : d < apV l m n) (h2 : d < (n : Int)) : heldN l (d.toNat + 1) = heldN m (d.toNat + 1) := by
  unfold apV apI at h1
  cases e : apN l m n with
  | none => exact apN_none.mp e d.toNat (by omega)
  | some i =>
    rw [e] at h1
    have h1 : d < (i : Int) := h1
    exact (apN_some e).2.2 d.toNat (by omega)
theorem apV_le {l m : List Ent} {n : Nat} : 0 ≤ apV l m n ∧ apV l m n ≤ (n : Int) := by
  unfold apV apI
  cases e : apN l m n with
  | none => exact ⟨by show (0 : Int) ≤ (n : Int); omega, Int.le_refl _⟩
  | some i =>
    have := (apN_some e).1
    show 0 ≤ (i : Int) ∧ (i : Int) ≤ (n : Int)
    omega
theorem apV_ne {l m : List Ent} {n : Nat} (h : apV l m n < (n : Int)) : heldN l ((apV l m n).toNat + 1) ≠ heldN m ((apV l m n).toNat + 1) := by
  unfold apV apI at h ⊢
  cases e : apN l m n with
  | none =>
    rw [e] at h
    exact absurd h (by show ¬ ((n : Int) < (n : Int)); omega)
  | some i => exact (apN_some e).2.1
/-- no one of the three is less than both others -/
theorem apV_three (a b c : List Ent) (n : Nat) : ¬ (apV a b n < apV b c n ∧ apV a b n < apV c a n) := fun ⟨h1, h2⟩ => by
  have l1 := apV_le (l := a) (m := b) (n := n)
  have l2 := apV_le (l := b) (m := c) (n := n)
  have lt : apV a b n < (n : Int) := by omega
  refine apV_ne lt ?_
  have e1 := apV_spec (l := b) (m := c) l1.1 h1 lt
  have e2 := apV_spec (l := c) (m := a) l1.1 h2 lt
  rw [← e2, ← e1]
theorem srt_three {x y z : Int} (h1 : ¬ (x < y ∧ x < z)) (h2 : ¬ (y < z ∧ y < x)) (h3 : ¬ (z < x ∧ z < y)) : ∃ a b, srtI [x, y, z] = [a, a, b] := by
  have p : (srtI [x, y, z]).Perm [x, y, z] := srtBy_perm id _
  have s : (srtI [x, y, z]).Pairwise (fun a b => a ≤ b) := srtBy_srt id _
  have len := p.length_eq
  generalize srtI [x, y, z] = w at p s len ⊢
  match w, p, s, len with
  | [a, b, c], p, s, _ =>
    have s1 := List.pairwise_cons.mp s
    have hb : a ≤ b := s1.1 b (by simp)
    have hc : a ≤ c := s1.1 c (by simp)
    have hbc : b ≤ c := (List.pairwise_cons.mp s1.2).1 c (by simp)
    by_cases hab : a = b
    · subst hab
      exact ⟨a, c, rfl⟩
    · exfalso
      have hac : ¬ c = a := by omega
      have hba : ¬ b = a := fun w => hab w.symm
      have cnt := p.count_eq a
      have mx : x ∈ [a, b, c] := p.mem_iff.mpr (by simp)
      have my : y ∈ [a, b, c] := p.mem_iff.mpr (by simp)
      have mz : z ∈ [a, b, c] := p.mem_iff.mpr (by simp)
      simp only [List.mem_cons, List.not_mem_nil, or_false] at mx my mz
      simp [List.count_cons, hac, hba] at cnt
      split at cnt <;> split at cnt <;> split at cnt <;> omega
  | [], _, _, h => exact absurd h (by simp)
  | [_], _, _, h => exact absurd h (by simp)
  | [_, _], _, _, h => exact absurd h (by simp)
  | _ :: _ :: _ :: _ :: _, _, _, h => exact absurd h (by simp)
end Ab
/-! Slices; entries that change nothing. -/
namespace Ab
open PySem PySem.Spec PyProof.Rows L2
section
variable {X : Cx} {e a b : Expr} {δ : DE} {M : AHp} {Q : DK} {pos p2 : Pos}
/-- an end of a slice: left out, or an int from 0 on -/
inductive Cut (X : Cx) (δ : DE) (M : AHp) : Option Expr → Option Nat → Prop
  | no : Cut X δ M none none
  | upto {a : Expr} {i : Int} : aV X a δ M (.int i) → 0 ≤ i → Cut X δ M (some a) (some i.toNat)
def wP (X : Cx) (o : Option Expr) : TO := match o with
  | none => tNoPart
  | some a => tPart (wE X a)
theorem po_w {o : Option Expr} : PO X o (wP X o) := by
  cases o with
  | none => exact po_none
  | some a => exact po_some pe_w
theorem Cut.run {o : Option Expr} {k : Option Nat} (h : Cut X δ M o k) {σ : L2.St} {H B : Hp} (rs : RepS B σ δ) (c : Cf B M H) {Q2 : Option Int → Hp → Prop} (q : ∀ B' H', Same B B' → Cf B' M H' → Q2 (k.map fun (n : Nat) => (n : Int)) H') : wP X o σ H Q2 := by
  cases h with
  | no => exact q B H (Same.refl _) c
  | @upto a i ha h0 =>
    refine ha.run rs c fun x B1 H1 s1 r1 c1 => ?_
    cases r1
    refine ⟨i, rfl, ?_⟩
    have z := q B1 H1 s1 c1
    rw [Option.map_some, show ((i.toNat : Nat) : Int) = i by omega] at z
    exact z
def cutD {α : Type} (xs : List α) (lo hi : Option Nat) : List α := (xs.drop (lo.getD 0)).take (hi.getD xs.length - lo.getD 0)
theorem cut_reps {B : Hp} {vs : List V} {ds : List D} (r : Reps B vs ds) (lo hi : Option Nat) : Reps B (cutV vs (lo.map fun (n : Nat) => (n : Int)) (hi.map fun (n : Nat) => (n : Int))) (cutD ds lo hi) := by
  have e1 : HT.sIx vs.length 0 (lo.map fun (n : Nat) => (n : Int)) = min (lo.getD 0) vs.length := by
    cases lo with
    | none => show 0 = min 0 vs.length; omega
    | some k => exact HT.sIx_nat _ _ _
  have e2 : HT.sIx vs.length vs.length (hi.map fun (n : Nat) => (n : Int)) = min (hi.getD vs.length) vs.length := by
    cases hi with
    | none => show vs.length = min vs.length vs.length; omega
    | some k => exact HT.sIx_nat _ _ _
  have len := r.length
  unfold cutV cutD
  rw [e1, e2, ← len]
  by_cases h : lo.getD 0 ≤ vs.length
  · rw [Nat.min_eq_left h]
    have z := (r.drop (lo.getD 0)).take (hi.getD vs.length - lo.getD 0)
    by_cases g : hi.getD vs.length ≤ vs.length
    · rw [Nat.min_eq_left g]; exact z
    · rw [Nat.min_eq_right (by omega)]
      have ev : (vs.drop (lo.getD 0)).take (hi.getD vs.length - lo.getD 0) = (vs.drop (lo.getD 0)).take (vs.length - lo.getD 0) := by
        rw [List.take_of_length_le (by rw [List.length_drop]; omega), List.take_of_length_le (by rw [List.length_drop]; omega)]
      rw [← ev]
      exact z
  · rw [Nat.min_eq_right (show vs.length ≤ lo.getD 0 by omega), List.drop_eq_nil_of_le (Nat.le_refl vs.length), List.drop_eq_nil_of_le (show ds.length ≤ lo.getD 0 by omega), List.take_nil, List.take_nil]
    exact .nil
/-- xs[lo:hi] of a list: data -/
theorem av_slice {d : D} {ds : List D} {lo hi : Option Expr} {i j : Option Nat} (he : aV X e δ M d) (hd : ListD M d ds) (hl : Cut X δ M lo i) (hh : Cut X δ M hi j) : aV X (.Subscript e (.Slice lo hi none p2) pos) δ M (.lst (cutD ds i j)) :=
  av_of (pe_slice sl_list pe_w po_w po_w) fun σ H B Q rs c k => he.run rs c fun x B1 H1 s1 r1 c1 => hl.run (rs.mono s1) c1 fun B2 H2 s2 c2 => hh.run ((rs.mono s1).mono s2) c2 fun B3 H3 s3 c3 => by
    obtain ⟨p, xs, rfl, hx, hr⟩ := hd.at_ ((r1.mono s2).mono s3) c3
    refine ⟨p, xs, rfl, .inl (.inl hx), fun q hq => ?_⟩
    obtain ⟨s4, c4⟩ := c3.newI (.lst (cutV xs (i.map fun (n : Nat) => (n : Int)) (j.map fun (n : Nat) => (n : Int)))) hq
    exact k _ _ _ (((s1.trans s2).trans s3).trans s4) (.lst upd_same ((cut_reps hr i j).mono s4)) c4
theorem cut_to {α : Type} (xs : List α) (j : Nat) : cutD xs none (some j) = xs.take j := rfl
theorem cut_from {α : Type} (xs : List α) (i : Nat) : cutD xs (some i) none = xs.drop i := by
  show (xs.drop i).take (xs.length - i) = xs.drop i
  exact List.take_of_length_le (by rw [List.length_drop]; exact Nat.le_refl _)
theorem cut_map {α β : Type} (f : α → β) (xs : List α) (i j : Option Nat) : cutD (xs.map f) i j = (cutD xs i j).map f := by
  unfold cutD
  rw [List.length_map, List.map_take, List.map_drop]
end
theorem take_drop_erase {α : Type} : ∀ (l : List α) (j : Nat), l.take j ++ l.drop (j + 1) = l.eraseIdx j
  | [], _ => by simp
  | _ :: _, 0 => rfl
  | x :: r, j + 1 => congrArg (x :: ·) (take_drop_erase r j)

/-! ### the list of changes -/
theorem chgN_days (l : List Ent) (n : Nat) : (chgN l n).Pairwise fun a b => a.1 < b.1 := by
  unfold chgN
  rw [List.pairwise_map]
  refine List.Pairwise.imp (R := fun a b : Nat => a < b) (fun {a b} h => ?_) (List.Pairwise.filter _ List.pairwise_lt_range)
  show (a : Int) < (b : Int)
  omega
theorem chgN_nodup (l : List Ent) (n : Nat) : ((chgN l n).map (·.1)).Nodup := by
  rw [List.Nodup, List.pairwise_map]
  exact (chgN_days l n).imp fun {a b} h e => by omega
theorem look_chgN {l : List Ent} {n k : Nat} (hk : k < n) : lookI (chgN l n) (k : Int) = if heldN l (k + 1) = heldN l k then none else some (heldN l (k + 1)) := by
  by_cases h : heldN l (k + 1) = heldN l k
  · rw [if_pos h]
    refine lookI_none.mpr fun z => ?_
    obtain ⟨x, hx, e⟩ := List.mem_map.mp z
    obtain ⟨i, _, hne, rfl⟩ := mem_chgN.mp hx
    have e : (i : Int) = (k : Int) := e
    have e : i = k := by omega
    subst e
    exact hne h
  · rw [if_neg h]
    exact (lookI_some (chgN_nodup l n)).mpr (mem_chgN.mpr ⟨k, hk, h, rfl⟩)
theorem held_chgN {l : List Ent} {n : Nat} : ∀ k, k ≤ n → heldN (chgN l n) k = heldN l k
  | 0, _ => rfl
  | k + 1, h => by
    have ih := held_chgN (l := l) (n := n) k (by omega)
    have e : heldN (chgN l n) (k + 1) = match lookI (chgN l n) (k : Int) with | some q => q | none => heldN (chgN l n) k := rfl
    rw [e, look_chgN (by omega), ih]
    by_cases z : heldN l (k + 1) = heldN l k
    · rw [if_pos z]; exact z.symm
    · rw [if_neg z]
theorem chgN_chgN (l : List Ent) (n : Nat) : chgN (chgN l n) n = chgN l n := chgN_eq.mpr fun i hi => held_chgN (i + 1) (by omega)
theorem srt_asc {l : List Ent} (h : Asc l) : srtE l = l := by
  have hn : (l.map (·.1)).Nodup := by
    rw [List.Nodup, List.pairwise_map]
    exact h.imp fun {a b} g e => by omega
  exact asc_uniq (k := fun x : Ent => x.1) (srtE_perm l) (srtBy_srt _ l) (h.imp fun {a b} g => by omega) fun a ha b hb e => by
    have h1 := (lookI_some (i := a.1) (y := a.2) hn).mpr ((srtE_perm l).mem_iff.mp ha)
    have h2 := (lookI_some (i := b.1) (y := b.2) hn).mpr ((srtE_perm l).mem_iff.mp hb)
    rw [e, h2] at h1
    cases a; cases b
    simp at h1 e
    rw [e, h1]
/-- an entry more that tells what is in force anyway -/
theorem held_idle {l m : List Ent} {d : Nat} (hm : m.Perm (l ++ [((d : Int), heldN l (d + 1))])) (hn : (l.map (·.1)).Nodup) (hd : (d : Int) ∉ l.map (·.1)) : ∀ n, heldN m n = heldN l n := by
  have nd : ((l ++ [((d : Int), heldN l (d + 1))]).map (·.1)).Nodup := by
    rw [List.map_append, List.nodup_append]
    refine ⟨hn, by simp, fun a ha b hb z => ?_⟩
    rw [List.map_cons, List.map_nil] at hb
    rw [List.mem_singleton.mp hb] at z
    exact hd (by rw [← show a = (d : Int) from z]; exact ha)
  have nm : (m.map (·.1)).Nodup := (hm.map _).nodup_iff.mpr nd
  have e0 : heldN l (d + 1) = heldN l d := heldN_none (lookI_none.mpr hd)
  have look : ∀ i, lookI m i = if i = (d : Int) then some (heldN l (d + 1)) else lookI l i := fun i => by
    rw [lookI_perm hm nm]
    have key : ∀ t : List Ent, lookI (t ++ [((d : Int), heldN l (d + 1))]) i = match lookI t i with | some q => some q | none => if (d : Int) = i then some (heldN l (d + 1)) else none := by
      intro t
      induction t with
      | nil => rfl
      | cons y t ih =>
        obtain ⟨k, q⟩ := y
        show (if k = i then some q else lookI (t ++ [((d : Int), heldN l (d + 1))]) i) = match (if k = i then some q else lookI t i) with | some q => some q | none => if (d : Int) = i then some (heldN l (d + 1)) else none
        by_cases z : k = i
        · rw [if_pos z, if_pos z]
        · rw [if_neg z, if_neg z, ih]
    rw [key]
    by_cases z : i = (d : Int)
    · rw [if_pos z, z, lookI_none.mpr hd, if_pos rfl]
    · rw [if_neg z, if_neg (fun w => z w.symm)]
      cases lookI l i <;> rfl
  intro n
  induction n with
  | zero => rfl
  | succ n ih =>
    have e1 : heldN m (n + 1) = match lookI m (n : Int) with | some q => q | none => heldN m n := rfl
    rw [e1, look, ih]
    by_cases z : (n : Int) = (d : Int)
    · rw [if_pos z]
      have z : n = d := by omega
      rw [z]
    · rw [if_neg z]
      rfl
/-- without one of its changes a list is unlike from that day on -/
theorem fewer_apart {l : List Ent} {n j : Nat} {y : Ent} (hy : (chgN l n)[j]? = some y) : apN (chgN l n) ((chgN l n).eraseIdx j) n = some y.1.toNat ∧ 0 ≤ y.1 := by
  have hmem := List.mem_of_getElem? hy
  obtain ⟨i, hi, hne, rfl⟩ := mem_chgN.mp hmem
  have nd := chgN_nodup l n
  have p := erase_perm hy
  have nd2 := ((p.map (·.1)).nodup_iff.mpr nd)
  rw [List.map_cons] at nd2
  have nd3 := List.nodup_cons.mp nd2
  have look : ∀ d : Int, lookI ((chgN l n).eraseIdx j) d = if d = (i : Int) then none else lookI (chgN l n) d := fun d => by
    by_cases z : d = (i : Int)
    · rw [if_pos z, z]; exact lookI_none.mpr nd3.1
    · rw [if_neg z, ← lookI_perm p nd2 d]
      show _ = if (i : Int) = d then _ else _
      rw [if_neg (fun w => z w.symm)]
  have same : ∀ k, k ≤ i → heldN ((chgN l n).eraseIdx j) k = heldN (chgN l n) k := fun k => by
    induction k with
    | zero => intro _; rfl
    | succ k ih =>
      intro hk
      have e1 : heldN ((chgN l n).eraseIdx j) (k + 1) = match lookI ((chgN l n).eraseIdx j) (k : Int) with | some q => q | none => heldN ((chgN l n).eraseIdx j) k := rfl
      rw [e1, look, if_neg (by omega), ih (by omega)]
      rfl
  refine ⟨?_, by show 0 ≤ (i : Int); omega⟩
  show apN _ _ n = some ((i : Int)).toNat
  rw [Int.toNat_natCast]
  refine apN_of hi ?_ fun k hk => ?_
  · have e1 : heldN ((chgN l n).eraseIdx j) (i + 1) = heldN ((chgN l n).eraseIdx j) i := heldN_none (by rw [look, if_pos rfl])
    rw [e1, same i (Nat.le_refl _), held_chgN (i + 1) (by omega), held_chgN i (by omega)]
    exact hne
  · rw [same (k + 1) (by omega)]
theorem apN_symm {l m : List Ent} {n : Nat} : apN l m n = apN m l n := by
  unfold apN
  congr 1
  funext i
  unfold apartB
  by_cases h : heldN l (i + 1) = heldN m (i + 1)
  · rw [decide_eq_true h, decide_eq_true h.symm]
  · rw [decide_eq_false h, decide_eq_false fun w => h w.symm]
theorem apN_congr {l l' m m' : List Ent} {n : Nat} (h1 : ∀ k, heldN l k = heldN l' k) (h2 : ∀ k, heldN m k = heldN m' k) : apN l m n = apN l' m' n := by
  unfold apN
  congr 1
  funext i
  unfold apartB
  rw [h1, h2]
end Ab
/-! Defs that raise, and their callers. -/
namespace Ab
open PySem PySem.Spec PyProof.Rows L2
/-- what is wished of an error: its class, its value, the names, what may change -/
abbrev AW := Addr → D → DE → AHp → Prop
def cW (W : AW) : WX := fun cls dd σ H => ∃ (C dx : Addr) (v : V) (d : D) (δ : DE) (M : AHp) (B : Hp), cls = .ref C ∧ dd = some dx ∧ H dx = some (.xd [(("value" : Str), v)]) ∧ RepS B σ δ ∧ Rep B v d ∧ Cf B M H ∧ (B dx = none ∧ M dx = none) ∧ W C d δ M
theorem Inv_ghost {X : Cx} {pins : List (Addr × Obj)} {σ : L2.St} {H : Hp} {s : Shared} (I : L2.Inv X pins σ H s) {gi : Nat} {x : Str} (hN : X.N[gi]? = some x) (nv : ¬ Vis X.env.scope x) (v : Option V) : L2.Inv X pins (σ.set gi v) H s :=
  { I with
    loc := by
      obtain ⟨m, hn, hl⟩ := I.loc
      refine ⟨m, hn, fun i y u h1 h2 h3 => ?_⟩
      by_cases e : gi = i
      · subst e
        rw [hN] at h1
        cases h1
        exact absurd h3 nv
      · rw [List.getElem?_set_ne e] at h2
        exact hl i y u h1 h2 h3
    len := by rw [List.length_set]; exact I.len }
theorem not_vis {sc : Scope} {x : Str} (h : sc.names.lookup x = none) : ¬ Vis sc x := fun z => by
  unfold Vis at z
  rw [h] at z
  rcases z with z | z | z <;> cases z
/-- a def's body keeps its promise; it may raise. The name at gi is a ghost: it holds what stood at the entry -/
theorem aokX {G : Gx} {x qual : Str} {st : Stmt} {f : Addr} {fd : FuncData} {N ps : List Str} {k gi : Nat} {gx : Str} {a : ASp} (F : L2.Fun G.K x qual st f fd) (S : FnScope N ps (defScope st)) (hg : N[gi]? = some gx) (hgs : (defScope st).names.lookup gx = none) (len : ∀ ds M Q E, a ds M Q E → ds.length = ps.length)
    (hb : ∀ X : Cx, XD X G N (defScope st) → Room k X.A → ∀ B ds M Q E, a ds M Q E → Takes X (cW fun C d δ M' => δ[gi]? = some (some (.pin B)) ∧ E C d M') → aSs X (defBody st) { nx := fun _ M' => Q .non M', rt := Q } ((startD N ds).set gi (some (.pin B))) M) : FnG G (L2.CX G.prog G.w) (k + 1) f fd ps (toSp a) := by
  refine fnG_of F S (fun vs H Q E h => ?_) (fun cdv A outer s H vs Q E gd hr h => ?_)
  · obtain ⟨B, M, ds, r, c, q⟩ := h
    rw [r.length]
    exact len _ _ _ _ q
  · obtain ⟨B, M, ds, r, c, q⟩ := h
    have g : XD (cxOf (L2.CX G.prog G.w) G.prog G.w G.K G.mg G.base N qual (defScope st) f cdv A outer s H E) G N (defScope st) := ⟨⟨rfl, rfl, rfl, rfl, S.nd, passes_of rfl, gd⟩, fun _ => rfl, rfl, rfl⟩
    have tk0 : Takes (cxOf (L2.CX G.prog G.w) G.prog G.w G.K G.mg G.base N qual (defScope st) f cdv A outer s H E) (fun cls d _ H => E cls d H) := takes_of rfl rfl rfl rfl
    have z := hb _ g hr B ds M _ _ q (tk0.imp fun cls dd σ H' ⟨C, dx, v, d, δ, M', B', e1, e2, hx, rs, rv, c', hn, hp, hE⟩ => by
      subst e1 e2
      obtain ⟨v2, _, rp⟩ := rs.at_ gi _ hp
      cases rp with
      | pin hs => exact hE v dx B' H' hs rv c' hn hx)
    refine fun pins s1 I => ?_
    have z2 := (z ((L2.start N vs).set gi (some (.bl true))) H B ((start_rep r).set (.pin (Same.refl _))) c).imp (D' := { nx := fun _ H' => Q .non H', rt := Q }) ⟨fun _ _ ⟨δ', M', B', s, r, c', q⟩ => q .non B' _ s .non c', fun _ _ ⟨d, M', B', s, r, c', q⟩ => q _ B' _ s r c', fun _ _ ⟨_, _, _, _, _, _, z⟩ => z, fun _ _ ⟨_, _, _, _, _, _, z⟩ => z⟩
    exact z2 pins s1 (Inv_ghost I hg (not_vis hgs) _)
/-- as aok, with a ghost among the names; nothing is raised -/
theorem aokG {G : Gx} {x qual : Str} {st : Stmt} {f : Addr} {fd : FuncData} {N ps : List Str} {k gi : Nat} {gx : Str} {a : ASp} (F : L2.Fun G.K x qual st f fd) (S : FnScope N ps (defScope st)) (hg : N[gi]? = some gx) (hgs : (defScope st).names.lookup gx = none) (len : ∀ ds M Q E, a ds M Q E → ds.length = ps.length)
    (hb : ∀ X : Cx, XD X G N (defScope st) → Room k X.A → ∀ B0 ds M Q E, a ds M Q E → aSs X (defBody st) { nx := fun _ M' => Q .non M', rt := Q } ((startD N ds).set gi (some (.pin B0))) M) : FnG G CX0 (k + 1) f fd ps (toSp a) := by
  refine fnG_of F S (fun vs H Q E h => ?_) (fun cdv A outer s H vs Q E gd hr h => ?_)
  · obtain ⟨B, M, ds, r, c, q⟩ := h
    rw [r.length]
    exact len _ _ _ _ q
  · obtain ⟨B, M, ds, r, c, q⟩ := h
    have g : XD (cxOf CX0 G.prog G.w G.K G.mg G.base N qual (defScope st) f cdv A outer s H E).nox G N (defScope st) := ⟨⟨rfl, rfl, rfl, rfl, S.nd, PassesOwn.never, gd⟩, fun _ => rfl, rfl, rfl⟩
    have z := (hb _ g hr B ds M _ _ q ((L2.start N vs).set gi (some (.bl true))) H B ((start_rep r).set (.pin (Same.refl _))) c).imp (D' := { nx := fun _ H' => Q .non H', rt := Q }) ⟨fun _ _ ⟨δ', M', B', s, r, c', q⟩ => q .non B' _ s .non c', fun _ _ ⟨d, M', B', s, r, c', q⟩ => q _ B' _ s r c', fun _ _ ⟨_, _, _, _, _, _, z⟩ => z, fun _ _ ⟨_, _, _, _, _, _, z⟩ => z⟩
    have z2 : wSs (cxOf CX0 G.prog G.w G.K G.mg G.base N qual (defScope st) f cdv A outer s H E).nox (defBody st) { nx := fun _ H' => Q .non H', rt := Q } (L2.start N vs) H := fun pins s1 I => z pins s1 (Inv_ghost I hg (not_vis hgs) _)
    exact wSs_of (PSs.nox ⟨fun pins s σ H D I h => h pins s I⟩ : PSs (cxOf CX0 G.prog G.w G.K G.mg G.base N qual (defScope st) f cdv A outer s H E) (defBody st) (wSs (cxOf CX0 G.prog G.w G.K G.mg G.base N qual (defScope st) f cdv A outer s H E).nox (defBody st))) z2
/-- the ghost holds what stands here -/
theorem as_pin {X : Cx} {sts : List Stmt} {A : AEnds} {δ : DE} {M : AHp} {gi : Nat} {B0 : Hp} (h0 : δ[gi]? = some (some (.pin B0))) (h : ∀ B1, aSs X sts A (δ.set gi (some (.pin B1))) M) : aSs X sts A δ M := fun σ H B rs c => by
  obtain ⟨v, h1, h2⟩ := rs.at_ gi _ h0
  cases h2
  have e : σ.set gi (some (.bl true)) = σ := by
    refine List.ext_getElem? fun j => ?_
    by_cases q : gi = j
    · subst q
      rw [List.getElem?_set_self (List.getElem?_eq_some_iff.mp h1).1]
      exact h1.symm
    · rw [List.getElem?_set_ne q]
  have z := rs.set (i := gi) (.pin (Same.refl B))
  rw [e] at z
  exact h B σ H B z c
structure FnE (G : Gx) (k : Nat) (x : Str) (a : ASp) : Prop where
  ex : ∃ (f : Addr) (fd : FuncData) (ps : List Str), FnG G (L2.CX G.prog G.w) k f fd ps (toSp a) ∧ G.mg x = some (.ref f) ∧ PySem.W.keepIn G.K (.ref f) = true ∧ Binds G.K fd ps []
  up : Up a
structure MtE (G : Gx) (k : Nat) (C : Addr) (m : Str) (a : ASp) : Prop where
  ex : ∃ (f : Addr) (fd : FuncData) (ps : List Str), FnG G (L2.CX G.prog G.w) k f fd ps (toSp a) ∧ Meth G.K C m f ∧ Binds G.K fd ps []
  cl : Cls G.K C
  up : Up a
structure CnE (G : Gx) (k : Nat) (x : Str) (C : Addr) (a : ASp) : Prop where
  ex : ∃ (f : Addr) (fd : FuncData) (ps : List Str), FnG G (L2.CX G.prog G.w) k f fd ps (toSp a) ∧ Mk G.K C f ∧ Binds G.K fd ps []
  mg : G.mg x = some (.ref C)
  up : Up a
section
variable {X : Cx} {e o : Expr} {es : List Expr} {δ : DE} {M : AHp} {Q : DK} {σ : L2.St} {H B : Hp} {G : Gx} {N : List Str} {sc : Scope} {pos p apos : Pos} {x m : Str} {k : Nat} {sp : ASp} {C : Addr} {W : AW}
theorem toSp_ofX {vs : List V} {ds : List D} {B0 : Hp} (rs : RepS B σ δ) (r : Reps B vs ds) (c : Cf B M H) {Q2 : VK} (h : sp ds M Q fun C d M' => W C d δ M') (up : Up sp) (kk : ∀ v d M' B' H', Same B B' → Rep B' v d → Cf B' M' H' → Q d M' → Q2 v H') : toSp sp vs H Q2 fun cls dd H' => cW W cls dd σ H' :=
  ⟨B, M, ds, r, c, up.up (fun d M' q v B' H' s r c' => kk v d M' B' H' s r c' q) (fun C d M' w v dx B' H' s rv c' hn hx => ⟨C, dx, v, d, δ, M', B', rfl, rfl, hx, rs.mono s, rv, c', hn, w⟩) h⟩
theorem run_gX {f : Addr} {fd : FuncData} {ps : List Str} {s0 : Sp} {pins : List (Addr × Obj)} {s : Shared} {Q : VK} {us : List Value} {vs : List V} (F : FnG (gxOf X) (L2.CX X.prog X.w) k f fd ps s0) (gd : X.A.guards = some []) (hr : Room k X.A) (hb : Binds X.K fd ps []) (tk : Takes X (cW W))
    (I : L2.Inv X pins σ H s) (r : Vals vs us) (h : s0 vs H Q fun cls dd H' => cW W cls dd σ H') : wpAny (model X.prog X.w) X.A (call (.ref f) us) (EP X pins σ Q) X.xe s := by
  have hl : (us ++ []).length = ps.length := by rw [List.append_nil, ← r.length]; exact F.len _ _ _ _ h
  have b := hb s us I.kIn hl
  rw [List.append_nil] at b
  refine wpAny_call (codeAny_mono (F.run X.A X.stack s H ⟨us, []⟩ us vs Q _ gd hr I.env0 b r h) fun res s' hq => ?_)
  match res, hq with
  | .error er, hq => exact tk er s' (XE.of_call I (fun cls dd H' h => h) hq)
  | .ok (.ret u), hq => exact I.after hq
  | .ok .next, hq => exact False.elim hq
  | .ok .brk, hq => exact False.elim hq
  | .ok .cont, hq => exact False.elim hq
/-- f(e, ..), f may raise -/
theorem ae_callX (g : XF X G N sc) (F : FnE G k x sp) (hr : Room k X.A) (tk : Takes X (cW W)) (h : aA X (e :: es) δ M fun ds M1 => sp ds M1 Q fun C d M' => W C d δ M') (hg : sc.names.lookup x = some .globalImplicit := by rfl) (hdb : (x == ("__debug__" : Str)) = false := by decide)
    (he : starEach (e :: es) X.env = (false, eval e X.env) :: starEach es X.env := by rfl) (hpl : (backTo pos (starEach es X.env)).any (·.1) = false := by rfl) : aE X (.Call (.Name x p) (e :: es) [] pos) δ M Q := fun σ H B rs c pins s I => by
  have gl := g.gl hg
  have gd := g.gd
  obtain ⟨rfl, _⟩ := g
  obtain ⟨f, fd, ps, F1, hm, hk, hb⟩ := F.ex
  refine wpAny_Call_Name_kw (ld_glob I gl hm ?_ hdb)
  refine PySem.W.callWith_K (h₀ := X.base) I.ok.mod.kin hk (thn (h σ H B rs c pos pins s I) fun us s1 ⟨vs, H1, I1, r, q⟩ => ⟨I1.kIn, ?_⟩) he hpl
  obtain ⟨ds, M1, B1, s1, r1, c1, q⟩ := q
  exact run_gX F1 gd hr hb tk I1 r (toSp_ofX (B0 := B) (rs.mono s1) r1 c1 q F.up fun v d M' B' H' s r c' q => ⟨d, M', B', s1.trans s, r, c', q⟩)
theorem Cf.junk (c : Cf B M H) {p : Addr} {o : HO} (h : H p = Option.none) : Cf B M (upd H p o) := ⟨c.ex.trans (same_upd h), fun q u z => by
  obtain ⟨b, mr⟩ := c.m q u z
  exact ⟨b, mr.grow (Same.refl _) (same_upd h) fun a w z => .inl z⟩⟩
/-- what an own error's __init__ does: self.value = value -/
def spVal (K : PySem.W.Frag) : Sp := fun vs H Q _ => ∃ (a C : Addr) (v : V), vs = [.ref a, v] ∧ OexC K C ∧ PySem.W.findIn K (.ref C) "value" = some none ∧ H a = some (exo a C none) ∧ ∀ dx, H dx = none → dx ≠ a → Q .non (upd (upd H dx (exd dx [(("value" : Str), v)])) a (exo a C (some dx)))
/-- an own class of errors: its place, the __init__ that it has or inherits -/
structure ErrC (G : Gx) (x : Str) (C : Addr) : Prop where
  ox : OexC G.K C
  no : PySem.W.findIn G.K (.ref C) "value" = some none
  mg : G.mg x = some (.ref C)
  ini : ∃ (fI : Addr) (fd : FuncData) (ps : List Str), PySem.W.findIn G.K (.ref C) "__init__" = some (some (.ref fI)) ∧ PySem.W.typeIn G.K (.ref fI) = some (.type "function") ∧ FnOk G.prog G.w G.K G.mg G.base CX0 1 fI fd ps (spVal G.K) ∧ Binds G.K fd ps []
/-- raise C(e) -/
theorem as_raise (g : XF X G N sc) (ec : ErrC G x C) (hr : Room 2 X.A) (tk : Takes X (cW W)) {A : AEnds} {e : Expr} {pr : Pos} (h : aE X e δ M fun d M1 => W C d δ M1) (hg : sc.names.lookup x = some .globalImplicit := by rfl) (hdb : (x == ("__debug__" : Str)) = false := by decide)
    (he : starEach (e :: []) X.env = (false, eval e X.env) :: starEach [] X.env := by rfl) (hpl : (backTo pos (starEach [] X.env)).any (·.1) = false := by rfl) : aS X (.Raise (some (.Call (.Name x p) [e] [] pos)) none pr) A δ M := fun σ H B rs c => by
  obtain ⟨fI, fd, ps, h1, h2, F1, hb⟩ := ec.ini
  have gl := g.gl hg
  have cal := g.calm
  obtain ⟨rfl, _⟩ := g
  refine wS_of (ps_raise cal tk (pmk_oex (dvs := []) (ds := []) ec.ox h1 h2 F1 hr hb .nil pass0 gl ec.mg (pa_cons pe_w pa_nil he) hdb he hpl)) ?_
  refine h.run rs c fun v d M1 B1 H1 s1 r1 c1 w => ?_
  refine ⟨by simp, fun a ha => ⟨a, C, v, rfl, ec.ox, ec.no, upd_same, fun dx hd hne => ?_⟩⟩
  have hd1 : H1 dx = none := by rw [upd_ne hne] at hd; exact hd
  refine ⟨rfl, dx, [(("value" : Str), v)], upd_same, by rw [upd_ne hne]; exact upd_same, hd1, ?_⟩
  have e : upd (del (upd (upd (upd H1 a (exo a C none)) dx (exd dx [(("value" : Str), v)])) a (exo a C (some dx))) a) dx (.xd [(("value" : Str), v)]) = upd H1 dx (.xd [(("value" : Str), v)]) := by
    funext b
    by_cases q1 : b = dx
    · rw [q1, upd_same, upd_same]
    · rw [upd_ne q1, upd_ne q1]
      by_cases q2 : b = a
      · rw [q2, del_same, ha]
      · rw [del_ne q2, upd_ne q2, upd_ne q1, upd_ne q2]
  rw [e]
  exact ⟨C, dx, v, d, δ, M1, B1, rfl, rfl, upd_same, rs.mono s1, r1, Cf.junk c1 hd1, ⟨c1.noneB hd1, c1.none hd1⟩, w⟩
/-- C(e, ..), its __init__ may raise -/
theorem run_mkX {pins : List (Addr × Obj)} {s : Shared} {us : List Value} {vs : List V} {ds : List D} (F : CnE (gxOf X) k x C sp) (gd : X.A.guards = some []) (hr : Room (k + 1) X.A) (tk : Takes X (cW W)) (I : L2.Inv X pins σ H s) (r : Vals vs us) (rs : RepS B σ δ) (rd : Reps B vs ds) (c : Cf B M H)
    (h : ∀ p, M p = none → sp (.adr p :: ds) (updM M p (.ins C [])) (fun d M' => d = .non ∧ Q (.adr p) M') fun C d M' => W C d δ M') : wpAny (model X.prog X.w) X.A (call (.ref C) us) (EP X pins σ fun v H' => ∃ d M' B', Same B B' ∧ Rep B' v d ∧ Cf B' M' H' ∧ Q d M') X.xe s := by
  obtain ⟨f, fd, ps, F1, hM, hb⟩ := F.ex
  have fx : H (s.heap.objs.size + 1) = none := I.hok.fresh (Nat.le_succ _)
  have fd0 : H s.heap.objs.size = none := I.hok.fresh (Nat.le_refl _)
  have ne : s.heap.objs.size + 1 ≠ s.heap.objs.size := Nat.succ_ne_self _
  have I2 := Inv.made (C := C) I
  have cM : Cf B (updM M (s.heap.objs.size + 1) (.ins C [])) (upd (upd H s.heap.objs.size (.own (s.heap.objs.size + 1))) (s.heap.objs.size + 1) (.ins C s.heap.objs.size [])) :=
    (Cf.junk c fd0).newM (.ins C []) (by rw [upd_ne ne]; exact fx) ⟨s.heap.objs.size, [], upd_same, by rw [upd_ne (Ne.symm ne), upd_same], c.noneB fd0, .nil⟩
  have rr : Reps B (V.ref (s.heap.objs.size + 1) :: vs) (.adr (s.heap.objs.size + 1) :: ds) := .cons (.adr _) rd
  have hs : toSp sp (V.ref (s.heap.objs.size + 1) :: vs) (upd (upd H s.heap.objs.size (.own (s.heap.objs.size + 1))) (s.heap.objs.size + 1) (.ins C s.heap.objs.size [])) (fun v H' => v = .non ∧ ∃ d M' B', Same B B' ∧ Rep B' (.ref (s.heap.objs.size + 1)) d ∧ Cf B' M' H' ∧ Q d M') (fun cls dd H' => cW W cls dd σ H') :=
    toSp_ofX (B0 := B) rs rr cM (h _ (c.none fx)) F.up fun v d M' B' H' s r c' q => by
      obtain ⟨rfl, q⟩ := q
      cases r
      exact ⟨rfl, _, M', B', s, .adr _, c', q⟩
  have hl : ((Value.ref (s.heap.objs.size + 1) :: us) ++ []).length = ps.length := by
    have z := F1.len _ _ _ _ hs
    rw [List.append_nil, ← z, List.length_cons, List.length_cons, r.length]
  have bd := hb _ (Value.ref (s.heap.objs.size + 1) :: us) I2.kIn hl
  rw [List.append_nil] at bd
  refine wpAny_call (make_map (f := f) I.kIn hM.makes hM.init (beq_iff_eq.mp hM.fn) (codeAny_mono (F1.run _ X.stack _ _ ⟨Value.ref (s.heap.objs.size + 1) :: us, []⟩ (Value.ref (s.heap.objs.size + 1) :: us) (V.ref (s.heap.objs.size + 1) :: vs) _ _ (by exact gd) (hr.make C us []) (I2.env0.make C us []) bd (.cons rfl r) hs) fun res s' hq => ?_))
  match res, hq with
  | .error er, hq => exact tk er s' (XE.of_call I2 (fun cls dd H' h => h) hq)
  | .ok (.ret u), hq =>
    obtain ⟨v, H', I3, rv, ev, q3⟩ := I2.after hq
    subst ev
    exact ⟨rv, ⟨V.ref (s.heap.objs.size + 1), H', I3, rfl, q3⟩⟩
  | .ok .next, hq => exact False.elim hq
  | .ok .brk, hq => exact False.elim hq
  | .ok .cont, hq => exact False.elim hq
theorem ae_makeX (g : XF X G N sc) (F : CnE G k x C sp) (hr : Room (k + 1) X.A) (tk : Takes X (cW W)) (h : aA X (e :: es) δ M fun ds M1 => ∀ p, M1 p = none → sp (.adr p :: ds) (updM M1 p (.ins C [])) (fun d M' => d = .non ∧ Q (.adr p) M') fun C d M' => W C d δ M') (hg : sc.names.lookup x = some .globalImplicit := by rfl) (hdb : (x == ("__debug__" : Str)) = false := by decide)
    (he : starEach (e :: es) X.env = (false, eval e X.env) :: starEach es X.env := by rfl) (hpl : (backTo pos (starEach es X.env)).any (·.1) = false := by rfl) : aE X (.Call (.Name x p) (e :: es) [] pos) δ M Q := fun σ H B rs c pins s I => by
  have gl := g.gl hg
  have gd := g.gd
  obtain ⟨rfl, _⟩ := g
  obtain ⟨f, fd, ps, F1, hM, hb⟩ := F.ex
  refine wpAny_Call_Name_kw (ld_glob I gl F.mg ?_ hdb)
  refine PySem.W.callWith_K (h₀ := X.base) I.ok.mod.kin hM.kp (thn (h σ H B rs c pos pins s I) fun us s1 ⟨vs, H1, I1, r, q⟩ => ⟨I1.kIn, ?_⟩) he hpl
  obtain ⟨ds, M1, B1, sm, r1, c1, q⟩ := q
  refine thn (run_mkX (Q := Q) F gd hr tk I1 r (rs.mono sm) r1 c1 q) fun u s2 ⟨v, H2, I2, rv, d, M2, B2, sm2, r2, c2, q2⟩ => ⟨v, H2, I2, rv, d, M2, B2, sm.trans sm2, r2, c2, q2⟩
/-- o[i], o's own __getitem__ may raise -/
structure GiE (G : Gx) (k : Nat) (C : Addr) (a : ASp) : Prop where
  ex : ∃ (f : Addr) (fd : FuncData) (ps : List Str), FnG G (L2.CX G.prog G.w) k f fd ps (toSp a) ∧ Meth G.K C "__getitem__" f ∧ Binds G.K fd ps [] ∧ PySem.W.fnIn G.K f = true
  up : Up a
theorem ae_getitemX {a b : Expr} (g : XF X G N sc) (F : GiE G k C sp) (hr : Room (k + 1) X.A) (tk : Takes X (cW W)) (h : aE X a δ M fun d1 M1 => aE X b δ M1 fun d2 M2 => ∃ fs, IsI M2 C d1 fs ∧ sp [d1, d2] M2 Q fun C d M' => W C d δ M') (hs : ∀ o i, subscripted b true o i = runValue (.builtin "lifetime.subscript" ⟨[o, i], []⟩) := by exact fun _ _ => by with_unfolding_all rfl) : aE X (.Subscript a b pos) δ M Q := by
  have gd := g.gd
  obtain ⟨rfl, _⟩ := g
  obtain ⟨f, fd, ps, F1, hm, hb, fi⟩ := F.ex
  intro σ H B rs c pins s I
  refine Subscript_ (thn (h σ H B rs c pins s I) fun v s1 ⟨x, H1, I1, r1, d1, M1, B1, sm1, rd1, c1, q1⟩ => ?_)
  refine thn (q1 σ H1 B1 (rs.mono sm1) c1 pins s1 I1) fun u s2 ⟨y, H2, I2, r2, d2, M2, B2, sm2, rd2, c2, fs, hi, q2⟩ => ?_
  obtain ⟨a, dx, ws, rfl, ha, hf⟩ := hi.ins (rd1.mono sm2) c2
  obtain rfl : v = Value.ref a := r1
  obtain ⟨mA, O, _, _, _, _⟩ := ins_get I2.hok ha
  obtain ⟨od, J, _⟩ := O.look
  obtain ⟨m', Fm⟩ := I2.fr
  refine PySem.W.sub_K Fm I2.mod.kin J hm.at_ fi hm.fn ?_ (hs _ _)
  exact run_g1 (vs := [V.ref a, y]) F1 gd hr hb (fun er s' z => tk er s' (XE.of_call I2 (fun cls dd H' h => h) z)) I2 (.cons rfl (.cons r2 .nil)) (toSp_ofX (B0 := B) ((rs.mono sm1).mono sm2) (.cons (rd1.mono sm2) (.cons rd2 .nil)) c2 q2 F.up fun v d M' B' H' s r c' q => ⟨d, M', B', (sm1.trans sm2).trans s, r, c', q⟩)
end
end Ab
/-! isinstance of a caught error that holds a value. -/
namespace PySem.W
open PySem PySem.Spec PySem.Calls PyProof.Rows
section
variable {prog : Program} {w : World} {A : Around} {E : Value → Shared → Prop} {s : Shared} {K : Frag} {x D : Addr} {ox : Obj} {o : Option Obj}
theorem ab_findClass (c : L2.ExcC K D) : findObj K D o "__class__" = some (.bind (.builtin "getset_descriptor.__get__") (.builtin "object.__class__")) := by
  obtain ⟨cd, hc, _⟩ := any_some c.hd
  unfold findObj
  rw [hc, Option.bind_some, c.ha, Option.bind_some]
  simp [c.hn, c.ht]
theorem ab_classOf {Q : Option Value → Shared → Prop} (c : L2.ExcC K D) (X : K.In s.heap) (I : InstAt s.heap x ox D o) (h : Q (some (.ref D)) { s with toks := s.toks + 1 }) : wpAny (model prog w) A (getAttr? (.ref x) "__class__") Q E s := by
  obtain ⟨hp, g, dr, tk, os⟩ := s
  have ty := I.type (M := model prog w)
  have at1 := looks_findIn (M := model prog w) X c.hg
  have at2 := looks_findIn (M := model prog w) X c.hk
  have at3 := looks_find (M := model prog w) X I (ab_findClass c)
  have sub : Looks (model prog w) hp (isInstance (.ref x) (.type "BaseException")) true := ty.andThen (looks_subIn X c.hs)
  have n0 : (false && onTheHeap (Value.builtin "BaseException.__getattribute__")) = false := rfl
  have n1 : (onTheHeap (Value.ref D) && Value.builtin "BaseException.__getattribute__" == Value.builtin "object.__getattribute__") = false := by
    have z : (Value.builtin "BaseException.__getattribute__" == Value.builtin "object.__getattribute__") = false := by decide +kernel
    rw [z]; rfl
  unfold getAttr? getAttrBy? getAttrBy
  refine wpAny_bind (wpAny_mkText (wpAny_bind (wpAny_attempt (wpAny_holding (wpAny_bind (ty.at (wpAny_bind (at1.at ?_))))))))
  show wpAny _ _ (if (onTheHeap (Value.ref D) && Value.builtin "BaseException.__getattribute__" == Value.builtin "object.__getattribute__") = true then _ else _) _ _ ⟨hp, g, dr, tk + 1, os⟩
  rw [n1, if_neg Bool.false_ne_true]
  unfold getAttrByItsOwn hookBefore
  refine wpAny_bind ?_
  rw [if_pos (show onTheHeap (Value.ref D) = true from rfl)]
  refine at2.at (wpAny_bind (wpAny_attempt (wpAny_holding ?_)))
  unfold callGetattribute
  rw [n0, if_neg Bool.false_ne_true]
  unfold boundAndCalled
  rw [PySem.F.excAttr_ValueError.ga.bind (.ref x)]
  refine wpAny_bind (wpAny_pure ?_)
  show wpAny _ _ (call (.builtin "BaseException.__getattribute__") [.ref x, .str "__class__" tk]) _ _ ⟨hp, g, dr, tk + 1, os⟩
  refine wpAny_call (codeAny_call_builtin PySem.F.excAttr_ValueError.ga.plain PySem.F.entry_bexc_ga ?_)
  refine @check_slot (model prog w) _ _ ⟨hp, g, dr, tk + 1, os⟩ "BaseException.__getattribute__" "BaseException" "__getattribute__" (.ref x) [.str "__class__" tk] [] _ (by decide +kernel) (by decide +kernel) sub (PySem.F.args_bexc_ga (.ref x) (.str "__class__" tk)) ?_
  unfold Builtin.«object.__getattribute__»
  refine wpAny_bind (wpAny_of_eq (a := ((Value.ref x : Value), [Value.str "__class__" tk])) (by first | rfl | (simp only [slotArgs]; rfl)) ?_)
  refine wpAny_bind (wpAny_pure (wpAny_bind (ty.at (wpAny_bind (at3.at ?_)))))
  show wpAny _ _ (holding [Value.builtin "object.__class__"] (call (.builtin "getset_descriptor.__get__") [.builtin "object.__class__", .ref x, .ref D]) >>= ret) _ _ ⟨hp, g, dr, tk + 1, os⟩
  refine wpAny_bind (wpAny_holding (wpAny_call (class_get (s := ⟨hp, g, dr, tk + 1, os⟩) (ox := ox) (od := o) X I c.hm ?_)))
  refine wpAny_pure ?_
  show wpAny _ _ (handedOut (.ref D)) _ _ ⟨hp, g, dr, tk + 1, os⟩
  rw [handedOut_of (v := .ref D) rfl]
  first
    | exact wpAny_pure (wpAny_pure h)
    | exact wpAny_pure h
    | exact wpAny_pure (wpAny_bind (wpAny_pure (wpAny_pure h)))
theorem ab_kitx (c : L2.ExcC K D) : KitX K (.ref x) (.ref D) (fun h => ∃ o, InstAt h x ox D o) where
  ty := fun _ _ _ ⟨_, I⟩ => I.type
  it := fun _ _ X _ => by
    obtain ⟨cdD, hcD, _⟩ := any_some c.hd
    unfold clsIn at hcD
    split at hcD
    · rename_i c' d' cd' sl' ho
      intro A' Q' E' s' k q
      unfold isType loadHead
      exact wpAny_bind (wpAny_loadPart (k _ _ (X _ _ ho)) (wpAny_pure q))
    · cases hcD
  ne := fun h tp dd its n sl X htp => by
    refine Bool.eq_false_iff.mpr fun q => ?_
    obtain rfl : D = tp := Value.ref.inj (beq_iff_eq.mp q)
    obtain ⟨cdD, hcD, _⟩ := any_some c.hd
    unfold clsIn at hcD
    split at hcD
    · rename_i c' d' cd' sl' ho
      have z := (X _ _ ho).symm.trans htp
      cases z
    · cases hcD
  ca := fun X ⟨_, I⟩ k => ab_classOf c X I k
end
end PySem.W
namespace Ab
open PySem PySem.Spec PyProof.Rows L2
theorem errAt {X : Cx} {pins : List (Addr × Obj)} {σ : L2.St} {H : Hp} {s : Shared} {a C dd : Addr} {oe : Obj} {pn : List (Addr × Obj)} {fs : List (Str × V)} (I : L2.Inv (X.suite a ((a, oe) :: pn)) pins σ H s) (hz : Zc (.ref C) (some dd) oe) (hf : ∃ vs, oe.data = .fields vs) (hd : H dd = some (.xd fs)) : ∃ o, PySem.W.InstAt s.heap a oe C o := by
  obtain ⟨ha, _⟩ := I.pin (a, oe) (List.mem_append_left _ List.mem_cons_self)
  obtain ⟨vs, hv⟩ := hf
  have hx : ObjOk X.prog X.w H s.heap dd (.xd fs) := I.hok dd _ hd
  obtain ⟨mA, hns, hr⟩ := hx
  obtain ⟨od, ho, _⟩ := lookIn_ns hns
  exact ⟨some od, ha, hz.1, by unfold PySem.W.notCls; rw [hv] <;> rfl, by rw [hz.2]; exact ho⟩
/-- isinstance(e, C), isinstance(e, (C1, C2, ..)) of the error that the suite holds -/
def rIsErr (K : PySem.W.Frag) (D a dd : Addr) : List V → Hp → VK → Prop := fun xs H Q => ∃ (c : V) (cv : Value) (b : Bool) (fs : List (Str × V)), xs = [.ref a, c] ∧ ClsV c cv ∧ PySem.W.kitOne K (.ref D) cv = some b ∧ H dd = some (.xd fs) ∧ Q (.bl b) H
def rIsErrT (K : PySem.W.Frag) (D a dd : Addr) : List V → Hp → VK → Prop := fun xs H Q => ∃ (tp : Addr) (cs : List V) (us : List Value) (b : Bool) (fs : List (Str × V)), xs = [.ref a, .ref tp] ∧ H tp = some (.tup cs) ∧ Paired ClsV cs us ∧ PySem.W.kitAny K (.ref D) us = some b ∧ H dd = some (.xd fs) ∧ Q (.bl b) H
section
variable {X : Cx} {a D dd : Addr} {oe : Obj} {pn : List (Addr × Obj)}
theorem call_isErr (C : ExcC X.K D) (hz : Zc (.ref D) (some dd) oe) (hf : ∃ vs, oe.data = .fields vs) : CallR (X.suite a ((a, oe) :: pn)) (.builtin "isinstance") (rIsErr X.K D a dd) := by
  intro pins s σ H xs us Q I r h
  obtain ⟨c, cv, b, fs, rfl, k, e, hd, q⟩ := h
  obtain ⟨u1, u2, rfl, r1, r2⟩ := vals2 r
  have e2 := k.eq r2
  subst e2
  cases (show u1 = Value.ref a from r1)
  exact PySem.W.kia_one (PySem.W.ab_kitx C) I.kIn (errAt I hz hf hd) e (fun z => nomatch z) fun tk => ⟨.bl b, H, I.tok tk, rfl, q⟩
theorem call_isErrT (C : ExcC X.K D) (hz : Zc (.ref D) (some dd) oe) (hf : ∃ vs, oe.data = .fields vs) : CallR (X.suite a ((a, oe) :: pn)) (.builtin "isinstance") (rIsErrT X.K D a dd) := by
  intro pins s σ H xs us Q I r h
  obtain ⟨tp, cs, ws, b, fs, rfl, hT, k, e, hd, q⟩ := h
  obtain ⟨u1, u2, rfl, r1, r2⟩ := vals2 r
  cases (show u1 = Value.ref a from r1)
  cases (show u2 = Value.ref tp from r2)
  obtain ⟨_, its, rv, o, h1, h2, n, h3⟩ := (show ObjOk X.prog X.w H s.heap tp (.tup cs) from I.hok tp _ hT)
  have e3 := ClsV.all k rv
  subst e3
  obtain ⟨oc, od, dt, sl⟩ := o
  simp only at h2 h3
  subst h2 h3
  exact PySem.W.kia_tup (PySem.W.ab_kitx C) I.kIn (errAt I hz hf hd) h1 e (fun z => nomatch z) fun tk => ⟨.bl b, H, I.tok tk, rfl, q⟩
end
end Ab
/-! try: .. except X as n: .. -/
namespace Ab
open PySem PySem.Spec PyProof.Rows L2
/-- where a suite stands -/
structure XQ (X : Cx) (G : Gx) (N : List Str) (sc : Scope) : Prop where
  gx : gxOf X = G
  hN : X.N = N
  hsc : X.env.scope = sc
  nd : X.N.Nodup
  gd : X.A.guards = some []
  fn : ∀ x, X.fn x = true
theorem RepS.gone {B : Hp} {σ : L2.St} {δ : DE} (r : RepS B σ δ) (i : Nat) : RepS B (σ.set i none) (δ.set i none) := r.wipe [i]
theorem Cf.err {B H : Hp} {M : AHp} (c : Cf B M H) {dx : Addr} {v : V} {d : D} (hn : B dx = Option.none) (hx : H dx = some (.xd [(("value" : Str), v)])) (r : Rep B v d) : Cf B (updM M dx (.err d)) H := ⟨c.ex, fun q u z => by
  by_cases e : q = dx
  · subst e
    rw [updM_same] at z
    cases z
    exact ⟨hn, v, hx, r⟩
  · rw [updM_ne e] at z
    exact c.m q u z⟩
section
variable {X : Cx} {δ : DE} {M : AHp} {A : AEnds} {G : Gx} {N : List Str} {sc : Scope} {pos pos' np : Pos}
theorem as_tryAs (g : XD X G N sc) (i gi : Nat) {body suite : List Stmt} {b0 : Stmt} {n x : Str} {C : Addr} {B0 : Hp} (W : AW) (h0 : δ[gi]? = some (some (.pin B0))) (hmx : G.mg x = some (.ref C))
    (hbody : ∀ B1 X', XD X' G N sc → X'.A = X.A → Takes X' (cW fun D d δ' M' => δ'[gi]? = some (some (.pin B1)) ∧ W D d δ' M') → aSs X' body A (δ.set gi (some (.pin B1))) M)
    (hsuite : ∀ D d δ' M', W D d δ' M' → ∃ b, PySem.W.exmOne G.K (.ref D) (.ref C) = some b ∧ (b = true → ∀ a dx oe pn, XQ (X.suite a ((a, oe) :: pn)) G N sc → Zc (.ref D) (some dx) oe → (∃ vs, oe.data = .fields vs) → M' dx = none →
      aSs (X.suite a ((a, oe) :: pn)) (b0 :: suite) { nx := fun δ2 M2 => A.nx (δ2.set i none) M2, rt := A.rt, bk := fun δ2 M2 => A.bk (δ2.set i none) M2, ct := fun δ2 M2 => A.ct (δ2.set i none) M2 } (δ'.set i (some (.adr a))) (updM M' dx (.err d))) ∧ (b = false → False))
    (hgx : sc.names.lookup x = some .globalImplicit := by rfl) (hN : N[i]? = some n := by rfl) (hl : sc.names.lookup n = some .local := by rfl) (hdb : (x == ("__debug__" : Str)) = false := by decide) :
    aS X (.Try body [.ExceptHandler (some (.Name x np)) (some n) (b0 :: suite) pos'] [] [] pos) A δ M := fun σ H B rs c => by
  have gl := g.gl hgx
  have mgx : X.mg x = some (.ref C) := by rw [g.mg]; exact hmx
  refine wS_of (ps_try_as (i := i) (c := .ref C) (Wout := fun _ _ _ _ => False) (tb := fun W D σ H => ∀ pn xe, Takes (X.tr pn xe) W → PassesOwn (model X.prog X.w) X.A X.env xe → wSs (X.tr pn xe) body D σ H)
    (ts := fun a cls d D σ H => ∀ oe pn, Zc cls d oe → (∃ vs, oe.data = .fields vs) → wSs (X.suite a ((a, oe) :: pn)) (b0 :: suite) D σ H) g.stk g.frm g.nd (by rw [g.hN]; exact hN) (by unfold Env.kindOf; rw [g.hsc]; exact hl) ⟨gl, hdb, .inl mgx⟩ takes0
    (fun W pn xe tk po => ⟨fun pins s σ H D I q => q pn xe tk po pins s I⟩) (fun a oe cls d pn hz hf => ⟨fun pins s σ H D I q => q oe pn hz hf pins s I⟩)) ?_
  intro pn xe tk po
  obtain ⟨v0, h1, h2⟩ := rs.at_ gi _ h0
  cases h2
  have es : σ.set gi (some (.bl true)) = σ := by
    refine List.ext_getElem? fun j => ?_
    by_cases q : gi = j
    · subst q
      rw [List.getElem?_set_self (List.getElem?_eq_some_iff.mp h1).1]
      exact h1.symm
    · rw [List.getElem?_set_ne q]
  have rs1 := rs.set (i := gi) (.pin (Same.refl B))
  rw [es] at rs1
  have g2 : XD (X.tr pn xe) G N sc := ⟨⟨g.gx, g.hN, g.hsc, g.calm, g.nd, po, g.gd⟩, g.fn, g.stk, g.frm⟩
  refine hbody B _ g2 rfl (tk.imp fun cls dd σ' H' ⟨D, dx, v, d, δ', M', B', e1, e2, hx, rs', rv, c', hn, hp, w⟩ => ?_) σ H B rs1 c
  subst e1 e2
  obtain ⟨v2, _, rp⟩ := rs'.at_ gi _ hp
  cases rp with
  | pin hs =>
    obtain ⟨b, hb1, hb2, hb3⟩ := hsuite D d δ' M' w
    refine ⟨b, by rw [g.K]; exact hb1, fun hbt a ha oe pn2 hz hf => ?_, fun hbf => hb3 hbf⟩
    have q2 : XQ (X.suite a ((a, oe) :: pn2)) G N sc := ⟨g.gx, g.hN, g.hsc, g.nd, g.gd, g.fn⟩
    exact (hb2 hbt a dx oe pn2 q2 hz hf hn.2 (σ'.set i (some (.ref a))) H' B' (rs'.set (.adr a)) (Cf.err c' hn.1 hx rv)).imp ⟨fun _ _ ⟨δ2, M2, B2, s, r, c2, q⟩ => ⟨_, M2, B2, hs.trans s, r.gone i, c2, q⟩, fun _ _ ⟨d2, M2, B2, s, r, c2, q⟩ => ⟨d2, M2, B2, hs.trans s, r, c2, q⟩, fun _ _ ⟨δ2, M2, B2, s, r, c2, q⟩ => ⟨_, M2, B2, hs.trans s, r.gone i, c2, q⟩, fun _ _ ⟨δ2, M2, B2, s, r, c2, q⟩ => ⟨_, M2, B2, hs.trans s, r.gone i, c2, q⟩⟩
end
end Ab
/-! what stands in a suite of try: names, stores, calls of built-in functions -/
namespace Ab
open PySem PySem.Spec PyProof.Rows L2
section
variable {X : Cx} {e : Expr} {es : List Expr} {δ : DE} {M : AHp} {A : AEnds} {Q : DK} {G : Gx} {N : List Str} {sc : Scope} {pos p : Pos} {x : Str}
theorem XQ.gl (g : XQ X G N sc) (h : sc.names.lookup x = some .globalImplicit) : X.env.kindOf x = some .globalImplicit := by unfold Env.kindOf; rw [g.hsc]; exact h
theorem XQ.mg (g : XQ X G N sc) : X.mg = G.mg := congrArg Gx.mg g.gx
theorem XQ.K (g : XQ X G N sc) : X.K = G.K := congrArg Gx.K g.gx
theorem av_nameQ (g : XQ X G N sc) (i : Nat) {d : D} (h : δ[i]? = some (some d) := by rfl) (hN : N[i]? = some x := by rfl) (hv : visB sc x = true := by rfl) (hd : (x == ("__debug__" : Str)) = false := by decide) (hcd : (x == ("__classdict__" : Str)) = false := by decide) : aV X (.Name x pos) δ M d :=
  av_of (pe_var (i := i) (by rw [g.hN]; exact hN) (by rw [g.hsc]; exact vis_of hv) hd hcd) fun σ H B Q rs c k => by
    obtain ⟨v, h1, h2⟩ := rs.at_ i d h
    exact ⟨v, h1, k v B H (Same.refl _) h2 c⟩
theorem as_setQ (g : XQ X G N sc) (i : Nat) {pos' : Pos} (h : aE X e δ M fun d M' => A.nx (δ.set i (some d)) M') (hN : N[i]? = some x := by rfl) (hv : locB sc x = true := by rfl) (hs : swapsWith e (some (.Name x pos')) pos.line X.env = pure false := by rfl) : aS X (.Assign [.Name x pos'] e pos) A δ M := fun σ H B rs c =>
  wS_of (ps_set (i := i) g.nd (by rw [g.hN]; exact hN) (by rw [g.hsc]; exact loc_of hv) pe_w hs (.inl (g.fn x))) (h.run rs c fun v d M' B' H' s r c' q => ⟨_, M', B', s, (rs.mono s).set r, c', q⟩)
theorem ae_callBQ {id : String} {r : List V → Hp → VK → Prop} (g : XQ X G N sc) (hc : CallR X (.builtin id) r) (hm : G.mg x = none) (hv : bootBuiltins x = some (.builtin id)) (h : aA X (e :: es) δ M fun ds M1 => aC r ds M1 Q) (hg : sc.names.lookup x = some .globalImplicit := by rfl) (hn : x ≠ "__name__" := by decide) (hdb : (x == ("__debug__" : Str)) = false := by decide)
    (he : starEach (e :: es) X.env = (false, eval e X.env) :: starEach es X.env := by rfl) (hpl : (backTo pos (starEach es X.env)).any (·.1) = false := by rfl) : aE X (.Call (.Name x p) (e :: es) [] pos) δ M Q :=
  ae_of (pe_callB hc (g.gl hg) (by rw [g.mg]; exact hm) hv pa_w hn hdb he hpl) fun σ H B Q2 rs c kk => h.run rs c fun vs ds M1 B1 H1 s1 r1 c1 q => q vs B1 H1 Q2 r1 c1 fun v d M' B' H' s r c' q => kk v d M' B' H' (s1.trans s) r c' q
end
end Ab
/-! what a suite asks of its error: isinstance, and the value -/
namespace Ab
open PySem PySem.Spec PyProof.Rows L2
section
variable {X : Cx} {δ : DE} {M : AHp} {G : Gx} {N : List Str} {sc : Scope} {pos p : Pos} {x : Str} {a D C dx : Addr} {oe : Obj} {pn : List (Addr × Obj)} {d : Ab.D} {b : Bool} {K : PySem.W.Frag}
theorem Cf.errAt {B H : Hp} (c : Cf B M H) (h : M dx = some (.err d)) : ∃ v, H dx = some (.xd [(("value" : Str), v)]) ∧ Rep B v d := by
  obtain ⟨_, v, h1, h2⟩ := c.m dx _ h
  exact ⟨v, h1, h2⟩
theorem c_isErr (h : M dx = some (.err d)) (k : PySem.W.kitOne K (.ref D) (.ref C) = some b) : pC (rIsErr K D a dx) M [.adr a, .adr C] (.bl b) := fun xs B H Q2 rx c kk => by
  cases rx with
  | cons r1 r2 => cases r2 with
    | cons r2 r3 =>
      cases r3
      cases r1
      cases r2
      obtain ⟨v, h1, h2⟩ := c.errAt h
      exact ⟨.ref C, .ref C, b, _, rfl, .own C, k, h1, kk _ B H (Same.refl _) (.bl b) c⟩
theorem reps_own {B : Hp} : ∀ {vs : List V} {Cs : List Addr}, Reps B vs (Cs.map Ab.D.adr) → Paired ClsV vs (Cs.map Value.ref)
  | _, [], .nil => .nil
  | _, C :: Cs, .cons (.adr _) r => .cons (.own C) (reps_own r)
theorem c_isErrT {Cs : List Addr} (h : M dx = some (.err d)) (k : PySem.W.kitAny K (.ref D) (Cs.map Value.ref) = some b) : pC (rIsErrT K D a dx) M [.adr a, .tup (Cs.map Ab.D.adr)] (.bl b) := fun xs B H Q2 rx c kk => by
  cases rx with
  | cons r1 r2 => cases r2 with
    | cons r2 r3 =>
      cases r3
      cases r1
      cases r2 with
      | tup h1 r =>
        obtain ⟨v, h3, h4⟩ := c.errAt h
        exact ⟨_, _, _, b, _, rfl, c.ex _ _ h1, reps_own r, k, h3, kk _ B H (Same.refl _) (.bl b) c⟩
/-- e.value -/
theorem av_errval (g : XQ (X.suite a ((a, oe) :: pn)) G N sc) (T : XfC X.K D) (hno : PySem.W.findIn X.K (.ref D) "value" = some none) (hz : Zc (.ref D) (some dx) oe) (hf : ∃ vs, oe.data = .fields vs) {e : Expr} (h : M dx = some (.err d)) (he : aV (X.suite a ((a, oe) :: pn)) e δ M (.adr a)) (hb : attributeBase e "value" (X.suite a ((a, oe) :: pn)).env (eval e (X.suite a ((a, oe) :: pn)).env) = eval e (X.suite a ((a, oe) :: pn)).env := by rfl) :
    aV (X.suite a ((a, oe) :: pn)) (.Attribute e "value" pos) δ M d := fun Q q => ae_of (pe_xf T hno hz hf pe_w hb) fun σ H B Q2 rs c kk => (he (fun d' M' => d' = .adr a ∧ M' = M) ⟨rfl, rfl⟩).run rs c fun v d' M' B' H' s r c' q' => by
      obtain ⟨rfl, rfl⟩ := q'
      cases r
      obtain ⟨w, h1, h2⟩ := c'.errAt h
      exact ⟨rfl, rfl, dx, _, w, rfl, h1, rfl, kk w d _ B' H' s h2 c' q⟩
end
end Ab
/-! methods that raise; names of classes in a suite -/
namespace Ab
open PySem PySem.Spec PyProof.Rows L2
section
variable {X : Cx} {e o : Expr} {es : List Expr} {δ : DE} {M : AHp} {Q : DK} {G : Gx} {N : List Str} {sc : Scope} {pos p apos : Pos} {x m : Str} {k : Nat} {sp : ASp} {C : Addr} {W : AW}
theorem av_globQ (g : XQ X G N sc) (hm : G.mg x = some (.ref C)) (hg : sc.names.lookup x = some .globalImplicit := by rfl) (hd : (x == ("__debug__" : Str)) = false := by decide) : aV X (.Name x pos) δ M (.adr C) :=
  av_of (pe_glob (v := .ref C) (u := .ref C) (g.gl hg) (by rw [g.mg]; exact hm) rfl hd) fun σ H B Q rs c k => k _ B H (Same.refl _) (.adr C) c
/-- o.m(e, ..), o.m() that may raise -/
theorem ae_methX {pl : Sem Bool} (g : XF X G N sc) (F : MtE G k C m sp) (hr : Room k X.A) (tk : Takes X (cW W)) (h : aE X o δ M fun d M1 => ∃ fs, IsI M1 C d fs ∧ fs.lookup m = none ∧ aA X (e :: es) δ M1 fun ds M2 => sp (d :: ds) M2 Q fun C d M' => W C d δ M')
    (hst : starEach (e :: es) X.env = (false, eval e X.env) :: starEach es X.env := by rfl) (hpl : (backTo pos (starEach es X.env)).any (·.1) = false := by rfl)
    (ht : eval (.Call (.Attribute o m apos) (e :: es) [] pos) X.env = (do
      let ov ← eval o X.env
      standAt apos.atName
      let (fn, first) ← holding [ov] (getMethod ov m pl)
      callWith pos fn first (backTo pos (starEach (e :: es) X.env)) (backToKw pos (keywordEach [] X.env))) := by rfl) : aE X (.Call (.Attribute o m apos) (e :: es) [] pos) δ M Q := fun σ H B rs c pins s I => by
  have gd := g.gd
  obtain ⟨rfl, _⟩ := g
  obtain ⟨f, fd, ps, F1, hm, hb⟩ := F.ex
  refine PySem.W.methodCall_KW (pl := pl) (thn (h σ H B rs c pins s I) fun u s1 ⟨v, H1, I1, rv, d, M1, B1, sm, r1, c1, fs, hi, hl, q⟩ => ?_) ht
  obtain ⟨a, dx, ws, rfl, ha, hf⟩ := hi.ins r1 c1
  obtain rfl : u = Value.ref a := rv
  refine getmeth_ok I1 ha F.cl hm (hf.none hl) ?_
  refine PySem.W.callWith_K (first := [.ref a]) (h₀ := X.base) I.ok.mod.kin hm.kp (thn (q σ H1 B1 (rs.mono sm) c1 pos pins s1 I1) fun us s2 ⟨vs, H2, I2, r, ds, M2, B2, sm2, r2, c2, q2⟩ => ⟨I2.kIn, ?_⟩) hst hpl
  exact run_gX (us := .ref a :: us) (vs := .ref a :: vs) F1 gd hr hb tk I2 (.cons rfl r) (toSp_ofX (B0 := B) ((rs.mono sm).mono sm2) (.cons (r1.mono sm2) r2) c2 q2 F.up fun v d M' B' H' s r c' q => ⟨d, M', B', (sm.trans sm2).trans s, r, c', q⟩)
theorem ae_meth0X {pl : Sem Bool} (g : XF X G N sc) (F : MtE G k C m sp) (hr : Room k X.A) (tk : Takes X (cW W)) (h : aE X o δ M fun d M1 => ∃ fs, IsI M1 C d fs ∧ fs.lookup m = none ∧ sp [d] M1 Q fun C d M' => W C d δ M')
    (ht : eval (.Call (.Attribute o m apos) [] [] pos) X.env = (do
      let ov ← eval o X.env
      standAt apos.atName
      let (fn, first) ← holding [ov] (getMethod ov m pl)
      callWith pos fn first (backTo pos (starEach [] X.env)) (backToKw pos (keywordEach [] X.env))) := by rfl) : aE X (.Call (.Attribute o m apos) [] [] pos) δ M Q := fun σ H B rs c pins s I => by
  have gd := g.gd
  obtain ⟨rfl, _⟩ := g
  obtain ⟨f, fd, ps, F1, hm, hb⟩ := F.ex
  refine PySem.W.methodCall_KW (pl := pl) (thn (h σ H B rs c pins s I) fun u s1 ⟨v, H1, I1, rv, d, M1, B1, sm, r1, c1, fs, hi, hl, q⟩ => ?_) ht
  obtain ⟨a, dx, ws, rfl, ha, hf⟩ := hi.ins r1 c1
  obtain rfl : u = Value.ref a := rv
  refine getmeth_ok I1 ha F.cl hm (hf.none hl) ?_
  exact PySem.W.callWith_K0 (first := [.ref a]) I1.kIn hm.kp (run_gX (us := [.ref a]) (vs := [.ref a]) F1 gd hr hb tk I1 (.cons rfl .nil) (toSp_ofX (B0 := B) (rs.mono sm) (.cons r1 .nil) c1 q F.up fun v d M' B' H' s r c' q => ⟨d, M', B', sm.trans s, r, c', q⟩))
end
end Ab
/-! C(n=e, ..) whose __init__ may raise -/
namespace Ab
open PySem PySem.Spec PyProof.Rows L2
structure CnKE (G : Gx) (k : Nat) (x : Str) (C : Addr) (n : Nat) (ks : List Str) (g : {α : Type} → List α → List α → List α) (a : ASp) : Prop where
  ex : ∃ (f : Addr) (fd : FuncData) (ps : List Str), FnG G (L2.CX G.prog G.w) k f fd ps (toSp a) ∧ Mk G.K C f ∧ KwB G.K fd ps (n + 1) ks g
  mg : G.mg x = some (.ref C)
  up : Up a
section
variable {X : Cx} {e o : Expr} {kws : List Keyword} {δ : DE} {M : AHp} {Q : DK} {σ : L2.St} {H B : Hp} {G : Gx} {N : List Str} {sc : Scope} {pos p : Pos} {x : Str} {k n : Nat} {ks : List Str} {sp : ASp} {C : Addr} {W : AW} {go : {α : Type} → List α → List α → List α}
theorem run_mkKX {pins : List (Addr × Obj)} {s : Shared} {us ws : List Value} {vs zs : List V} {ds es : List D} (F : CnKE (gxOf X) k x C n ks go sp) (gd : X.A.guards = some []) (hr : Room (k + 1) X.A) (tk : Takes X (cW W)) (I : L2.Inv X pins σ H s) (r : Vals vs us) (rz : Vals zs ws) (rs : RepS B σ δ) (rd : Reps B vs ds) (rf : Reps B zs es) (c : Cf B M H) (l1 : us.length = n) (l2 : es.length = ks.length)
    (h : ∀ p, M p = none → sp (go (.adr p :: ds) es) (updM M p (.ins C [])) (fun d M' => d = .non ∧ Q (.adr p) M') fun C d M' => W C d δ M') : wpAny (model X.prog X.w) X.A (call (.ref C) us (ks.zip ws)) (EP X pins σ fun v H' => ∃ d M' B', Same B B' ∧ Rep B' v d ∧ Cf B' M' H' ∧ Q d M') X.xe s := by
  obtain ⟨f, fd, ps, F1, hM, hb⟩ := F.ex
  have fx : H (s.heap.objs.size + 1) = none := I.hok.fresh (Nat.le_succ _)
  have fd0 : H s.heap.objs.size = none := I.hok.fresh (Nat.le_refl _)
  have ne : s.heap.objs.size + 1 ≠ s.heap.objs.size := Nat.succ_ne_self _
  have I2 := Inv.made (C := C) I
  have cM : Cf B (updM M (s.heap.objs.size + 1) (.ins C [])) (upd (upd H s.heap.objs.size (.own (s.heap.objs.size + 1))) (s.heap.objs.size + 1) (.ins C s.heap.objs.size [])) :=
    (Cf.junk c fd0).newM (.ins C []) (by rw [upd_ne ne]; exact fx) ⟨s.heap.objs.size, [], upd_same, by rw [upd_ne (Ne.symm ne), upd_same], c.noneB fd0, .nil⟩
  have rr : Reps B (go (V.ref (s.heap.objs.size + 1) :: vs) zs) (go (.adr (s.heap.objs.size + 1) :: ds) es) := hb.relD (.cons (.adr _) rd) rf
  have hs : toSp sp (go (V.ref (s.heap.objs.size + 1) :: vs) zs) (upd (upd H s.heap.objs.size (.own (s.heap.objs.size + 1))) (s.heap.objs.size + 1) (.ins C s.heap.objs.size [])) (fun v H' => v = .non ∧ ∃ d M' B', Same B B' ∧ Rep B' (.ref (s.heap.objs.size + 1)) d ∧ Cf B' M' H' ∧ Q d M') (fun cls dd H' => cW W cls dd σ H') :=
    toSp_ofX (B0 := B) rs rr cM (h _ (c.none fx)) F.up fun v d M' B' H' s r c' q => by
      obtain ⟨rfl, q⟩ := q
      cases r
      exact ⟨rfl, _, M', B', s, .adr _, c', q⟩
  have bd := hb.to _ (Value.ref (s.heap.objs.size + 1) :: us) ws I2.kIn (by rw [List.length_cons, l1]) (by rw [← rz.length, rf.length]; exact l2)
  refine wpAny_call (make_map (f := f) I.kIn hM.makes hM.init (beq_iff_eq.mp hM.fn) (codeAny_mono (F1.run _ X.stack _ _ ⟨Value.ref (s.heap.objs.size + 1) :: us, ks.zip ws⟩ (go (Value.ref (s.heap.objs.size + 1) :: us) ws) (go (V.ref (s.heap.objs.size + 1) :: vs) zs) _ _ (by exact gd) (hr.make C us (ks.zip ws)) (I2.env0.make C us (ks.zip ws)) bd (hb.relV (.cons rfl r) rz) hs) fun res s' hq => ?_))
  match res, hq with
  | .error er, hq => exact tk er s' (XE.of_call I2 (fun cls dd H' h => h) hq)
  | .ok (.ret u), hq =>
    obtain ⟨v, H', I3, rv, ev, q3⟩ := I2.after hq
    subst ev
    exact ⟨rv, ⟨V.ref (s.heap.objs.size + 1), H', I3, rfl, q3⟩⟩
  | .ok .next, hq => exact False.elim hq
  | .ok .brk, hq => exact False.elim hq
  | .ok .cont, hq => exact False.elim hq
theorem ae_makeK0X (g : XF X G N sc) (F : CnKE G k x C 0 ks go sp) (hr : Room (k + 1) X.A) (tk : Takes X (cW W)) (h : aK X kws δ M fun zs M1 => zs.length = ks.length ∧ ∀ p, M1 p = none → sp (go [.adr p] zs) (updM M1 p (.ins C [])) (fun d M' => d = .non ∧ Q (.adr p) M') fun C d M' => W C d δ M') (hg : sc.names.lookup x = some .globalImplicit := by rfl) (hdb : (x == ("__debug__" : Str)) = false := by decide)
    (hall : (backToKw pos (keywordEach kws X.env)).all (·.1.isSome) = true := by rfl) (hks : (backToKw pos (keywordEach kws X.env)).filterMap (·.1) = ks := by rfl)
    (hpl : ((backTo pos (starEach [] X.env)).any (·.1) || (backToKw pos (keywordEach kws X.env)).any (·.1.isNone)) = false := by rfl) : aE X (.Call (.Name x p) [] kws pos) δ M Q := fun σ H B rs c pins s I => by
  have gl := g.gl hg
  have gd := g.gd
  obtain ⟨rfl, _⟩ := g
  obtain ⟨f, fd, ps, F1, hM, hb⟩ := F.ex
  refine wpAny_Call_Name_kw (ld_glob I gl F.mg ?_ hdb)
  refine PySem.W.callWith_KW0 (h₀ := X.base) I.ok.mod.kin hM.kp hall (thn (h σ H B rs c pos pins s I) fun ws s2 ⟨zs, H2, I2, rz, es2, M2, B2, sm2, r2, c2, l2, q2⟩ => ⟨I2.kIn, ?_⟩) hpl
  rw [hks]
  refine thn (run_mkKX (Q := Q) (us := []) (vs := []) (ds := []) F gd hr tk I2 .nil rz (rs.mono sm2) .nil r2 c2 rfl l2 q2) fun u s2 ⟨v, H2, I2, rv, d, M2, B2, sm3, r2, c2, q2⟩ => ⟨v, H2, I2, rv, d, M2, B2, sm2.trans sm3, r2, c2, q2⟩
end
end Ab
/-! Names by value: lists and dicts of one name alone, a purse; no heap in sight. -/
namespace Ab
open PySem PySem.Spec PyProof.Rows L2

/-- what a name holds: data, a list or a dict that no other name holds, the purse -/
inductive OV where
  | v (d : D) | l (ds : List D) | k (kvs : List (Key × D)) | pu | r (ds : List D)
abbrev OE := List (Option OV)
def OV.mo : OV → Option MO
  | .l ds => some (.lst ds)
  | .k kvs => some (.dK kvs)
  | _ => none
def OV.cc (P : Option Addr) (a : Addr) : OV → D
  | .v d => d
  | .pu => match P with
    | some p => .adr p
    | none => .non
  | _ => .adr a
structure RlA (P : Option Addr) (M0 : AHp) (ε : OE) (δ : DE) (M : AHp) (ad : Nat → Addr) : Prop where
  at_ : ∀ (i : Nat) (o : OV), ε[i]? = some (some o) → δ[i]? = some (some (o.cc P (ad i)))
  own : ∀ (i : Nat) (o : OV) (m : MO), ε[i]? = some (some o) → o.mo = some m → M (ad i) = some m ∧ M0 (ad i) = none
  inj : ∀ (i j : Nat) (oi oj : OV) (mi mj : MO), ε[i]? = some (some oi) → ε[j]? = some (some oj) → oi.mo = some mi → oj.mo = some mj → ad i = ad j → i = j
  rd : ∀ (i : Nat) (ds : List D), ε[i]? = some (some (.r ds)) → M0 (ad i) = some (.lst ds) ∧ P ≠ some (ad i)
/-- the names over the heap M0 of the entry -/
structure Rl (P : Option Addr) (M0 : AHp) (n : Int) (ε : OE) (δ : DE) (M : AHp) : Prop where
  ad : ∃ ad, RlA P M0 ε δ M ad
  len : δ.length = ε.length
  fr : ∀ a o, P ≠ some a → M0 a = some o → M a = some o
  pu : ∀ p, P = some p → PurseAt M p n ∧ M0 p ≠ none
  tk : ∀ (i : Nat), ε[i]? = some (some OV.pu) → P ≠ none
theorem get_set {α : Type} {l : List α} {i j : Nat} {x y : α} (h : (l.set i x)[j]? = some y) : (i = j ∧ y = x ∧ i < l.length) ∨ (i ≠ j ∧ l[j]? = some y) := by
  by_cases q : i = j
  · subst q
    by_cases hl : i < l.length
    · rw [List.getElem?_set_self hl] at h
      exact .inl ⟨rfl, (Option.some.inj h).symm, hl⟩
    · rw [List.getElem?_eq_none_iff.mpr (by rw [List.length_set]; omega)] at h
      cases h
  · rw [List.getElem?_set_ne q] at h
    exact .inr ⟨q, h⟩
section
variable {P : Option Addr} {M0 M M' : AHp} {n n' : Int} {ε : OE} {δ : DE} {i j : Nat} {d : D} {ds : List D} {kvs : List (Key × D)} {p q : Addr}
theorem Rl.at_v (r : Rl P M0 n ε δ M) (h : ε[i]? = some (some (.v d))) : δ[i]? = some (some d) := let ⟨_, a⟩ := r.ad; a.at_ i _ h
theorem Rl.at_pu (r : Rl P M0 n ε δ M) (h : ε[i]? = some (some .pu)) : ∃ p, P = some p ∧ δ[i]? = some (some (.adr p)) := by
  obtain ⟨ad, a⟩ := r.ad
  have z := a.at_ i _ h
  cases e : P with
  | none => exact absurd e (r.tk i h)
  | some p => rw [e] at z; exact ⟨p, rfl, z⟩
theorem Rl.at_l (r : Rl P M0 n ε δ M) (h : ε[i]? = some (some (.l ds))) : ∃ q, δ[i]? = some (some (.adr q)) ∧ M q = some (.lst ds) ∧ M0 q = none := by
  obtain ⟨ad, a⟩ := r.ad
  exact ⟨_, a.at_ i _ h, (a.own i _ _ h rfl).1, (a.own i _ _ h rfl).2⟩
theorem Rl.at_k (r : Rl P M0 n ε δ M) (h : ε[i]? = some (some (.k kvs))) : ∃ q, δ[i]? = some (some (.adr q)) ∧ M q = some (.dK kvs) ∧ M0 q = none := by
  obtain ⟨ad, a⟩ := r.ad
  exact ⟨_, a.at_ i _ h, (a.own i _ _ h rfl).1, (a.own i _ _ h rfl).2⟩
theorem Rl.at_r (r : Rl P M0 n ε δ M) (h : ε[i]? = some (some (.r ds))) : ∃ q, δ[i]? = some (some (.adr q)) ∧ M q = some (.lst ds) ∧ M0 q = some (.lst ds) ∧ P ≠ some q := by
  obtain ⟨ad, a⟩ := r.ad
  exact ⟨_, a.at_ i _ h, r.fr _ _ (a.rd i _ h).2 (a.rd i _ h).1, (a.rd i _ h).1, (a.rd i _ h).2⟩
theorem Rl.noP (r : Rl P M0 n ε δ M) (h : M0 q = none) : P ≠ some q := fun e => (r.pu q e).2 h
theorem Rl.set_v (r : Rl P M0 n ε δ M) (i : Nat) (d : D) : Rl P M0 n (ε.set i (some (.v d))) (δ.set i (some d)) M := by
  obtain ⟨ad, a⟩ := r.ad
  refine ⟨⟨ad, ⟨fun j o h => ?_, fun j o m h hm => ?_, fun j j2 oi oj mi mj h1 h2 m1 m2 e => ?_, fun j ds h => ?_⟩⟩, by rw [List.length_set, List.length_set]; exact r.len, r.fr, r.pu, fun j h => ?_⟩
  · rcases get_set h with ⟨rfl, e, hl⟩ | ⟨ne, e⟩
    · cases e
      rw [List.getElem?_set_self (by rw [r.len]; exact hl)]; rfl
    · rw [List.getElem?_set_ne ne]; exact a.at_ _ _ e
  · rcases get_set h with ⟨rfl, e, hl⟩ | ⟨ne, e⟩
    · cases e; cases hm
    · exact a.own _ _ _ e hm
  · rcases get_set h1 with ⟨rfl, e1, hl⟩ | ⟨ne, e1⟩
    · cases e1; cases m1
    · rcases get_set h2 with ⟨rfl, e2, hl⟩ | ⟨ne, e2⟩
      · cases e2; cases m2
      · exact a.inj _ _ _ _ _ _ e1 e2 m1 m2 e
  · rcases get_set h with ⟨rfl, e, hl⟩ | ⟨ne, e⟩
    · cases e
    · exact a.rd _ _ e
  · rcases get_set h with ⟨rfl, e, hl⟩ | ⟨ne, e⟩
    · cases e
    · exact r.tk _ e
theorem Rl.set_r (r : Rl P M0 n ε δ M) (i : Nat) (h : ε[j]? = some (some (.r ds))) (hd : δ[j]? = some (some (.adr q))) : Rl P M0 n (ε.set i (some (.r ds))) (δ.set i (some (.adr q))) M := by
  obtain ⟨ad, a⟩ := r.ad
  have z0 := a.at_ j _ h
  rw [hd] at z0
  have z0 : some (some (D.adr q)) = some (some (.adr (ad j))) := z0
  cases z0
  refine ⟨⟨fun k => if k = i then ad j else ad k, ⟨fun k o h => ?_, fun k o m h hm => ?_, fun k k2 oi oj mi mj h1 h2 m1 m2 e => ?_, fun k ds h => ?_⟩⟩, by rw [List.length_set, List.length_set]; exact r.len, r.fr, r.pu, fun j h => ?_⟩
  · rcases get_set h with ⟨rfl, e, hl⟩ | ⟨ne, e⟩
    · cases e
      rw [List.getElem?_set_self (by rw [r.len]; exact hl), if_pos rfl]; rfl
    · rw [List.getElem?_set_ne ne, if_neg ne.symm]; exact a.at_ _ _ e
  · rcases get_set h with ⟨rfl, e, hl⟩ | ⟨ne, e⟩
    · cases e; cases hm
    · rw [if_neg ne.symm]; exact a.own _ _ _ e hm
  · rcases get_set h1 with ⟨rfl, e1, hl⟩ | ⟨ne, e1⟩
    · cases e1; cases m1
    · rcases get_set h2 with ⟨rfl, e2, hl⟩ | ⟨ne2, e2⟩
      · cases e2; cases m2
      · rw [if_neg ne.symm, if_neg ne2.symm] at e
        exact a.inj _ _ _ _ _ _ e1 e2 m1 m2 e
  · rcases get_set h with ⟨rfl, e, hl⟩ | ⟨ne, e⟩
    · cases e; rw [if_pos rfl]; exact a.rd _ _ (by assumption)
    · rw [if_neg ne.symm]; exact a.rd _ _ e
  · rcases get_set h with ⟨rfl, e, hl⟩ | ⟨ne, e⟩
    · cases e
    · exact r.tk _ e
/-- an object at q that no name holds -/
def Free (M0 : AHp) (ε : OE) (δ : DE) (q : Addr) : Prop := M0 q = none ∧ ∀ (j : Nat) (o : OV) (m : MO), ε[j]? = some (some o) → o.mo = some m → δ[j]? ≠ some (some (.adr q))
theorem Rl.free (r : Rl P M0 n ε δ M) (h : M q = none) : Free M0 ε δ q := by
  obtain ⟨ad, a⟩ := r.ad
  refine ⟨?_, fun j o m e hm z => ?_⟩
  · cases e : M0 q with
    | none => rfl
    | some o =>
      have np : P ≠ some q := fun z => by
        obtain ⟨⟨x, y, w, u, _⟩, _⟩ := r.pu q z
        rw [h] at u; cases u
      have := r.fr q o np e
      rw [h] at this; cases this
  · have z2 := a.at_ j o e
    have own := a.own j o m e hm
    rw [z] at z2
    have : o.cc P (ad j) = .adr (ad j) := by cases o <;> first | rfl | cases hm
    rw [this] at z2
    cases z2
    rw [h] at own; cases own.1
theorem Rl.set_own (r : Rl P M0 n ε δ M) (i : Nat) {o : OV} {m : MO} (ho : o.mo = some m) (hq : M q = some m) (f : Free M0 ε δ q) : Rl P M0 n (ε.set i (some o)) (δ.set i (some (.adr q))) M := by
  obtain ⟨ad, a⟩ := r.ad
  have cco : ∀ a, o.cc P a = .adr a := fun a => by cases o <;> first | rfl | cases ho
  refine ⟨⟨fun j => if j = i then q else ad j, ⟨fun j o' h => ?_, fun j o' m' h hm => ?_, fun j j2 oi oj mi mj h1 h2 m1 m2 e => ?_, fun j ds h => ?_⟩⟩, by rw [List.length_set, List.length_set]; exact r.len, r.fr, r.pu, fun j h => ?_⟩
  · rcases get_set h with ⟨rfl, e, hl⟩ | ⟨ne, e⟩
    · cases e
      rw [List.getElem?_set_self (by rw [r.len]; exact hl), if_pos rfl, cco]
    · rw [List.getElem?_set_ne ne, if_neg ne.symm]; exact a.at_ _ _ e
  · rcases get_set h with ⟨rfl, e, hl⟩ | ⟨ne, e⟩
    · cases e
      rw [ho] at hm; cases hm
      rw [if_pos rfl]
      exact ⟨hq, f.1⟩
    · rw [if_neg ne.symm]; exact a.own _ _ _ e hm
  · have away : ∀ j o m, ε[j]? = some (some o) → o.mo = some m → ad j ≠ q := fun j o m h hm z => by
      have z2 := a.at_ j o h
      have : o.cc P (ad j) = .adr (ad j) := by cases o <;> first | rfl | cases hm
      rw [this, z] at z2
      exact f.2 j o m h hm z2
    rcases get_set h1 with ⟨rfl, e1, hl⟩ | ⟨ne, e1⟩
    · rcases get_set h2 with ⟨rfl, e2, hl⟩ | ⟨ne2, e2⟩
      · rfl
      · rw [if_pos rfl, if_neg ne2.symm] at e
        exact absurd e.symm (away _ _ _ e2 m2)
    · rcases get_set h2 with ⟨rfl, e2, hl⟩ | ⟨ne2, e2⟩
      · rw [if_neg ne.symm, if_pos rfl] at e
        exact absurd e (away _ _ _ e1 m1)
      · rw [if_neg ne.symm, if_neg ne2.symm] at e
        exact a.inj _ _ _ _ _ _ e1 e2 m1 m2 e
  · rcases get_set h with ⟨rfl, e, hl⟩ | ⟨ne, e⟩
    · cases e; cases ho
    · rw [if_neg ne.symm]; exact a.rd _ _ e
  · rcases get_set h with ⟨rfl, e, hl⟩ | ⟨ne, e⟩
    · cases e; cases ho
    · exact r.tk _ e
/-- what stands stands on -/
theorem Rl.ge (r : Rl P M0 n ε δ M) (h : ∀ a o, M a = some o → M' a = some o) : Rl P M0 n ε δ M' := by
  obtain ⟨ad, a⟩ := r.ad
  refine ⟨⟨ad, ⟨a.at_, fun i o m e hm => ⟨h _ _ (a.own i o m e hm).1, (a.own i o m e hm).2⟩, a.inj, a.rd⟩⟩, r.len, fun a o np e => h _ _ (r.fr a o np e), fun p e => ?_, r.tk⟩
  obtain ⟨⟨x, y, w, u, z⟩, k⟩ := r.pu p e
  exact ⟨⟨x, y, w, h _ _ u, z⟩, k⟩
theorem Rl.le (r : Rl P M0 n ε δ M) (h : n ≤ n') : Rl P M0 n' ε δ M := ⟨r.ad, r.len, r.fr, fun p e => ⟨(r.pu p e).1.mono h, (r.pu p e).2⟩, r.tk⟩
theorem Rl.draw (r : Rl (some p) M0 n ε δ M) (hp : PurseAt M' p n') (f : Off p M M') : Rl (some p) M0 n' ε δ M' := by
  obtain ⟨ad, a⟩ := r.ad
  refine ⟨⟨ad, ⟨a.at_, fun i o m e hm => ⟨?_, (a.own i o m e hm).2⟩, a.inj, a.rd⟩⟩, r.len, fun a o np e => f _ _ (fun z => np (by rw [z])) (r.fr a o np e), fun p' e => ?_, r.tk⟩
  · obtain ⟨h1, h2⟩ := a.own i o m e hm
    exact f _ _ (fun z => r.noP h2 (by rw [z])) h1
  · cases e
    exact ⟨hp, (r.pu p rfl).2⟩
theorem Rl.new (r : Rl P M0 n ε δ M) {o : MO} (h : M q = none) : Rl P M0 n ε δ (updM M q o) := r.ge fun a u e => by rw [updM_ne (neM e h)]; exact e
/-- an own thing changes -/
theorem Rl.upd (r : Rl P M0 n ε δ M) {o o' : OV} {m m' : MO} (hi : ε[i]? = some (some o)) (hd : δ[i]? = some (some (.adr q))) (ho : o.mo = some m) (ho' : o'.mo = some m') : M q = some m ∧ M0 q = none ∧ Rl P M0 n (ε.set i (some o')) δ (updM M q m') := by
  obtain ⟨ad, a⟩ := r.ad
  have cco : ∀ a, o.cc P a = .adr a := fun a => by cases o <;> first | rfl | cases ho
  have cco' : ∀ a, o'.cc P a = .adr a := fun a => by cases o' <;> first | rfl | cases ho'
  have z := a.at_ i o hi
  rw [hd, cco] at z
  cases z
  obtain ⟨h1, h2⟩ := a.own i o m hi ho
  refine ⟨h1, h2, ⟨⟨ad, ⟨fun j u h => ?_, fun j u w h hm => ?_, fun j j2 oi oj mi mj g1 g2 m1 m2 e => ?_, fun j ds h => ?_⟩⟩, by rw [List.length_set]; exact r.len, fun b u np e => ?_, fun p e => ?_, fun j h => ?_⟩⟩
  · rcases get_set h with ⟨rfl, e, hl⟩ | ⟨ne, e⟩
    · cases e; rw [cco', hd]
    · exact a.at_ _ _ e
  · rcases get_set h with ⟨rfl, e, hl⟩ | ⟨ne, e⟩
    · cases e
      rw [ho'] at hm; cases hm
      exact ⟨updM_same, h2⟩
    · have na : ad j ≠ ad i := fun z => ne (a.inj _ _ _ _ _ _ e hi hm ho z).symm
      rw [updM_ne na]; exact a.own _ _ _ e hm
  · rcases get_set g1 with ⟨rfl, e1, hl⟩ | ⟨ne, e1⟩
    · rcases get_set g2 with ⟨rfl, e2, hl⟩ | ⟨ne2, e2⟩
      · rfl
      · exact a.inj _ _ _ _ _ _ hi e2 ho m2 e
    · rcases get_set g2 with ⟨rfl, e2, hl⟩ | ⟨ne2, e2⟩
      · exact a.inj _ _ _ _ _ _ e1 hi m1 ho e
      · exact a.inj _ _ _ _ _ _ e1 e2 m1 m2 e
  · rcases get_set h with ⟨rfl, e, hl⟩ | ⟨ne, e⟩
    · cases e; cases ho'
    · exact a.rd _ _ e
  · have nb : b ≠ ad i := fun z => by rw [z, h2] at e; cases e
    rw [updM_ne nb]; exact r.fr b u np e
  · obtain ⟨h3, h4⟩ := r.pu p e
    exact ⟨h3.upd fun z => h4 (by rw [z]; exact h2), h4⟩
  · rcases get_set h with ⟨rfl, e, hl⟩ | ⟨ne, e⟩
    · cases e; cases ho'
    · exact r.tk _ e
/-- an own list becomes data -/
theorem Rl.frz (r : Rl P M0 n ε δ M) (hi : ε[i]? = some (some (.l ds))) (hd : δ[i]? = some (some (.adr q))) : Rl P M0 n (ε.set i (some (.v (.lst ds)))) (δ.set i (some (.lst ds))) (delM M q) := by
  obtain ⟨ad, a⟩ := r.ad
  have z := a.at_ i _ hi
  rw [hd] at z
  have z : some (some (D.adr q)) = some (some (.adr (ad i))) := z
  cases z
  obtain ⟨h1, h2⟩ := a.own i _ _ hi rfl
  have hl : i < ε.length := (List.getElem?_eq_some_iff.mp hi).1
  refine ⟨⟨ad, ⟨fun j u h => ?_, fun j u w h hm => ?_, fun j j2 oi oj mi mj g1 g2 m1 m2 e => ?_, fun j ds h => ?_⟩⟩, by rw [List.length_set, List.length_set]; exact r.len, fun b u np e => ?_, fun p e => ?_, fun j h => ?_⟩
  · rcases get_set h with ⟨rfl, e, hl⟩ | ⟨ne, e⟩
    · cases e; rw [List.getElem?_set_self (by rw [r.len]; exact hl)]; rfl
    · rw [List.getElem?_set_ne ne]; exact a.at_ _ _ e
  · rcases get_set h with ⟨rfl, e, hl⟩ | ⟨ne, e⟩
    · cases e; cases hm
    · have na : ad j ≠ ad i := fun z => ne (a.inj _ _ _ _ _ _ e hi hm rfl z).symm
      rw [delM_ne na]; exact a.own _ _ _ e hm
  · rcases get_set g1 with ⟨rfl, e1, hl⟩ | ⟨ne, e1⟩
    · cases e1; cases m1
    · rcases get_set g2 with ⟨rfl, e2, hl⟩ | ⟨ne2, e2⟩
      · cases e2; cases m2
      · exact a.inj _ _ _ _ _ _ e1 e2 m1 m2 e
  · rcases get_set h with ⟨rfl, e, hl⟩ | ⟨ne, e⟩
    · cases e
    · exact a.rd _ _ e
  · have nb : b ≠ ad i := fun z => by rw [z, h2] at e; cases e
    rw [delM_ne nb]; exact r.fr b u np e
  · obtain ⟨h3, h4⟩ := r.pu p e
    exact ⟨h3.del fun z => h4 (by rw [z]; exact h2), h4⟩
  · rcases get_set h with ⟨rfl, e, hl⟩ | ⟨ne, e⟩
    · cases e
    · exact r.tk _ e
/-- a name is forgotten -/
theorem Rl.drop (r : Rl P M0 n ε δ M) (i : Nat) : Rl P M0 n (ε.set i none) δ M := by
  obtain ⟨ad, a⟩ := r.ad
  have old : ∀ {j o}, (ε.set i none)[j]? = some (some o) → ε[j]? = some (some o) := fun h => by
    rcases get_set h with ⟨rfl, e, hl⟩ | ⟨ne, e⟩
    · cases e
    · exact e
  exact ⟨⟨ad, ⟨fun j o h => a.at_ _ _ (old h), fun j o m h hm => a.own _ _ _ (old h) hm, fun j j2 oi oj mi mj h1 h2 m1 m2 e => a.inj _ _ _ _ _ _ (old h1) (old h2) m1 m2 e, fun j ds h => a.rd _ _ (old h)⟩⟩, by rw [List.length_set]; exact r.len, r.fr, r.pu, fun j h => r.tk _ (old h)⟩
end

/-! ### readings -/
structure OEnds where
  nx : OE → Int → Prop
  rt : OV → Int → Prop
  bk : OE → Int → Prop := fun _ _ => False
  ct : OE → Int → Prop := fun _ _ => False
/-- a value by what it is -/
def OvR (M0 M : AHp) (ε : OE) (δ : DE) : OV → D → Prop
  | .v d', d => d = d'
  | .l ds, d => ∃ q, d = .adr q ∧ M q = some (.lst ds) ∧ Free M0 ε δ q
  | .k kvs, d => ∃ q, d = .adr q ∧ M q = some (.dK kvs) ∧ Free M0 ε δ q
  | .pu, _ => False
  | .r ds, d => ∃ (q : Addr) (i : Nat), d = .adr q ∧ M0 q = some (.lst ds) ∧ ε[i]? = some (some (OV.r ds)) ∧ δ[i]? = some (some (D.adr q))
def lN (P : Option Addr) (M0 : AHp) (Q : OE → Int → Prop) : DE → AHp → Prop := fun δ M => ∃ ε n, Rl P M0 n ε δ M ∧ Q ε n
def lV (P : Option Addr) (M0 : AHp) (Q : OV → Int → Prop) : DK := fun d M => ∃ ov n ε δ, Rl P M0 n ε δ M ∧ OvR M0 M ε δ ov d ∧ Q ov n
def lift (P : Option Addr) (M0 : AHp) (A : OEnds) : AEnds := { nx := lN P M0 A.nx, rt := lV P M0 A.rt, bk := lN P M0 A.bk, ct := lN P M0 A.ct }
structure oS (X : Cx) (st : Stmt) (A : OEnds) (ε : OE) (n : Int) : Prop where
  run : ∀ P M0 δ M, Rl P M0 n ε δ M → aS X st (lift P M0 A) δ M
instance {X : Cx} {st : Stmt} {A : OEnds} {ε : OE} {n : Int} : CoeFun (oS X st A ε n) fun _ => ∀ P M0 δ M, Rl P M0 n ε δ M → aS X st (lift P M0 A) δ M := ⟨oS.run⟩
structure oSs (X : Cx) (st : List Stmt) (A : OEnds) (ε : OE) (n : Int) : Prop where
  run : ∀ P M0 δ M, Rl P M0 n ε δ M → aSs X st (lift P M0 A) δ M
instance {X : Cx} {st : List Stmt} {A : OEnds} {ε : OE} {n : Int} : CoeFun (oSs X st A ε n) fun _ => ∀ P M0 δ M, Rl P M0 n ε δ M → aSs X st (lift P M0 A) δ M := ⟨oSs.run⟩
structure oE (X : Cx) (e : Expr) (ε : OE) (n : Int) (Q : OV → Int → Prop) : Prop where
  run : ∀ P M0 δ M, Rl P M0 n ε δ M → aE X e δ M fun d M' => ∃ ov n', Rl P M0 n' ε δ M' ∧ OvR M0 M' ε δ ov d ∧ Q ov n'
instance {X : Cx} {e : Expr} {ε : OE} {n : Int} {Q : OV → Int → Prop} : CoeFun (oE X e ε n Q) fun _ => ∀ P M0 δ M, Rl P M0 n ε δ M → aE X e δ M fun d M' => ∃ ov n', Rl P M0 n' ε δ M' ∧ OvR M0 M' ε δ ov d ∧ Q ov n' := ⟨oE.run⟩
structure oV (X : Cx) (e : Expr) (ε : OE) (d : D) : Prop where
  run : ∀ P M0 n δ M, Rl P M0 n ε δ M → aV X e δ M d
instance {X : Cx} {e : Expr} {ε : OE} {d : D} : CoeFun (oV X e ε d) fun _ => ∀ P M0 n δ M, Rl P M0 n ε δ M → aV X e δ M d := ⟨oV.run⟩
structure oT (X : Cx) (e : Expr) (ε : OE) (b : Bool) : Prop where
  run : ∀ P M0 n δ M, Rl P M0 n ε δ M → aTV X e δ M b
instance {X : Cx} {e : Expr} {ε : OE} {b : Bool} : CoeFun (oT X e ε b) fun _ => ∀ P M0 n δ M, Rl P M0 n ε δ M → aTV X e δ M b := ⟨oT.run⟩
structure oVs (X : Cx) (es : List Expr) (ε : OE) (ds : List D) : Prop where
  run : ∀ P M0 n δ M, Rl P M0 n ε δ M → aAV X es δ M ds
instance {X : Cx} {es : List Expr} {ε : OE} {ds : List D} : CoeFun (oVs X es ε ds) fun _ => ∀ P M0 n δ M, Rl P M0 n ε δ M → aAV X es δ M ds := ⟨oVs.run⟩
/-- a thing that may be an own one, looked at -/
def Ov (M : AHp) : OV → D → Prop
  | .v d', d => d = d'
  | .l ds, d => ∃ q, d = .adr q ∧ M q = some (.lst ds)
  | .k kvs, d => ∃ q, d = .adr q ∧ M q = some (.dK kvs)
  | .pu, _ => False
  | .r ds, d => ∃ q, d = .adr q ∧ M q = some (.lst ds)
structure oX (X : Cx) (e : Expr) (ε : OE) (ov : OV) : Prop where
  run : ∀ P M0 n δ M, Rl P M0 n ε δ M → ∃ d, aV X e δ M d ∧ Ov M ov d
instance {X : Cx} {e : Expr} {ε : OE} {ov : OV} : CoeFun (oX X e ε ov) fun _ => ∀ P M0 n δ M, Rl P M0 n ε δ M → ∃ d, aV X e δ M d ∧ Ov M ov d := ⟨oX.run⟩
/-- its items -/
inductive ItemsO : OV → List D → Prop
  | lst {ds : List D} : ItemsO (.v (.lst ds)) ds
  | tup {ds : List D} : ItemsO (.v (.tup ds)) ds
  | l {ds : List D} : ItemsO (.l ds) ds
  | r {ds : List D} : ItemsO (.r ds) ds
inductive ListO : OV → List D → Prop
  | lst {ds : List D} : ListO (.v (.lst ds)) ds
  | l {ds : List D} : ListO (.l ds) ds
  | r {ds : List D} : ListO (.r ds) ds
theorem ItemsO.d {M : AHp} {ov : OV} {ds : List D} (h : ItemsO ov ds) {d : D} (r : Ov M ov d) : ItemsD M d ds := by
  cases h with
  | lst => have r : d = _ := r; subst r; exact .lst
  | tup => have r : d = _ := r; subst r; exact .tup
  | l => obtain ⟨q, rfl, hq⟩ := r; exact .adr hq
  | r => obtain ⟨q, rfl, hq⟩ := r; exact .adr hq
theorem ListO.d {M : AHp} {ov : OV} {ds : List D} (h : ListO ov ds) {d : D} (r : Ov M ov d) : ListD M d ds := by
  cases h with
  | lst => have r : d = _ := r; subst r; exact .lst
  | l => obtain ⟨q, rfl, hq⟩ := r; exact .adr hq
  | r => obtain ⟨q, rfl, hq⟩ := r; exact .adr hq
/-- written by f -/
inductive EnO {α : Type} (f : α → D) : OV → α → Prop
  | dat {x : α} : EnO f (.v (f x)) x
  | l {x : α} {ds : List D} : f x = .lst ds → EnO f (.l ds) x
theorem EnO.d {α : Type} {f : α → D} {M : AHp} {ov : OV} {x : α} (h : EnO f ov x) {d : D} (r : Ov M ov d) : IsEn M f d x := by
  cases h with
  | dat => have r : d = _ := r; subst r; exact .dat
  | l e => obtain ⟨q, rfl, hq⟩ := r; exact .adr hq e

variable {X : Cx} {e a b o : Expr} {es : List Expr} {st : Stmt} {sts : List Stmt} {ε : OE} {n : Int} {Q : OV → Int → Prop} {A : OEnds} {G : Gx} {N : List Str} {sc : Scope} {pos : Pos} {x m : Str} {d d' : D}
theorem oV.to (h : oV X e ε d) (q : d = d') : oV X e ε d' := q ▸ h
theorem oX.of (h : oV X e ε d) : oX X e ε (.v d) := .mk fun P M0 n δ M r => ⟨d, h P M0 n δ M r, rfl⟩
theorem oV.ev (h : oV X e ε d) (q : Q (.v d) n) : oE X e ε n Q := .mk fun P M0 δ M r => h P M0 n δ M r _ ⟨.v d, n, r, rfl, q⟩
theorem oT.to {k l : Bool} (h : oT X e ε k) (q : k = l) : oT X e ε l := q ▸ h
/-! ### names, constants -/
theorem ov_nm (g : XF X G N sc) (i : Nat) (h : ε[i]? = some (some (.v d)) := by rfl) (hN : N[i]? = some x := by rfl) (hv : visB sc x = true := by rfl) (hd : (x == ("__debug__" : Str)) = false := by decide) (hcd : (x == ("__classdict__" : Str)) = false := by decide) : oV X (.Name x pos) ε d :=
  .mk fun P M0 n δ M r => av_name g i (r.at_v h) hN hv hd hcd
theorem ox_nm (g : XF X G N sc) (i : Nat) {ds : List D} (h : ε[i]? = some (some (.l ds)) := by rfl) (hN : N[i]? = some x := by rfl) (hv : visB sc x = true := by rfl) (hd : (x == ("__debug__" : Str)) = false := by decide) (hcd : (x == ("__classdict__" : Str)) = false := by decide) : oX X (.Name x pos) ε (.l ds) :=
  .mk fun P M0 n δ M r => let ⟨q, h1, h2, _⟩ := r.at_l h; ⟨_, av_name g i h1 hN hv hd hcd, q, rfl, h2⟩
theorem ox_nmK (g : XF X G N sc) (i : Nat) {ds : List (Key × D)} (h : ε[i]? = some (some (.k ds)) := by rfl) (hN : N[i]? = some x := by rfl) (hv : visB sc x = true := by rfl) (hd : (x == ("__debug__" : Str)) = false := by decide) (hcd : (x == ("__classdict__" : Str)) = false := by decide) : oX X (.Name x pos) ε (.k ds) :=
  .mk fun P M0 n δ M r => let ⟨q, h1, h2, _⟩ := r.at_k h; ⟨_, av_name g i h1 hN hv hd hcd, q, rfl, h2⟩
theorem ov_n (g : XF X G N sc) (i : Nat) (hN : N[i]? = some x := by rfl) (h : ε[i]? = some (some (.v d)) := by rfl) (hv : visB sc x = true := by rfl) (hd : (x == ("__debug__" : Str)) = false := by decide) (hcd : (x == ("__classdict__" : Str)) = false := by decide) : oV X (.Name x pos) ε d := ov_nm g i h hN hv hd hcd
theorem ox_n (g : XF X G N sc) (i : Nat) {ds : List D} (hN : N[i]? = some x := by rfl) (h : ε[i]? = some (some (.l ds)) := by rfl) (hv : visB sc x = true := by rfl) (hd : (x == ("__debug__" : Str)) = false := by decide) (hcd : (x == ("__classdict__" : Str)) = false := by decide) : oX X (.Name x pos) ε (.l ds) := ox_nm g i h hN hv hd hcd
theorem ov_int {i : Int} {j} : oV X (.Constant (.int i) j pos) ε (.int i) := .mk fun _ _ _ _ _ _ => av_int
theorem ov_bl {b : Bool} {j} : oV X (.Constant (.bool b) j pos) ε (.bl b) := .mk fun _ _ _ _ _ _ => av_bl
theorem ov_non {j} : oV X (.Constant .none j pos) ε .non := .mk fun _ _ _ _ _ _ => av_non
theorem ov_str {z : Str} {j} : oV X (.Constant (.str z) j pos) ε (.str z) := .mk fun _ _ _ _ _ _ => av_str
theorem ov_neg {i : Int} (h : oV X a ε (.int i)) : oV X (.UnaryOp .USub a pos) ε (.int (-i)) := .mk fun P M0 n δ M r => av_neg (h P M0 n δ M r)
theorem ov_not {k : Bool} (h : oV X a ε (.bl k)) : oV X (.UnaryOp .Not a pos) ε (.bl (!k)) := .mk fun P M0 n δ M r => av_not (h P M0 n δ M r)
theorem ov_if {c : Expr} {k : Bool} {d1 d2 : D} (h : oT X c ε k) (h1 : k = true → oV X a ε d1) (h2 : k = false → oV X b ε d2) : oV X (.IfExp c a b pos) ε (if k = true then d1 else d2) :=
  .mk fun P M0 n δ M r => av_if (h P M0 n δ M r) (fun z => h1 z P M0 n δ M r) (fun z => h2 z P M0 n δ M r)
theorem ov_one {op : BoolOp} (h : oV X a ε d) : oV X (.BoolOp op [a] pos) ε d := .mk fun P M0 n δ M r => av_one (h P M0 n δ M r)
theorem ov_and {rest : List Expr} {k l : Bool} (h : oV X a ε (.bl k)) (h2 : k = true → oV X (.BoolOp .And (b :: rest) pos) ε (.bl l)) : oV X (.BoolOp .And (a :: b :: rest) pos) ε (.bl (k && l)) := .mk fun P M0 n δ M r => av_and (h P M0 n δ M r) fun z => h2 z P M0 n δ M r
theorem ov_or {rest : List Expr} {k l : Bool} (h : oV X a ε (.bl k)) (h2 : k = false → oV X (.BoolOp .Or (b :: rest) pos) ε (.bl l)) : oV X (.BoolOp .Or (a :: b :: rest) pos) ε (.bl (k || l)) := .mk fun P M0 n δ M r => av_or (h P M0 n δ M r) fun z => h2 z P M0 n δ M r
/-! ### operators -/
/-- what an operator gives of two values -/
structure BinV (X : Cx) (op : Operator) (u w : OV) (d : D) : Prop where
  ex : ∃ r : R2, OpR X (binaryOp op) r ∧ ∀ M da db, Ov M u da → Ov M w db → pR r M da db d
theorem BinV.of {op : Operator} {r : R2} {da db : D} (ho : OpR X (binaryOp op) r) (h : ∀ M, pR r M da db d) : BinV X op (.v da) (.v db) d := ⟨r, ho, fun M x y hx hy => by
  have hx : x = da := hx
  have hy : y = db := hy
  subst hx; subst hy
  exact h M⟩
theorem ov_bin {op : Operator} {u w : OV} (ha : oX X a ε u) (hb : oX X b ε w) (ho : BinV X op u w d) : oV X (.BinOp a op b pos) ε d := .mk fun P M0 n δ M r =>
  let ⟨_, h1, k1⟩ := ha P M0 n δ M r; let ⟨_, h2, k2⟩ := hb P M0 n δ M r; let ⟨_, h3, k3⟩ := ho; av_op h3 h1 h2 (k3 M _ _ k1 k2)
section
variable {i j : Int}
theorem bv_add : BinV X .Add (.v (.int i)) (.v (.int j)) (.int (i + j)) := .of op_add fun _ => p_add
theorem bv_sub : BinV X .Sub (.v (.int i)) (.v (.int j)) (.int (i - j)) := .of op_sub fun _ => p_sub
theorem bv_mul (hc : CMul i j) : BinV X .Mult (.v (.int i)) (.v (.int j)) (.int (i * j)) := .of op_mul fun _ => p_mul hc
theorem bv_mod (hc : 0 < j) : BinV X .Mod (.v (.int i)) (.v (.int j)) (.int (i % j)) := .of op_mod fun _ => p_mod hc
theorem bv_fdiv (hc : CDiv i j) : BinV X .FloorDiv (.v (.int i)) (.v (.int j)) (.int (i / j)) := .of op_fdiv fun _ => p_fdiv hc
theorem bv_pow (hc : CPowW i j) : BinV X .Pow (.v (.int i)) (.v (.int j)) (.int (i ^ j.toNat)) := .of op_powW fun _ => p_powW hc
end
theorem ListO.notup {ov : OV} {xs : List D} (h : ListO ov xs) {M : AHp} {d : D} (r : Ov M ov d) : ∀ ds, d ≠ .tup ds := fun ds e => by
  subst e
  cases h with
  | lst => have r : D.tup ds = _ := r; cases r
  | l => obtain ⟨q, e, _⟩ := r; cases e
  | r => obtain ⟨q, e, _⟩ := r; cases e
theorem ListO.items {ov : OV} {xs : List D} (h : ListO ov xs) : ItemsO ov xs := by
  cases h with
  | lst => exact .lst
  | l => exact .l
  | r => exact .r
theorem bv_cat {u w : OV} {xs ys : List D} (h1 : ListO u xs) (h2 : ListO w ys) (hl : xs.length + ys.length ≤ 1000000) : BinV X .Add u w (.lst (xs ++ ys)) := ⟨_, op_cat, fun M da db ka kb => p_catM (h1.items.d ka) (h2.items.d kb) (h1.notup ka) (h2.notup kb) hl⟩
theorem bv_catT {xs ys : List D} (hl : xs.length + ys.length ≤ 1000000) : BinV X .Add (.v (.tup xs)) (.v (.tup ys)) (.tup (xs ++ ys)) := .of op_catA fun _ => p_catA hl
/-- what a comparison gives -/
structure CmpV (X : Cx) (op : CmpOp) (u w : OV) (k : Bool) : Prop where
  ex : ∃ r : R2, OpR X (compareOp op) r ∧ ∀ M da db, Ov M u da → Ov M w db → pR r M da db (.bl k)
theorem CmpV.of {op : CmpOp} {r : R2} {da db : D} {k : Bool} (ho : OpR X (compareOp op) r) (h : ∀ M, pR r M da db (.bl k)) : CmpV X op (.v da) (.v db) k := ⟨r, ho, fun M x y hx hy => by
  have hx : x = da := hx
  have hy : y = db := hy
  subst hx; subst hy
  exact h M⟩
theorem ov_cmp {op : CmpOp} {u w : OV} {k : Bool} (ha : oX X a ε u) (hb : oX X b ε w) (ho : CmpV X op u w k) (hm : behindInMarks op b = false := by first | exact nomark _ | rfl) : oV X (.Compare a [op] [b] pos) ε (.bl k) := .mk fun P M0 n δ M r =>
  let ⟨_, h1, k1⟩ := ha P M0 n δ M r; let ⟨_, h2, k2⟩ := hb P M0 n δ M r; let ⟨_, h3, k3⟩ := ho; av_cmp h3 h1 h2 (k3 M _ _ k1 k2) hm
theorem ot_cmp {op : CmpOp} {u w : OV} {k : Bool} (ha : oX X a ε u) (hb : oX X b ε w) (ho : CmpV X op u w k) (hm : behindInMarks op b = false := by first | exact nomark _ | rfl) : oT X (.Compare a [op] [b] pos) ε k := .mk fun P M0 n δ M r =>
  let ⟨_, h1, k1⟩ := ha P M0 n δ M r; let ⟨_, h2, k2⟩ := hb P M0 n δ M r; let ⟨_, h3, k3⟩ := ho; atv_cmp h3 h1 h2 (k3 M _ _ k1 k2) hm
section
variable {i j : Int} {z w : Str} {p q : Option Int} {k l : Bool}
theorem cv_lt : CmpV X .Lt (.v (.int i)) (.v (.int j)) (decide (i < j)) := .of op_lt fun _ => p_lt
theorem cv_le : CmpV X .LtE (.v (.int i)) (.v (.int j)) (decide (i ≤ j)) := .of op_le fun _ => p_le
theorem cv_gt : CmpV X .Gt (.v (.int i)) (.v (.int j)) (decide (j < i)) := .of op_gt fun _ => p_gt
theorem cv_ge : CmpV X .GtE (.v (.int i)) (.v (.int j)) (decide (j ≤ i)) := .of op_ge fun _ => p_ge
theorem cv_eq : CmpV X .Eq (.v (.int i)) (.v (.int j)) (decide (i = j)) := .of op_eq fun _ => p_eq
theorem cv_ne : CmpV X .NotEq (.v (.int i)) (.v (.int j)) (!decide (i = j)) := .of op_ne fun _ => p_ne
theorem cv_eqS : CmpV X .Eq (.v (.str z)) (.v (.str w)) (decide (z = w)) := .of op_eq fun _ => p_eqS
theorem cv_neS : CmpV X .NotEq (.v (.str z)) (.v (.str w)) (!decide (z = w)) := .of op_ne fun _ => p_neS
theorem cv_eqB : CmpV X .Eq (.v (.bl k)) (.v (.bl l)) (decide (k = l)) := .of op_eq fun _ => p_eqB
theorem cv_eqP : CmpV X .Eq (.v (dP p)) (.v (dP q)) (decide (p = q)) := .of op_eq fun _ => p_eqP
theorem cv_neP : CmpV X .NotEq (.v (dP p)) (.v (dP q)) (!decide (p = q)) := .of op_ne fun _ => p_neP
theorem cv_isN {d : D} : CmpV X .Is (.v d) (.v .non) (isNon d) := .of op_isN1 fun _ => p_isN
theorem cv_notN {d : D} : CmpV X .IsNot (.v d) (.v .non) (!isNon d) := .of op_notN1 fun _ => p_notN
theorem cv_inI {u : OV} {ns : List Int} (h : ItemsO u (ns.map D.int)) : CmpV X .In (.v (.int i)) u (decide (i ∈ ns)) := ⟨_, op_in_seq, fun M da db ka kb => by
  have ka : da = _ := ka
  subst ka
  exact p_inI (h.d kb)⟩
theorem cv_ninI {u : OV} {ns : List Int} (h : ItemsO u (ns.map D.int)) : CmpV X .NotIn (.v (.int i)) u (!decide (i ∈ ns)) := ⟨_, op_notIn_seq, fun M da db ka kb => by
  have ka : da = _ := ka
  subst ka
  exact p_notInI (h.d kb)⟩
theorem cv_eqN {α : Type} [DecidableEq α] {n : Nat} {f : α → D} (hr : Room n X.A) {m : Nat} (en : En m f) {u v : OV} {x y : α} (hu : EnO f u x) (hv : EnO f v y) (hn : m ≤ 64 := by decide) : CmpV X .Eq u v (decide (x = y)) := ⟨_, op_eqD hr.units, fun M da db ka kb => p_eqN en (hu.d ka) (hv.d kb) hn⟩
theorem cv_neN {α : Type} [DecidableEq α] {n : Nat} {f : α → D} (hr : Room n X.A) {m : Nat} (en : En m f) {u v : OV} {x y : α} (hu : EnO f u x) (hv : EnO f v y) (hn : m ≤ 64 := by decide) : CmpV X .NotEq u v (!decide (x = y)) := ⟨_, op_neD hr.units, fun M da db ka kb => p_neN en (hu.d ka) (hv.d kb) hn⟩
end
/-! ### tests -/
theorem ot_val {k : Bool} (h : oV X e ε (.bl k)) (he : ∀ whole, isTrue e X.env whole = (do let v ← whole; standAt e.pos; holding [v] (truthy v)) := by intro _; rfl) : oT X e ε k := .mk fun P M0 n δ M r => atv_val (h P M0 n δ M r) he
theorem ot_not {k : Bool} (h : oT X a ε k) : oT X (.UnaryOp .Not a pos) ε (!k) := .mk fun P M0 n δ M r => atv_not (h P M0 n δ M r)
structure oW (X : Cx) (e : Expr) (ε : OE) (b : Bool) : Prop where
  run : ∀ P M0 n δ M, Rl P M0 n ε δ M → aWV X e δ M b
instance {X : Cx} {e : Expr} {ε : OE} {b : Bool} : CoeFun (oW X e ε b) fun _ => ∀ P M0 n δ M, Rl P M0 n ε δ M → aWV X e δ M b := ⟨oW.run⟩
theorem oW.t {k : Bool} (h : oW X e ε k) : oT X e ε k := .mk fun P M0 n δ M r => (h P M0 n δ M r).t
theorem ow_and1 {k : Bool} (h : oT X a ε k) : oW X (.BoolOp .And [a] pos) ε k := .mk fun P M0 n δ M r => awv_and1 (h P M0 n δ M r)
theorem ow_or1 {k : Bool} (h : oT X a ε k) : oW X (.BoolOp .Or [a] pos) ε k := .mk fun P M0 n δ M r => awv_or1 (h P M0 n δ M r)
theorem ow_and {rest : List Expr} {k l : Bool} (h : oT X a ε k) (h2 : k = true → oW X (.BoolOp .And (b :: rest) pos) ε l) : oW X (.BoolOp .And (a :: b :: rest) pos) ε (k && l) := .mk fun P M0 n δ M r => awv_and (h P M0 n δ M r) fun z => h2 z P M0 n δ M r
theorem ow_or {rest : List Expr} {k l : Bool} (h : oT X a ε k) (h2 : k = false → oW X (.BoolOp .Or (b :: rest) pos) ε l) : oW X (.BoolOp .Or (a :: b :: rest) pos) ε (k || l) := .mk fun P M0 n δ M r => awv_or (h P M0 n δ M r) fun z => h2 z P M0 n δ M r
/-! ### displays, items, slices -/
theorem ovs_nil : oVs X [] ε [] := .mk fun _ _ _ _ _ _ => aav_nil
theorem ovs_cons {ds : List D} (h : oV X e ε d) (hr : oVs X es ε ds) (hs : starEach (e :: es) X.env = (false, eval e X.env) :: starEach es X.env := by rfl) : oVs X (e :: es) ε (d :: ds) := .mk fun P M0 n δ M r => aav_cons (h P M0 n δ M r) (hr P M0 n δ M r) hs
theorem ov_tup {x1} {ds : List D} (h : oVs X es ε ds) (hl : ds.length ≤ 10000 := by first | decide | exact Nat.le_of_ble_eq_true rfl) : oV X (.Tuple es x1 pos) ε (.tup ds) := .mk fun P M0 n δ M r => av_tup (h P M0 n δ M r) hl
theorem ov_lst {ds : List D} (h : oVs X es ε ds) (hl : ds.length ≤ 10000 := by first | decide | exact Nat.le_of_ble_eq_true rfl) : oV X (.List es pos) ε (.lst ds) := .mk fun P M0 n δ M r => av_lst (h P M0 n δ M r) hl
theorem ov_ixT {i : Int} {ds : List D} (ha : oV X a ε (.tup ds)) (hb : oV X b ε (.int i)) (h : atI ds i = some d) (hs : PlainIx b := by exact fun _ _ => rfl) : oV X (.Subscript a b pos) ε d := .mk fun P M0 n δ M r => av_ix ix_tup (ha P M0 n δ M r) (hb P M0 n δ M r) (p_ixT h) hs
theorem ov_ixL {i : Int} {u : OV} {ds : List D} (ha : oX X a ε u) (hu : ListO u ds) (hb : oV X b ε (.int i)) (h : atI ds i = some d) (hs : PlainIx b := by exact fun _ _ => rfl) : oV X (.Subscript a b pos) ε d := .mk fun P M0 n δ M r => by
  obtain ⟨da, h1, k1⟩ := ha P M0 n δ M r
  cases hu with
  | lst => have k1 : da = _ := k1; subst k1; exact av_ix ix_list h1 (hb P M0 n δ M r) (p_ixL h) hs
  | l => obtain ⟨q, rfl, hq⟩ := k1; exact av_ix ix_list h1 (hb P M0 n δ M r) (p_ixM hq h) hs
  | r => obtain ⟨q, rfl, hq⟩ := k1; exact av_ix ix_list h1 (hb P M0 n δ M r) (p_ixM hq h) hs
theorem ov_dget {j0 : Nat} {kvs : List (Key × D)} {k : Key} (hr : Room j0 X.A) (ho : oX X o ε (.k kvs)) (hi : oV X b ε (dK k)) (hl : lookK kvs k = some d) (hs : NoSl b := by exact fun _ _ => rfl) : oV X (.Subscript o b pos) ε d := .mk fun P M0 n δ M r => by
  obtain ⟨da, h1, q, rfl, hq⟩ := ho P M0 n δ M r
  exact av_dget hr h1 (hi P M0 n δ M r) hq hl hs
inductive CutO (X : Cx) (ε : OE) : Option Expr → Option Nat → Prop
  | no : CutO X ε none none
  | upto {a : Expr} {i : Int} : oV X a ε (.int i) → 0 ≤ i → CutO X ε (some a) (some i.toNat)
theorem CutO.cut {oe : Option Expr} {k : Option Nat} (h : CutO X ε oe k) {P M0 n δ M} (r : Rl P M0 n ε δ M) : Cut X δ M oe k := by
  cases h with
  | no => exact .no
  | upto h z => exact .upto (h P M0 n δ M r) z
theorem ov_sl {u : OV} {ds : List D} {lo hi : Option Expr} {i j : Option Nat} {p2 : Pos} (he : oX X e ε u) (hd : ListO u ds) (hl : CutO X ε lo i) (hh : CutO X ε hi j) : oV X (.Subscript e (.Slice lo hi none p2) pos) ε (.lst (cutD ds i j)) := .mk fun P M0 n δ M r =>
  let ⟨_, h1, k1⟩ := he P M0 n δ M r; av_slice h1 (hd.d k1) (hl.cut r) (hh.cut r)
/-! ### attributes of data -/
theorem ov_fld {C : Addr} {fs : List (Str × D)} (g : XF X G N sc) (h : oV X o ε (.obj C fs)) (cl : Cls G.K C) (nf : NoAttr G.K C m) (hl : fs.lookup m = some d) (hb : attributeBase o m X.env (eval o X.env) = eval o X.env := by rfl) : oV X (.Attribute o m pos) ε d := .mk fun P M0 n δ M r => av_fld g cl nf (h P M0 n δ M r) .obj hl hb
/-! ### calls of built-ins -/
inductive Ovs (M : AHp) : List OV → List D → Prop
  | nil : Ovs M [] []
  | cons {u : OV} {d : D} {us : List OV} {ds : List D} : Ov M u d → Ovs M us ds → Ovs M (u :: us) (d :: ds)
/-- what a built-in gives of values -/
structure CalV (X : Cx) (r : List V → Hp → VK → Prop) (ovs : List OV) (d : D) : Prop where
  run : ∀ M ds, Ovs M ovs ds → pC r M ds d
instance {X : Cx} {r : List V → Hp → VK → Prop} {ovs : List OV} {d : D} : CoeFun (CalV X r ovs d) fun _ => ∀ M ds, Ovs M ovs ds → pC r M ds d := ⟨CalV.run⟩
structure oXs (X : Cx) (es : List Expr) (ε : OE) (ovs : List OV) : Prop where
  run : ∀ P M0 n δ M, Rl P M0 n ε δ M → ∃ ds, aAV X es δ M ds ∧ Ovs M ovs ds
instance {X : Cx} {es : List Expr} {ε : OE} {ovs : List OV} : CoeFun (oXs X es ε ovs) fun _ => ∀ P M0 n δ M, Rl P M0 n ε δ M → ∃ ds, aAV X es δ M ds ∧ Ovs M ovs ds := ⟨oXs.run⟩
theorem oxs_nil : oXs X [] ε [] := .mk fun _ _ _ _ _ _ => ⟨[], aav_nil, .nil⟩
theorem oxs_cons {u : OV} {us : List OV} (h : oX X e ε u) (hr : oXs X es ε us) (hs : starEach (e :: es) X.env = (false, eval e X.env) :: starEach es X.env := by rfl) : oXs X (e :: es) ε (u :: us) := .mk fun P M0 n δ M r =>
  let ⟨_, h1, k1⟩ := h P M0 n δ M r; let ⟨_, h2, k2⟩ := hr P M0 n δ M r; ⟨_, aav_cons h1 h2 hs, .cons k1 k2⟩
theorem ov_callB {id : String} {r : List V → Hp → VK → Prop} {p : Pos} {us : List OV} (g : XF X G N sc) (hc : CallR X (.builtin id) r) (hm : G.mg x = none) (h : oXs X (e :: es) ε us) (hr : CalV X r us d) (hv : bootBuiltins x = some (.builtin id) := by rfl) (hg : sc.names.lookup x = some .globalImplicit := by rfl) (hn : x ≠ "__name__" := by decide) (hdb : (x == ("__debug__" : Str)) = false := by decide)
    (he : starEach (e :: es) X.env = (false, eval e X.env) :: starEach es X.env := by rfl) (hpl : (backTo pos (starEach es X.env)).any (·.1) = false := by rfl) : oV X (.Call (.Name x p) (e :: es) [] pos) ε d := .mk fun P M0 n δ M rl =>
  let ⟨ds, h1, k1⟩ := h P M0 n δ M rl; av_callB g hc hm hv h1 (hr M ds k1) hg hn hdb he hpl
theorem ov_callTy {T : String} {r : List V → Hp → VK → Prop} {p : Pos} {us : List OV} (g : XF X G N sc) (hc : CallR X (.type T) r) (hm : G.mg x = none) (h : oXs X (e :: es) ε us) (hr : CalV X r us d) (hv : bootBuiltins x = some (.type T) := by rfl) (hg : sc.names.lookup x = some .globalImplicit := by rfl) (hn : x ≠ "__name__" := by decide) (hdb : (x == ("__debug__" : Str)) = false := by decide)
    (he : starEach (e :: es) X.env = (false, eval e X.env) :: starEach es X.env := by rfl) (hpl : (backTo pos (starEach es X.env)).any (·.1) = false := by rfl) : oV X (.Call (.Name x p) (e :: es) [] pos) ε d := .mk fun P M0 n δ M rl =>
  let ⟨ds, h1, k1⟩ := h P M0 n δ M rl; av_callTy g hc hm hv h1 (hr M ds k1) hg hn hdb he hpl
theorem CalV.one {r : List V → Hp → VK → Prop} {u : OV} (h : ∀ M d', Ov M u d' → pC r M [d'] d) : CalV X r [u] d := .mk fun M ds hs => by
  cases hs with
  | cons k1 k2 => cases k2; exact h M _ k1
theorem CalV.two {r : List V → Hp → VK → Prop} {d1 d2 : D} (h : ∀ M, pC r M [d1, d2] d) : CalV X r [.v d1, .v d2] d := .mk fun M ds hs => by
  cases hs with
  | cons k1 k2 => cases k2 with
    | cons k2 k3 =>
      cases k3
      have k1 : _ = d1 := k1
      have k2 : _ = d2 := k2
      subst k1; subst k2
      exact h M
theorem cl_len {u : OV} {ds : List D} (h : ItemsO u ds) : CalV X (rLen X.K) [u] (.int ds.length) := .one fun M d' k => by
  cases h with
  | lst => have k : d' = _ := k; subst k; exact c_lenL
  | tup => have k : d' = _ := k; subst k; exact c_lenT
  | l => obtain ⟨q, rfl, hq⟩ := k; exact c_lenM hq
  | r => obtain ⟨q, rfl, hq⟩ := k; exact c_lenM hq
theorem cl_list {u : OV} {ds : List D} (h : ItemsO u ds) : CalV X (rListOf X.K) [u] (.lst ds) := .one fun M d' k => c_list (h.d k)
theorem cl_sortedI {u : OV} {ns : List Int} (h : ListO u (ns.map D.int)) : CalV X (rSortedI X.K) [u] (.lst ((srtI ns).map D.int)) := .one fun M d' k => c_sortedI (h.d k)
theorem cl_sortedE {u : OV} {l : List (Int × Option Int)} (h : ListO u (l.map dE)) (hd : ∀ a ∈ l, ∀ b ∈ l, a.1 = b.1 → a = b) : CalV X rSortKP [u] (dEs (srtE l)) := .one fun M d' k => c_sortedE (h.d k) hd
theorem cl_repr {k : Nat} (h : Shw k d) (hn : k ≤ 10000000) : CalV X (rRepr X.K) [.v d] (.str d.py.shown) := .one fun M d' e => by
  have e : d' = d := e
  subst e; exact c_repr h hn
theorem cl_reprL {k : Nat} {ds : List D} (h : Shw k (.lst ds)) (hn : k ≤ 10000000) : CalV X (rRepr X.K) [.l ds] (.str (D.lst ds).py.shown) := .one fun M d' e => by
  obtain ⟨q, rfl, hq⟩ := e
  exact c_reprM hq h hn
end Ab
/-! Statements over names by value; draws; defs. -/
namespace Ab
open PySem PySem.Spec PyProof.Rows L2
variable {X : Cx} {e a b o : Expr} {es : List Expr} {st : Stmt} {sts : List Stmt} {ε : OE} {n : Int} {Q : OV → Int → Prop} {A : OEnds} {G : Gx} {N : List Str} {sc scope : Scope} {pos : Pos} {x m : Str} {d d' : D}
theorem os_nil (q : A.nx ε n) : oSs X [] A ε n := .mk fun P M0 δ M r => as_nil ⟨ε, n, r, q⟩
theorem os_cons (h : oS X st { A with nx := fun ε' n' => oSs X sts A ε' n' } ε n) : oSs X (st :: sts) A ε n := .mk fun P M0 δ M r =>
  as_seq (lN P M0 fun ε' n' => oSs X sts A ε' n') (h P M0 δ M r) fun δ' M' ⟨ε', n', r', q⟩ => q P M0 δ' M' r'
theorem os_seq (J : OE → Int → Prop) (h : oS X st { A with nx := J } ε n) (k : ∀ ε' n', J ε' n' → oSs X sts A ε' n') : oSs X (st :: sts) A ε n := .mk fun P M0 δ M r =>
  as_seq (lN P M0 J) (h P M0 δ M r) fun δ' M' ⟨ε', n', r', q⟩ => k ε' n' q P M0 δ' M' r'
theorem os_one (h : oS X st A ε n) : oSs X [st] A ε n := .mk fun P M0 δ M r => as_one (h P M0 δ M r)
theorem oE.imp {Q' : OV → Int → Prop} (h : oE X e ε n Q) (k : ∀ d n', Q d n' → Q' d n') : oE X e ε n Q' := .mk fun P M0 δ M r => (h P M0 δ M r).imp fun d M' ⟨ov, n', r', v, q⟩ => ⟨ov, n', r', v, k _ _ q⟩
theorem os_ret (h : oE X e ε n A.rt) : oS X (.Return (some e) pos) A ε n := .mk fun P M0 δ M r => as_ret ((h P M0 δ M r).imp fun d M' ⟨ov, n', r', v, q⟩ => ⟨ov, n', ε, δ, r', v, q⟩)
theorem os_retN (q : A.rt (.v .non) n) : oS X (.Return none pos) A ε n := .mk fun P M0 δ M r => as_retN ⟨.v .non, n, ε, δ, r, rfl, q⟩
theorem os_retV (h : oV X e ε d) (q : A.rt (.v d) n) : oS X (.Return (some e) pos) A ε n := os_ret (h.ev q)
theorem os_if {c : Expr} {s1 s2 : List Stmt} {k : Bool} (h : oT X c ε k) (h1 : k = true → oSs X s1 A ε n) (h2 : k = false → oSs X s2 A ε n) : oS X (.If c s1 s2 pos) A ε n := .mk fun P M0 δ M r => as_ifV (h P M0 n δ M r) (fun z => h1 z P M0 δ M r) fun z => h2 z P M0 δ M r
theorem os_ifP {c : Expr} {s1 s2 : List Stmt} {k : Prop} [Decidable k] (h : oT X c ε (decide k)) (h1 : k → oSs X s1 A ε n) (h2 : ¬ k → oSs X s2 A ε n) : oS X (.If c s1 s2 pos) A ε n := os_if h (fun z => h1 (of_decide_eq_true z)) fun z => h2 (of_decide_eq_false z)
theorem os_ifN {c : Expr} {s1 s2 : List Stmt} {k : Prop} [Decidable k] (h : oT X c ε (!decide k)) (h1 : ¬ k → oSs X s1 A ε n) (h2 : k → oSs X s2 A ε n) : oS X (.If c s1 s2 pos) A ε n := os_if h (fun z => h1 (by simpa using z)) fun z => h2 (by simpa using z)
/-- a test that draws -/
structure oC (X : Cx) (e : Expr) (ε : OE) (n : Int) (Q : Bool → Int → Prop) : Prop where
  run : ∀ P M0 δ M, Rl P M0 n ε δ M → aT X e δ M fun b M' => ∃ n', Rl P M0 n' ε δ M' ∧ Q b n'
instance {X : Cx} {e : Expr} {ε : OE} {n : Int} {Q : Bool → Int → Prop} : CoeFun (oC X e ε n Q) fun _ => ∀ P M0 δ M, Rl P M0 n ε δ M → aT X e δ M fun b M' => ∃ n', Rl P M0 n' ε δ M' ∧ Q b n' := ⟨oC.run⟩
theorem os_ifC {c : Expr} {s1 s2 : List Stmt} (h : oC X c ε n fun k n' => (k = true → oSs X s1 A ε n') ∧ (k = false → oSs X s2 A ε n')) : oS X (.If c s1 s2 pos) A ε n := .mk fun P M0 δ M r => as_if ((h P M0 δ M r).imp fun b M' ⟨n', r', q1, q2⟩ => ⟨fun z => q1 z P M0 δ M' r', fun z => q2 z P M0 δ M' r'⟩)
theorem oT.c {k : Bool} {Q : Bool → Int → Prop} (h : oT X e ε k) (q : Q k n) : oC X e ε n Q := .mk fun P M0 δ M r => h P M0 n δ M r _ ⟨n, r, q⟩
theorem oc_val {Q : Bool → Int → Prop} (h : oE X e ε n fun ov n' => ∃ b, ov = .v (.bl b) ∧ Q b n') (he : ∀ whole, isTrue e X.env whole = (do let v ← whole; standAt e.pos; holding [v] (truthy v)) := by intro _; rfl) : oC X e ε n Q := .mk fun P M0 δ M r => at_val ((h P M0 δ M r).imp fun d M' ⟨ov, n', r', v, b, e, q⟩ => by
  subst e
  exact ⟨b, v, n', r', q⟩) he
theorem oc_not {Q : Bool → Int → Prop} (h : oC X a ε n fun b n' => Q (!b) n') : oC X (.UnaryOp .Not a pos) ε n Q := .mk fun P M0 δ M r => at_not (h P M0 δ M r)
/-- comparisons whose left side draws (the right side does not) -/
theorem oc_cmp {op : CmpOp} {rr : R2} {Q : Bool → Int → Prop} (ho : OpR X (compareOp op) rr) (h : oE X a ε n fun u n' => ∃ d w k, u = .v d ∧ oX X b ε w ∧ (∀ M db, Ov M w db → pR rr M d db (.bl k)) ∧ Q k n') (hm : behindInMarks op b = false := by first | exact nomark _ | rfl) : oC X (.Compare a [op] [b] pos) ε n Q := .mk fun P M0 δ M r =>
  at_cmp ho ((h P M0 δ M r).imp fun da M' ⟨u, n', r', v, d, w, k, e, hb, hp, q⟩ => by
    subst e
    have v : da = d := v
    subst v
    obtain ⟨db, h1, k1⟩ := hb P M0 n' δ M' r'
    exact h1 _ ((hp M' db k1).aR ⟨k, rfl, n', r', q⟩)) hm
/-- .. with an int -/
theorem oc_eqI {i : Int} {Q : Bool → Int → Prop} (h : oE X a ε n fun u n' => ∃ j : Int, u = .v (.int j) ∧ Q (decide (j = i)) n') (hb : oV X b ε (.int i)) : oC X (.Compare a [.Eq] [b] pos) ε n Q := oc_cmp op_eq (h.imp fun u n' ⟨j, e, q⟩ => ⟨_, _, _, e, oX.of hb, fun M db kb => by
  have kb : db = _ := kb
  subst kb; exact p_eq, q⟩)
theorem oc_gtI {i : Int} {Q : Bool → Int → Prop} (h : oE X a ε n fun u n' => ∃ j : Int, u = .v (.int j) ∧ Q (decide (i < j)) n') (hb : oV X b ε (.int i)) : oC X (.Compare a [.Gt] [b] pos) ε n Q := oc_cmp op_gt (h.imp fun u n' ⟨j, e, q⟩ => ⟨_, _, _, e, oX.of hb, fun M db kb => by
  have kb : db = _ := kb
  subst kb; exact p_gt, q⟩)
theorem oc_ltI {i : Int} {Q : Bool → Int → Prop} (h : oE X a ε n fun u n' => ∃ j : Int, u = .v (.int j) ∧ Q (decide (j < i)) n') (hb : oV X b ε (.int i)) : oC X (.Compare a [.Lt] [b] pos) ε n Q := oc_cmp op_lt (h.imp fun u n' ⟨j, e, q⟩ => ⟨_, _, _, e, oX.of hb, fun M db kb => by
  have kb : db = _ := kb
  subst kb; exact p_lt, q⟩)
theorem os_pass (q : A.nx ε n) : oS X (.Pass pos) A ε n := .mk fun P M0 δ M r => as_pass ⟨ε, n, r, q⟩
theorem os_break (q : A.bk ε n) : oS X (.Break pos) A ε n := .mk fun P M0 δ M r => as_break ⟨ε, n, r, q⟩
theorem os_continue (q : A.ct ε n) : oS X (.Continue pos) A ε n := .mk fun P M0 δ M r => as_continue ⟨ε, n, r, q⟩
theorem os_never (h : False) : oS X st A ε n := h.elim
/-! ### stores -/
theorem os_set (g : XD X G N sc) (i : Nat) {pos' : Pos} (h : oE X e ε n fun ov n' => A.nx (ε.set i (some ov)) n') (hN : N[i]? = some x := by rfl) (hv : locB sc x = true := by rfl) (hs : swapsWith e (some (.Name x pos')) pos.line X.env = pure false := by rfl) : oS X (.Assign [.Name x pos'] e pos) A ε n := .mk fun P M0 δ M r =>
  as_set g i ((h P M0 δ M r).imp fun d M' ⟨ov, n', r', v, q⟩ => by
    refine ⟨_, n', ?_, q⟩
    cases ov with
    | v d' => have v : d = d' := v; subst v; exact r'.set_v i d
    | l ds => obtain ⟨q, rfl, hq, f⟩ := v; exact r'.set_own i rfl hq f
    | k ds => obtain ⟨q, rfl, hq, f⟩ := v; exact r'.set_own i rfl hq f
    | pu => cases v
    | r ds => obtain ⟨q, j, rfl, _, h1, h2⟩ := v; exact r'.set_r i h1 h2) hN hv hs
theorem os_setV (g : XD X G N sc) (i : Nat) {pos' : Pos} (h : oV X e ε d) (q : A.nx (ε.set i (some (.v d))) n) (hN : N[i]? = some x := by rfl) (hv : locB sc x = true := by rfl) (hs : swapsWith e (some (.Name x pos')) pos.line X.env = pure false := by rfl) : oS X (.Assign [.Name x pos'] e pos) A ε n := os_set g i (h.ev q) hN hv hs
theorem os_par (g : XD X G N sc) (i j : Nat) {y : Str} {px py pt : Pos} {kt k2 pt2}
    (h : oE X a ε n fun u n1 => oE X b ε n1 fun w n2 => ∃ d1 d2, u = .v d1 ∧ w = .v d2 ∧ A.nx ((ε.set i (some (.v d1))).set j (some (.v d2))) n2) (hij : i ≠ j := by decide) (hN : N[i]? = some x := by rfl) (hN2 : N[j]? = some y := by rfl) (hv : sc.names.lookup x = some .local := by rfl) (hv2 : sc.names.lookup y = some .local := by rfl)
    (hs : swapsWithSole [.Tuple [.Name x px, .Name y py] kt pt] (.Tuple [a, b] k2 pt2) pos.line X.env = pure false := by rfl) (hw : ∀ env : Env, env.scope = sc → swappedStores [.Tuple [.Name x px, .Name y py] kt pt] (.Tuple [a, b] k2 pt2) env = pure (some [x, y]) := by intro env e; cases env; cases e; rfl)
    (s1 : starEach [a, b] X.env = (false, eval a X.env) :: starEach [b] X.env := by rfl) (s2 : starEach [b] X.env = (false, eval b X.env) :: starEach [] X.env := by rfl) : oS X (.Assign [.Tuple [.Name x px, .Name y py] kt pt] (.Tuple [a, b] k2 pt2) pos) A ε n := .mk fun P M0 δ M r =>
  as_par g i j (aa_cons ((h P M0 δ M r).imp fun u M1 ⟨ou, n1, r1, v1, q1⟩ => aa_cons ((q1 P M0 δ M1 r1).imp fun w M2 ⟨ow, n2, r2, v2, d1, d2, e1, e2, q⟩ => aa_nil (by
    subst e1; subst e2
    have v1 : u = d1 := v1
    have v2 : w = d2 := v2
    subst v1; subst v2
    exact ⟨u, w, rfl, _, n2, (r2.set_v i u).set_v j w, q⟩)) s2) s1) hij hN hN2 hv hv2 hs hw
/-- what a target takes -/
structure oG (X : Cx) (tg : Expr) (d : D) (ε : OE) (n : Int) (Q : OE → Int → Prop) : Prop where
  run : ∀ P M0 δ M, Rl P M0 n ε δ M → aG X tg d δ M (lN P M0 Q)
instance {X : Cx} {tg : Expr} {d : D} {ε : OE} {n : Int} {Q : OE → Int → Prop} : CoeFun (oG X tg d ε n Q) fun _ => ∀ P M0 δ M, Rl P M0 n ε δ M → aG X tg d δ M (lN P M0 Q) := ⟨oG.run⟩
theorem og_name (g : XD X G N sc) (i : Nat) {Q : OE → Int → Prop} (q : Q (ε.set i (some (.v d))) n) (hN : N[i]? = some x := by rfl) (hv : locB sc x = true := by rfl) : oG X (.Name x pos) d ε n Q := .mk fun P M0 δ M r => ag_name g i ⟨_, n, r.set_v i d, q⟩ hN hv
theorem og_two (g : XD X G N sc) (i j : Nat) {d1 d2 : D} {y : Str} {px py : Pos} {k : Nat} {Q : OE → Int → Prop} (q : Q ((ε.set i (some (.v d1))).set j (some (.v d2))) n) (hN : N[i]? = some x := by rfl) (hv : locB sc x = true := by rfl) (hN2 : N[j]? = some y := by rfl) (hv2 : locB sc y = true := by rfl)
    (hn : (assignEach [.Name x px, .Name y py] X.env).length = 2 := by rfl) (hst : (assignEach [.Name x px, .Name y py] X.env).findIdx? (·.1) = none := by rfl) (h1 : (assignEach [.Name x px, .Name y py] X.env).map (·.2) = assign (.Name x px) X.env :: (assignEach [.Name y py] X.env).map (·.2) := by rfl) (h2 : (assignEach [.Name y py] X.env).map (·.2) = assign (.Name y py) X.env :: (assignEach [] X.env).map (·.2) := by rfl) : oG X (.Tuple [.Name x px, .Name y py] k pos) (.tup [d1, d2]) ε n Q := .mk fun P M0 δ M r =>
  ag_tup g.toXF (ags_cons (ag_name g i (ags_cons (ag_name g j (ags_nil ⟨_, n, (r.set_v i d1).set_v j d2, q⟩) hN2 hv2) h2) hN hv) h1) hn hst
theorem og_three (g : XD X G N sc) (i j l : Nat) {d1 d2 d3 : D} {y z : Str} {px py pz : Pos} {k : Nat} {Q : OE → Int → Prop} (q : Q (((ε.set i (some (.v d1))).set j (some (.v d2))).set l (some (.v d3))) n) (hN : N[i]? = some x := by rfl) (hv : locB sc x = true := by rfl) (hN2 : N[j]? = some y := by rfl) (hv2 : locB sc y = true := by rfl) (hN3 : N[l]? = some z := by rfl) (hv3 : locB sc z = true := by rfl)
    (hn : (assignEach [.Name x px, .Name y py, .Name z pz] X.env).length = 3 := by rfl) (hst : (assignEach [.Name x px, .Name y py, .Name z pz] X.env).findIdx? (·.1) = none := by rfl) (h1 : (assignEach [.Name x px, .Name y py, .Name z pz] X.env).map (·.2) = assign (.Name x px) X.env :: (assignEach [.Name y py, .Name z pz] X.env).map (·.2) := by rfl) (h2 : (assignEach [.Name y py, .Name z pz] X.env).map (·.2) = assign (.Name y py) X.env :: (assignEach [.Name z pz] X.env).map (·.2) := by rfl) (h3 : (assignEach [.Name z pz] X.env).map (·.2) = assign (.Name z pz) X.env :: (assignEach [] X.env).map (·.2) := by rfl) : oG X (.Tuple [.Name x px, .Name y py, .Name z pz] k pos) (.tup [d1, d2, d3]) ε n Q := .mk fun P M0 δ M r =>
  ag_tup g.toXF (ags_cons (ag_name g i (ags_cons (ag_name g j (ags_cons (ag_name g l (ags_nil ⟨_, n, ((r.set_v i d1).set_v j d2).set_v l d3, q⟩) hN3 hv3) h3) hN2 hv2) h2) hN hv) h1) hn hst
/-- a, b = e -/
theorem os_asg {tg : Expr} (h : oE X e ε n fun ov n' => ∃ d, ov = .v d ∧ oG X tg d ε n' A.nx) (hs : swapsWithSole [tg] e pos.line X.env = pure false := by rfl) (hw : swappedStores [tg] e X.env = pure none := by rfl) (h1 : (assignEach [tg] X.env).map (·.2) = [assign tg X.env] := by rfl) : oS X (.Assign [tg] e pos) A ε n := .mk fun P M0 δ M r =>
  as_asg ((h P M0 δ M r).imp fun d M' ⟨ov, n', r', v, d2, e2, q⟩ => by
    subst e2
    have v : d = d2 := v
    subst v
    exact q P M0 δ M' r') hs hw h1
theorem os_aug {f : Int → Int → Int} {op : Operator} (ho : PIp X op (ipI f)) (g : XD X G N sc) (i : Nat) {pos' : Pos} {m : Int} (h : oE X e ε n fun ov n' => ∃ k, ov = .v (.int k) ∧ A.nx (ε.set i (some (.v (.int (f m k))))) n') (hd : ε[i]? = some (some (.v (.int m))) := by rfl) (hN : N[i]? = some x := by rfl) (hv : locB sc x = true := by rfl) : oS X (.AugAssign (.Name x pos') op e pos) A ε n := .mk fun P M0 δ M r =>
  as_aug ho g i ((h P M0 δ M r).imp fun d M' ⟨ov, n', r', v, k, e2, q⟩ => by
    subst e2
    have v : d = _ := v
    subst v
    exact ⟨k, rfl, _, n', r'.set_v i _, q⟩) (r.at_v hd) hN hv
/-- an own list as data from here on -/
theorem os_frz (i : Nat) {ds : List D} (h : oSs X sts A (ε.set i (some (.v (.lst ds)))) n) (hi : ε[i]? = some (some (.l ds)) := by rfl) : oSs X sts A ε n := .mk fun P M0 δ M r =>
  let ⟨q, h1, h2, _⟩ := r.at_l hi; as_freeze i h1 h2 (h P M0 _ _ (r.frz hi h1))
theorem os_drop (i : Nat) (h : oSs X sts A (ε.set i none) n) : oSs X sts A ε n := .mk fun P M0 δ M r => h P M0 δ M (r.drop i)
theorem os_le {n' : Int} (hn : n ≤ n') (h : oSs X sts A ε n') : oSs X sts A ε n := .mk fun P M0 δ M r => h P M0 δ M (r.le hn)
/-! ### own lists -/
theorem oe_lst {ds : List D} (h : oVs X es ε ds) (q : Q (.l ds) n) (hl : ds.length ≤ 10000 := by first | decide | exact Nat.le_of_ble_eq_true rfl) : oE X (.List es pos) ε n Q := .mk fun P M0 δ M r => ae_lstM (h P M0 n δ M r _ ⟨hl, fun p hp => ⟨.l ds, n, r.new hp, ⟨p, rfl, updM_same, r.free hp⟩, q⟩⟩)
theorem oe_dic (q : Q (.k []) n) : oE X (.Dict [] [] pos) ε n Q := .mk fun P M0 δ M r => ae_dictM fun p hp => ⟨.k [], n, r.new hp, ⟨p, rfl, updM_same, r.free hp⟩, q⟩
theorem os_append (g : XF X G N sc) (i : Nat) {apos p2 pp : Pos} {ds : List D} (h : oE X e ε n fun ov n' => ∃ d, ov = .v d ∧ ds.length < 100000 ∧ A.nx (ε.set i (some (.l (ds ++ [d])))) n') (hi : ε[i]? = some (some (.l ds)) := by rfl) (hN : N[i]? = some x := by rfl) (hv : visB sc x = true := by rfl) (hd : (x == ("__debug__" : Str)) = false := by decide) (hcd : (x == ("__classdict__" : Str)) = false := by decide)
    (hbase : attributeBase (.Name x pp) "append" X.env (eval (.Name x pp) X.env) = eval (.Name x pp) X.env := by rfl) (hline : (apos.endLine == pos.line) = true := by rfl) (hs : starEach [e] X.env = (false, eval e X.env) :: starEach [] X.env := by rfl)
    (hfew : ((backTo pos (starEach [e] X.env)).all (fun x => !x.1) && (backToKw pos (keywordEach [] X.env)).all (fun x => x.1.isSome)
      && decide ((e :: []).length + ([] : List Keyword).length + (if ([] : List Keyword).isEmpty then 0 else 1) < 30)) = true := by rfl)
    (hsw : swapsWith (.Call (.Attribute (.Name x pp) "append" apos) [e] [] pos) none p2.line X.env = pure false := by rfl) : oS X (.Expr (.Call (.Attribute (.Name x pp) "append" apos) [e] [] pos) p2) A ε n := .mk fun P M0 δ M r => by
  obtain ⟨q, h1, h2, h3⟩ := r.at_l hi
  refine as_expr (ae_append (av_name g i h1 hN hv hd hcd _ ⟨q, ds, rfl, h2, (h P M0 δ M r).imp fun d2 M2 ⟨ov, n', r', v, d, e2, hl, z⟩ => ?_⟩) hbase hline hs hfew) hsw
  subst e2
  have v : d2 = d := v
  subst v
  obtain ⟨k1, k2, r2⟩ := r'.upd hi h1 rfl (o' := .l (ds ++ [d2])) rfl
  exact ⟨ds, k1, hl, _, n', r2, z⟩
/-! ### draws, calls -/
theorem oe_coin (g : XF X G N sc) {k : Nat} (F : Fn G k "_law_coin" (spDraw 1 SCoin)) (hr : Room k X.A) (i : Nat) {m : Int} {pp p1 : Pos} (he : oV X e ε (.int m)) (hm : 1 ≤ m ∧ m < 1073741824) (hn : n + 1 < 18446744073709551616) (q : ∀ c : Int, 0 ≤ c → c < m → Q (.v (.int c)) (n + 1)) (hi : ε[i]? = some (some .pu) := by rfl)
    (hN : N[i]? = some x := by rfl) (hv : visB sc x = true := by rfl) (hd : (x == ("__debug__" : Str)) = false := by decide) (hcd : (x == ("__classdict__" : Str)) = false := by decide) (hg : sc.names.lookup ("_law_coin" : Str) = some .globalImplicit := by rfl)
    (hs : starEach (.Name x p1 :: [e]) X.env = (false, eval (.Name x p1) X.env) :: starEach [e] X.env := by rfl) (hs2 : starEach (e :: []) X.env = (false, eval e X.env) :: starEach [] X.env := by rfl) (hpl : (backTo pos (starEach [e] X.env)).any (·.1) = false := by rfl) : oE X (.Call (.Name "_law_coin" pp) [.Name x p1, e] [] pos) ε n Q := .mk fun P M0 δ M r => by
  obtain ⟨p, rfl, h1⟩ := r.at_pu hi
  exact ae_coin g F hr (av_name g i h1 hN hv hd hcd) (he (some p) M0 n δ M r) (r.pu p rfl).1 hm hn (fun c M' c0 c1 hp of => ⟨.v (.int c), n + 1, r.draw hp of, rfl, q c c0 c1⟩) hg hs hs2 hpl
/-- f(purse, ..) -/
theorem oe_draw (g : XF X G N sc) {k : Nat} {f : Str} {W : Int} {S : List D → (D → Prop) → Prop} (F : Fn G k f (spDraw W S)) (hr : Room k X.A) (mon : MonS S) (i : Nat) {pp p1 : Pos} {ds : List D} (he : oVs X es ε ds) (hn : n + W < 18446744073709551616) (q : S ds fun d => Q (.v d) (n + W)) (hi : ε[i]? = some (some .pu) := by rfl)
    (hN : N[i]? = some x := by rfl) (hv : visB sc x = true := by rfl) (hd : (x == ("__debug__" : Str)) = false := by decide) (hcd : (x == ("__classdict__" : Str)) = false := by decide) (hg : sc.names.lookup f = some .globalImplicit := by rfl) (hdb : (f == ("__debug__" : Str)) = false := by decide)
    (hs : starEach (.Name x p1 :: es) X.env = (false, eval (.Name x p1) X.env) :: starEach es X.env := by rfl) (hpl : (backTo pos (starEach es X.env)).any (·.1) = false := by rfl) : oE X (.Call (.Name f pp) (.Name x p1 :: es) [] pos) ε n Q := .mk fun P M0 δ M r => by
  obtain ⟨p, rfl, h1⟩ := r.at_pu hi
  refine ae_call g F hr (aa_cons (av_name g i h1 hN hv hd hcd _ (he (some p) M0 n δ M r _ ⟨p, n, ds, rfl, (r.pu p rfl).1, hn, mon.mon (fun d q M' hp of => ?_) q⟩)) hs) hg hdb hs hpl
  exact ⟨.v d, n + W, r.draw hp of, rfl, q⟩
/-- f(..), pure -/
abbrev spV (S : List D → (D → Prop) → Prop) : ASp := spPure fun ds _ k => S ds k
theorem up_V {S : List D → (D → Prop) → Prop} (m : MonS S) : Up (spV S) := up_pure ⟨fun f h => m.mon f h⟩
theorem ov_call (g : XF X G N sc) {k : Nat} {f : Str} {S : List D → (D → Prop) → Prop} (F : Fn G k f (spV S)) (hr : Room k X.A) {pp : Pos} {ds : List D} (he : oVs X (e :: es) ε ds) (q : ∀ Q : D → Prop, Q d → S ds Q) (hg : sc.names.lookup f = some .globalImplicit := by rfl) (hdb : (f == ("__debug__" : Str)) = false := by decide)
    (hs : starEach (e :: es) X.env = (false, eval e X.env) :: starEach es X.env := by rfl) (hpl : (backTo pos (starEach es X.env)).any (·.1) = false := by rfl) : oV X (.Call (.Name f pp) (e :: es) [] pos) ε d := .mk fun P M0 n δ M r Q hQ =>
  ae_call g F hr (he P M0 n δ M r _ (q (fun d' => Q d' M) hQ)) hg hdb hs hpl
/-- f(..), pure, with an answer of which something is told -/
theorem oe_call (g : XF X G N sc) {k : Nat} {f : Str} {S : List D → (D → Prop) → Prop} (F : Fn G k f (spV S)) (hr : Room k X.A) (mon : MonS S) {pp : Pos} {ds : List D} (he : oVs X (e :: es) ε ds) (q : S ds fun d => Q (.v d) n) (hg : sc.names.lookup f = some .globalImplicit := by rfl) (hdb : (f == ("__debug__" : Str)) = false := by decide)
    (hs : starEach (e :: es) X.env = (false, eval e X.env) :: starEach es X.env := by rfl) (hpl : (backTo pos (starEach es X.env)).any (·.1) = false := by rfl) : oE X (.Call (.Name f pp) (e :: es) [] pos) ε n Q := .mk fun P M0 δ M r =>
  ae_call g F hr (he P M0 n δ M r _ (mon.mon (fun d q => ⟨.v d, n, r, rfl, q⟩) q)) hg hdb hs hpl
/-! ### loops -/
/-- over data -/
theorem os_for {tg it : Expr} {ds : List D} (g : XF X G N sc) (h : oV X it ε d) (hi : ItemsO (.v d) ds) (J : List D → OE → Int → Prop) (h0 : J ds ε n)
    (step : ∀ d ds ε n, J (d :: ds) ε n → oG X tg d ε n fun ε2 n2 => oSs X sts { nx := J ds, rt := A.rt, bk := J [], ct := J ds } ε2 n2) (fin : ∀ ε n, J [] ε n → A.nx ε n) (hs : ∀ x, foldedSetIterable it X.env x = pure x := by intro _; rfl) : oS X (.For tg it sts [] pos) A ε n := .mk fun P M0 δ M r => by
  refine as_forD g (hi.d (M := M) (d := d) rfl) (h P M0 n δ M r) (fun ds => lN P M0 (J ds)) ⟨ε, n, r, h0⟩ (fun ds' δ' M' ⟨ε', n', r', j⟩ q eq => ?_) (fun d ds' δ' M' ⟨ε', n', r', j⟩ => ?_) (fun δ' M' ⟨ε', n', r', j⟩ => ⟨ε', n', r', fin _ _ j⟩) hs
  · subst eq; cases hi
  · exact aG.imp (step d ds' ε' n' j P M0 δ' M' r') fun δ2 M2 ⟨ε2, n2, r2, q2⟩ => q2 P M0 δ2 M2 r2
/-- range(m) -/
theorem os_forR {tg : Expr} {p : Pos} (g : XF X G N sc) (hm : G.mg "range" = none) {J : Nat → List D → OE → Int → Prop} (h : oE X a ε n fun ov n' => ∃ m : Int, ov = .v (.int m) ∧ -(2 ^ 62) ≤ m ∧ m < 2 ^ 62 ∧ J m.toNat (rgD 0 m.toNat) ε n' ∧
      (∀ d ds ε n, J m.toNat (d :: ds) ε n → oG X tg d ε n fun ε2 n2 => oSs X sts { nx := J m.toNat ds, rt := A.rt, bk := J m.toNat [], ct := J m.toNat ds } ε2 n2) ∧ ∀ ε n, J m.toNat [] ε n → A.nx ε n) (hg : sc.names.lookup ("range" : Str) = some .globalImplicit := by rfl) (hs : starEach [a] X.env = [(false, eval a X.env)] := by rfl) (hs2 : ∀ x, foldedSetIterable (.Call (.Name "range" p) [a] [] pos) X.env x = pure x := by intro _; rfl) {pos2 : Pos} : oS X (.For tg (.Call (.Name "range" p) [a] [] pos) sts [] pos2) A ε n := .mk fun P M0 δ M r =>
  as_forR g hm ((h P M0 δ M r).imp fun d M' ⟨ov, n', r', v, m, e2, h1, h2, h0, step, fin⟩ => by
    subst e2
    have v : d = _ := v
    subst v
    refine ⟨m, rfl, h1, h2, al_inv (A := lift P M0 A) (fun ds => lN P M0 (J m.toNat ds)) (fun d ds δ M ⟨ε', n', r', j⟩ => ?_) (fun δ M ⟨ε', n', r', j⟩ => ⟨ε', n', r', fin _ _ j⟩) ⟨ε, n', r', h0⟩⟩
    exact aG.imp (step d ds ε' n' j P M0 δ M r') fun δ2 M2 ⟨ε2, n2, r2, q2⟩ => q2 P M0 δ2 M2 r2) hg hs hs2
/-! ### defs -/
def startO (N : List Str) (os : List OV) : OE := os.map some ++ List.replicate (N.length - os.length) none
theorem start_at {N : List Str} {os : List OV} {i : Nat} {o : OV} (h : (startO N os)[i]? = some (some o)) : os[i]? = some o := by
  unfold startO at h
  by_cases q : i < os.length
  · rw [List.getElem?_append_left (by rw [List.length_map]; exact q), List.getElem?_map] at h
    cases e : os[i]? with
    | none => rw [e] at h; cases h
    | some d' => rw [e] at h; cases h; rfl
  · rw [List.getElem?_append_right (by rw [List.length_map]; omega), List.getElem?_replicate] at h
    split at h <;> cases h
theorem startD_at {N : List Str} {ds : List D} {i : Nat} (h : ds[i]? = some d) : (startD N ds)[i]? = some (some d) := by
  unfold startD
  have := (List.getElem?_eq_some_iff.mp h).1
  rw [List.getElem?_append_left (by rw [List.length_map]; exact this), List.getElem?_map, h]
  rfl
theorem rl_start {N : List Str} {ds : List D} {M : AHp} : Rl none M 0 (startO N (ds.map .v)) (startD N ds) M := by
  have z : ∀ (i : Nat) (o : OV), (startO N (ds.map .v))[i]? = some (some o) → ∃ d, o = .v d ∧ ds[i]? = some d := fun i o h => by
    have := start_at h
    rw [List.getElem?_map] at this
    cases e : ds[i]? with
    | none => rw [e] at this; cases this
    | some d => rw [e] at this; cases this; exact ⟨d, rfl, rfl⟩
  refine ⟨⟨fun _ => 0, ⟨fun i o h => ?_, fun i o m h hm => ?_, fun i j oi oj mi mj h1 h2 m1 m2 e => ?_, fun i ds h => ?_⟩⟩, ?_, fun a o _ h => h, fun p e => (nomatch e), fun i h => ?_⟩
  · obtain ⟨d, rfl, e⟩ := z i o h; exact startD_at e
  · obtain ⟨d, rfl, e⟩ := z i o h; cases hm
  · obtain ⟨d, rfl, e⟩ := z i _ h1; cases m1
  · obtain ⟨d, e, _⟩ := z i _ h; cases e
  · unfold startO startD; simp
  · obtain ⟨d, e, _⟩ := z i _ h; cases e
theorem rl_startP {N : List Str} {ds : List D} {M : AHp} {p : Addr} {n : Int} (hp : PurseAt M p n) : Rl (some p) M n (startO N (.pu :: ds.map .v)) (startD N (.adr p :: ds)) M := by
  have z : ∀ (i : Nat) (o : OV), (startO N (.pu :: ds.map .v))[i]? = some (some o) → (i = 0 ∧ o = .pu) ∨ ∃ d j, i = j + 1 ∧ o = .v d ∧ ds[j]? = some d := fun i o h => by
    have := start_at h
    cases i with
    | zero => cases this; exact .inl ⟨rfl, rfl⟩
    | succ j =>
      rw [List.getElem?_cons_succ, List.getElem?_map] at this
      cases e : ds[j]? with
      | none => rw [e] at this; cases this
      | some d => rw [e] at this; cases this; exact .inr ⟨d, j, rfl, rfl, e⟩
  refine ⟨⟨fun _ => 0, ⟨fun i o h => ?_, fun i o m h hm => ?_, fun i j oi oj mi mj h1 h2 m1 m2 e => ?_, fun i ds h => ?_⟩⟩, ?_, fun a o _ h => h, fun p' e => ?_, fun i h e => (nomatch e)⟩
  · rcases z i o h with ⟨rfl, rfl⟩ | ⟨d, j, rfl, rfl, e⟩
    · exact startD_at rfl
    · exact startD_at (by rw [List.getElem?_cons_succ]; exact e)
  · rcases z i o h with ⟨rfl, rfl⟩ | ⟨d, j, rfl, rfl, e⟩ <;> cases hm
  · rcases z i _ h1 with ⟨rfl, rfl⟩ | ⟨d, j, rfl, rfl, e⟩ <;> cases m1
  · rcases z i _ h with ⟨_, e⟩ | ⟨d, j, _, e, _⟩ <;> cases e
  · unfold startO startD; simp
  · cases e
    obtain ⟨ds, q⟩ := hp.some
    exact ⟨hp, by rw [q]; exact fun z => (nomatch z)⟩
theorem aSs.ends {δ : DE} {M : AHp} {B C : AEnds} (h : aSs X sts B δ M) (h1 : ∀ δ' M', B.nx δ' M' → C.nx δ' M') (h2 : ∀ d M', B.rt d M' → C.rt d M') (h3 : ∀ δ' M', B.bk δ' M' → C.bk δ' M') (h4 : ∀ δ' M', B.ct δ' M' → C.ct δ' M') : aSs X sts C δ M := aSs.imp h h1 h2 h3 h4
/-- a def that changes nothing -/
theorem ok_pure {y qual : Str} {st : Stmt} {f : Addr} {fd : FuncData} {N ps : List Str} {k : Nat} {S : List D → (D → Prop) → Prop} (F : L2.Fun G.K y qual st f fd) (Sc : FnScope N ps (defScope st)) (len : ∀ ds kk, S ds kk → ds.length = ps.length)
    (hb : ∀ X : Cx, XD X G N (defScope st) → Room k X.A → ∀ ds kk, S ds kk → oSs X (defBody st) { nx := fun _ _ => kk .non, rt := fun ov _ => ∃ d, ov = .v d ∧ kk d } (startO N (ds.map .v)) 0) : FnG G CX0 (k + 1) f fd ps (toSp (spV S)) := by
  refine aok F Sc (fun ds M Q E h => len _ _ h) (fun X g hr ds M Q E h => ?_)
  have z := hb X g hr ds _ h none M _ M rl_start
  intro σ H B rs c
  refine (z σ H B rs c).imp ⟨fun σ' H' q => ?_, fun v H' q => ?_, fun σ' H' q => ?_, fun σ' H' q => ?_⟩
  · obtain ⟨δ, M', B', s, r, c', ε, n, rl, q⟩ := q
    exact ⟨δ, M, B', s, r, c'.forget fun p o e => rl.fr p o (fun e => nomatch e) e, q⟩
  · obtain ⟨d, M', B', s, r, c', ov, n, ε, δ, rl, ovr, d', e, q⟩ := q
    subst e
    have ovr : d = d' := ovr
    subst ovr
    exact ⟨d, M, B', s, r, c'.forget fun p o e => rl.fr p o (fun e => nomatch e) e, q⟩
  · obtain ⟨_, _, _, _, _, _, _, _, _, q⟩ := q; exact q.elim
  · obtain ⟨_, _, _, _, _, _, _, _, _, q⟩ := q; exact q.elim
/-- a def that draws -/
theorem ok_draw {y qual : Str} {st : Stmt} {f : Addr} {fd : FuncData} {N ps : List Str} {k : Nat} {W : Int} {S : List D → (D → Prop) → Prop} (F : L2.Fun G.K y qual st f fd) (Sc : FnScope N ps (defScope st)) (len : ∀ ds kk, S ds kk → ds.length + 1 = ps.length)
    (hb : ∀ X : Cx, XD X G N (defScope st) → Room k X.A → ∀ ds kk n, 0 ≤ n → n + W < 18446744073709551616 → S ds kk → oSs X (defBody st) { nx := fun _ n' => n' ≤ n + W ∧ kk .non, rt := fun ov n' => n' ≤ n + W ∧ ∃ d, ov = .v d ∧ kk d } (startO N (.pu :: ds.map .v)) n) : FnG G CX0 (k + 1) f fd ps (toSp (spDraw W S)) := by
  refine aok F Sc (fun ds M Q E h => ?_) (fun X g hr ds M Q E h => ?_)
  · obtain ⟨p, n, rest, rfl, _, _, h⟩ := h
    exact len _ _ h
  · obtain ⟨p, n, rest, rfl, hp, hn, h⟩ := h
    have z := hb X g hr rest _ n hp.nn hn h (some p) M _ M (rl_startP hp)
    intro σ H B rs c
    refine (z σ H B rs c).imp ⟨fun σ' H' q => ?_, fun v H' q => ?_, fun σ' H' q => ?_, fun σ' H' q => ?_⟩
    · obtain ⟨δ, M', B', s, r, c', ε, n', rl, l, q⟩ := q
      exact ⟨δ, M', B', s, r, c', q M' ((rl.pu p rfl).1.mono l) fun a o ne e => rl.fr a o (fun z => ne (Option.some.inj z).symm) e⟩
    · obtain ⟨d, M', B', s, r, c', ov, n', ε, δ, rl, ovr, l, d', e, q⟩ := q
      subst e
      have ovr : d = d' := ovr
      subst ovr
      exact ⟨d, M', B', s, r, c', q M' ((rl.pu p rfl).1.mono l) fun a o ne e => rl.fr a o (fun z => ne (Option.some.inj z).symm) e⟩
    · obtain ⟨_, _, _, _, _, _, _, _, _, q⟩ := q; exact q.elim
    · obtain ⟨_, _, _, _, _, _, _, _, _, q⟩ := q; exact q.elim
end Ab
/-! Comprehensions, while, own results over names by value. -/
namespace Ab
open PySem PySem.Spec PyProof.Rows L2
section
variable {P : Option Addr} {M0 M M' : AHp} {n n' : Int} {ε ε' : OE} {δ δ' : DE} {i j : Nat} {d : D} {ds : List D} {p q L : Addr} {u : MO}
theorem Rl.plus (r : Rl P M0 n ε δ M) (f : Free M0 ε δ L) (h : M L = some u) (np : P ≠ some L) : Rl P (updM M0 L u) n ε δ M := by
  obtain ⟨ad, a⟩ := r.ad
  refine ⟨⟨ad, ⟨a.at_, fun i o m e hm => ⟨(a.own i o m e hm).1, ?_⟩, a.inj, fun i ds e => ⟨by rw [updM_ne (neM (a.rd i ds e).1 f.1)]; exact (a.rd i ds e).1, (a.rd i ds e).2⟩⟩⟩, r.len, fun b o nb e => ?_, fun p e => ⟨(r.pu p e).1, ?_⟩, r.tk⟩
  · have cc : o.cc P (ad i) = .adr (ad i) := by cases o <;> first | rfl | cases hm
    have z := a.at_ i o e
    rw [cc] at z
    rw [updM_ne fun y => f.2 i o m e hm (by rw [z, y])]
    exact (a.own i o m e hm).2
  · by_cases y : b = L
    · subst y; rw [updM_same] at e; rw [h]; exact e
    · rw [updM_ne y] at e; exact r.fr b o nb e
  · rw [updM_ne fun y => np (by rw [e, y])]; exact (r.pu p e).2
theorem Rl.minus {n0 : Int} {M1 : AHp} (r : Rl P (updM M0 L u) n ε δ M) (h : M0 L = none) (np : P ≠ some L) (r0 : Rl P M0 n0 ε δ M1) : Rl P M0 n ε δ M := by
  obtain ⟨ad, a⟩ := r.ad
  have out : ∀ b, updM M0 L u b = none → M0 b = none := fun b e => by
    by_cases y : b = L
    · subst y; exact h
    · rw [updM_ne y] at e; exact e
  refine ⟨⟨ad, ⟨a.at_, fun i o m e hm => ⟨(a.own i o m e hm).1, out _ (a.own i o m e hm).2⟩, a.inj, fun i ds e => ?_⟩⟩, r.len, fun b o nb e => r.fr b o nb (by rw [updM_ne (neM e h)]; exact e), fun p e => ⟨(r.pu p e).1, fun z => (r.pu p e).2 ?_⟩, r.tk⟩
  · obtain ⟨q, h1, _, h2, h3⟩ := r0.at_r e
    have z := a.at_ i _ e
    rw [h1] at z
    have z : some (some (D.adr q)) = some (some (.adr (ad i))) := z
    cases z
    exact ⟨h2, h3⟩
  · rw [updM_ne fun y => np (by rw [e, y])]; exact z
theorem Rl.off (r : Rl P M0 n ε δ M) (f : Free M0 ε δ L) (np : P ≠ some L) : Rl P M0 n ε δ (updM M L u) := by
  obtain ⟨ad, a⟩ := r.ad
  refine ⟨⟨ad, ⟨a.at_, fun i o m e hm => ⟨?_, (a.own i o m e hm).2⟩, a.inj, a.rd⟩⟩, r.len, fun b o nb e => ?_, fun p e => ⟨(r.pu p e).1.upd fun z => np (by rw [e, z]), (r.pu p e).2⟩, r.tk⟩
  · have cc : o.cc P (ad i) = .adr (ad i) := by cases o <;> first | rfl | cases hm
    have z := a.at_ i o e
    rw [cc] at z
    rw [updM_ne fun y => f.2 i o m e hm (by rw [z, y])]
    exact (a.own i o m e hm).1
  · rw [updM_ne (neM e f.1)]; exact r.fr b o nb e
theorem Rl.del (r : Rl P M0 n ε δ M) (f : Free M0 ε δ L) (np : P ≠ some L) : Rl P M0 n ε δ (delM M L) := by
  obtain ⟨ad, a⟩ := r.ad
  refine ⟨⟨ad, ⟨a.at_, fun i o m e hm => ⟨?_, (a.own i o m e hm).2⟩, a.inj, a.rd⟩⟩, r.len, fun b o nb e => ?_, fun p e => ⟨(r.pu p e).1.del fun z => np (by rw [e, z]), (r.pu p e).2⟩, r.tk⟩
  · have cc : o.cc P (ad i) = .adr (ad i) := by cases o <;> first | rfl | cases hm
    have z := a.at_ i o e
    rw [cc] at z
    rw [delM_ne fun y => f.2 i o m e hm (by rw [z, y])]
    exact (a.own i o m e hm).1
  · rw [delM_ne (neM e f.1)]; exact r.fr b o nb e
theorem Rl.back (r : Rl P M0 n ε' δ' M) (h : ∀ (i : Nat) (o : OV), ε[i]? = some (some o) → ε'[i]? = some (some o) ∧ δ[i]? = δ'[i]?) (hl : δ.length = ε.length) : Rl P M0 n ε δ M := by
  obtain ⟨ad, a⟩ := r.ad
  exact ⟨⟨ad, ⟨fun i o e => by rw [(h i o e).2]; exact a.at_ i o (h i o e).1, fun i o m e hm => a.own i o m (h i o e).1 hm, fun i j oi oj mi mj e1 e2 m1 m2 z => a.inj _ _ _ _ _ _ (h i _ e1).1 (h j _ e2).1 m1 m2 z, fun i ds e => a.rd i ds (h i _ e).1⟩⟩, hl, r.fr, r.pu, fun i e => r.tk i (h i _ e).1⟩
theorem Free.ne (f : Free M0 ε δ L) (r : Rl P M0 n ε δ M) : P ≠ some L := r.noP f.1
end
/-- a clause's target takes d -/
def TgS (t : TG) (vs : List Nat) (ε : OE) (d : D) (ε2 : OE) : Prop := ∀ δ : DE, δ.length = ε.length → ∃ δ2, aGt t d (wipeD δ vs) δ2 ∧ (∀ P M m M0, Rl P M0 m ε δ M → Rl P M0 m ε2 δ2 M) ∧ ∀ P M m M0, Rl P M0 m ε2 δ2 M → Rl P M0 m ε δ M
theorem set_none {α : Type} {l : List (Option α)} {i j : Nat} {x : Option α} {o : α} (hj : l[j]? = some none) (h : l[i]? = some (some o)) : (l.set j x)[i]? = some (some o) := by
  have ne : j ≠ i := fun e => by subst e; rw [hj] at h; cases h
  rw [List.getElem?_set_ne ne]; exact h
theorem tgs_1 {ε : OE} {d : D} {j : Nat} (hj : ε[j]? = some none) : TgS (gName j) [j] ε d (ε.set j (some (.v d))) := fun δ hl => by
  refine ⟨_, agt_name, fun P M m M0 r => ?_, fun P M m M0 r => r.back (fun i o h => ⟨set_none hj h, ?_⟩) hl⟩
  · show Rl P M0 m _ ((δ.set j none).set j (some d)) M
    rw [List.set_set]; exact r.set_v j d
  · have ne : j ≠ i := fun e => by subst e; rw [hj] at h; cases h
    show _ = ((δ.set j none).set j (some d))[i]?
    rw [List.getElem?_set_ne ne, List.getElem?_set_ne ne]
theorem tgs_2 {K : PySem.W.Frag} {ε : OE} {d1 d2 : D} {j1 j2 : Nat} (h1 : ε[j1]? = some none) (h2 : ε[j2]? = some none) (hn : j1 ≠ j2 := by decide) : TgS (gTwo K j1 j2) [j1, j2] ε (.tup [d1, d2]) ((ε.set j1 (some (.v d1))).set j2 (some (.v d2))) := fun δ hl => by
  refine ⟨_, agt_two, fun P M m M0 r => ?_, fun P M m M0 r => r.back (fun i o h => ⟨?_, ?_⟩) hl⟩
  · show Rl P M0 m _ ((((δ.set j2 none).set j1 none).set j1 (some d1)).set j2 (some d2)) M
    rw [List.set_set, List.set_comm _ _ hn.symm, List.set_set]; exact (r.set_v j1 d1).set_v j2 d2
  · have a1 : j1 ≠ i := fun e => by subst e; rw [h1] at h; cases h
    have a2 : j2 ≠ i := fun e => by subst e; rw [h2] at h; cases h
    rw [List.getElem?_set_ne a2, List.getElem?_set_ne a1]; exact h
  · have a1 : j1 ≠ i := fun e => by subst e; rw [h1] at h; cases h
    have a2 : j2 ≠ i := fun e => by subst e; rw [h2] at h; cases h
    show _ = ((((δ.set j2 none).set j1 none).set j1 (some d1)).set j2 (some d2))[i]?
    rw [List.getElem?_set_ne a2, List.getElem?_set_ne a1, List.getElem?_set_ne a1, List.getElem?_set_ne a2]
theorem tgs_3 {K : PySem.W.Frag} {ε : OE} {d1 d2 d3 : D} {j1 j2 j3 : Nat} (h1 : ε[j1]? = some none) (h2 : ε[j2]? = some none) (h3 : ε[j3]? = some none) (n12 : j1 ≠ j2 := by decide) (n13 : j1 ≠ j3 := by decide) (n23 : j2 ≠ j3 := by decide) : TgS (gThree K j1 j2 j3) [j1, j2, j3] ε (.tup [d1, d2, d3]) (((ε.set j1 (some (.v d1))).set j2 (some (.v d2))).set j3 (some (.v d3))) := fun δ hl => by
  refine ⟨_, agt_three, fun P M m M0 r => ?_, fun P M m M0 r => r.back (fun i o h => ⟨?_, ?_⟩) hl⟩
  · show Rl P M0 m _ ((((((δ.set j3 none).set j2 none).set j1 none).set j1 (some d1)).set j2 (some d2)).set j3 (some d3)) M
    rw [List.set_set, List.set_comm _ _ n12.symm, List.set_set, List.set_comm _ _ n13.symm, List.set_comm _ _ n23.symm, List.set_set]; exact ((r.set_v j1 d1).set_v j2 d2).set_v j3 d3
  · have a1 : j1 ≠ i := fun e => by subst e; rw [h1] at h; cases h
    have a2 : j2 ≠ i := fun e => by subst e; rw [h2] at h; cases h
    have a3 : j3 ≠ i := fun e => by subst e; rw [h3] at h; cases h
    rw [List.getElem?_set_ne a3, List.getElem?_set_ne a2, List.getElem?_set_ne a1]; exact h
  · have a1 : j1 ≠ i := fun e => by subst e; rw [h1] at h; cases h
    have a2 : j2 ≠ i := fun e => by subst e; rw [h2] at h; cases h
    have a3 : j3 ≠ i := fun e => by subst e; rw [h3] at h; cases h
    show _ = ((((((δ.set j3 none).set j2 none).set j1 none).set j1 (some d1)).set j2 (some d2)).set j3 (some d3))[i]?
    rw [List.getElem?_set_ne a3, List.getElem?_set_ne a2, List.getElem?_set_ne a1, List.getElem?_set_ne a1, List.getElem?_set_ne a2, List.getElem?_set_ne a3]

variable {X : Cx} {e a b o : Expr} {es : List Expr} {st : Stmt} {sts : List Stmt} {ε : OE} {n : Int} {Q : OV → Int → Prop} {A : OEnds} {G : Gx} {N : List Str} {sc scope : Scope} {pos : Pos} {x m : Str} {d d' : D}
/-! ### what is walked -/
structure oI (X : Cx) (tg it : Expr) (ε : OE) (n : Int) (K : List D → Int → Prop) : Prop where
  run : ∀ P M0 δ M, Rl P M0 n ε δ M → aI X tg it δ M fun C ds M1 => (∀ M', (∀ a o, M1 a = some o → M' a = some o) → C M') ∧ ∃ n1, Rl P M0 n1 ε δ M1 ∧ K ds n1
instance {X : Cx} {tg it : Expr} {ε : OE} {n : Int} {K : List D → Int → Prop} : CoeFun (oI X tg it ε n K) fun _ => ∀ P M0 δ M, Rl P M0 n ε δ M → aI X tg it δ M fun C ds M1 => (∀ M', (∀ a o, M1 a = some o → M' a = some o) → C M') ∧ ∃ n1, Rl P M0 n1 ε δ M1 ∧ K ds n1 := ⟨oI.run⟩
/-- .. whatever is done meanwhile -/
structure oIT (X : Cx) (tg it : Expr) (ε : OE) (n : Int) (K : List D → Int → Prop) : Prop where
  run : ∀ P M0 δ M, Rl P M0 n ε δ M → aI X tg it δ M fun C ds M1 => (∀ M', C M') ∧ ∃ n1, Rl P M0 n1 ε δ M1 ∧ K ds n1
instance {X : Cx} {tg it : Expr} {ε : OE} {n : Int} {K : List D → Int → Prop} : CoeFun (oIT X tg it ε n K) fun _ => ∀ P M0 δ M, Rl P M0 n ε δ M → aI X tg it δ M fun C ds M1 => (∀ M', C M') ∧ ∃ n1, Rl P M0 n1 ε δ M1 ∧ K ds n1 := ⟨oIT.run⟩
theorem aI.mono {X : Cx} {tg it : Expr} {δ : DE} {M : AHp} {P1 P2 : (AHp → Prop) → List D → AHp → Prop} (h : aI X tg it δ M P1) (k : ∀ C ds M1, P1 C ds M1 → P2 C ds M1) : aI X tg it δ M P2 := fun σ H B rs c R kk => h σ H B rs c R fun J M' B' H' C ds s c' hn q => kk J M' B' H' C ds s c' hn (k _ _ _ q)
theorem oIT.i {tg it : Expr} {K : List D → Int → Prop} (h : oIT X tg it ε n K) : oI X tg it ε n K := .mk fun P M0 δ M r => aI.mono (h P M0 δ M r) fun C ds M1 ⟨c, q⟩ => ⟨fun M' _ => c M', q⟩
theorem oit_v {tg it : Expr} {ds : List D} {K : List D → Int → Prop} (h : oV X it ε d) (hi : ItemsO (.v d) ds) (q : K ds n) : oIT X tg it ε n K := .mk fun P M0 δ M r => by
  have z := hi.d (M := M) (d := d) rfl
  cases z with
  | lst => exact ai_list (h P M0 n δ M r _ ⟨ds, rfl, fun _ => trivial, n, r, q⟩)
  | tup => exact ai_tup (h P M0 n δ M r _ ⟨ds, rfl, fun _ => trivial, n, r, q⟩)
  | adr hp => cases hi
theorem oi_x {tg it : Expr} {u : OV} {ds : List D} {K : List D → Int → Prop} (h : oX X it ε u) (hi : ItemsO u ds) (q : K ds n) : oI X tg it ε n K := .mk fun P M0 δ M r => by
  obtain ⟨dv, h1, k1⟩ := h P M0 n δ M r
  have z := hi.d k1
  cases z with
  | lst => exact ai_list (h1 _ ⟨ds, rfl, fun _ _ => trivial, n, r, q⟩)
  | tup => exact ai_tup (h1 _ ⟨ds, rfl, fun _ _ => trivial, n, r, q⟩)
  | @adr p _ hp => exact ai_listM (h1 _ ⟨p, ds, rfl, hp, fun M' g => g _ _ hp, n, r, q⟩)
theorem oit_r {tg : Expr} {p : Pos} {K : List D → Int → Prop} (g : XF X G N sc) (hm : G.mg "range" = none) (h : oE X a ε n fun ov n' => ∃ m : Int, ov = .v (.int m) ∧ -(2 ^ 62) ≤ m ∧ m < 2 ^ 62 ∧ K (rgD 0 m.toNat) n') (hg : sc.names.lookup ("range" : Str) = some .globalImplicit := by rfl) (hs : starEach [a] X.env = [(false, eval a X.env)] := by rfl) : oIT X tg (.Call (.Name "range" p) [a] [] pos) ε n K := .mk fun P M0 δ M r =>
  ai_range1 g hm (aa_cons ((h P M0 δ M r).imp fun d M' ⟨ov, n', r', v, m, e2, h1, h2, q⟩ => by
    subst e2
    have v : d = _ := v
    subst v
    exact aa_nil ⟨m, rfl, h1, h2, fun _ => trivial, n', r', q⟩) hs) hg hs
theorem oit_r2 {tg : Expr} {p : Pos} {K : List D → Int → Prop} (g : XF X G N sc) (hm : G.mg "range" = none) {i j : Int} (ha : oV X a ε (.int i)) (hb : oV X b ε (.int j)) (hh : -(2 ^ 62) ≤ i ∧ i < 2 ^ 62 ∧ -(2 ^ 62) ≤ j ∧ j < 2 ^ 62) (q : K (rgD i (j - i).toNat) n) (hg : sc.names.lookup ("range" : Str) = some .globalImplicit := by rfl) (hs : starEach [a, b] X.env = [(false, eval a X.env), (false, eval b X.env)] := by rfl) (hs1 : starEach (a :: [b]) X.env = (false, eval a X.env) :: starEach [b] X.env := by rfl) (hs2 : starEach [b] X.env = [(false, eval b X.env)] := by rfl) : oIT X tg (.Call (.Name "range" p) [a, b] [] pos) ε n K := .mk fun P M0 δ M r =>
  ai_range2 g hm (aa_cons (ha P M0 n δ M r _ (aa_cons (hb P M0 n δ M r _ (aa_nil ⟨i, j, rfl, hh, fun _ => trivial, n, r, q⟩)) hs2)) hs1) hg hs hs2
/-- a loop -/
theorem os_forI {tg it : Expr} (g : XF X G N sc) (h : oIT X tg it ε n fun ds n1 => ∃ J : List D → OE → Int → Prop, J ds ε n1 ∧
      (∀ d ds ε n, J (d :: ds) ε n → oG X tg d ε n fun ε2 n2 => oSs X sts { nx := J ds, rt := A.rt, bk := J [], ct := J ds } ε2 n2) ∧ ∀ ε n, J [] ε n → A.nx ε n) (hs : ∀ x, foldedSetIterable it X.env x = pure x := by intro _; rfl) {pos2 : Pos} : oS X (.For tg it sts [] pos2) A ε n := .mk fun P M0 δ M r => by
  refine as_for g (aI.mono (h P M0 δ M r) fun C ds M1 ⟨hC, n1, r1, J, j0, step, fin⟩ => ?_) hs
  refine ⟨fun i => lN P M0 (J (ds.drop i)), ⟨ε, n1, r1, j0⟩, fun _ _ M' _ => hC M', fun i d δ' M' hd ⟨ε', n', r', j⟩ => ?_, fun δ' M' ⟨ε', n', r', j⟩ => ⟨ε', n', r', ?_⟩⟩
  · rw [drop_at hd] at j
    exact aG.imp (step d _ ε' n' j P M0 δ' M' r') fun δ2 M2 ⟨ε2, n2, r2, q2⟩ => aSs.imp (q2 P M0 δ2 M2 r2) (fun _ _ z => z) (fun _ _ z => z) (fun _ _ ⟨ε3, n3, r3, q3⟩ => ⟨ε3, n3, r3, fin _ _ q3⟩) (fun _ _ z => z)
  · rw [List.drop_length] at j
    exact fin _ _ j
/-! ### comprehensions -/
structure oLC (X : Cx) (elt tg iter : Expr) (ifs : List Expr) (scope : Scope) (own : List (Str × Nat)) (t : TG) (ε : OE) (n : Int) (Q : OV → Int → Prop) : Prop where
  run : ∀ P M0 δ M, Rl P M0 n ε δ M → aLC X elt tg iter ifs scope own t δ M fun d M' => ∃ ov n', Rl P M0 n' ε δ M' ∧ OvR M0 M' ε δ ov d ∧ Q ov n'
instance {X : Cx} {elt tg iter : Expr} {ifs : List Expr} {scope : Scope} {own : List (Str × Nat)} {t : TG} {ε : OE} {n : Int} {Q : OV → Int → Prop} : CoeFun (oLC X elt tg iter ifs scope own t ε n Q) fun _ => ∀ P M0 δ M, Rl P M0 n ε δ M → aLC X elt tg iter ifs scope own t δ M fun d M' => ∃ ov n', Rl P M0 n' ε δ M' ∧ OvR M0 M' ε δ ov d ∧ Q ov n' := ⟨oLC.run⟩
variable {elt tg iter c : Expr} {ifs : List Expr} {own : List (Str × Nat)} {t : TG}
theorem oe_ofLC (g : XF X G N sc) (okb : blkC N sc scope own = true) (tgo : TgOk X scope tg t (own.map (·.2))) (hifs : ifs = [] ∨ ∃ c, ifs = [c]) (h : oLC X elt tg iter ifs scope own t ε n Q) (hs : ∀ x, foldedSetIterable iter X.env x = pure x := by intro _; rfl) : oE X (.ListComp elt [⟨tg, iter, ifs, 0⟩] scope pos) ε n Q := .mk fun P M0 δ M r => ae_ofLC g okb tgo hifs (h P M0 δ M r) hs
theorem os_ofLC (g : XD X G N sc) (i : Nat) {y : Str} {py spos : Pos} (okb : blkC N sc scope own = true) (tgo : TgOk X scope tg t (own.map (·.2))) (hifs : ifs = [] ∨ ∃ c, ifs = [c]) (h : oLC X elt tg iter ifs scope own t ε n fun ov n' => A.nx (ε.set i (some ov)) n') (hN : N[i]? = some y := by rfl) (hv : sc.names.lookup y = some .local := by rfl)
    (hsw : ∀ env : Env, env.scope = sc → swapsWith (.ListComp elt [⟨tg, iter, ifs, 0⟩] scope pos) (some (.Name y py)) spos.line env = pure true := by intro env e; cases env; cases e; rfl) (hs : ∀ x, foldedSetIterable iter X.env x = pure x := by intro _; rfl) : oS X (.Assign [.Name y py] (.ListComp elt [⟨tg, iter, ifs, 0⟩] scope pos) spos) A ε n := .mk fun P M0 δ M r =>
  as_ofLC g i okb tgo hifs (fun σ H B Q2 rs c kk => h P M0 δ M r σ H B Q2 rs c fun v d M' B' H' s rv c' ⟨ov, n', r', v', q⟩ => kk v d M' B' H' s rv c' (by
    refine ⟨_, n', ?_, q⟩
    cases ov with
    | v d' => have v' : d = d' := v'; subst v'; exact r'.set_v i d
    | l ds => obtain ⟨q, rfl, hq, f⟩ := v'; exact r'.set_own i rfl hq f
    | k ds => obtain ⟨q, rfl, hq, f⟩ := v'; exact r'.set_own i rfl hq f
    | r ds => obtain ⟨q, j, rfl, _, h1, h2⟩ := v'; exact r'.set_r i h1 h2
    | pu => cases v')) hN hv hsw hs
theorem olc_0 (g : XF X G N sc) (tgo : TgOk X scope tg t (own.map (·.2))) (hi : oIT X tg iter ε n fun ds n1 => ∃ T : Nat → List D → Int → Prop, T 0 [] n1 ∧ ds.length < 100000 ∧
      (∀ i d acc m, ds[i]? = some d → T i acc m → ∃ ε2, TgS t (own.map (·.2)) ε d ε2 ∧ ∀ X', XF X' G N (relS scope sc) → X'.A = X.A → oE X' elt ε2 m fun ov m' => ∃ y, ov = .v y ∧ T (i + 1) (acc ++ [y]) m') ∧
      ∀ acc m, T ds.length acc m → Q (.l acc) m) : oLC X elt tg iter [] scope own t ε n Q := .mk fun P M0 δ M r => by
  refine lc0 g tgo (.inl rfl) (aI.mono (hi P M0 δ M r) fun C ds M1 ⟨hC, n1, r1, T, t0, hl, ht, hq⟩ => fun L hL => ?_)
  have f : Free M0 ε δ L := r1.free hL
  have np : P ≠ some L := r1.noP f.1
  refine ⟨fun i acc M' => i ≤ ds.length ∧ M' L = some (.lst acc) ∧ acc.length ≤ i ∧ ∃ m, Rl P M0 m ε δ M' ∧ T i acc m, ⟨Nat.zero_le _, updM_same, Nat.le_refl _, n1, r1.new hL, t0⟩, fun i acc M' ⟨h1, h2, h3, _⟩ => ⟨hC M', h2, by omega⟩, fun i d acc M' hd ⟨h1, h2, h3, m, r', tt⟩ => ?_, fun acc M' ⟨h1, h2, h3, m, r', tt⟩ => ⟨.l acc, m, r', ⟨L, rfl, h2, f⟩, hq _ _ tt⟩⟩
  obtain ⟨ε2, ts, he⟩ := ht i d acc m hd tt
  obtain ⟨δ2, ag, fw, bw⟩ := ts δ r.len
  have hlt : i < ds.length := (List.getElem?_eq_some_iff.mp hd).1
  refine ⟨δ2, ag, fun X' gX eA => (he X' gX eA P _ δ2 M' (fw P M' m _ (r'.plus f h2 np))).imp fun y M4 ⟨ov, m', r4, v, d', e, t'⟩ => ?_⟩
  subst e
  have v : y = d' := v
  subst v
  have r5 := (bw P M4 m' _ r4).minus f.1 np r'
  exact ⟨r4.fr L _ np updM_same, hlt, updM_same, by rw [List.length_append, List.length_singleton]; omega, m', r5.off f np, t'⟩
/-- .. with a test, which draws nothing -/
theorem olc_1 (g : XF X G N sc) (tgo : TgOk X scope tg t (own.map (·.2))) (hi : oIT X tg iter ε n fun ds n1 => ∃ T : Nat → List D → Int → Prop, T 0 [] n1 ∧ ds.length < 100000 ∧
      (∀ i d acc m, ds[i]? = some d → T i acc m → ∃ ε2 b, TgS t (own.map (·.2)) ε d ε2 ∧ (∀ X', XF X' G N (relS scope sc) → X'.A = X.A → oT X' c ε2 b) ∧ (b = true → ∀ X', XF X' G N (relS scope sc) → X'.A = X.A → oE X' elt ε2 m fun ov m' => ∃ y, ov = .v y ∧ T (i + 1) (acc ++ [y]) m') ∧ (b = false → T (i + 1) acc m)) ∧
      ∀ acc m, T ds.length acc m → Q (.l acc) m) : oLC X elt tg iter [c] scope own t ε n Q := .mk fun P M0 δ M r => by
  refine lc0 g tgo (.inr ⟨c, rfl⟩) (aI.mono (hi P M0 δ M r) fun C ds M1 ⟨hC, n1, r1, T, t0, hl, ht, hq⟩ => fun L hL => ?_)
  have f : Free M0 ε δ L := r1.free hL
  have np : P ≠ some L := r1.noP f.1
  refine ⟨fun i acc M' => i ≤ ds.length ∧ M' L = some (.lst acc) ∧ acc.length ≤ i ∧ ∃ m, Rl P M0 m ε δ M' ∧ T i acc m, ⟨Nat.zero_le _, updM_same, Nat.le_refl _, n1, r1.new hL, t0⟩, fun i acc M' ⟨h1, h2, h3, _⟩ => ⟨hC M', h2, by omega⟩, fun i d acc M' hd ⟨h1, h2, h3, m, r', tt⟩ => ?_, fun acc M' ⟨h1, h2, h3, m, r', tt⟩ => ⟨.l acc, m, r', ⟨L, rfl, h2, f⟩, hq _ _ tt⟩⟩
  obtain ⟨ε2, b, ts, hc, he, hf⟩ := ht i d acc m hd tt
  obtain ⟨δ2, ag, fw, bw⟩ := ts δ r.len
  have hlt : i < ds.length := (List.getElem?_eq_some_iff.mp hd).1
  refine ⟨δ2, ag, fun k M3 => k = b ∧ M3 = M', fun X' gX eA => hc X' gX eA P _ m δ2 M' (fw P M' m _ (r'.plus f h2 np)) _ ⟨rfl, rfl⟩, fun M3 ⟨k1, k2⟩ X' gX eA => ?_, fun M3 ⟨k1, k2⟩ => ?_⟩
  · subst k2
    refine (he k1.symm X' gX eA P _ δ2 M3 (fw P M3 m _ (r'.plus f h2 np))).imp fun y M4 ⟨ov, m', r4, v, d', e, t'⟩ => ?_
    subst e
    have v : y = d' := v
    subst v
    have r5 := (bw P M4 m' _ r4).minus f.1 np r'
    exact ⟨r4.fr L _ np updM_same, hlt, updM_same, by rw [List.length_append, List.length_singleton]; omega, m', r5.off f np, t'⟩
  · subst k2
    exact ⟨hlt, h2, by omega, m, r', hf k1.symm⟩
/-- an own list as data -/
theorem oE.frz (h : oE X e ε n fun ov n' => ∃ ds, ov = .l ds ∧ Q (.v (.lst ds)) n') : oE X e ε n Q := .mk fun P M0 δ M r => ae_frz ((h P M0 δ M r).imp fun d M' ⟨ov, n', r', v, ds, e, q⟩ => by
  subst e
  obtain ⟨p, rfl, hp, f⟩ := v
  exact ⟨p, ds, rfl, hp, .v (.lst ds), n', r'.del f (r'.noP f.1), rfl, q⟩)
/-! pure ones -/
structure oSrc (X : Cx) (tg it : Expr) (ε : OE) (ds : List D) : Prop where
  run : ∀ P M0 n δ M, Rl P M0 n ε δ M → SrcV X tg it δ M ds
instance {X : Cx} {tg it : Expr} {ε : OE} {ds : List D} : CoeFun (oSrc X tg it ε ds) fun _ => ∀ P M0 n δ M, Rl P M0 n ε δ M → SrcV X tg it δ M ds := ⟨oSrc.run⟩
theorem os_x {tg : Expr} {u : OV} {ds : List D} (h : oX X iter ε u) (hi : ItemsO u ds) : oSrc X tg iter ε ds := .mk fun P M0 n δ M r => by
  obtain ⟨dv, h1, k1⟩ := h P M0 n δ M r
  exact src_any (hi.d k1) h1
theorem os_rng {tg : Expr} {p : Pos} {m : Int} (g : XF X G N sc) (hm : G.mg "range" = none) (h : oV X a ε (.int m)) (h1 : -(2 ^ 62) ≤ m) (h2 : m < 2 ^ 62) (hg : sc.names.lookup ("range" : Str) = some .globalImplicit := by rfl) (hs : starEach [a] X.env = [(false, eval a X.env)] := by rfl) : oSrc X tg (.Call (.Name "range" p) [a] [] pos) ε (((List.range m.toNat).map fun (i : Nat) => (i : Int)).map D.int) := .mk fun P M0 n δ M r => (srcR g hm (h P M0 n δ M r) h1 h2 hg hs).v
variable {α : Type} {f h : α → D} {l : List α} {pr : α → Bool} {sx : α → OE}
theorem oV_lc (g : XF X G N sc) (tgo : TgOk X scope tg t (own.map (·.2))) (hi : oSrc X tg iter ε (l.map f)) (hl : l.length < 100000) (ht : ∀ x ∈ l, TgS t (own.map (·.2)) ε (f x) (sx x)) (he : ∀ x ∈ l, ∀ X', XF X' G N (relS scope sc) → X'.A = X.A → oV X' elt (sx x) (h x)) (okb : blkC N sc scope own = true := by decide +kernel) (hs : ∀ x, foldedSetIterable iter X.env x = pure x := by intro _; rfl) : oV X (.ListComp elt [⟨tg, iter, [], 0⟩] scope pos) ε (.lst (l.map h)) := .mk fun P M0 n δ M r => by
  classical
  refine av_lc g f h l (fun x => if hx : x ∈ l then (ht x hx δ r.len).choose else []) tgo (hi P M0 n δ M r) hl (fun x hx => ?_) (fun x hx M' ge X' gX eA => ?_) okb hs
  · rw [dif_pos hx]; exact (ht x hx δ r.len).choose_spec.1
  · rw [dif_pos hx]; exact he x hx X' gX eA P M0 n _ M' ((ht x hx δ r.len).choose_spec.2.1 P M' n M0 (r.ge ge))
theorem oV_lcF (g : XF X G N sc) (tgo : TgOk X scope tg t (own.map (·.2))) (hi : oSrc X tg iter ε (l.map f)) (hl : l.length < 100000) (ht : ∀ x ∈ l, TgS t (own.map (·.2)) ε (f x) (sx x)) (hc : ∀ x ∈ l, ∀ X', XF X' G N (relS scope sc) → X'.A = X.A → oT X' c (sx x) (pr x)) (he : ∀ x ∈ l, pr x = true → ∀ X', XF X' G N (relS scope sc) → X'.A = X.A → oV X' elt (sx x) (h x)) (okb : blkC N sc scope own = true := by decide +kernel) (hs : ∀ x, foldedSetIterable iter X.env x = pure x := by intro _; rfl) : oV X (.ListComp elt [⟨tg, iter, [c], 0⟩] scope pos) ε (.lst ((l.filter pr).map h)) := .mk fun P M0 n δ M r => by
  classical
  refine av_lcF g f h pr l (fun x => if hx : x ∈ l then (ht x hx δ r.len).choose else []) tgo (hi P M0 n δ M r) hl (fun x hx => ?_) (fun x hx M' ge X' gX eA => ?_) (fun x hx px M' ge X' gX eA => ?_) okb hs
  · rw [dif_pos hx]; exact (ht x hx δ r.len).choose_spec.1
  · rw [dif_pos hx]; exact hc x hx X' gX eA P M0 n _ M' ((ht x hx δ r.len).choose_spec.2.1 P M' n M0 (r.ge ge))
  · rw [dif_pos hx]; exact he x hx px X' gX eA P M0 n _ M' ((ht x hx δ r.len).choose_spec.2.1 P M' n M0 (r.ge ge))
/-- .. over one name -/
theorem ov_lc1 (g : XF X G N sc) (j : Nat) {y : Str} {py : Pos} (hi : oSrc X (.Name y py) iter ε (l.map f)) (he : ∀ x ∈ l, ∀ X', XF X' G N (relS scope sc) → X'.A = X.A → oV X' elt (ε.set j (some (.v (f x)))) (h x)) (hl : l.length < 100000) (hN : N[j]? = some y := by rfl) (hε : ε[j]? = some none := by rfl) (hlo : locB (relS scope sc) y = true := by rfl) (ho : ownB scope sc y = true := by rfl) (okb : blkC N sc scope [(y, j)] = true := by decide +kernel) (hs : ∀ x, foldedSetIterable iter X.env x = pure x := by intro _; rfl) : oV X (.ListComp elt [⟨.Name y py, iter, [], 0⟩] scope pos) ε (.lst (l.map h)) :=
  oV_lc (own := [(y, j)]) g (tg_name g j (by exact List.mem_singleton.mpr rfl) hN hlo ho) hi hl (fun x _ => tgs_1 hε) he okb hs
theorem ov_lcF1 (g : XF X G N sc) (j : Nat) {y : Str} {py : Pos} (hi : oSrc X (.Name y py) iter ε (l.map f)) (hc : ∀ x ∈ l, ∀ X', XF X' G N (relS scope sc) → X'.A = X.A → oT X' c (ε.set j (some (.v (f x)))) (pr x)) (he : ∀ x ∈ l, pr x = true → ∀ X', XF X' G N (relS scope sc) → X'.A = X.A → oV X' elt (ε.set j (some (.v (f x)))) (h x)) (hl : l.length < 100000) (hN : N[j]? = some y := by rfl) (hε : ε[j]? = some none := by rfl) (hlo : locB (relS scope sc) y = true := by rfl) (ho : ownB scope sc y = true := by rfl) (okb : blkC N sc scope [(y, j)] = true := by decide +kernel) (hs : ∀ x, foldedSetIterable iter X.env x = pure x := by intro _; rfl) : oV X (.ListComp elt [⟨.Name y py, iter, [c], 0⟩] scope pos) ε (.lst ((l.filter pr).map h)) :=
  oV_lcF (own := [(y, j)]) g (tg_name g j (by exact List.mem_singleton.mpr rfl) hN hlo ho) hi hl (fun x _ => tgs_1 hε) hc he okb hs
theorem ov_lc2 (g : XF X G N sc) (j1 j2 : Nat) {y1 y2 : Str} {p1 p2 pt : Pos} {kt : Nat} {f1 f2 : α → D} (hi : oSrc X (.Tuple [.Name y1 p1, .Name y2 p2] kt pt) iter ε (l.map fun x => .tup [f1 x, f2 x])) (he : ∀ x ∈ l, ∀ X', XF X' G N (relS scope sc) → X'.A = X.A → oV X' elt ((ε.set j1 (some (.v (f1 x)))).set j2 (some (.v (f2 x)))) (h x)) (hl : l.length < 100000) (hN1 : N[j1]? = some y1 := by rfl) (hN2 : N[j2]? = some y2 := by rfl) (hε1 : ε[j1]? = some none := by rfl) (hε2 : ε[j2]? = some none := by rfl) (hn : j1 ≠ j2 := by decide) (hl1 : locB (relS scope sc) y1 = true := by rfl) (hl2 : locB (relS scope sc) y2 = true := by rfl) (ho1 : ownB scope sc y1 = true := by rfl) (ho2 : ownB scope sc y2 = true := by rfl)
    (okb : blkC N sc scope [(y1, j1), (y2, j2)] = true := by decide +kernel) (hs : ∀ x, foldedSetIterable iter X.env x = pure x := by intro _; rfl) : oV X (.ListComp elt [⟨.Tuple [.Name y1 p1, .Name y2 p2] kt pt, iter, [], 0⟩] scope pos) ε (.lst (l.map h)) :=
  oV_lc (own := [(y1, j1), (y2, j2)]) (sx := fun x => (ε.set j1 (some (.v (f1 x)))).set j2 (some (.v (f2 x)))) g (tg_two g j1 j2 (List.mem_cons_self) (by exact List.mem_cons_of_mem _ (List.mem_singleton.mpr rfl)) hN1 hN2 hl1 hl2 ho1 ho2) hi hl (fun x _ => tgs_2 hε1 hε2 hn) he okb hs
theorem ov_lcF2 (g : XF X G N sc) (j1 j2 : Nat) {y1 y2 : Str} {p1 p2 pt : Pos} {kt : Nat} {f1 f2 : α → D} (hi : oSrc X (.Tuple [.Name y1 p1, .Name y2 p2] kt pt) iter ε (l.map fun x => .tup [f1 x, f2 x])) (hc : ∀ x ∈ l, ∀ X', XF X' G N (relS scope sc) → X'.A = X.A → oT X' c ((ε.set j1 (some (.v (f1 x)))).set j2 (some (.v (f2 x)))) (pr x)) (he : ∀ x ∈ l, pr x = true → ∀ X', XF X' G N (relS scope sc) → X'.A = X.A → oV X' elt ((ε.set j1 (some (.v (f1 x)))).set j2 (some (.v (f2 x)))) (h x)) (hl : l.length < 100000) (hN1 : N[j1]? = some y1 := by rfl) (hN2 : N[j2]? = some y2 := by rfl) (hε1 : ε[j1]? = some none := by rfl) (hε2 : ε[j2]? = some none := by rfl) (hn : j1 ≠ j2 := by decide) (hl1 : locB (relS scope sc) y1 = true := by rfl) (hl2 : locB (relS scope sc) y2 = true := by rfl) (ho1 : ownB scope sc y1 = true := by rfl) (ho2 : ownB scope sc y2 = true := by rfl)
    (okb : blkC N sc scope [(y1, j1), (y2, j2)] = true := by decide +kernel) (hs : ∀ x, foldedSetIterable iter X.env x = pure x := by intro _; rfl) : oV X (.ListComp elt [⟨.Tuple [.Name y1 p1, .Name y2 p2] kt pt, iter, [c], 0⟩] scope pos) ε (.lst ((l.filter pr).map h)) :=
  oV_lcF (own := [(y1, j1), (y2, j2)]) (sx := fun x => (ε.set j1 (some (.v (f1 x)))).set j2 (some (.v (f2 x)))) g (tg_two g j1 j2 (List.mem_cons_self) (by exact List.mem_cons_of_mem _ (List.mem_singleton.mpr rfl)) hN1 hN2 hl1 hl2 ho1 ho2) hi hl (fun x _ => tgs_2 hε1 hε2 hn) hc he okb hs
/-- y = [..] on one line, pure -/
theorem os_lc2 (g : XD X G N sc) (i : Nat) (j1 j2 : Nat) {z y1 y2 : Str} {pz spos p1 p2 pt : Pos} {kt : Nat} {f1 f2 : α → D} (hi : oSrc X (.Tuple [.Name y1 p1, .Name y2 p2] kt pt) iter ε (l.map fun x => .tup [f1 x, f2 x])) (he : ∀ x ∈ l, ∀ X', XF X' G N (relS scope sc) → X'.A = X.A → oV X' elt ((ε.set j1 (some (.v (f1 x)))).set j2 (some (.v (f2 x)))) (h x)) (q : A.nx (ε.set i (some (.v (.lst (l.map h))))) n) (hl : l.length < 100000) (hNi : N[i]? = some z := by rfl) (hz : sc.names.lookup z = some .local := by rfl) (hN1 : N[j1]? = some y1 := by rfl) (hN2 : N[j2]? = some y2 := by rfl) (hε1 : ε[j1]? = some none := by rfl) (hε2 : ε[j2]? = some none := by rfl) (hn : j1 ≠ j2 := by decide) (hl1 : locB (relS scope sc) y1 = true := by rfl) (hl2 : locB (relS scope sc) y2 = true := by rfl) (ho1 : ownB scope sc y1 = true := by rfl) (ho2 : ownB scope sc y2 = true := by rfl)
    (okb : blkC N sc scope [(y1, j1), (y2, j2)] = true := by decide +kernel) (hs : ∀ x, foldedSetIterable iter X.env x = pure x := by intro _; rfl)
    (hsw : ∀ env : Env, env.scope = sc → swapsWith (.ListComp elt [⟨.Tuple [.Name y1 p1, .Name y2 p2] kt pt, iter, [], 0⟩] scope pos) (some (.Name z pz)) spos.line env = pure true := by intro env e; cases env; cases e; rfl) : oS X (.Assign [.Name z pz] (.ListComp elt [⟨.Tuple [.Name y1 p1, .Name y2 p2] kt pt, iter, [], 0⟩] scope pos) spos) A ε n := .mk fun P M0 δ M r => by
  classical
  have ts : ∀ x : α, TgS (gTwo X.K j1 j2) [j1, j2] ε (.tup [f1 x, f2 x]) ((ε.set j1 (some (.v (f1 x)))).set j2 (some (.v (f2 x)))) := fun x => tgs_2 hε1 hε2 hn
  exact as_lc (own := [(y1, j1), (y2, j2)]) g i (fun x => .tup [f1 x, f2 x]) h l (fun x => (ts x δ r.len).choose) (tg_two g.toXF j1 j2 (List.mem_cons_self) (by exact List.mem_cons_of_mem _ (List.mem_singleton.mpr rfl)) hN1 hN2 hl1 hl2 ho1 ho2) (hi P M0 n δ M r) hl (fun x hx => (ts x δ r.len).choose_spec.1) (fun x hx M' ge X' gX eA => he x hx X' gX eA P M0 n _ M' ((ts x δ r.len).choose_spec.2.1 P M' n M0 (r.ge ge))) ⟨_, n, r.set_v i _, q⟩ okb hNi hz hsw hs
/-- y = [..] on one line, pure -/
theorem os_lc1 (g : XD X G N sc) (i : Nat) (j : Nat) {y z : Str} {py pz spos : Pos} (hi : oSrc X (.Name y py) iter ε (l.map f)) (he : ∀ x ∈ l, ∀ X', XF X' G N (relS scope sc) → X'.A = X.A → oV X' elt (ε.set j (some (.v (f x)))) (h x)) (q : A.nx (ε.set i (some (.v (.lst (l.map h))))) n) (hl : l.length < 100000) (hNi : N[i]? = some z := by rfl) (hz : sc.names.lookup z = some .local := by rfl) (hN : N[j]? = some y := by rfl) (hε : ε[j]? = some none := by rfl) (hlo : locB (relS scope sc) y = true := by rfl) (ho : ownB scope sc y = true := by rfl) (okb : blkC N sc scope [(y, j)] = true := by decide +kernel) (hs : ∀ x, foldedSetIterable iter X.env x = pure x := by intro _; rfl)
    (hsw : ∀ env : Env, env.scope = sc → swapsWith (.ListComp elt [⟨.Name y py, iter, [], 0⟩] scope pos) (some (.Name z pz)) spos.line env = pure true := by intro env e; cases env; cases e; rfl) : oS X (.Assign [.Name z pz] (.ListComp elt [⟨.Name y py, iter, [], 0⟩] scope pos) spos) A ε n := .mk fun P M0 δ M r => by
  classical
  have ts : ∀ x : α, TgS (gName j) [j] ε (f x) (ε.set j (some (.v (f x)))) := fun x => tgs_1 hε
  exact as_lc (own := [(y, j)]) g i f h l (fun x => (ts x δ r.len).choose) (tg_name g.toXF j (by exact List.mem_singleton.mpr rfl) hN hlo ho) (hi P M0 n δ M r) hl (fun x hx => (ts x δ r.len).choose_spec.1) (fun x hx M' ge X' gX eA => he x hx X' gX eA P M0 n _ M' ((ts x δ r.len).choose_spec.2.1 P M' n M0 (r.ge ge))) ⟨_, n, r.set_v i _, q⟩ okb hNi hz hsw hs
theorem os_lcF1 (g : XD X G N sc) (i : Nat) (j : Nat) {y z : Str} {py pz spos : Pos} (hi : oSrc X (.Name y py) iter ε (l.map f)) (hc : ∀ x ∈ l, ∀ X', XF X' G N (relS scope sc) → X'.A = X.A → oT X' c (ε.set j (some (.v (f x)))) (pr x)) (he : ∀ x ∈ l, pr x = true → ∀ X', XF X' G N (relS scope sc) → X'.A = X.A → oV X' elt (ε.set j (some (.v (f x)))) (h x)) (q : A.nx (ε.set i (some (.v (.lst ((l.filter pr).map h))))) n) (hl : l.length < 100000) (hNi : N[i]? = some z := by rfl) (hz : sc.names.lookup z = some .local := by rfl) (hN : N[j]? = some y := by rfl) (hε : ε[j]? = some none := by rfl) (hlo : locB (relS scope sc) y = true := by rfl) (ho : ownB scope sc y = true := by rfl) (okb : blkC N sc scope [(y, j)] = true := by decide +kernel) (hs : ∀ x, foldedSetIterable iter X.env x = pure x := by intro _; rfl)
    (hsw : ∀ env : Env, env.scope = sc → swapsWith (.ListComp elt [⟨.Name y py, iter, [c], 0⟩] scope pos) (some (.Name z pz)) spos.line env = pure true := by intro env e; cases env; cases e; rfl) : oS X (.Assign [.Name z pz] (.ListComp elt [⟨.Name y py, iter, [c], 0⟩] scope pos) spos) A ε n := .mk fun P M0 δ M r => by
  classical
  have ts : ∀ x : α, TgS (gName j) [j] ε (f x) (ε.set j (some (.v (f x)))) := fun x => tgs_1 hε
  exact as_lcF (own := [(y, j)]) g i f h pr l (fun x => (ts x δ r.len).choose) (tg_name g.toXF j (by exact List.mem_singleton.mpr rfl) hN hlo ho) (hi P M0 n δ M r) hl (fun x hx => (ts x δ r.len).choose_spec.1) (fun x hx M' ge X' gX eA => hc x hx X' gX eA P M0 n _ M' ((ts x δ r.len).choose_spec.2.1 P M' n M0 (r.ge ge))) (fun x hx px M' ge X' gX eA => he x hx px X' gX eA P M0 n _ M' ((ts x δ r.len).choose_spec.2.1 P M' n M0 (r.ge ge))) ⟨_, n, r.set_v i _, q⟩ okb hNi hz hsw hs
end Ab
/-! Expressions that draw, while, stores into own lists. -/
namespace Ab
open PySem PySem.Spec PyProof.Rows L2
variable {X : Cx} {e a b o : Expr} {es : List Expr} {st : Stmt} {sts : List Stmt} {ε : OE} {n : Int} {Q : OV → Int → Prop} {A : OEnds} {G : Gx} {N : List Str} {sc scope : Scope} {pos : Pos} {x m : Str} {d d' : D}
def rAnyB (X : Cx) (op : Operator) : R2 := fun x y H Q => ∃ r, OpR X (binaryOp op) r ∧ r x y H Q
theorem op_anyB {op : Operator} : OpR X (binaryOp op) (rAnyB X op) := fun pins s σ H x y v u Q I rx ry ⟨r, h, q⟩ => h pins s σ H x y v u Q I rx ry q
theorem oe_bin {op : Operator} (h : oE X a ε n fun u n1 => oE X b ε n1 fun w n2 => ∃ da db d, u = .v da ∧ w = .v db ∧ BinV X op (.v da) (.v db) d ∧ Q (.v d) n2) : oE X (.BinOp a op b pos) ε n Q := .mk fun P M0 δ M r =>
  ae_op op_anyB ((h P M0 δ M r).imp fun u M1 ⟨ou, n1, r1, v1, q1⟩ => (q1 P M0 δ M1 r1).imp fun w M2 ⟨ow, n2, r2, v2, da, db, d, e1, e2, bv, q⟩ => by
    subst e1; subst e2
    have v1 : u = da := v1
    have v2 : w = db := v2
    subst v1; subst v2
    obtain ⟨r, ho, hp⟩ := bv
    exact fun x y B H Q2 ra rb c k => ⟨r, ho, hp M2 u w rfl rfl x y B H Q2 ra rb c fun v B' H' s r c' => k v d M2 B' H' s r c' ⟨.v d, n2, r2, rfl, q⟩⟩)
theorem oe_if {c : Expr} (h : oC X c ε n fun k n1 => (k = true → oE X a ε n1 Q) ∧ (k = false → oE X b ε n1 Q)) : oE X (.IfExp c a b pos) ε n Q := .mk fun P M0 δ M r =>
  ae_if ((h P M0 δ M r).imp fun k M1 ⟨n1, r1, q1, q2⟩ => ⟨fun z => q1 z P M0 δ M1 r1, fun z => q2 z P M0 δ M1 r1⟩)
theorem oe_ifT {c : Expr} {k : Bool} (h : oT X c ε k) (h1 : k = true → oE X a ε n Q) (h2 : k = false → oE X b ε n Q) : oE X (.IfExp c a b pos) ε n Q := oe_if (h.c ⟨h1, h2⟩)
structure oA (X : Cx) (es : List Expr) (ε : OE) (n : Int) (Q : List D → Int → Prop) : Prop where
  run : ∀ P M0 δ M, Rl P M0 n ε δ M → aA X es δ M fun ds M' => ∃ n', Rl P M0 n' ε δ M' ∧ Q ds n'
instance {X : Cx} {es : List Expr} {ε : OE} {n : Int} {Q : List D → Int → Prop} : CoeFun (oA X es ε n Q) fun _ => ∀ P M0 δ M, Rl P M0 n ε δ M → aA X es δ M fun ds M' => ∃ n', Rl P M0 n' ε δ M' ∧ Q ds n' := ⟨oA.run⟩
theorem oa_nil {Q : List D → Int → Prop} (q : Q [] n) : oA X [] ε n Q := .mk fun P M0 δ M r => aa_nil ⟨n, r, q⟩
theorem oa_cons {Q : List D → Int → Prop} (h : oE X e ε n fun u n1 => ∃ d, u = .v d ∧ oA X es ε n1 fun ds n2 => Q (d :: ds) n2) (hs : starEach (e :: es) X.env = (false, eval e X.env) :: starEach es X.env := by rfl) : oA X (e :: es) ε n Q := .mk fun P M0 δ M r =>
  aa_cons ((h P M0 δ M r).imp fun u M1 ⟨ou, n1, r1, v1, d, e1, q1⟩ => by
    subst e1
    have v1 : u = d := v1
    subst v1
    exact q1 P M0 δ M1 r1) hs
theorem oVs.toA {Q : List D → Int → Prop} {ds : List D} (h : oVs X es ε ds) (q : Q ds n) : oA X es ε n Q := .mk fun P M0 δ M r => h P M0 n δ M r _ ⟨n, r, q⟩
theorem oA.imp {Q Q' : List D → Int → Prop} (h : oA X es ε n Q) (k : ∀ ds n', Q ds n' → Q' ds n') : oA X es ε n Q' := .mk fun P M0 δ M r => (h P M0 δ M r).imp fun ds M' ⟨n', r', q⟩ => ⟨n', r', k _ _ q⟩
theorem oe_tup {x1} (h : oA X es ε n fun ds n1 => ds.length ≤ 10000 ∧ Q (.v (.tup ds)) n1) : oE X (.Tuple es x1 pos) ε n Q := .mk fun P M0 δ M r => ae_tup ((h P M0 δ M r).imp fun ds M1 ⟨n1, r1, hl, q⟩ => ⟨hl, .v (.tup ds), n1, r1, rfl, q⟩)
theorem oe_lstD (h : oA X es ε n fun ds n1 => ds.length ≤ 10000 ∧ Q (.v (.lst ds)) n1) : oE X (.List es pos) ε n Q := .mk fun P M0 δ M r => ae_lst ((h P M0 δ M r).imp fun ds M1 ⟨n1, r1, hl, q⟩ => ⟨hl, .v (.lst ds), n1, r1, rfl, q⟩)
theorem oe_lstO (h : oA X es ε n fun ds n1 => ds.length ≤ 10000 ∧ Q (.l ds) n1) : oE X (.List es pos) ε n Q := .mk fun P M0 δ M r => ae_lstM ((h P M0 δ M r).imp fun ds M1 ⟨n1, r1, hl, q⟩ => ⟨hl, fun p hp => ⟨.l ds, n1, r1.new hp, ⟨p, rfl, updM_same, r1.free hp⟩, q⟩⟩)
theorem oe_ixL (h : oE X a ε n fun u n1 => oE X b ε n1 fun w n2 => ∃ ds i d, u = .v (.lst ds) ∧ w = .v (.int i) ∧ atI ds i = some d ∧ Q (.v d) n2) (hs : PlainIx b := by exact fun _ _ => rfl) : oE X (.Subscript a b pos) ε n Q := .mk fun P M0 δ M r =>
  ae_ix ix_list ((h P M0 δ M r).imp fun u M1 ⟨ou, n1, r1, v1, q1⟩ => (q1 P M0 δ M1 r1).imp fun w M2 ⟨ow, n2, r2, v2, ds, i, d, e1, e2, hi, q⟩ => by
    subst e1; subst e2
    have v1 : u = _ := v1
    have v2 : w = _ := v2
    subst v1; subst v2
    exact (p_ixL hi).aR ⟨.v d, n2, r2, rfl, q⟩) hs
theorem oe_ixT (h : oE X a ε n fun u n1 => oE X b ε n1 fun w n2 => ∃ ds i d, u = .v (.tup ds) ∧ w = .v (.int i) ∧ atI ds i = some d ∧ Q (.v d) n2) (hs : PlainIx b := by exact fun _ _ => rfl) : oE X (.Subscript a b pos) ε n Q := .mk fun P M0 δ M r =>
  ae_ix ix_tup ((h P M0 δ M r).imp fun u M1 ⟨ou, n1, r1, v1, q1⟩ => (q1 P M0 δ M1 r1).imp fun w M2 ⟨ow, n2, r2, v2, ds, i, d, e1, e2, hi, q⟩ => by
    subst e1; subst e2
    have v1 : u = _ := v1
    have v2 : w = _ := v2
    subst v1; subst v2
    exact (p_ixT hi).aR ⟨.v d, n2, r2, rfl, q⟩) hs
/-- f(purse, ..) with arguments that draw -/
theorem oe_drawA (g : XF X G N sc) {k : Nat} {f : Str} {W : Int} {S : List D → (D → Prop) → Prop} (F : Fn G k f (spDraw W S)) (hr : Room k X.A) (mon : MonS S) (i : Nat) {pp p1 : Pos} (he : oA X es ε n fun ds n1 => n1 + W < 18446744073709551616 ∧ S ds fun d => Q (.v d) (n1 + W)) (hN : N[i]? = some x := by rfl) (hi : ε[i]? = some (some .pu) := by rfl)
    (hv : visB sc x = true := by rfl) (hd : (x == ("__debug__" : Str)) = false := by decide) (hcd : (x == ("__classdict__" : Str)) = false := by decide) (hg : sc.names.lookup f = some .globalImplicit := by rfl) (hdb : (f == ("__debug__" : Str)) = false := by decide)
    (hs : starEach (.Name x p1 :: es) X.env = (false, eval (.Name x p1) X.env) :: starEach es X.env := by rfl) (hpl : (backTo pos (starEach es X.env)).any (·.1) = false := by rfl) : oE X (.Call (.Name f pp) (.Name x p1 :: es) [] pos) ε n Q := .mk fun P M0 δ M r => by
  obtain ⟨p, rfl, h1⟩ := r.at_pu hi
  refine ae_call g F hr (aa_cons (av_name g i h1 hN hv hd hcd _ ((he (some p) M0 δ M r).imp fun ds M1 ⟨n1, r1, hn, q⟩ => ⟨p, n1, ds, rfl, (r1.pu p rfl).1, hn, mon.mon (fun d q M' hp of => ?_) q⟩)) hs) hg hdb hs hpl
  exact ⟨.v d, n1 + W, r1.draw hp of, rfl, q⟩
theorem oe_callA (g : XF X G N sc) {k : Nat} {f : Str} {S : List D → (D → Prop) → Prop} (F : Fn G k f (spV S)) (hr : Room k X.A) (mon : MonS S) {pp : Pos} (he : oA X (e :: es) ε n fun ds n1 => S ds fun d => Q (.v d) n1) (hg : sc.names.lookup f = some .globalImplicit := by rfl) (hdb : (f == ("__debug__" : Str)) = false := by decide)
    (hs : starEach (e :: es) X.env = (false, eval e X.env) :: starEach es X.env := by rfl) (hpl : (backTo pos (starEach es X.env)).any (·.1) = false := by rfl) : oE X (.Call (.Name f pp) (e :: es) [] pos) ε n Q := .mk fun P M0 δ M r =>
  ae_call g F hr ((he P M0 δ M r).imp fun ds M1 ⟨n1, r1, q⟩ => mon.mon (fun d q => ⟨.v d, n1, r1, rfl, q⟩) q) hg hdb hs hpl
/-! ### and, or with draws -/
structure oCW (X : Cx) (e : Expr) (ε : OE) (n : Int) (Q : Bool → Int → Prop) : Prop where
  run : ∀ P M0 δ M, Rl P M0 n ε δ M → aW X e δ M fun b M' => ∃ n', Rl P M0 n' ε δ M' ∧ Q b n'
instance {X : Cx} {e : Expr} {ε : OE} {n : Int} {Q : Bool → Int → Prop} : CoeFun (oCW X e ε n Q) fun _ => ∀ P M0 δ M, Rl P M0 n ε δ M → aW X e δ M fun b M' => ∃ n', Rl P M0 n' ε δ M' ∧ Q b n' := ⟨oCW.run⟩
theorem aW.imp {X : Cx} {e : Expr} {δ : DE} {M : AHp} {Q Q' : Bool → AHp → Prop} (h : aW X e δ M Q) (k : ∀ b M', Q b M' → Q' b M') : aW X e δ M Q' := fun σ H B rs c => (h σ H B rs c).imp fun b H' ⟨M', B', s, c', q⟩ => ⟨M', B', s, c', k _ _ q⟩
variable {QB : Bool → Int → Prop}
theorem oCW.c (h : oCW X e ε n QB) : oC X e ε n QB := .mk fun P M0 δ M r => (h P M0 δ M r).t
theorem ocw_and1 (h : oC X a ε n QB) : oCW X (.BoolOp .And [a] pos) ε n QB := .mk fun P M0 δ M r => aw_and1 (h P M0 δ M r)
theorem ocw_or1 (h : oC X a ε n QB) : oCW X (.BoolOp .Or [a] pos) ε n QB := .mk fun P M0 δ M r => aw_or1 (h P M0 δ M r)
theorem ocw_and {rest : List Expr} (h : oC X a ε n fun k n1 => (k = true → oCW X (.BoolOp .And (b :: rest) pos) ε n1 QB) ∧ (k = false → QB false n1)) : oCW X (.BoolOp .And (a :: b :: rest) pos) ε n QB := .mk fun P M0 δ M r =>
  aw_and ((h P M0 δ M r).imp fun k M1 ⟨n1, r1, q1, q2⟩ => ⟨fun z => q1 z P M0 δ M1 r1, fun z => ⟨n1, r1, q2 z⟩⟩)
theorem ocw_or {rest : List Expr} (h : oC X a ε n fun k n1 => (k = false → oCW X (.BoolOp .Or (b :: rest) pos) ε n1 QB) ∧ (k = true → QB true n1)) : oCW X (.BoolOp .Or (a :: b :: rest) pos) ε n QB := .mk fun P M0 δ M r =>
  aw_or ((h P M0 δ M r).imp fun k M1 ⟨n1, r1, q1, q2⟩ => ⟨fun z => q1 z P M0 δ M1 r1, fun z => ⟨n1, r1, q2 z⟩⟩)
theorem oC.imp {Q' : Bool → Int → Prop} (h : oC X e ε n QB) (k : ∀ b n', QB b n' → Q' b n') : oC X e ε n Q' := .mk fun P M0 δ M r => (h P M0 δ M r).imp fun b M' ⟨n', r', q⟩ => ⟨n', r', k _ _ q⟩
/-! ### comprehensions that draw -/
variable {elt iter : Expr}
theorem olc_D {α β : Type} (g : XF X G N sc) (j : Nat) {y : Str} {py : Pos} (f : α → D) (h : β → D) (Pb : β → Prop) (W : Int) (hW : 0 ≤ W) (hi : oIT X (.Name y py) iter ε n fun ds n1 => ∃ l : List α, ds = l.map f ∧ l.length < 100000 ∧
      (∀ x ∈ l, ∀ m, n1 ≤ m → m + W ≤ n1 + W * l.length → ∀ X', XF X' G N (relS scope sc) → X'.A = X.A → oE X' elt (ε.set j (some (.v (f x)))) m fun ov m' => ∃ z, ov = .v (h z) ∧ Pb z ∧ m ≤ m' ∧ m' ≤ m + W) ∧
      ∀ zs : List β, zs.length = l.length → (∀ z ∈ zs, Pb z) → ∀ n2, n1 ≤ n2 → n2 ≤ n1 + W * l.length → Q (.l (zs.map h)) n2) (hN : N[j]? = some y := by rfl) (hε : ε[j]? = some none := by rfl) (hlo : locB (relS scope sc) y = true := by rfl) (ho : ownB scope sc y = true := by rfl) : oLC X elt (.Name y py) iter [] scope [(y, j)] (gName j) ε n Q := by
  refine olc_0 g (tg_name g j (by exact List.mem_singleton.mpr rfl) hN hlo ho) <| .mk fun P M0 δ M r => aI.mono (hi P M0 δ M r) fun C ds M1 ⟨hC, n1, r1, l, e1, hl, he, hq⟩ => ⟨hC, n1, r1, fun i acc m => i ≤ l.length ∧ n1 ≤ m ∧ m ≤ n1 + W * i ∧ ∃ zs : List β, acc = zs.map h ∧ zs.length = i ∧ ∀ z ∈ zs, Pb z, ⟨Nat.zero_le _, Int.le_refl _, by simp, [], rfl, rfl, fun _ z => (nomatch z)⟩, by rw [e1, List.length_map]; exact hl, fun i d acc m hd ⟨h1, h2, h3, zs, e2, e3, e4⟩ => ?_, fun acc m ⟨h1, h2, h3, zs, e2, e3, e4⟩ => ?_⟩
  · rw [e1, List.getElem?_map] at hd
    cases z : l[i]? with
    | none => rw [z] at hd; cases hd
    | some x =>
      rw [z] at hd
      cases hd
      have hlt : i < l.length := (List.getElem?_eq_some_iff.mp z).1
      have hb : W * ((i : Int) + 1) ≤ W * (l.length : Int) := Int.mul_le_mul_of_nonneg_left (by omega) hW
      rw [Int.mul_add, Int.mul_one] at hb
      refine ⟨_, tgs_1 hε, fun X' gX eA => (he x (List.mem_of_getElem? z) m h2 (by omega) X' gX eA).imp fun ov m' ⟨w, e5, pw, l1, l2⟩ => ⟨h w, e5, hlt, by omega, ?_, zs ++ [w], by rw [e2, List.map_append]; rfl, by rw [List.length_append, e3]; rfl, fun z hz => ?_⟩⟩
      · rw [Int.natCast_add, Int.mul_add]; simp; omega
      · rcases List.mem_append.mp hz with hz | hz
        · exact e4 z hz
        · rw [List.mem_singleton.mp hz]; exact pw
  · rw [e1, List.length_map] at h3 e3
    rw [e2]
    exact hq zs e3 e4 m h2 h3
theorem oe_lcD {α β : Type} (g : XF X G N sc) (j : Nat) {y : Str} {py : Pos} (f : α → D) (h : β → D) (Pb : β → Prop) (W : Int) (hW : 0 ≤ W) (hi : oIT X (.Name y py) iter ε n fun ds n1 => ∃ l : List α, ds = l.map f ∧ l.length < 100000 ∧
      (∀ x ∈ l, ∀ m, n1 ≤ m → m + W ≤ n1 + W * l.length → ∀ X', XF X' G N (relS scope sc) → X'.A = X.A → oE X' elt (ε.set j (some (.v (f x)))) m fun ov m' => ∃ z, ov = .v (h z) ∧ Pb z ∧ m ≤ m' ∧ m' ≤ m + W) ∧
      ∀ zs : List β, zs.length = l.length → (∀ z ∈ zs, Pb z) → ∀ n2, n1 ≤ n2 → n2 ≤ n1 + W * l.length → Q (.v (.lst (zs.map h))) n2) (hN : N[j]? = some y := by rfl) (hε : ε[j]? = some none := by rfl) (hlo : locB (relS scope sc) y = true := by rfl) (ho : ownB scope sc y = true := by rfl) (okb : blkC N sc scope [(y, j)] = true := by decide +kernel) (hs : ∀ x, foldedSetIterable iter X.env x = pure x := by intro _; rfl) : oE X (.ListComp elt [⟨.Name y py, iter, [], 0⟩] scope pos) ε n Q :=
  oE.frz (oe_ofLC (own := [(y, j)]) g okb (tg_name g j (by exact List.mem_singleton.mpr rfl) hN hlo ho) (.inl rfl) (olc_D g j f h Pb W hW (.mk fun P M0 δ M r => aI.mono (hi P M0 δ M r) fun C ds M1 ⟨hC, n1, r1, l, e1, hl, he, hq⟩ => ⟨hC, n1, r1, l, e1, hl, he, fun zs h1 h2 n2 h3 h4 => ⟨_, rfl, hq zs h1 h2 n2 h3 h4⟩⟩) hN hε hlo ho) hs)
theorem os_lcD {α β : Type} (g : XD X G N sc) (i : Nat) (j : Nat) {y z : Str} {py pz spos : Pos} (f : α → D) (h : β → D) (Pb : β → Prop) (W : Int) (hW : 0 ≤ W) (hi : oIT X (.Name y py) iter ε n fun ds n1 => ∃ l : List α, ds = l.map f ∧ l.length < 100000 ∧
      (∀ x ∈ l, ∀ m, n1 ≤ m → m + W ≤ n1 + W * l.length → ∀ X', XF X' G N (relS scope sc) → X'.A = X.A → oE X' elt (ε.set j (some (.v (f x)))) m fun ov m' => ∃ z, ov = .v (h z) ∧ Pb z ∧ m ≤ m' ∧ m' ≤ m + W) ∧
      ∀ zs : List β, zs.length = l.length → (∀ z ∈ zs, Pb z) → ∀ n2, n1 ≤ n2 → n2 ≤ n1 + W * l.length → A.nx (ε.set i (some (.l (zs.map h)))) n2) (hNi : N[i]? = some z := by rfl) (hz : sc.names.lookup z = some .local := by rfl) (hN : N[j]? = some y := by rfl) (hε : ε[j]? = some none := by rfl) (hlo : locB (relS scope sc) y = true := by rfl) (ho : ownB scope sc y = true := by rfl) (okb : blkC N sc scope [(y, j)] = true := by decide +kernel) (hs : ∀ x, foldedSetIterable iter X.env x = pure x := by intro _; rfl)
    (hsw : ∀ env : Env, env.scope = sc → swapsWith (.ListComp elt [⟨.Name y py, iter, [], 0⟩] scope pos) (some (.Name z pz)) spos.line env = pure true := by intro env e; cases env; cases e; rfl) : oS X (.Assign [.Name z pz] (.ListComp elt [⟨.Name y py, iter, [], 0⟩] scope pos) spos) A ε n :=
  os_ofLC (own := [(y, j)]) g i okb (tg_name g.toXF j (by exact List.mem_singleton.mpr rfl) hN hlo ho) (.inl rfl) (olc_D g.toXF j f h Pb W hW hi hN hε hlo ho) hNi hz hsw hs
/-! ### while -/
theorem as_while {c : Expr} {A : AEnds} {δ : DE} {M : AHp} (g : XF X G N sc) (J : Nat → DE → AHp → Prop) {k : Nat} (h0 : J k δ M) (step : ∀ k δ M, J k δ M → aT X c δ M fun b M1 => (b = true → aSs X sts { nx := fun δ' M' => ∃ k', k' < k ∧ J k' δ' M', rt := A.rt, bk := A.nx, ct := fun δ' M' => ∃ k', k' < k ∧ J k' δ' M' } δ M1) ∧ (b = false → A.nx δ M1)) : aS X (.While c sts [] pos) A δ M := fun σ H B rs cf => by
  refine wS_of (ps_while g.po pt_w pss_w) ⟨fun k σ' H' => ∃ δ' M' B', Same B B' ∧ RepS B' σ' δ' ∧ Cf B' M' H' ∧ J k δ' M', ⟨k, δ, M, B, Same.refl _, rs, cf, h0⟩, ?_⟩
  rintro k σ1 H1 ⟨δ1, M1, B1, s1, rs1, c1, j1⟩
  refine (step k δ1 M1 j1).run rs1 c1 fun b M2 B2 H2 s2 c2 q => ?_
  cases b with
  | true =>
    refine (if_pos rfl).mpr ⟨fun σ' H' => ∃ δ' M' B', Same B B' ∧ RepS B' σ' δ' ∧ Cf B' M' H' ∧ ∃ k', k' < k ∧ J k' δ' M', fun σ' H' ⟨δ', M', B', s, r, c', k', hk, j⟩ => ⟨k', hk, δ', M', B', s, r, c', j⟩, ?_⟩
    refine (q.1 rfl).run (rs1.mono s2) c2 ⟨fun σ' H' ⟨δ', M', B', s, r, c', z⟩ => ⟨δ', M', B', (s1.trans s2).trans s, r, c', z⟩, fun v H' z => ?_, fun σ' H' z => ?_, fun σ' H' ⟨δ', M', B', s, r, c', z⟩ => ⟨δ', M', B', (s1.trans s2).trans s, r, c', z⟩⟩
    · exact cV.mono (s1.trans s2) z
    · exact cN.mono (s1.trans s2) z
  | false => exact (if_neg Bool.false_ne_true).mpr ⟨δ1, M2, B2, s1.trans s2, rs1.mono s2, c2, q.2 rfl⟩
theorem os_while {c : Expr} (g : XF X G N sc) (J : Nat → OE → Int → Prop) (k : Nat) (h0 : J k ε n) (step : ∀ k ε n, J k ε n → oC X c ε n fun b n1 => (b = true → oSs X sts { nx := fun ε' n' => ∃ k', k' < k ∧ J k' ε' n', rt := A.rt, bk := A.nx, ct := fun ε' n' => ∃ k', k' < k ∧ J k' ε' n' } ε n1) ∧ (b = false → A.nx ε n1)) : oS X (.While c sts [] pos) A ε n := .mk fun P M0 δ M r => by
  refine as_while g (fun k => lN P M0 (J k)) ⟨ε, n, r, h0⟩ fun k δ M ⟨ε', n', r', j⟩ => (step k ε' n' j P M0 δ M r').imp fun b M1 ⟨n1, r1, q1, q2⟩ => ⟨fun z => aSs.imp (q1 z P M0 δ M1 r1) (fun δ2 M2 ⟨ε2, n2, r2, k', hk, j'⟩ => ⟨k', hk, ε2, n2, r2, j'⟩) (fun _ _ z => z) (fun _ _ z => z) (fun δ2 M2 ⟨ε2, n2, r2, k', hk, j'⟩ => ⟨k', hk, ε2, n2, r2, j'⟩), fun z => ⟨ε', n1, r1, q2 z⟩⟩
/-! ### stores into own lists -/
theorem os_setIx (g : XD X G N sc) (i : Nat) {ix : Expr} {p1 p2 : Pos} {ds : List D} {k : Int} {j : Nat} (h : oE X e ε n fun ov n' => ∃ d, ov = .v d ∧ A.nx (ε.set i (some (.l (ds.set j d)))) n') (hx : oV X ix ε (.int k)) (hj : ixN ds.length k = some j) (hN : N[i]? = some x := by rfl) (hi : ε[i]? = some (some (.l ds)) := by rfl) (hv : visB sc x = true := by rfl) (hd : (x == ("__debug__" : Str)) = false := by decide) (hcd : (x == ("__classdict__" : Str)) = false := by decide)
    (ha : ∀ v, assign (.Subscript (.Name x p1) ix p2) X.env v = (do
      let ov ← holding [v] (eval (.Name x p1) X.env)
      let iv ← holding [v, ov] (eval ix X.env)
      standAt p2
      holding [v, ov, iv] (setItem ov iv v)
      release [v, ov, iv] []) := by intro _; rfl) (hs : swapsWithSole [.Subscript (.Name x p1) ix p2] e pos.line X.env = pure false := by rfl) (hw : swappedStores [.Subscript (.Name x p1) ix p2] e X.env = pure none := by rfl) (h1 : (assignEach [.Subscript (.Name x p1) ix p2] X.env).map (·.2) = [assign (.Subscript (.Name x p1) ix p2) X.env] := by rfl) : oS X (.Assign [.Subscript (.Name x p1) ix p2] e pos) A ε n := .mk fun P M0 δ M r => by
  obtain ⟨q, h2, h3, h4⟩ := r.at_l hi
  refine as_asg ((h P M0 δ M r).imp fun d2 M2 ⟨ov, n', r', v, d, e2, z⟩ => ag_setL (av_name g.toXF i h2 hN hv hd hcd _ (hx P M0 n' δ M2 r' _ ?_)) ha) hs hw h1
  subst e2
  have v : d2 = d := v
  subst v
  obtain ⟨k1, k2, r2⟩ := r'.upd hi h2 rfl (o' := .l (ds.set j d2)) rfl
  exact ⟨q, ds, k, j, rfl, rfl, k1, hj, _, n', r2, z⟩
end Ab
/-! sorted(set(xs)) of ints. -/
namespace Ab
open PySem PySem.Spec PyProof.Rows L2
def newSet (w : World) : Obj := { cls := .type "set", dict := none, data := .set #[] 0 (.fresh 0 0 (!w.params.followText "set-order")) }
section
variable {P : Program} {w : World} {A : Around} {E : Value → Shared → Prop} {s : Shared}
/-- the items of a list into a new set -/
theorem fill_set {l : Addr} {items : Array Value} {ns : List Int} (hh : A.handled = none) {h0 : Heap} (hs : s.heap = h0.push (newSet w)) (hl : h0.IsList l items) (hi : IntsAre items.toList ns) (hb : ns.length + 1 < scanBound) {R : Result → Shared → Prop}
    (q : ∀ h' tk c, SetR w h' h0.objs.size (fun j => decide (j ∈ ns)) c → c ≤ ns.length → (∀ b o, h0.get? b = some o → h'.get? b = some o) → R (.ok (.ret .none)) { s with heap := h', toks := tk }) :
    codeAny (model P w) A (.builtin "set.update.loop" ⟨[.ref h0.objs.size, .ref (h0.objs.size + 1)], []⟩) R { s with heap := s.heap.push { cls := .type "list_iterator", data := .fields #[.ref l, .int 0 0] } } := by
  obtain ⟨ol, hol, hcl, nl, hdl⟩ := id hl
  have z1 : s.heap.objs.size = h0.objs.size + 1 := by rw [hs]; exact Heap.size_push ..
  have ll : l < h0.objs.size := Heap.lt_size hol
  have hS1 : s.heap.get? h0.objs.size = some (newSet w) := by rw [hs]; exact Heap.get?_push_size _ rfl
  have cnt : items.size = ns.length := by rw [← Array.length_toList]; exact IntsAre.length hi
  have hI : (s.heap.push { cls := .type "list_iterator", data := .fields #[.ref l, .int 0 0] }).get? (h0.objs.size + 1) = some { cls := .type "list_iterator", data := .fields #[.ref l, .int 0 0] } := by rw [← z1]; exact Heap.get?_push_size _ rfl
  have W := (Walks.list (prog := P) (w := w) (A := A.in1) (by simp [hh]) (h0.objs.size + 1) l (Nat.ne_of_lt (Nat.lt_succ_of_lt ll)) items).toS
  refine set_update_ints W h0.objs.size (by simp; exact Nat.ne_of_gt ll) ns cnt hb (fun i v hv => ?_) (items.size - 0) 0 _ (by omega) (Nat.zero_le _) ⟨⟨_, hI, rfl, rfl⟩, ?_⟩ ⟨0, Nat.le_refl 0, setR_new_at (Heap.get?_push_of_some _ hS1)⟩ fun s' c mv hc hR => ?_
  · have lt : i < ns.length := by rw [← cnt]; exact (Array.getElem?_eq_some_iff.mp hv).1
    obtain ⟨t, e⟩ := IntsAre.int_at hi i v (by rw [Array.getElem?_toList]; exact hv)
    exact ⟨ns[i], t, List.getElem?_eq_getElem lt, by rw [e, List.getD_eq_getElem?_getD, List.getElem?_eq_getElem lt]; rfl⟩
  · refine Heap.IsList.push ?_ _
    show s.heap.IsList l items
    rw [hs]; exact hl.push _
  · obtain ⟨h', g2, d2, tk, o2⟩ := s'
    have eg : g2 = s.gens := mv.gens
    have ed : d2 = s.drawn := mv.drawn
    have eo : o2 = s.os := mv.os
    subst eg; subst ed; subst eo
    rw [cnt] at hc
    refine q h' tk c hR hc fun b o e => ?_
    have b0 : b < h0.objs.size := Heap.lt_size e
    refine mv.heap b o (by simp; exact ⟨Nat.ne_of_lt b0, Nat.ne_of_lt (Nat.lt_succ_of_lt b0)⟩) (Heap.get?_push_of_some _ ?_)
    show s.heap.get? b = some o
    rw [hs]; exact Heap.get?_push_of_some _ e
/-- set(xs) of a list of ints -/
theorem run_set {l : Addr} {items : Array Value} {ns : List Int} {Q : Value → Shared → Prop} (hh : A.handled = none) (hl : s.heap.IsList l items) (hi : IntsAre items.toList ns) (hb : ns.length + 1 < scanBound)
    (q : ∀ h' tk c, SetR w h' s.heap.objs.size (fun j => decide (j ∈ ns)) c → c ≤ ns.length → (∀ b o, s.heap.get? b = some o → h'.get? b = some o) → Q (.ref s.heap.objs.size) { s with heap := h', toks := tk }) : wpAny (model P w) A (call (.type "set") [.ref l]) Q E s := by
  obtain ⟨_, _, mro⟩ := F.called_set.mro
  have k1 := F.called_set.notType
  have k2 := F.called_set.canCreate
  have k3 := F.called_set.made
  have k4 := F.called_set.sub
  have k5 := F.typeCall_set_1 (.ref l)
  refine wpAny_call <| codeAny_of_tree <| show wpAny _ _ (callAny (.type "set") _) _ _ _ from wpAny_pure ⟨Code.quiet_builtin _ (by decide +kernel), codeAny_builtin F.entry_type_call ?_⟩
  rw [Around.under_plain (weight_type_call_type "set" [.ref l] []) rfl]
  repeat any_goals first | assumption | wp_step
  refine codeAny_mono (code_set_led1 (.ref l) (E := E) (Q₁ := fun v s1 => v = .ref s.heap.objs.size ∧ s1 = { s with heap := s.heap.push (newSet w) }) ⟨rfl, rfl⟩) fun r s1 hr => ?_
  match r, hr with
  | .error e, hr => exact hr
  | .ok (.ret v), hr =>
    obtain ⟨rfl, rfl⟩ := hr
    have at0 : (s.heap.push (newSet w)).get? s.heap.objs.size = some (newSet w) := Heap.get?_push_size _ rfl
    have ty : Shared.TypeIs { s with heap := s.heap.push (newSet w) } (.ref s.heap.objs.size) "set" := ⟨_, at0, rfl⟩
    have k6 := F.called_set.init.lookup
    have k7 := F.called_set.init.bind (.ref s.heap.objs.size)
    repeat any_goals first | assumption | wp_step
    refine codeAny_mono (codeAny_call_builtin (R := wants (fun r s2 => r = .none ∧ ∃ h' tk c, s2 = { s with heap := h', toks := tk } ∧ SetR w h' s.heap.objs.size (fun j => decide (j ∈ ns)) c ∧ c ≤ ns.length ∧ ∀ b o, s.heap.get? b = some o → h'.get? b = some o) E) F.called_set.init.plain F.entry_set_init (check_set_init_1 ty ?_)) fun r2 s2 hr2 => ?_
    · obtain ⟨⟨c1, d1, e1, f1⟩, g1, g2, g3, g4⟩ := id hl
      simp only at g2 g4
      subst g2; subst g4
      have at1 : (s.heap.push (newSet w)).get? l = some { cls := .type "list", dict := d1, data := .seq items g3, slots := f1 } := Heap.get?_push_of_some _ g1
      have l1 : (s.heap.push (newSet w)).IsList l items := ⟨_, at1, rfl, g3, rfl⟩
      have k8 := F.sub_list_set
      have k9 := F.sub_list_frozenset
      have k10 : (Value.type "list" == Value.type "dict") = false := by decide
      unfold Builtin.«set.__init__» noKeywords Builtin.Frozenset.updateFrom
      generalize hP : pyIter = it
      wp_walk
      subst hP
      refine wpAny_pyIter_list l1 (wpAny_bind (wpAny_runValue ?_))
      have ez : (s.heap.push (newSet w)).objs.size = s.heap.objs.size + 1 := Heap.size_push ..
      rw [ez]
      exact fill_set (P := P) (w := w) (A := A.in1.in1) (s := { s with heap := s.heap.push (newSet w) }) (by simp [hh]) rfl hl hi hb fun h' tk c a1 a2 a3 => wpAny_pure (wpAny_pure ⟨rfl, h', tk, c, rfl, a1, a2, a3⟩)
    · match r2, hr2 with
      | .error e, hr2 => exact hr2
      | .ok (.ret v), hr2 =>
        obtain ⟨rfl, h', tk, c, rfl, a1, a2, a3⟩ := hr2
        repeat any_goals first | assumption | wp_step
        exact q _ _ _ a1 a2 a3
end
/-! ### ascending, each once -/
def insU (x : Int) : List Int → List Int
  | [] => [x]
  | y :: r => if x < y then x :: y :: r else if x = y then y :: r else y :: insU x r
def ordI : List Int → List Int
  | [] => []
  | x :: r => insU x (ordI r)
theorem mem_insU {x k : Int} : ∀ {l : List Int}, k ∈ insU x l ↔ k = x ∨ k ∈ l
  | [] => by simp [insU]
  | y :: r => by
    unfold insU
    split
    · simp
    · split
      · rename_i h; subst h; simp
      · rw [List.mem_cons, mem_insU, List.mem_cons]
        constructor
        · rintro (h | h | h)
          · exact .inr (.inl h)
          · exact .inl h
          · exact .inr (.inr h)
        · rintro (h | h | h)
          · exact .inr (.inl h)
          · exact .inl h
          · exact .inr (.inr h)
theorem insU_asc {x : Int} : ∀ {l : List Int}, l.Pairwise (· < ·) → (insU x l).Pairwise (· < ·)
  | [], _ => by simp [insU]
  | y :: r, h => by
    have h1 := List.pairwise_cons.mp h
    unfold insU
    split
    · rename_i q
      refine List.pairwise_cons.mpr ⟨fun z hz => ?_, h⟩
      rcases List.mem_cons.mp hz with rfl | hz
      · exact q
      · exact Int.lt_trans q (h1.1 z hz)
    · split
      · exact h
      · refine List.pairwise_cons.mpr ⟨fun z hz => ?_, insU_asc h1.2⟩
        rcases mem_insU.mp hz with rfl | hz
        · omega
        · exact h1.1 z hz
theorem mem_ordI {k : Int} : ∀ {l : List Int}, k ∈ ordI l ↔ k ∈ l
  | [] => by simp [ordI]
  | x :: r => by rw [ordI, mem_insU, mem_ordI, List.mem_cons]
theorem ordI_asc : ∀ l : List Int, (ordI l).Pairwise (· < ·)
  | [] => .nil
  | x :: r => insU_asc (ordI_asc r)
theorem asc_ext : ∀ {l m : List Int}, l.Pairwise (· < ·) → m.Pairwise (· < ·) → (∀ k, k ∈ l ↔ k ∈ m) → l = m
  | [], [], _, _, _ => rfl
  | [], y :: m, _, _, h => absurd ((h y).mpr (by simp)) (by simp)
  | x :: l, [], _, _, h => absurd ((h x).mp (by simp)) (by simp)
  | x :: l, y :: m, hl, hm, h => by
    have h1 := List.pairwise_cons.mp hl
    have h2 := List.pairwise_cons.mp hm
    have e : x = y := by
      rcases List.mem_cons.mp ((h x).mp (by simp)) with q | q
      · exact q
      · rcases List.mem_cons.mp ((h y).mpr (by simp)) with z | z
        · exact z.symm
        · have a := h2.1 x q
          have b := h1.1 y z
          omega
    subst e
    rw [asc_ext h1.2 h2.2 fun k => ?_]
    constructor
    · intro hk
      rcases List.mem_cons.mp ((h k).mp (List.mem_cons_of_mem _ hk)) with q | q
      · have := h1.1 k hk; omega
      · exact q
    · intro hk
      rcases List.mem_cons.mp ((h k).mpr (List.mem_cons_of_mem _ hk)) with q | q
      · have := h2.1 k hk; omega
      · exact q
theorem nodup_le : ∀ {l m : List Int}, l.Nodup → (∀ x ∈ l, x ∈ m) → l.length ≤ m.length
  | [], m, _, _ => Nat.zero_le _
  | x :: l, m, h, hs => by
    have h1 := List.nodup_cons.mp h
    obtain ⟨a, b, rfl⟩ := List.append_of_mem (hs x (by simp))
    have z := nodup_le (l := l) (m := a ++ b) h1.2 fun y hy => by
      have q := hs y (List.mem_cons_of_mem _ hy)
      have ne : y ≠ x := fun e => h1.1 (e ▸ hy)
      simp only [List.mem_append, List.mem_cons] at q ⊢
      rcases q with q | q | q
      · exact .inl q
      · exact absurd q ne
      · exact .inr q
    simp only [List.length_append, List.length_cons] at z ⊢
    omega
theorem asc_nodup {l : List Int} (h : l.Pairwise (· < ·)) : l.Nodup := h.imp fun z e => by omega
theorem SetR.size {w : World} {h : Heap} {a : Addr} {S : Int → Bool} {n : Nat} (R : SetR w h a S n) {us : List Int} (hu : ∀ k, S k = true → k ∈ us) : n ≤ us.length := by
  obtain ⟨o, es, ep, t, _, _, _, _, nd, hm, _, _, hn, _⟩ := R
  have z := nodup_le nd (m := us) fun k hk => hu k ((hm k).mpr hk)
  rw [List.length_map, Array.length_toList, hn] at z
  exact z
section
variable {X : Cx}
def rSetI (K : PySem.W.Frag) (w : World) : List V → Hp → VK → Prop := fun xs H Q => ∃ (a : Addr) (ns : List Int), xs = [.ref a] ∧ SqL K H a (ns.map V.int) ∧ ns.length < 4000 ∧ ∀ p c, H p = none → (∀ us : List Int, (∀ k ∈ ns, k ∈ us) → c ≤ us.length) → Q (.ref p) (upd H p (SetO w p (fun j => decide (j ∈ ns)) c))
theorem cr_setI (hc : X.calm = true) : CallR X (.type "set") (rSetI X.K X.w) := by
  intro pins s σ H xs us Q I r h
  obtain ⟨a, ns, rfl, hs, hl, q⟩ := h
  obtain ⟨its, rv, pl, hz⟩ := I.list hs
  rw [Vals.ref1 r]
  refine run_set (I.ok.hd hc) pl.isList (ns := ns) (by simpa using rv.ints) (by unfold scanBound; omega) fun h' tk c R _ k => ?_
  exact ⟨.ref _, _, I.laid (t' := tk) k (Nat.le_refl _) (setO_new R), rfl, q _ c (I.hok.fresh (Nat.le_refl _)) fun us hu => SetR.size R fun j z => hu j (of_decide_eq_true z)⟩
variable {e : Expr} {es : List Expr} {δ : DE} {M : AHp} {Q : DK} {G : Gx} {N : List Str} {sc : Scope} {pos : Pos} {d : D}
theorem a_setI {ns : List Int} (hi : ListD M d (ns.map D.int)) (hl : ns.length < 4000) (q : ∀ p c, M p = none → (∀ us : List Int, (∀ k ∈ ns, k ∈ us) → c ≤ us.length) → Q (.adr p) (updM M p (.raw (SetO X.w p (fun j => decide (j ∈ ns)) c)))) : aC (rSetI X.K X.w) [d] M Q := fun xs B H Q2 rx c kk => by
  cases rx with
  | cons r1 r2 =>
    cases r2
    obtain ⟨a, vs, rfl, ha, rv⟩ := hi.at_ r1 c
    have e := reps_ints rv
    subst e
    refine ⟨a, ns, rfl, .inl (.inl ha), hl, fun p n hp hn => ?_⟩
    exact kk _ _ _ _ _ (Same.refl _) (.adr p) (c.newM (.raw _) hp ⟨upd_same, fun x z => (nomatch z)⟩) (q p n (c.none hp) hn)
theorem a_sortS {p : Addr} {ns : List Int} {n : Nat} (hp : M p = some (.raw (SetO X.w p (fun j => decide (j ∈ ns)) n))) (h64 : n < 64) (q : Q (.lst ((ordI ns).map D.int)) M) : aC (rSortedSet X.w) [.adr p] M Q := fun xs B H Q2 rx c kk => by
  cases rx with
  | cons r1 r2 =>
    cases r2
    cases r1
    refine ⟨p, _, n, rfl, (c.m p _ hp).2.1, h64, fun ms l ha hm hn hl => ?_⟩
    have e : ms = ordI ns := asc_ext ha (ordI_asc ns) fun k => by rw [hm k, mem_ordI]; simp
    subst e
    obtain ⟨s1, c1⟩ := c.newI (.lst ((ordI ns).map V.int)) hl
    exact kk _ _ _ _ _ s1 (.lst upd_same (reps_of_ints _)) c1 q
end
variable {X : Cx} {e : Expr} {ε : OE} {G : Gx} {N : List Str} {sc : Scope} {pos p1 p2 q2 : Pos} {d : D}
/-- sorted(set(e)) -/
theorem ov_ordI (g : XF X G N sc) (ms : G.mg "sorted" = none) (mt : G.mg "set" = none) {u : OV} {ns : List Int} (he : oX X e ε u) (hu : ListO u (ns.map D.int)) (hl : ns.length < 4000) (h64 : ∃ us : List Int, us.length < 64 ∧ ∀ k ∈ ns, k ∈ us)
    (hg1 : sc.names.lookup ("sorted" : Str) = some .globalImplicit := by rfl) (hg2 : sc.names.lookup ("set" : Str) = some .globalImplicit := by rfl) (he1 : starEach [.Call (.Name "set" p2) [e] [] q2] X.env = (false, eval (.Call (.Name "set" p2) [e] [] q2) X.env) :: starEach [] X.env := by rfl) (he2 : starEach [e] X.env = (false, eval e X.env) :: starEach [] X.env := by rfl) (hp : (backTo pos (starEach [] X.env)).any (·.1) = false := by rfl) (hp2 : (backTo q2 (starEach [] X.env)).any (·.1) = false := by rfl) :
    oV X (.Call (.Name "sorted" p1) [.Call (.Name "set" p2) [e] [] q2] [] pos) ε (.lst ((ordI ns).map D.int)) := .mk fun P M0 n δ M r Q hQ => by
  obtain ⟨dv, h1, k1⟩ := he P M0 n δ M r
  obtain ⟨us, hus, sub⟩ := h64
  refine ae_forget (ae_callB g (cr_sortedSet g.calm) ms (by rfl) (aa_cons (ae_callTy g (cr_setI g.calm) mt (by rfl) (aa_cons (h1 _ (aa_nil (a_setI (hu.d k1) hl fun a c ha hc => aa_nil (a_sortS updM_same (by have := hc us sub; omega) ⟨fun b o z => ?_, hQ⟩)))) he2) hg2 (by decide) (by decide) he2 hp2) he1) hg1 (by decide) (by decide) he1 hp)
  rw [updM_ne (neM z ha)]; exact z
end Ab
/-! More rules over names by value. -/
namespace Ab
open PySem PySem.Spec PyProof.Rows L2
/-! ### slices with any ends -/
def cutZ {α : Type} (xs : List α) (lo hi : Option Int) : List α := (xs.drop (HT.sIx xs.length 0 lo)).take (HT.sIx xs.length xs.length hi - HT.sIx xs.length 0 lo)
theorem cutZ_reps {B : Hp} {vs : List V} {ds : List D} (r : Reps B vs ds) (lo hi : Option Int) : Reps B (cutV vs lo hi) (cutZ ds lo hi) := by
  unfold cutV cutZ
  rw [← r.length]
  exact (r.drop _).take _
theorem cutZ_map {α β : Type} (f : α → β) (xs : List α) (lo hi : Option Int) : cutZ (xs.map f) lo hi = (cutZ xs lo hi).map f := by
  unfold cutZ
  rw [List.length_map, List.map_take, List.map_drop]
variable {X : Cx} {e a b o : Expr} {es : List Expr} {st : Stmt} {sts : List Stmt} {ε : OE} {n : Int} {Q : OV → Int → Prop} {A : OEnds} {G : Gx} {N : List Str} {sc scope : Scope} {pos p2 : Pos} {x m : Str} {d d' : D}
inductive CutI (X : Cx) (ε : OE) : Option Expr → Option Int → Prop
  | no : CutI X ε none none
  | at_ {a : Expr} {i : Int} : oV X a ε (.int i) → CutI X ε (some a) (some i)
theorem CutI.run {oe : Option Expr} {k : Option Int} (h : CutI X ε oe k) {P M0 δ M} (r : Rl P M0 n ε δ M) {σ : L2.St} {H B : Hp} (rs : RepS B σ δ) (c : Cf B M H) {Q2 : Option Int → Hp → Prop} (q : ∀ B' H', Same B B' → Cf B' M H' → Q2 k H') : wP X oe σ H Q2 := by
  cases h with
  | no => exact q B H (Same.refl _) c
  | @at_ a i ha =>
    refine (ha P M0 n δ M r).run rs c fun x B1 H1 s1 r1 c1 => ?_
    cases r1
    exact ⟨i, rfl, q B1 H1 s1 c1⟩
theorem ov_slZ {u : OV} {ds : List D} {lo hi : Option Expr} {i j : Option Int} (he : oX X e ε u) (hd : ListO u ds) (hl : CutI X ε lo i) (hh : CutI X ε hi j) : oV X (.Subscript e (.Slice lo hi none p2) pos) ε (.lst (cutZ ds i j)) := .mk fun P M0 n δ M r => by
  obtain ⟨dv, h1, k1⟩ := he P M0 n δ M r
  refine av_of (pe_slice sl_list pe_w po_w po_w) fun σ H B Q rs c k => h1.run rs c fun x B1 H1 s1 r1 c1 => hl.run r (rs.mono s1) c1 fun B2 H2 s2 c2 => hh.run r ((rs.mono s1).mono s2) c2 fun B3 H3 s3 c3 => ?_
  obtain ⟨p, xs, rfl, hx, hr⟩ := (hd.d k1).at_ ((r1.mono s2).mono s3) c3
  refine ⟨p, xs, rfl, .inl (.inl hx), fun q hq => ?_⟩
  obtain ⟨s4, c4⟩ := c3.newI (.lst (cutV xs i j)) hq
  exact k _ _ _ (((s1.trans s2).trans s3).trans s4) (.lst upd_same ((cutZ_reps hr i j).mono s4)) c4
theorem ov_slT {ds : List D} {lo hi : Option Expr} {i j : Option Int} (he : oV X e ε (.tup ds)) (hl : CutI X ε lo i) (hh : CutI X ε hi j) : oV X (.Subscript e (.Slice lo hi none p2) pos) ε (.tup (cutZ ds i j)) := .mk fun P M0 n δ M r => by
  refine av_of (pe_slice sl_tupA pe_w po_w po_w) fun σ H B Q rs c k => (he P M0 n δ M r).run rs c fun x B1 H1 s1 r1 c1 => hl.run r (rs.mono s1) c1 fun B2 H2 s2 c2 => hh.run r ((rs.mono s1).mono s2) c2 fun B3 H3 s3 c3 => ?_
  have r3 := (r1.mono s2).mono s3
  cases r3 with
  | @tup p xs _ hx hr =>
    refine ⟨p, xs, rfl, .inl (.inl (c3.ex _ _ hx)), fun hw => ?_, fun hw q hq => ?_⟩
    · refine k _ _ _ ((s1.trans s2).trans s3) (.tup hx ?_) c3
      have z := cutZ_reps hr i j
      have e : cutV xs i j = xs := by
        unfold cutV
        rw [hw.1, hw.2, List.drop_zero, Nat.sub_zero, List.take_length]
      rw [e] at z
      exact z
    · obtain ⟨s4, c4⟩ := c3.newI (.tup (cutV xs i j)) hq
      exact k _ _ _ (((s1.trans s2).trans s3).trans s4) (.tup upd_same ((cutZ_reps hr i j).mono s4)) c4
/-! ### x += ys -/
theorem os_augL (g : XD X G N sc) (i : Nat) {pos' : Pos} {ds : List D} (h : oE X e ε n fun ov n' => ∃ es, ov = .v (.lst es) ∧ ds.length + es.length ≤ 100000 ∧ A.nx (ε.set i (some (.l (ds ++ es)))) n') (hN : N[i]? = some x := by rfl) (hi : ε[i]? = some (some (.l ds)) := by rfl) (hv : locB sc x = true := by rfl) : oS X (.AugAssign (.Name x pos') .Add e pos) A ε n := .mk fun P M0 δ M r σ H B rs c => by
  obtain ⟨q, h1, h2, h3⟩ := r.at_l hi
  obtain ⟨v, hv1, hv2⟩ := rs.at_ i _ h1
  cases hv2
  refine wS_of (ps_aug (ti := rExt2) (i := i) g.nd (by rw [g.hN]; exact hN) (by rw [g.hsc]; exact loc_of hv) pe_w iop_ext (.inl (g.fn x))) ⟨_, hv1, (h P M0 δ M r).run rs c fun w d2 M2 B2 H2 s2 r2 c2 ⟨ov, n', r', ovr, es, e2, hl, z⟩ => ?_⟩
  subst e2
  have ovr : d2 = _ := ovr
  subst ovr
  cases r2 with
  | @lst b zs _ hb hr =>
    obtain ⟨k1, k2, r3⟩ := r'.upd hi h1 rfl (o' := .l (ds ++ es)) rfl
    obtain ⟨bq, xs, hx, rx⟩ := c2.m q _ k1
    refine ⟨q, b, xs, zs, rfl, rfl, hx, c2.ex _ _ hb, by rw [rx.length, hr.length]; exact Nat.le_trans hl (by decide), ?_⟩
    have c4 := c2.set (o := .lst (xs ++ zs)) (.lst (ds ++ es)) k1 (noOwn c2 k1 fun _ z => (nomatch z)) ⟨_, upd_same, rx.append hr⟩
    refine ⟨δ, _, B2, s2, ?_, c4, _, n', r3, z⟩
    have y := (rs.mono s2).set (i := i) (Rep.adr q)
    have e : δ.set i (some (.adr q)) = δ := by
      refine List.ext_getElem? fun j => ?_
      by_cases qq : i = j
      · subst qq
        rw [List.getElem?_set_self (List.getElem?_eq_some_iff.mp h1).1]
        exact h1.symm
      · rw [List.getElem?_set_ne qq]
    rw [e] at y
    exact y
/-! ### dicts that change no more -/
theorem Rl.frzK {P : Option Addr} {M0 M : AHp} {δ : DE} {i : Nat} {q : Addr} {kvs : List (Key × D)} (r : Rl P M0 n ε δ M) (hi : ε[i]? = some (some (.k kvs))) (hd : δ[i]? = some (some (.adr q))) : Rl P M0 n (ε.set i (some (.v (.dic kvs)))) (δ.set i (some (.dic kvs))) (delM M q) := by
  obtain ⟨ad, a⟩ := r.ad
  have z := a.at_ i _ hi
  rw [hd] at z
  have z : some (some (D.adr q)) = some (some (.adr (ad i))) := z
  cases z
  obtain ⟨h1, h2⟩ := a.own i _ _ hi rfl
  have f : Free M0 (ε.set i none) δ (ad i) := ⟨h2, fun j o m e hm y => by
    rcases get_set e with ⟨rfl, e, hl⟩ | ⟨ne, e⟩
    · cases e
    · have cc : o.cc P (ad j) = .adr (ad j) := by cases o <;> first | rfl | cases hm
      have w := a.at_ j o e
      rw [cc, y] at w
      have w2 : ad i = ad j := by injection w with w; injection w with w; injection w with w
      exact ne (a.inj i j _ _ _ _ hi e rfl hm w2)⟩
  have r2 := ((r.drop i).del f (r.noP h2)).set_v i (.dic kvs)
  rw [List.set_set] at r2
  exact r2
theorem as_freezeK {X : Cx} {sts : List Stmt} {A : AEnds} {δ : DE} {M : AHp} (i : Nat) {p : Addr} {kvs : List (Key × D)} (hd : δ[i]? = some (some (.adr p))) (hm : M p = some (.dK kvs)) (h : aSs X sts A (δ.set i (some (.dic kvs))) (delM M p)) : aSs X sts A δ M := fun σ H B rs c => by
  obtain ⟨B', s, c', r⟩ := c.freezeK hm
  obtain ⟨v, h1, h2⟩ := rs.at_ i _ hd
  cases h2
  have z := (rs.mono s).set (i := i) r
  have e : σ.set i (some (.ref p)) = σ := by
    refine List.ext_getElem? fun j => ?_
    by_cases q : i = j
    · subst q
      rw [List.getElem?_set_self (List.getElem?_eq_some_iff.mp h1).1]
      exact h1.symm
    · rw [List.getElem?_set_ne q]
  rw [e] at z
  exact (h σ H B' z c').imp (cEnds.mono s)
theorem os_frzK (i : Nat) {kvs : List (Key × D)} (h : oSs X sts A (ε.set i (some (.v (.dic kvs)))) n) (hi : ε[i]? = some (some (.k kvs)) := by rfl) : oSs X sts A ε n := .mk fun P M0 δ M r =>
  let ⟨q, h1, h2, _⟩ := r.at_k hi; as_freezeK i h1 h2 (h P M0 _ _ (r.frzK hi h1))
theorem ov_dicget {j0 : Nat} {kvs : List (Key × D)} {k : Key} (hr : Room j0 X.A) (ho : oV X o ε (.dic kvs)) (hi : oV X b ε (dK k)) (hl : lookK kvs k = some d) (hs : NoSl b := by exact fun _ _ => rfl) : oV X (.Subscript o b pos) ε d := .mk fun P M0 n δ M r =>
  av_of (pe_dget (hu_of hr) pe_w pe_w hs) fun σ H B Q rs c kk => (ho P M0 n δ M r).run rs c fun x B1 H1 s1 r1 c1 => (hi P M0 n δ M r).run (rs.mono s1) c1 fun y B2 H2 s2 r2 c2 => by
    have r3 := r1.mono s2
    cases r3 with
    | @dic a ws _ h1 h2 =>
      have e := r2.key
      subst e
      obtain ⟨v, hv, rv⟩ := h2.val hl
      refine ⟨a, v, rfl, ?_, kk v B2 H2 (s1.trans s2) rv c2⟩
      have z := DGet.k (H := H2) (k := k) (c2.ex _ _ h1)
      rw [hv] at z
      exact z
end Ab
/-! enumerate, ranges downward, isinstance, products, max, min, dicts and tuples of the module, methods. -/
namespace Ab
open PySem PySem.Spec PyProof.Rows L2
variable {X : Cx} {e a b o : Expr} {es : List Expr} {st : Stmt} {sts : List Stmt} {ε : OE} {n : Int} {Q : OV → Int → Prop} {A : OEnds} {G : Gx} {N : List Str} {sc scope : Scope} {pos p2 p : Pos} {x m : Str} {d d' : D} {δ : DE} {M : AHp}
/-! ### enumerate of data -/
def enuD : Nat → List D → List D
  | _, [] => []
  | i, d :: r => .tup [.int (i : Int), d] :: enuD (i + 1) r
theorem enuD_get : ∀ {ds : List D} {k i : Nat}, (enuD k ds)[i]? = ds[i]?.map fun d => .tup [.int ((k + i : Nat) : Int), d]
  | [], k, i => by simp [enuD]
  | d :: r, k, 0 => by simp [enuD]
  | d :: r, k, i + 1 => by
    rw [enuD, List.getElem?_cons_succ, List.getElem?_cons_succ, enuD_get, show k + 1 + i = k + (i + 1) by omega]
theorem enuD_len : ∀ {ds : List D} {k : Nat}, (enuD k ds).length = ds.length
  | [], _ => rfl
  | d :: r, k => by rw [enuD, List.length_cons, List.length_cons, enuD_len]
theorem ai_enum {elts : List Expr} {kk : Nat} {tpos : Pos} {P : (AHp → Prop) → List D → AHp → Prop} {ds : List D} (g : XF X G N sc) (hm : G.mg "enumerate" = none) (h : aE X e δ M fun d M' => d = .lst ds ∧ P (fun _ => True) (enuD 0 ds) M') (hg : sc.names.lookup ("enumerate" : Str) = some .globalImplicit := by rfl) (hs : starEach [e] X.env = [(false, eval e X.env)] := by rfl) (hs2 : starEach (e :: []) X.env = (false, eval e X.env) :: starEach [] X.env := by rfl) : aI X (.Tuple elts kk tpos) (.Call (.Name "enumerate" p) [e] [] pos) δ M P := fun σ H B rs c R k =>
  wI_of (pi_enum (g.gl hg) (by rw [g.mg]; exact hm) pa_w hs) (aA.run (show aA X [e] δ M fun ds' M' => ds' = [.lst ds] ∧ P (fun _ => True) (enuD 0 ds) M' from aa_cons (h.imp fun d M' ⟨e1, q⟩ => aa_nil ⟨by rw [e1], q⟩) hs2) rs c fun vs ds' M' B' H' s r c' ⟨e1, q⟩ => by
    cases e1
    cases r with
    | cons r1 r2 =>
      cases r2
      cases r1 with
      | @lst a xs _ h1 h2 =>
        refine ⟨a, xs, rfl, .inl (.inl (c'.ex _ _ h1)), k _ _ B' _ _ _ s c' ⟨fun i B2 M2 H2 d s2 c2 _ hd => ?_, fun i B2 M2 H2 s2 c2 _ hl => ⟨xs, .inl (.inl (c2.ex _ _ (s2 _ _ h1))), ?_⟩⟩ q⟩
        · rw [enuD_get] at hd
          cases z : ds[i]? with
          | none => rw [z] at hd; cases hd
          | some y =>
            rw [z] at hd
            cases hd
            obtain ⟨v, hv, rv⟩ := h2.get z
            have hx : SqL X.K H2 a xs := .inl (.inl (c2.ex _ _ (s2 _ _ h1)))
            refine ⟨⟨xs, v, hx, hv⟩, fun w H3 ⟨T, y2, e2, hT, e3, hy⟩ => ?_⟩
            have ey := hy xs hx
            rw [hv] at ey
            cases ey
            subst e2; subst e3
            obtain ⟨s4, c4⟩ := c2.newI (.tup [.int ((i : Nat) : Int), v]) hT
            refine ⟨_, s4, c4, .tup upd_same (.cons ?_ (.cons ((rv.mono s2).mono s4) .nil))⟩
            rw [show 0 + i = i by omega]
            exact .int _
        · rw [h2.length]; rw [enuD_len] at hl; exact hl) 
theorem oit_enum {elts : List Expr} {kk : Nat} {tpos : Pos} {K : List D → Int → Prop} {ds : List D} (g : XF X G N sc) (hm : G.mg "enumerate" = none) (h : oV X e ε (.lst ds)) (q : K (enuD 0 ds) n) (hg : sc.names.lookup ("enumerate" : Str) = some .globalImplicit := by rfl) (hs : starEach [e] X.env = [(false, eval e X.env)] := by rfl) (hs2 : starEach (e :: []) X.env = (false, eval e X.env) :: starEach [] X.env := by rfl) : oIT X (.Tuple elts kk tpos) (.Call (.Name "enumerate" p) [e] [] pos) ε n K := .mk fun P M0 δ M r =>
  ai_enum g hm (h P M0 n δ M r _ ⟨rfl, fun _ => trivial, n, r, q⟩) hg hs hs2
theorem os_enum {elts : List Expr} {kk : Nat} {tpos : Pos} {ds : List D} (g : XF X G N sc) (hm : G.mg "enumerate" = none) (h : oV X e ε (.lst ds)) (hg : sc.names.lookup ("enumerate" : Str) = some .globalImplicit := by rfl) (hs : starEach [e] X.env = [(false, eval e X.env)] := by rfl) (hs2 : starEach (e :: []) X.env = (false, eval e X.env) :: starEach [] X.env := by rfl) : oSrc X (.Tuple elts kk tpos) (.Call (.Name "enumerate" p) [e] [] pos) ε (enuD 0 ds) := .mk fun P M0 n δ M r P1 q =>
  ai_enum g hm (h P M0 n δ M r _ ⟨rfl, q _ fun _ _ => trivial⟩) hg hs hs2
/-! ### range(i, j, -1) -/
def rgN (i : Int) (n : Nat) : List D := (List.range n).map fun (k : Nat) => D.int (i - k)
theorem rgN_get {i : Int} {n k : Nat} {d : D} (h : (rgN i n)[k]? = some d) : k < n ∧ d = .int (i - k) := by
  unfold rgN at h
  rw [List.getElem?_map] at h
  cases z : (List.range n)[k]? with
  | none => rw [z] at h; cases h
  | some y =>
    rw [z] at h
    have h1 := (List.getElem?_eq_some_iff.mp z).1
    rw [List.length_range] at h1
    rw [List.getElem?_range h1] at z
    cases z
    cases h
    exact ⟨h1, rfl⟩
theorem rgN_len {i : Int} {n : Nat} : (rgN i n).length = n := by unfold rgN; simp
theorem oit_dn {tg c : Expr} {K : List D → Int → Prop} {i j : Int} (g : XF X G N sc) (hm : G.mg "range" = none) (ha : oV X a ε (.int i)) (hb : oV X b ε (.int j)) (hc : oV X c ε (.int (-1))) (hh : -(2 ^ 62) ≤ i ∧ i < 2 ^ 62 ∧ -(2 ^ 62) ≤ j ∧ j < 2 ^ 62) (q : K (rgN i (i - j).toNat) n) (hg : sc.names.lookup ("range" : Str) = some .globalImplicit := by rfl) (hpl : (backTo pos (starEach [b, c] X.env)).any (·.1) = false := by rfl) (hs0 : starEach (a :: [b, c]) X.env = (false, eval a X.env) :: starEach [b, c] X.env := by rfl) (hs1 : starEach (b :: [c]) X.env = (false, eval b X.env) :: starEach [c] X.env := by rfl) (hs2 : starEach (c :: []) X.env = (false, eval c X.env) :: starEach [] X.env := by rfl) : oIT X tg (.Call (.Name "range" p) [a, b, c] [] pos) ε n K := .mk fun P M0 δ M r σ H B rs cf R k =>
  wI_of (pi_range3 (g.gl hg) (by rw [g.mg]; exact hm) pa_w hs0 hpl) (aA.run (show aA X [a, b, c] δ M fun ds M' => ds = [.int i, .int j, .int (-1)] ∧ M' = M from aa_cons (ha P M0 n δ M r _ (aa_cons (hb P M0 n δ M r _ (aa_cons (hc P M0 n δ M r _ (aa_nil ⟨rfl, rfl⟩)) hs2)) hs1)) hs0) rs cf fun vs ds M' B' H' s rv c' ⟨e1, e2⟩ => by
    cases e1
    subst e2
    cases rv with
    | cons r1 rv => cases rv with
      | cons r2 rv => cases rv with
        | cons r3 rv =>
          cases rv; cases r1; cases r2; cases r3
          refine ⟨i, j, -1, _, rfl, RgC.neg hh.1 hh.2.1 hh.2.2.1 hh.2.2.2, k _ _ B' _ _ _ s c' ⟨fun l B2 M2 H2 d s2 c2 _ hd => ?_, fun l B2 M2 H2 s2 c2 _ hl => by rw [rgN_len] at hl; exact hl⟩ ⟨fun _ => trivial, n, r, q⟩⟩
          obtain ⟨h1, h2⟩ := rgN_get hd
          subst h2
          refine ⟨h1, fun x H3 ⟨e1, e2⟩ => ?_⟩
          subst e1 e2
          rw [show i + (l : Int) * -1 = i - l by omega]
          exact ⟨B2, Same.refl _, c2, .int _⟩)
/-! ### xs * k -/
theorem bv_rep {u : OV} {xs : List D} {k : Int} (h1 : ListO u xs) (hk : -(2 ^ 63) ≤ k ∧ k < 2 ^ 63) (hl : xs.length * k.toNat ≤ 1000000) : BinV X .Mult u (.v (.int k)) (.lst (List.replicate k.toNat xs).flatten) := ⟨_, op_rep, fun M da db ka kb x y B H Q2 ra rb c kk => by
  have kb : db = _ := kb
  subst kb
  cases rb
  obtain ⟨a, vs, rfl, ha, rv⟩ := (h1.d ka).at_ ra c
  refine ⟨a, k, vs, rfl, rfl, ha, hk.1, hk.2, by rw [rv.length]; exact Nat.le_trans hl (by decide), fun p hp => ?_⟩
  obtain ⟨s, c'⟩ := c.newI (.lst (List.replicate k.toNat vs).flatten) hp
  refine kk _ _ _ s (.lst upd_same ?_) c'
  have z : ∀ m : Nat, Reps B (List.replicate m vs).flatten (List.replicate m xs).flatten := fun m => by
    induction m with
    | zero => exact .nil
    | succ m ih => rw [List.replicate_succ, List.replicate_succ, List.flatten_cons, List.flatten_cons]; exact rv.append ih
  exact (z _).mono s⟩
/-! ### max(xs), min(xs) -/
def minOr (d : Int) : List Int → Int
  | [] => d
  | x :: r => r.foldl min x
theorem foldl_min (r : List Int) : ∀ x : Int, (r.foldl min x = x ∨ r.foldl min x ∈ r) ∧ r.foldl min x ≤ x ∧ ∀ y ∈ r, r.foldl min x ≤ y := by
  induction r with
  | nil => exact fun x => ⟨.inl rfl, Int.le_refl _, fun _ z => (nomatch z)⟩
  | cons a r ih =>
    intro x
    obtain ⟨h1, h2, h3⟩ := ih (min x a)
    rw [List.foldl_cons]
    refine ⟨?_, by omega, fun y hy => ?_⟩
    · rcases h1 with h | h
      · rw [h]
        by_cases z : x ≤ a
        · exact .inl (by omega)
        · exact .inr (by rw [show min x a = a by omega]; simp)
      · exact .inr (List.mem_cons_of_mem _ h)
    · rcases List.mem_cons.mp hy with rfl | hy
      · omega
      · exact h3 y hy
theorem minOr_spec {d m : Int} {ns : List Int} (hp : 0 < ns.length) (h1 : m ∈ ns) (h2 : ∀ y ∈ ns, m ≤ y) : m = minOr d ns := by
  cases ns with
  | nil => cases hp
  | cons x r =>
    obtain ⟨a, b, c⟩ := foldl_min r x
    show m = r.foldl min x
    have m1 : r.foldl min x ∈ x :: r := by
      rcases a with a | a
      · rw [a]; simp
      · exact List.mem_cons_of_mem _ a
    have := h2 _ m1
    rcases List.mem_cons.mp h1 with rfl | h1
    · omega
    · have := c m h1; omega
theorem minOr_mem {d : Int} {ns : List Int} (hp : ns ≠ []) : minOr d ns ∈ ns := by
  cases ns with
  | nil => exact absurd rfl hp
  | cons x r =>
    rcases (foldl_min r x).1 with a | a
    · show r.foldl min x ∈ _; rw [a]; simp
    · exact List.mem_cons_of_mem _ a
theorem minOr_le {d y : Int} {ns : List Int} (h : y ∈ ns) : minOr d ns ≤ y := by
  cases ns with
  | nil => cases h
  | cons x r =>
    obtain ⟨_, b, c⟩ := foldl_min r x
    rcases List.mem_cons.mp h with rfl | h
    · exact b
    · exact c y h
theorem maxOr_mem {d : Int} {ns : List Int} (hp : ns ≠ []) : maxOr d ns ∈ ns := by
  cases ns with
  | nil => exact absurd rfl hp
  | cons x r =>
    rcases (foldl_max r x).1 with a | a
    · show r.foldl max x ∈ _; rw [a]; simp
    · exact List.mem_cons_of_mem _ a
theorem cl_max {u : OV} {ns : List Int} (h : ListO u (ns.map D.int)) (hp : ns ≠ []) : CalV X (rMax X.K) [u] (.int (maxOr 0 ns)) := .one fun M d' k xs B H Q2 rx c kk => by
  cases rx with
  | cons r1 r2 =>
    cases r2
    obtain ⟨a, vs, rfl, ha, rv⟩ := (h.d k).at_ r1 c
    have e := reps_ints rv
    subst e
    refine ⟨a, ns, rfl, .inl (.inl ha), List.length_pos_iff.mpr hp, fun m h1 h2 => ?_⟩
    rw [maxOr_spec (d := 0) (List.length_pos_iff.mpr hp) h1 h2]
    exact kk _ B H (Same.refl _) (.int _) c
theorem cl_min {u : OV} {ns : List Int} (h : ListO u (ns.map D.int)) (hp : ns ≠ []) : CalV X (rMin X.K) [u] (.int (minOr 0 ns)) := .one fun M d' k xs B H Q2 rx c kk => by
  cases rx with
  | cons r1 r2 =>
    cases r2
    obtain ⟨a, vs, rfl, ha, rv⟩ := (h.d k).at_ r1 c
    have e := reps_ints rv
    subst e
    refine ⟨a, ns, rfl, .inl (.inl ha), List.length_pos_iff.mpr hp, fun m h1 h2 => ?_⟩
    rw [minOr_spec (d := 0) (List.length_pos_iff.mpr hp) h1 h2]
    exact kk _ B H (Same.refl _) (.int _) c
/-! ### things of the module -/
theorem ov_gl {C : Addr} (g : XF X G N sc) (hm : G.mg x = some (.ref C)) (hg : sc.names.lookup x = some .globalImplicit := by rfl) (hd : (x == ("__debug__" : Str)) = false := by decide) (hcd : (x == ("__classdict__" : Str)) = false := by decide) : oV X (.Name x pos) ε (.adr C) := .mk fun P M0 n δ M r =>
  av_of (pe_glob (g.gl hg) (by rw [g.mg]; exact hm) (show RelV (.ref C) (.ref C) from rfl) hd) fun σ H B Q rs c k => k _ B H (Same.refl _) (.adr C) c
/-- what a dict of the module says of a text -/
structure KDic (K : PySem.W.Frag) (w : World) (C : Addr) : Prop where
  ex : ∃ es n, K.lookup C = some ⟨.type "dict", none, .dict es n, #[]⟩ ∧ PySem.W.KeysLit w.params es.toList
  no : (C == sysModules) = false
def rInK (K : PySem.W.Frag) (w : World) (neg : Bool) : R2 := fun x y H Q => ∃ C z o, x = .str z ∧ y = .ref C ∧ KDic K w C ∧ PySem.W.nsIn K C z = some o ∧ Q (.bl (if neg then !o.isSome else o.isSome)) H
theorem op_inK : OpR X (compareOp .In) (rInK X.K X.w false) := by
  intro pins s σ H x y v u Q I rx ry h
  obtain ⟨C, z, o, rfl, rfl, ⟨⟨es, n, hl, hk⟩, hn⟩, e, q⟩ := h
  obtain ⟨t, rfl⟩ := rx
  cases ry
  have f := PySem.W.find_K hl e
  refine wpAny_in_of (strKind_is X.prog X.w z t) hn (PySem.W.mapOf_K (prog := X.prog) (w := X.w) I.kIn hl hk) ?_
  rw [f]
  exact ⟨.bl o.isSome, H, I.tok _, rfl, q⟩
theorem op_ninK : OpR X (compareOp .NotIn) (rInK X.K X.w true) := by
  intro pins s σ H x y v u Q I rx ry h
  obtain ⟨C, z, o, rfl, rfl, ⟨⟨es, n, hl, hk⟩, hn⟩, e, q⟩ := h
  obtain ⟨t, rfl⟩ := rx
  cases ry
  have f := PySem.W.find_K hl e
  refine wpAny_notIn_of (strKind_is X.prog X.w z t) hn (PySem.W.mapOf_K (prog := X.prog) (w := X.w) I.kIn hl hk) ?_
  rw [f]
  exact ⟨.bl (!o.isSome), H, I.tok _, rfl, q⟩
theorem cv_ninK {C : Addr} {z : Str} {o : Option Value} (g : XF X G N sc) (h : KDic G.K G.w C) (e : PySem.W.nsIn G.K C z = some o) : CmpV X .NotIn (.v (.str z)) (.v (.adr C)) (!o.isSome) := by
  obtain ⟨rfl, _⟩ := g
  exact ⟨_, op_ninK, fun M da db ka kb u v B H Q2 ra rb c kk => by
    have ka : da = _ := ka
    have kb : db = _ := kb
    subst ka; subst kb
    cases ra; cases rb
    exact ⟨C, z, o, rfl, rfl, h, e, kk _ B H (Same.refl _) (.bl _) c⟩⟩
theorem ov_getK {C : Addr} {z : Str} {i : Int} {t : Tok} (g : XF X G N sc) (h : KDic G.K G.w C) (e : PySem.W.nsIn G.K C z = some (some (.int i t))) (ha : oV X a ε (.adr C)) (hb : oV X b ε (.str z)) (hs : PlainIx b := by exact fun _ _ => rfl) : oV X (.Subscript a b pos) ε (.int i) := .mk fun P M0 n δ M r => by
  obtain ⟨rfl, _⟩ := g
  obtain ⟨es, k, h1, h2⟩ := h.ex
  exact av_ix ix_kdict (ha P M0 n δ M r) (hb P M0 n δ M r) (fun u v B H Q2 ra rb c kk => by
    cases ra; cases rb
    exact ⟨C, z, .int i, rfl, rfl, ⟨es, k, _, h1, h2, e, t, rfl⟩, kk _ B H (Same.refl _) (.int i) c⟩) hs
/-- a tuple of texts of the module -/
def KTup (K : PySem.W.Frag) (C : Addr) (zs : List Str) : Prop := ∀ H, SqT K H C (zs.map V.str)
theorem inV_str (z : Str) : ∀ zs : List Str, inV (.str z) (zs.map V.str) = decide (z ∈ zs)
  | [] => rfl
  | w :: r => by
    show (eqV (.str w) (.str z) || inV (.str z) (r.map V.str)) = _
    rw [inV_str z r]
    have e : eqV (.str w) (.str z) = decide (z = w) := by
      show (w == z) = _
      rw [Bool.beq_eq_decide_eq]
      by_cases h : z = w
      · subst h; simp
      · rw [decide_eq_false h, decide_eq_false (fun q => h q.symm)]
    rw [e]
    simp [Bool.decide_or]
theorem flat_strs' (zs : List Str) : (zs.map V.str).all flatV = true := by
  induction zs with
  | nil => rfl
  | cons z r ih => rw [List.map_cons, List.all_cons, ih]; rfl
theorem cv_inKT {C : Addr} {z : Str} {zs : List Str} (g : XF X G N sc) (h : KTup G.K C zs) : CmpV X .In (.v (.str z)) (.v (.adr C)) (decide (z ∈ zs)) := by
  obtain ⟨rfl, _⟩ := g
  exact ⟨_, op_in_seq, fun M da db ka kb u v B H Q2 ra rb c kk => by
    have ka : da = _ := ka
    have kb : db = _ := kb
    subst ka; subst kb
    cases ra; cases rb
    refine ⟨C, _, rfl, .inr (h H), rfl, flat_strs' zs, ?_⟩
    rw [inV_str]
    exact kk _ B H (Same.refl _) (.bl _) c⟩
theorem cv_ninKT {C : Addr} {z : Str} {zs : List Str} (g : XF X G N sc) (h : KTup G.K C zs) : CmpV X .NotIn (.v (.str z)) (.v (.adr C)) (!decide (z ∈ zs)) := by
  obtain ⟨rfl, _⟩ := g
  exact ⟨_, op_notIn_seq, fun M da db ka kb u v B H Q2 ra rb c kk => by
    have ka : da = _ := ka
    have kb : db = _ := kb
    subst ka; subst kb
    cases ra; cases rb
    refine ⟨C, _, rfl, .inr (h H), rfl, flat_strs' zs, ?_⟩
    rw [inV_str]
    exact kk _ B H (Same.refl _) (.bl _) c⟩
end Ab
/-! dict comprehensions, isinstance of data, methods, properties, instances by value. -/
namespace Ab
open PySem PySem.Spec PyProof.Rows L2
variable {X : Cx} {e a b o : Expr} {es : List Expr} {st : Stmt} {sts : List Stmt} {ε : OE} {n : Int} {Q : OV → Int → Prop} {A : OEnds} {G : Gx} {N : List Str} {sc scope : Scope} {pos p2 p : Pos} {x m : Str} {d d' : D} {δ : DE} {M : AHp}
/-! ### {k: v for .. in ..} -/
def dicOf {α : Type} (kf : α → Key) (vf : α → D) (l : List α) : List (Key × D) := l.foldl (fun acc x => putKD acc (kf x) (vf x)) []
theorem dicOf_snoc {α : Type} {kf : α → Key} {vf : α → D} {l : List α} {x : α} : dicOf kf vf (l ++ [x]) = putKD (dicOf kf vf l) (kf x) (vf x) := by
  unfold dicOf; rw [List.foldl_append]; rfl
theorem dicOf_len {α : Type} {kf : α → Key} {vf : α → D} (l : List α) : (dicOf kf vf l).length ≤ l.length := by
  have key : ∀ (l : List α) (acc : List (Key × D)), (l.foldl (fun acc x => putKD acc (kf x) (vf x)) acc).length ≤ acc.length + l.length := fun l => by
    induction l with
    | nil => exact fun acc => Nat.le_refl _
    | cons x r ih =>
      intro acc
      have h1 := ih (putKD acc (kf x) (vf x))
      have h2 := putKD_len acc (kf x) (vf x)
      rw [List.foldl_cons, List.length_cons]
      omega
  have := key l []
  unfold dicOf
  simpa using this
theorem dc_go {α : Type} {kx vx tg iter : Expr} {own : List (Str × Nat)} {t : TG} {f : α → D} {kf : α → Key} {vf : α → D} {sx : α → OE} (g : XF X G N sc) (tgo : TgOk X scope tg t (own.map (·.2))) (hi : oIT X tg iter ε n fun ds n1 => ∃ l : List α, ds = l.map f ∧ l.length < 100000 ∧ (∀ x ∈ l, TgS t (own.map (·.2)) ε (f x) (sx x)) ∧
      (∀ x ∈ l, ∀ X', XF X' G N (relS scope sc) → X'.A = X.A → oV X' kx (sx x) (dK (kf x)) ∧ oV X' vx (sx x) (vf x)) ∧ Q (.k (dicOf kf vf l)) n1) {P : Option Addr} {M0 M : AHp} {δ : DE} (r : Rl P M0 n ε δ M) {σ : L2.St} {H B : Hp} {Q2 : VK} (rs : RepS B σ δ) (c : Cf B M H)
    (kk : ∀ v d M' B' H', Same B B' → Rep B' v d → Cf B' M' H' → (∃ ov n', Rl P M0 n' ε δ M' ∧ OvR M0 M' ε δ ov d ∧ Q ov n') → Q2 v H') : tDc (wI X tg iter) t tYes (bE X scope kx) (bE X scope vx) (own.map (·.2)) σ H Q2 := by
  refine hi P M0 δ M r σ H B rs c _ fun J M1 B1 H1 C ds s1 c1 hn ⟨hC, n1, r1, l, e1, hl, ht, he, q⟩ => ?_
  intro L hL
  have hL1 := c1.none hL
  have fr := r1.free hL1
  refine ⟨fun i m H' => m = l.length - i ∧ i ≤ l.length ∧ ∃ B', Same B1 B' ∧ Cf B' (updM M1 L (.dK (dicOf kf vf (l.take i)))) H', ⟨_, rfl, Nat.zero_le _, B1, Same.refl _, c1.newM (.dK _) hL ⟨[], upd_same, .nil⟩⟩, ?_⟩
  rintro i m H2 ⟨rfl, hi2, B2, s2, c2⟩
  have hlen : ds.length = l.length := by rw [e1, List.length_map]
  by_cases hlt : i < l.length
  · obtain ⟨y, hy⟩ : ∃ y, l[i]? = some y := ⟨l[i], by simp [hlt]⟩
    have hyl := List.mem_of_getElem? hy
    have hd : ds[i]? = some (f y) := by rw [e1, List.getElem?_map, hy]; rfl
    obtain ⟨g1, g2⟩ := hn.go i B2 _ H2 (f y) s2 c2 (hC _) hd
    refine .inr ⟨g1, fun H' => ∃ B', Same B1 B' ∧ Cf B' (updM M1 L (.dK (dicOf kf vf (l.take (i + 1))))) H', fun H' q => ⟨_, by omega, rfl, hlt, q⟩, fun x H3 yl => ?_⟩
    obtain ⟨B3, s3, c3, r3⟩ := g2 x H3 yl
    obtain ⟨δ2, ag, fw, bw⟩ := ht y hyl δ r.len
    have rs3 : RepS B3 (L2.wipe σ (own.map (·.2))) (wipeD δ (own.map (·.2))) := (((rs.mono s1).mono s2).mono s3).wipe _
    have ww : L2.wipe (L2.wipe σ (own.map (·.2))) (own.map (·.2)) = L2.wipe σ (own.map (·.2)) := wipe_wipe σ _
    have kp := tgo.kp x (L2.wipe σ (own.map (·.2))) H3
    rw [ww] at kp
    refine kp _ (ag _ H3 B3 _ x _ rs3 c3 r3 fun σ4 rs4 => ?_)
    unfold tYes
    dsimp only
    rw [if_pos rfl]
    have rl := fw P _ n1 M0 (r1.new (o := .dK (dicOf kf vf (l.take i))) hL1)
    intro X1 hX1
    obtain ⟨gX1, eA1⟩ := g.blk hX1
    refine ((he y hyl X1 gX1 eA1).1 P M0 n1 δ2 _ rl).run rs4 c3 fun v B4 H4 s4 r4 c4 => ?_
    intro X2 hX2
    obtain ⟨gX2, eA2⟩ := g.blk hX2
    refine ((he y hyl X2 gX2 eA2).2 P M0 n1 δ2 _ rl).run (rs4.mono s4) c4 fun w B5 H5 s5 r5 c5 => ?_
    obtain ⟨_, ws, h7, r7⟩ := c5.m L _ updM_same
    have ev := r4.key
    have len := dicOf_len (kf := kf) (vf := vf) (l.take i)
    rw [List.length_take] at len
    refine ⟨ws, kf y, ev, h7, by rw [r7.length, sizeLine_eq]; omega, B5, (((s2.trans s3).trans s4).trans s5), ?_⟩
    have z := c5.set (o := .dK (putK ws (kf y) w)) (.dK (putKD (dicOf kf vf (l.take i)) (kf y) (vf y))) updM_same (noOwn c5 updM_same fun _ z => (nomatch z)) ⟨_, upd_same, r7.put r5⟩
    rw [updM_updM, ← dicOf_snoc] at z
    rw [List.take_succ, hy]
    exact z
  · have e : i = l.length := by omega
    subst e
    rw [List.take_length] at c2
    exact .inl ⟨hn.stop _ B2 _ H2 s2 c2 (hC _) (by omega), kk _ (.adr L) _ B2 _ (s1.trans s2) (.adr L) c2 ⟨.k _, n1, r1.new hL1, ⟨L, rfl, updM_same, fr⟩, q⟩⟩
theorem oe_dc {α : Type} {kx vx tg iter : Expr} {own : List (Str × Nat)} {t : TG} {f : α → D} {kf : α → Key} {vf : α → D} {sx : α → OE} (g : XF X G N sc) (tgo : TgOk X scope tg t (own.map (·.2))) (hi : oIT X tg iter ε n fun ds n1 => ∃ l : List α, ds = l.map f ∧ l.length < 100000 ∧ (∀ x ∈ l, TgS t (own.map (·.2)) ε (f x) (sx x)) ∧
      (∀ x ∈ l, ∀ X', XF X' G N (relS scope sc) → X'.A = X.A → oV X' kx (sx x) (dK (kf x)) ∧ oV X' vx (sx x) (vf x)) ∧ Q (.k (dicOf kf vf l)) n1) (okb : blkC N sc scope own = true := by decide +kernel) (hs : ∀ x, foldedSetIterable iter X.env x = pure x := by intro _; rfl) : oE X (.DictComp kx vx [⟨tg, iter, [], 0⟩] scope pos) ε n Q := .mk fun P M0 δ M r => by
  have ok : BlkOk X.N X.env.scope scope own := by rw [g.hN, g.hsc]; exact blkOk_by okb
  exact ae_of (pe_dc (wi := wI X tg iter) (g := t) (tt := tYes) (tk := bE X scope kx) (tv := bE X scope vx) (own := own) g.calm g.nd pi_w ok (fun s H C cl fp => tgo.pg _ ⟨s, H, C, cl, fp, rfl⟩) (fun s H C cl fp => pts_nil) (fun s H C cl fp => pe_b ⟨s, H, C, cl, fp, rfl⟩) (fun s H C cl fp => pe_b ⟨s, H, C, cl, fp, rfl⟩) hs) fun σ H B Q2 rs c kk => dc_go g tgo hi r rs c fun v d M' B' H' s rv c' q => kk v d M' B' H' s rv c' q
/-- y = {..} on one line -/
theorem ps_dic {i : Nat} {y : Str} {py spos : Pos} {kx vx tg iter : Expr} {own : List (Str × Nat)} {wi : TI} {gt : TG} {tk tv : TE} (hc : X.calm = true) (hN : X.N.Nodup) (hy : X.N[i]? = some y) (hyl : X.env.scope.names.lookup y = some .local) (hsw : swapsWith (.DictComp kx vx [⟨tg, iter, [], 0⟩] scope pos) (some (.Name y py)) spos.line X.env = pure true) (hi : PI X tg iter wi) (ok : BlkOk X.N X.env.scope scope own)
    (hg : ∀ X', BlkOf X scope X' → PG X' tg gt) (hk : ∀ X', BlkOf X scope X' → PE X' kx tk) (he : ∀ X', BlkOf X scope X' → PE X' vx tv) (hs : ∀ x, foldedSetIterable iter X.env x = pure x) : PS X (.Assign [.Name y py] (.DictComp kx vx [⟨tg, iter, [], 0⟩] scope pos) spos) (tAsg (tDc wi gt tYes tk tv (own.map (·.2))) (gName i)) := ⟨fun pins s σ H D I h => by
  rw [exec_Assign_Name_used _ _ _ _ hsw]
  have h : tDc wi gt tYes tk tv (own.map (·.2)) σ H (fun x H1 => gName i x σ H1 D.nx) := h
  refine wpAny_bind (wpAny_standAt (wpAny_bind (wpAny_bind (thn (dc_core (use := some (assign (.Name y py) X.env)) (Qf := fun _ s' => SP X pins D .next s') hc hN I hi ok (fun s H C cl fp => hg _ ⟨s, H, C, cl, fp, rfl⟩) (fun s H C cl fp => pts_nil) (fun s H C cl fp => hk _ ⟨s, H, C, cl, fp, rfl⟩) (fun s H C cl fp => he _ ⟨s, H, C, cl, fp, rfl⟩) hs h fun L C s' m H' I' q hn f => ?_) fun _ s' hq => wpAny_pure (wpAny_pure hq)))))
  obtain ⟨f0, f1, f2, f3, f4, f5⟩ := f
  refine wpAny_assign_Name (store_ok2 (v := V.ref L) I' hN hy (.inl hyl) rfl (fun s2 I2 ⟨a, sb, ha⟩ => ?_) (.inr hyl))
  have ne : C ≠ a := ha.elim (fun z => by rw [z]; exact f1) fun z e => f4 y a z e.symm
  exact ⟨m, hn.sameBut sb ne, fun h3 sb3 => ⟨_, H', I2.turned (t' := s2.toks) (fun b o hb e => (sb3.2 b hb).trans e) f0 f1 f3 f4 f5, q⟩⟩⟩
theorem os_dc {α : Type} {kx vx tg iter : Expr} {own : List (Str × Nat)} {t : TG} {f : α → D} {kf : α → Key} {vf : α → D} {sx : α → OE} (g : XD X G N sc) (i : Nat) {y : Str} {py spos : Pos} (tgo : TgOk X scope tg t (own.map (·.2))) (hi : oIT X tg iter ε n fun ds n1 => ∃ l : List α, ds = l.map f ∧ l.length < 100000 ∧ (∀ x ∈ l, TgS t (own.map (·.2)) ε (f x) (sx x)) ∧
      (∀ x ∈ l, ∀ X', XF X' G N (relS scope sc) → X'.A = X.A → oV X' kx (sx x) (dK (kf x)) ∧ oV X' vx (sx x) (vf x)) ∧ A.nx (ε.set i (some (.k (dicOf kf vf l)))) n1) (okb : blkC N sc scope own = true := by decide +kernel) (hN : N[i]? = some y := by rfl) (hv : sc.names.lookup y = some .local := by rfl) (hs : ∀ x, foldedSetIterable iter X.env x = pure x := by intro _; rfl)
    (hsw : ∀ env : Env, env.scope = sc → swapsWith (.DictComp kx vx [⟨tg, iter, [], 0⟩] scope pos) (some (.Name y py)) spos.line env = pure true := by intro env e; cases env; cases e; rfl) : oS X (.Assign [.Name y py] (.DictComp kx vx [⟨tg, iter, [], 0⟩] scope pos) spos) A ε n := .mk fun P M0 δ M r σ H B rs c => by
  have ok : BlkOk X.N X.env.scope scope own := by rw [g.hN, g.hsc]; exact blkOk_by okb
  refine wS_of (ps_dic (i := i) (wi := wI X tg iter) (gt := t) (tk := bE X scope kx) (tv := bE X scope vx) (own := own) g.calm g.nd (by rw [g.hN]; exact hN) (by rw [g.hsc]; exact hv) (hsw _ g.hsc) pi_w ok tgo.pg (fun X' h => pe_b h) (fun X' h => pe_b h) hs) ?_
  refine dc_go (Q := fun ov n' => A.nx (ε.set i (some ov)) n') g.toXF tgo hi r rs c fun v d M' B' H' s rv c' ⟨ov, n', r', v', q⟩ => ?_
  refine ⟨_, M', B', s, (rs.mono s).set rv, c', _, n', ?_, q⟩
  cases ov with
  | v d' => have v' : d = d' := v'; subst v'; exact r'.set_v i d
  | l ds => obtain ⟨q, rfl, hq, f⟩ := v'; exact r'.set_own i rfl hq f
  | k ds => obtain ⟨q, rfl, hq, f⟩ := v'; exact r'.set_own i rfl hq f
  | r ds => obtain ⟨q, j, rfl, _, h1, h2⟩ := v'; exact r'.set_r i h1 h2
  | pu => cases v'
/-! ### isinstance -/
def tyN : D → Option String
  | .non => some "NoneType"
  | .bl _ => some "bool"
  | .int _ => some "int"
  | .str _ => some "str"
  | .lst _ => some "list"
  | .tup _ => some "tuple"
  | _ => none
theorem Rep.tyOf {K : PySem.W.Frag} {B H : Hp} {v : V} {T : String} (r : Rep B v d) (s : Same B H) (h : tyN d = some T) : TyOf K H v (.type T) := by
  cases r with
  | non => cases h; exact .non
  | bl b => cases h; exact .bl b
  | int i => cases h; exact .int i
  | str z => cases h; exact .str z
  | lst h1 _ => cases h; exact .lst (s _ _ h1)
  | tup h1 _ => cases h; exact .tup (s _ _ h1)
  | adr a => cases h
  | ty n => cases h
  | obj _ _ _ => cases h
  | pin _ => cases h
  | dic _ _ => cases h
theorem cl_isi {T T' : String} {k : Bool} (h : tyN d = some T) (hk : kitB T T' = some k) : CalV X (rIsi X.K) [.v d, .v (.ty T')] (.bl k) := .two fun M xs B H Q2 rx c kk => by
  cases rx with
  | cons r1 rx => cases rx with
    | cons r2 rx =>
      cases rx
      cases r2
      exact ⟨_, _, _, _, k, rfl, .ty T', .base (r1.tyOf c.ex h), kit_ty hk, kk _ B H (Same.refl _) (.bl k) c⟩
theorem ov_ty {T : String} (g : XF X G N sc) (hm : G.mg x = none) (hv : bootBuiltins x = some (.type T) := by rfl) (hg : sc.names.lookup x = some .globalImplicit := by rfl) (hn : x ≠ "__name__" := by decide) (hd : (x == ("__debug__" : Str)) = false := by decide) : oV X (.Name x pos) ε (.ty T) := .mk fun _ _ _ _ _ _ => av_ty g hm hv hg hn hd
/-! ### own classes -/
variable {k : Nat} {C : Addr} {f : Str} {S : List D → (D → Prop) → Prop} {fs : List (Str × D)} {apos : Pos}
theorem ov_prop (g : XF X G N sc) (F : Pr G k C m (spV S)) (hr : Room (k + 1) X.A) (h : oV X o ε (.obj C fs)) (q : ∀ Q : D → Prop, Q d → S [.obj C fs] Q) (hb : attributeBase o m X.env (eval o X.env) = eval o X.env := by rfl) : oV X (.Attribute o m pos) ε d := .mk fun P M0 n δ M r Q hQ =>
  ae_prop g F hr (h P M0 n δ M r _ ⟨fs, .obj, q (fun d' => Q d' M) hQ⟩) hb
theorem ov_meth0 {pl : Sem Bool} (g : XF X G N sc) (F : Mt G k C m (spV S)) (hr : Room k X.A) (h : oV X o ε (.obj C fs)) (hl : fs.lookup m = none) (q : ∀ Q : D → Prop, Q d → S [.obj C fs] Q) (ht : eval (.Call (.Attribute o m apos) [] [] pos) X.env = (do
      let ov ← eval o X.env
      standAt apos.atName
      let (fn, first) ← holding [ov] (getMethod ov m pl)
      callWith pos fn first (backTo pos (starEach [] X.env)) (backToKw pos (keywordEach [] X.env))) := by rfl) : oV X (.Call (.Attribute o m apos) [] [] pos) ε d := .mk fun P M0 n δ M r Q hQ =>
  ae_meth0 g F hr (h P M0 n δ M r _ ⟨fs, .obj, hl, q (fun d' => Q d' M) hQ⟩) ht
theorem ov_meth {pl : Sem Bool} {ds : List D} (g : XF X G N sc) (F : Mt G k C m (spV S)) (hr : Room k X.A) (h : oV X o ε (.obj C fs)) (hl : fs.lookup m = none) (ha : oVs X (e :: es) ε ds) (q : ∀ Q : D → Prop, Q d → S (.obj C fs :: ds) Q) (hst : starEach (e :: es) X.env = (false, eval e X.env) :: starEach es X.env := by rfl) (hpl : (backTo pos (starEach es X.env)).any (·.1) = false := by rfl)
    (ht : eval (.Call (.Attribute o m apos) (e :: es) [] pos) X.env = (do
      let ov ← eval o X.env
      standAt apos.atName
      let (fn, first) ← holding [ov] (getMethod ov m pl)
      callWith pos fn first (backTo pos (starEach (e :: es) X.env)) (backToKw pos (keywordEach [] X.env))) := by rfl) : oV X (.Call (.Attribute o m apos) (e :: es) [] pos) ε d := .mk fun P M0 n δ M r Q hQ =>
  ae_meth g F hr (h P M0 n δ M r _ ⟨fs, .obj, hl, ha P M0 n δ M r _ (q (fun d' => Q d' M) hQ)⟩) hst hpl ht
/-! ### comparisons that draw, as values -/
def rAnyC (X : Cx) (op : CmpOp) : R2 := fun x y H Q => ∃ r, OpR X (compareOp op) r ∧ r x y H Q
theorem op_anyC {op : CmpOp} : OpR X (compareOp op) (rAnyC X op) := fun pins s σ H x y v u Q I rx ry ⟨r, h, q⟩ => h pins s σ H x y v u Q I rx ry q
theorem oe_cmp {op : CmpOp} (h : oE X a ε n fun u n1 => oE X b ε n1 fun w n2 => ∃ da db k, u = .v da ∧ w = .v db ∧ CmpV X op (.v da) (.v db) k ∧ Q (.v (.bl k)) n2) (hm : behindInMarks op b = false := by first | exact nomark _ | rfl) : oE X (.Compare a [op] [b] pos) ε n Q := .mk fun P M0 δ M r =>
  ae_cmp op_anyC ((h P M0 δ M r).imp fun u M1 ⟨ou, n1, r1, v1, q1⟩ => (q1 P M0 δ M1 r1).imp fun w M2 ⟨ow, n2, r2, v2, da, db, k, e1, e2, bv, q⟩ => by
    subst e1; subst e2
    have v1 : u = da := v1
    have v2 : w = db := v2
    subst v1; subst v2
    obtain ⟨r, ho, hp⟩ := bv
    exact fun x y B H Q2 ra rb c kk => ⟨r, ho, hp M2 u w rfl rfl x y B H Q2 ra rb c fun v B' H' s r c' => kk v (.bl k) M2 B' H' s r c' ⟨.v (.bl k), n2, r2, rfl, q⟩⟩) hm
theorem oc_cmpD {op : CmpOp} {QB : Bool → Int → Prop} (h : oE X a ε n fun u n1 => oE X b ε n1 fun w n2 => ∃ da db k, u = .v da ∧ w = .v db ∧ CmpV X op (.v da) (.v db) k ∧ QB k n2) (hm : behindInMarks op b = false := by first | exact nomark _ | rfl) : oC X (.Compare a [op] [b] pos) ε n QB := .mk fun P M0 δ M r =>
  at_cmp op_anyC ((h P M0 δ M r).imp fun u M1 ⟨ou, n1, r1, v1, q1⟩ => (q1 P M0 δ M1 r1).imp fun w M2 ⟨ow, n2, r2, v2, da, db, k, e1, e2, bv, q⟩ => by
    subst e1; subst e2
    have v1 : u = da := v1
    have v2 : w = db := v2
    subst v1; subst v2
    obtain ⟨r, ho, hp⟩ := bv
    exact fun x y B H Q2 ra rb c kk => ⟨r, ho, hp M2 u w rfl rfl x y B H Q2 ra rb c fun v B' H' s r c' => kk v (.bl k) M2 B' H' s r c' ⟨k, rfl, n2, r2, q⟩⟩) hm
end Ab
/-! More of the same: texts in tuples, own sums and comprehensions, int. -/
namespace Ab
open PySem PySem.Spec PyProof.Rows L2
variable {X : Cx} {e a b o : Expr} {es : List Expr} {st : Stmt} {sts : List Stmt} {ε : OE} {n : Int} {Q : OV → Int → Prop} {A : OEnds} {G : Gx} {N : List Str} {sc scope : Scope} {pos p2 p : Pos} {x m : Str} {d d' : D} {δ : DE} {M : AHp}
theorem reps_strs {B : Hp} : ∀ {xs : List V} {zs : List Str}, Reps B xs (zs.map D.str) → xs = zs.map V.str
  | [], [], _ => rfl
  | _, z :: zs, .cons r t => by cases r; rw [reps_strs t]; rfl
theorem cv_inS {z : Str} {zs : List Str} {u : OV} (h : ItemsO u (zs.map D.str)) : CmpV X .In (.v (.str z)) u (decide (z ∈ zs)) := ⟨_, op_in_seq, fun M da db ka kb v w B H Q2 ra rb c kk => by
  have ka : da = _ := ka
  subst ka
  cases ra
  obtain ⟨a, xs, rfl, hs, hr⟩ := (h.d kb).at_ (K := X.K) rb c
  have e := reps_strs hr
  subst e
  refine ⟨a, _, rfl, hs, rfl, flat_strs' zs, ?_⟩
  rw [inV_str]
  exact kk _ B H (Same.refl _) (.bl _) c⟩
theorem cv_ninS {z : Str} {zs : List Str} {u : OV} (h : ItemsO u (zs.map D.str)) : CmpV X .NotIn (.v (.str z)) u (!decide (z ∈ zs)) := ⟨_, op_notIn_seq, fun M da db ka kb v w B H Q2 ra rb c kk => by
  have ka : da = _ := ka
  subst ka
  cases ra
  obtain ⟨a, xs, rfl, hs, hr⟩ := (h.d kb).at_ (K := X.K) rb c
  have e := reps_strs hr
  subst e
  refine ⟨a, _, rfl, hs, rfl, flat_strs' zs, ?_⟩
  rw [inV_str]
  exact kk _ B H (Same.refl _) (.bl _) c⟩
theorem cl_int {i : Int} : CalV X (fun xs H Q => (∃ i, xs = [.int i] ∧ Q (.int i) H) ∨ ∃ k, xs = [.bl k] ∧ Q (.int (if k then 1 else 0)) H) [.v (.int i)] (.int i) := .one fun M d' e => by
  have e : d' = _ := e
  subst e; exact c_int
/-- xs + ys as an own list -/
theorem oe_catO {u w : OV} {xs ys : List D} (ha : oX X a ε u) (hb : oX X b ε w) (h1 : ListO u xs) (h2 : ListO w ys) (hl : xs.length + ys.length ≤ 1000000) (q : Q (.l (xs ++ ys)) n) : oE X (.BinOp a .Add b pos) ε n Q := .mk fun P M0 δ M r => by
  obtain ⟨da, v1, k1⟩ := ha P M0 n δ M r
  obtain ⟨db, v2, k2⟩ := hb P M0 n δ M r
  refine ae_op op_cat (v1 _ (v2 _ fun x y B H Q2 ra rb c kk => ?_))
  obtain ⟨l1, zs, rfl, z1, z2⟩ := (h1.d k1).at_ ra c
  obtain ⟨l2, ws, rfl, w1, w2⟩ := (h2.d k2).at_ rb c
  refine ⟨l1, l2, zs, ws, rfl, rfl, z1, w1, by rw [z2.length, w2.length]; exact Nat.le_trans hl (by decide), fun p hp => ?_⟩
  exact kk _ _ _ _ _ (Same.refl _) (.adr p) (c.newM (.lst (xs ++ ys)) hp ⟨_, upd_same, z2.append w2⟩) ⟨.l _, n, r.new (c.none hp), ⟨p, rfl, updM_same, r.free (c.none hp)⟩, q⟩
variable {elt iter tg c : Expr} {own : List (Str × Nat)} {t : TG}
theorem olc_P {α : Type} {f h : α → D} {sx : α → OE} (g : XF X G N sc) (tgo : TgOk X scope tg t (own.map (·.2))) (hi : oIT X tg iter ε n fun ds n1 => ∃ l : List α, ds = l.map f ∧ l.length < 100000 ∧ (∀ x ∈ l, TgS t (own.map (·.2)) ε (f x) (sx x)) ∧ (∀ x ∈ l, ∀ X', XF X' G N (relS scope sc) → X'.A = X.A → oV X' elt (sx x) (h x)) ∧ Q (.l (l.map h)) n1) : oLC X elt tg iter [] scope own t ε n Q := by
  refine olc_0 g tgo <| .mk fun P M0 δ M r => aI.mono (hi P M0 δ M r) fun C ds M1 ⟨hC, n1, r1, l, e1, hl, ht, he, q⟩ => ⟨hC, n1, r1, fun i acc m => m = n1 ∧ acc = (l.take i).map h, ⟨rfl, by simp⟩, by rw [e1, List.length_map]; exact hl, fun i d acc m hd ⟨h1, h2⟩ => ?_, fun acc m ⟨h1, h2⟩ => ?_⟩
  · rw [e1, List.getElem?_map] at hd
    cases z : l[i]? with
    | none => rw [z] at hd; cases hd
    | some x =>
      rw [z] at hd
      cases hd
      have hx := List.mem_of_getElem? z
      refine ⟨sx x, ht x hx, fun X' gX eA => (he x hx X' gX eA).ev ⟨_, rfl, h1, ?_⟩⟩
      rw [h2, List.take_succ, z]
      simp
  · rw [e1, List.length_map, List.take_length] at h2
    rw [h1, h2]; exact q
/-- y = [..] as an own list, on one line -/
theorem os_lcP {α : Type} {f h : α → D} (g : XD X G N sc) (i j : Nat) {y z : Str} {py pz spos : Pos} (hi : oIT X (.Name y py) iter ε n fun ds n1 => ∃ l : List α, ds = l.map f ∧ l.length < 100000 ∧ (∀ x ∈ l, ∀ X', XF X' G N (relS scope sc) → X'.A = X.A → oV X' elt (ε.set j (some (.v (f x)))) (h x)) ∧ A.nx (ε.set i (some (.l (l.map h)))) n1) (hNi : N[i]? = some z := by rfl) (hz : sc.names.lookup z = some .local := by rfl) (hN : N[j]? = some y := by rfl) (hε : ε[j]? = some none := by rfl) (hlo : locB (relS scope sc) y = true := by rfl) (ho : ownB scope sc y = true := by rfl) (okb : blkC N sc scope [(y, j)] = true := by decide +kernel) (hs : ∀ x, foldedSetIterable iter X.env x = pure x := by intro _; rfl)
    (hsw : ∀ env : Env, env.scope = sc → swapsWith (.ListComp elt [⟨.Name y py, iter, [], 0⟩] scope pos) (some (.Name z pz)) spos.line env = pure true := by intro env e; cases env; cases e; rfl) : oS X (.Assign [.Name z pz] (.ListComp elt [⟨.Name y py, iter, [], 0⟩] scope pos) spos) A ε n :=
  os_ofLC (own := [(y, j)]) g i okb (tg_name g.toXF j (by exact List.mem_singleton.mpr rfl) hN hlo ho) (.inl rfl) (olc_P (sx := fun x => ε.set j (some (.v (f x)))) g.toXF (tg_name g.toXF j (by exact List.mem_singleton.mpr rfl) hN hlo ho) (.mk fun P M0 δ M r => aI.mono (hi P M0 δ M r) fun C ds M1 ⟨hC, n1, r1, l, e1, hl, he, q⟩ => ⟨hC, n1, r1, l, e1, hl, fun x _ => tgs_1 hε, he, q⟩)) hNi hz hsw hs
end Ab
/-! Promises that only read: an argument is data or a list that stands. -/
namespace Ab
open PySem PySem.Spec PyProof.Rows L2
variable {X : Cx} {e a b o : Expr} {es : List Expr} {st : Stmt} {sts : List Stmt} {ε : OE} {n : Int} {Q : OV → Int → Prop} {A : OEnds} {G : Gx} {N : List Str} {sc scope : Scope} {pos p2 p : Pos} {x m : Str} {d d' : D} {δ : DE} {M : AHp} {u : OV} {us : List OV}
inductive Rd (M : AHp) : List OV → List D → Prop
  | nil : Rd M [] []
  | v {d : D} {us : List OV} {ds : List D} : Rd M us ds → Rd M (.v d :: us) (d :: ds)
  | r {q : Addr} {xs : List D} {us : List OV} {ds : List D} : M q = some (.lst xs) → Rd M us ds → Rd M (.r xs :: us) (.adr q :: ds)
theorem Rd.at {ds : List D} (h : Rd M us ds) : ∀ {i : Nat} {o : OV}, us[i]? = some o → (∃ d, o = .v d ∧ ds[i]? = some d) ∨ ∃ xs q, o = .r xs ∧ ds[i]? = some (.adr q) ∧ M q = some (.lst xs) := by
  induction h with
  | nil => intro i o h; cases h
  | v _ ih =>
    intro i o h
    cases i with
    | zero => cases h; exact .inl ⟨_, rfl, rfl⟩
    | succ i => rw [List.getElem?_cons_succ] at h ⊢; exact ih h
  | r hq _ ih =>
    intro i o h
    cases i with
    | zero => cases h; exact .inr ⟨_, _, rfl, rfl, hq⟩
    | succ i => rw [List.getElem?_cons_succ] at h ⊢; exact ih h
theorem Rd.len {ds : List D} (h : Rd M us ds) : us.length = ds.length := by
  induction h with
  | nil => rfl
  | v _ ih => rw [List.length_cons, List.length_cons, ih]
  | r _ _ ih => rw [List.length_cons, List.length_cons, ih]
def isRd : OV → Prop
  | .v _ => True
  | .r _ => True
  | _ => False
theorem ListO.asg {u : OV} {ds : List D} (h : ListO u ds) : isRd u → u = .v (.lst ds) ∨ u = .r ds := fun k => by
  cases h with
  | lst => exact .inl rfl
  | l => exact k.elim
  | r => exact .inr rfl
def spR (S : List OV → (OV → Prop) → Prop) : ASp := spPure fun ds M k => ∃ us, Rd M us ds ∧ S us fun u => ∀ d, Ov M u d → k d
structure MonR (S : List OV → (OV → Prop) → Prop) : Prop where
  mon : ∀ {us : List OV} {k k' : OV → Prop}, (∀ u, k u → k' u) → S us k → S us k'
theorem up_R {S : List OV → (OV → Prop) → Prop} (m : MonR S) : Up (spR S) := up_pure ⟨fun f ⟨us, r, h⟩ => ⟨us, r, m.mon (fun u z d k => f _ (z d k)) h⟩⟩
theorem rl_startR {ds : List D} (h : Rd M us ds) : Rl none M 0 (startO N us) (startD N ds) M := by
  refine ⟨⟨fun i => match ds[i]? with | some (.adr q) => q | _ => 0, ⟨fun i o ho => ?_, fun i o m ho hm => ?_, fun i j oi oj mi mj h1 h2 m1 m2 e => ?_, fun i xs ho => ?_⟩⟩, ?_, fun a o _ h => h, fun p e => (nomatch e), fun i ho => ?_⟩
  · rcases h.at (start_at ho) with ⟨d, rfl, e⟩ | ⟨xs, q, rfl, e, _⟩
    · exact startD_at e
    · show _ = some (some (D.adr (match ds[i]? with | some (.adr q) => q | _ => 0)))
      rw [startD_at e, e]
  · rcases h.at (start_at ho) with ⟨d, rfl, e⟩ | ⟨xs, q, rfl, e, _⟩ <;> cases hm
  · rcases h.at (start_at h1) with ⟨d, rfl, e⟩ | ⟨xs, q, rfl, e, _⟩ <;> cases m1
  · rcases h.at (start_at ho) with ⟨d, e, _⟩ | ⟨ys, q, e, e2, hq⟩
    · cases e
    · cases e
      refine ⟨?_, fun z => (nomatch z)⟩
      show M (match ds[i]? with | some (.adr q) => q | _ => 0) = _
      rw [e2]; exact hq
  · unfold startO startD
    have := h.len
    simp
    omega
  · rcases h.at (start_at ho) with ⟨d, e, _⟩ | ⟨xs, q, e, _⟩ <;> cases e
/-- a def that reads -/
theorem ok_read {y qual : Str} {st : Stmt} {f : Addr} {fd : FuncData} {N ps : List Str} {k : Nat} {S : List OV → (OV → Prop) → Prop} (F : L2.Fun G.K y qual st f fd) (Sc : FnScope N ps (defScope st)) (len : ∀ us kk, S us kk → us.length = ps.length)
    (hb : ∀ X : Cx, XD X G N (defScope st) → Room k X.A → ∀ us kk, S us kk → oSs X (defBody st) { nx := fun _ _ => kk (.v .non), rt := fun ov _ => isRd ov ∧ kk ov } (startO N us) 0) : FnG G CX0 (k + 1) f fd ps (toSp (spR S)) := by
  refine aok F Sc (fun ds M Q E h => ?_) (fun X g hr ds M Q E h => ?_)
  · obtain ⟨us, r, h⟩ := h
    rw [← r.len]; exact len _ _ h
  · obtain ⟨us, rd, h⟩ := h
    have z := hb X g hr us _ h none M _ M (rl_startR rd)
    intro σ H B rs c
    refine (z σ H B rs c).imp ⟨fun σ' H' q => ?_, fun v H' q => ?_, fun σ' H' q => ?_, fun σ' H' q => ?_⟩
    · obtain ⟨δ, M', B', s, r, c', ε, n, rl, q⟩ := q
      exact ⟨δ, M, B', s, r, c'.forget fun p o e => rl.fr p o (fun e => nomatch e) e, q _ rfl⟩
    · obtain ⟨d, M', B', s, r, c', ov, n, ε, δ, rl, ovr, i, q⟩ := q
      refine ⟨d, M, B', s, r, c'.forget fun p o e => rl.fr p o (fun e => nomatch e) e, q _ ?_⟩
      cases ov with
      | v d' => exact ovr
      | r xs => obtain ⟨q, j, e, hq, _⟩ := ovr; exact ⟨q, e, hq⟩
      | l => exact i.elim
      | k => exact i.elim
      | pu => exact i.elim
    · obtain ⟨_, _, _, _, _, _, _, _, _, q⟩ := q; exact q.elim
    · obtain ⟨_, _, _, _, _, _, _, _, _, q⟩ := q; exact q.elim
/-! ### readings -/
structure oY (X : Cx) (e : Expr) (ε : OE) (u : OV) : Prop where
  run : ∀ P M0 n δ M, Rl P M0 n ε δ M → aE X e δ M fun d M' => M' = M ∧ Ov M u d
structure oYs (X : Cx) (es : List Expr) (ε : OE) (us : List OV) : Prop where
  run : ∀ P M0 n δ M, Rl P M0 n ε δ M → aA X es δ M fun ds M' => M' = M ∧ Rd M us ds
theorem oY.of (h : oX X e ε u) : oY X e ε u := ⟨fun P M0 n δ M r => by
  obtain ⟨d, h1, k⟩ := h P M0 n δ M r
  exact h1 _ ⟨rfl, k⟩⟩
theorem oys_nil : oYs X [] ε [] := ⟨fun _ _ _ _ _ _ => aa_nil ⟨rfl, .nil⟩⟩
def asR : OV → OV
  | .l ds => .r ds
  | o => o
theorem oys_v (h : oV X e ε d) (h2 : oYs X es ε us) (hs : starEach (e :: es) X.env = (false, eval e X.env) :: starEach es X.env := by rfl) : oYs X (e :: es) ε (.v d :: us) := ⟨fun P M0 n δ M r => aa_cons (h P M0 n δ M r _ ((h2.run P M0 n δ M r).imp fun ds M' ⟨e, z⟩ => ⟨e, .v z⟩)) hs⟩
theorem oys_u {ds : List D} (h : oY X e ε u) (hu : ListO u ds) (h2 : oYs X es ε us) (hs : starEach (e :: es) X.env = (false, eval e X.env) :: starEach es X.env := by rfl) : oYs X (e :: es) ε (asR u :: us) := ⟨fun P M0 n δ M r => aa_cons ((h.run P M0 n δ M r).imp fun d M1 ⟨e1, k⟩ => by
  subst e1
  refine (h2.run P M0 n δ M1 r).imp fun ds M' ⟨e, z⟩ => ⟨e, ?_⟩
  cases hu with
  | lst => have k : d = _ := k; subst k; exact .v z
  | l => obtain ⟨q, rfl, hq⟩ := k; exact .r hq z
  | r => obtain ⟨q, rfl, hq⟩ := k; exact .r hq z) hs⟩
theorem asR_list {ds : List D} (h : ListO u ds) : ListO (asR u) ds ∧ isRd (asR u) := by
  cases h with
  | lst => exact ⟨.lst, trivial⟩
  | l => exact ⟨.r, trivial⟩
  | r => exact ⟨.r, trivial⟩
theorem ov_callR (g : XF X G N sc) {k : Nat} {f : Str} {S : List OV → (OV → Prop) → Prop} (F : Fn G k f (spR S)) (hr : Room k X.A) {pp : Pos} (he : oYs X (e :: es) ε us) (q : ∀ Q : OV → Prop, Q (.v d) → S us Q) (hg : sc.names.lookup f = some .globalImplicit := by rfl) (hdb : (f == ("__debug__" : Str)) = false := by decide)
    (hs : starEach (e :: es) X.env = (false, eval e X.env) :: starEach es X.env := by rfl) (hpl : (backTo pos (starEach es X.env)).any (·.1) = false := by rfl) : oV X (.Call (.Name f pp) (e :: es) [] pos) ε d := .mk fun P M0 n δ M r Q hQ =>
  ae_call g F hr ((he.run P M0 n δ M r).imp fun ds M' ⟨e1, rd⟩ => by
    subst e1
    exact ⟨us, rd, q _ fun d' e2 => by have e2 : d' = d := e2; subst e2; exact hQ⟩) hg hdb hs hpl
theorem oy_callR (g : XF X G N sc) {k : Nat} {f : Str} {S : List OV → (OV → Prop) → Prop} (F : Fn G k f (spR S)) (hr : Room k X.A) {pp : Pos} (he : oYs X (e :: es) ε us) (q : ∀ Q : OV → Prop, Q u → S us Q) (hg : sc.names.lookup f = some .globalImplicit := by rfl) (hdb : (f == ("__debug__" : Str)) = false := by decide)
    (hs : starEach (e :: es) X.env = (false, eval e X.env) :: starEach es X.env := by rfl) (hpl : (backTo pos (starEach es X.env)).any (·.1) = false := by rfl) : oY X (.Call (.Name f pp) (e :: es) [] pos) ε u := ⟨fun P M0 n δ M r =>
  ae_call g F hr ((he.run P M0 n δ M r).imp fun ds M' ⟨e1, rd⟩ => by
    subst e1
    exact ⟨us, rd, q _ fun d' k => ⟨rfl, k⟩⟩) hg hdb hs hpl⟩
/-- names of lists -/
theorem ox_u (g : XF X G N sc) (i : Nat) {ds : List D} (hu : ListO u ds) (hN : N[i]? = some x := by rfl) (h : ε[i]? = some (some u) := by rfl) (hv : visB sc x = true := by rfl) (hd : (x == ("__debug__" : Str)) = false := by decide) (hcd : (x == ("__classdict__" : Str)) = false := by decide) : oX X (.Name x pos) ε u := by
  cases hu with
  | lst => exact .of (ov_nm g i h hN hv hd hcd)
  | l => exact ox_nm g i h hN hv hd hcd
  | r =>
    refine .mk fun P M0 n δ M r => ?_
    obtain ⟨q, h1, h2, _⟩ := r.at_r h
    exact ⟨_, av_name g i h1 hN hv hd hcd, q, rfl, h2⟩
theorem oe_u (g : XF X G N sc) (i : Nat) {ds : List D} (hu : ListO u ds) (hi : isRd u) (h : ε[i]? = some (some u)) (q : Q u n) (hN : N[i]? = some x := by rfl) (hv : visB sc x = true := by rfl) (hd : (x == ("__debug__" : Str)) = false := by decide) (hcd : (x == ("__classdict__" : Str)) = false := by decide) : oE X (.Name x pos) ε n Q := by
  cases hu with
  | lst => exact (ov_nm g i h hN hv hd hcd).ev q
  | l => exact hi.elim
  | r =>
    refine .mk fun P M0 δ M r => ?_
    obtain ⟨y, h1, _, h2, _⟩ := r.at_r h
    exact av_name g i h1 hN hv hd hcd _ ⟨.r ds, n, r, ⟨y, i, rfl, h2, h, h1⟩, q⟩
end Ab
/-! is of truth values, keyword calls, texts of tuples. -/
namespace Ab
open PySem PySem.Spec PyProof.Rows L2
variable {X : Cx} {e a b o : Expr} {es : List Expr} {kws : List Keyword} {st : Stmt} {sts : List Stmt} {ε : OE} {n : Int} {Q : OV → Int → Prop} {A : OEnds} {G : Gx} {N : List Str} {sc scope : Scope} {pos p2 p kpos : Pos} {x m : Str} {d d' : D} {δ : DE} {M : AHp}
def rIsB (neg : Bool) : R2 := fun x y H Q => ∃ j k, x = .bl j ∧ y = .bl k ∧ Q (.bl (if neg then !decide (j = k) else decide (j = k))) H
theorem op_isB : OpR X (compareOp .Is) (rIsB false) := by
  intro pins s σ H x y v u Q I rx ry h
  obtain ⟨j, k, rfl, rfl, q⟩ := h
  cases rx
  cases ry
  refine wpAny_is_plain rfl ⟨.bl (decide (j = k)), H, I, ?_, q⟩
  cases j <;> cases k <;> rfl
theorem op_isNotB : OpR X (compareOp .IsNot) (rIsB true) := by
  intro pins s σ H x y v u Q I rx ry h
  obtain ⟨j, k, rfl, rfl, q⟩ := h
  cases rx
  cases ry
  refine wpAny_isNot_plain rfl ⟨.bl (!decide (j = k)), H, I, ?_, q⟩
  cases j <;> cases k <;> rfl
theorem p_isB {neg : Bool} {j k : Bool} : pR (rIsB neg) M (.bl j) (.bl k) (.bl (if neg then !decide (j = k) else decide (j = k))) := fun x y B H Q2 ra rb c kk => by
  cases ra
  cases rb
  exact ⟨j, k, rfl, rfl, kk _ B H (Same.refl _) (.bl _) c⟩
theorem cv_isB {j k : Bool} : CmpV X .Is (.v (.bl j)) (.v (.bl k)) (decide (j = k)) := .of op_isB fun _ => p_isB (neg := false)
theorem cv_isNotB {j k : Bool} : CmpV X .IsNot (.v (.bl j)) (.v (.bl k)) (!decide (j = k)) := .of op_isNotB fun _ => p_isB (neg := true)
/-! ### keywords -/
structure oK (X : Cx) (kws : List Keyword) (ε : OE) (ds : List D) : Prop where
  run : ∀ P M0 n δ M, Rl P M0 n ε δ M → ∀ Q : List D → AHp → Prop, Q ds M → aK X kws δ M Q
theorem okw_nil : oK X [] ε [] := ⟨fun _ _ _ _ _ _ _ q => ak_nil q⟩
theorem okw_cons {nm : Option Str} {ds : List D} (h : oV X e ε d) (h2 : oK X kws ε ds) : oK X (⟨nm, e, kpos⟩ :: kws) ε (d :: ds) := ⟨fun P M0 n δ M r Q q => ak_cons (h P M0 n δ M r _ (h2.run P M0 n δ M r _ q))⟩
theorem ov_callK0 (g : XF X G N sc) {k : Nat} {ks : List Str} {S : List D → (D → Prop) → Prop} (F : FnK G k x 0 ks gApp (spV S)) (hr : Room k X.A) {ds : List D} (h : oK X kws ε ds) (hl : ds.length = ks.length) (q : ∀ Q : D → Prop, Q d → S ds Q) (hg : sc.names.lookup x = some .globalImplicit := by rfl) (hdb : (x == ("__debug__" : Str)) = false := by decide)
    (hall : (backToKw pos (keywordEach kws X.env)).all (·.1.isSome) = true := by rfl) (hks : (backToKw pos (keywordEach kws X.env)).filterMap (·.1) = ks := by rfl)
    (hpl : ((backTo pos (starEach [] X.env)).any (·.1) || (backToKw pos (keywordEach kws X.env)).any (·.1.isNone)) = false := by rfl) : oV X (.Call (.Name x p) [] kws pos) ε d := .mk fun P M0 n δ M r Q hQ =>
  ae_callK0 g F hr (h.run P M0 n δ M r _ ⟨hl, q (fun d' => Q d' M) hQ⟩) hg hdb hall hks hpl
/-! ### texts -/
theorem shw_tup {α : Type} {n m : Nat} {f : α → D} {l : List α} (h : ∀ x ∈ l, Shw n (f x)) (hl : l.length ≤ m) (hd : ∀ x ∈ l, (f x).py.depth ≤ 29) : Shw (m * (n + 2) + 3) (.tup (l.map f)) := ⟨by
    unfold D.plain
    exact plains_map fun x hx => (h x hx).plain, by
    unfold D.py PyData.showable
    rw [pys_map]
    exact showableAll_of fun d hd => by
      obtain ⟨x, hx, rfl⟩ := List.mem_map.mp hd
      exact (h x hx).able, by
    unfold D.py PyData.shown
    rw [pys_map, shownAll_map]
    refine Nat.le_trans (tupleText_len_le _) ?_
    have z := sum_le_mul (n := n) (l := (l.map fun x => (f x).py.shown).map (·.length)) fun y hy => by
      rw [List.map_map] at hy
      obtain ⟨x, hx, rfl⟩ := List.mem_map.mp hy
      exact (h x hx).len
    rw [List.length_map, List.length_map] at z
    rw [List.length_map]
    have y1 : l.length * n ≤ m * n := Nat.mul_le_mul_right _ hl
    rw [Nat.mul_add]
    omega, by
    unfold D.py PyData.depth
    rw [pys_map]
    refine Nat.succ_le_succ (depthAll_le fun d hd' => ?_)
    obtain ⟨x, hx, rfl⟩ := List.mem_map.mp hd'
    exact hd x hx⟩
theorem shw_lstD {n m : Nat} {l : List D} (h : ∀ x ∈ l, Shw n x) (hl : l.length ≤ m) (hd : ∀ x ∈ l, x.py.depth ≤ 29) : Shw (m * (n + 2) + 3) (.lst l) := by
  have z := shw_list (f := fun d : D => d) h hl hd
  rw [List.map_id'] at z
  exact z
theorem shw_tupD {n m : Nat} {l : List D} (h : ∀ x ∈ l, Shw n x) (hl : l.length ≤ m) (hd : ∀ x ∈ l, x.py.depth ≤ 29) : Shw (m * (n + 2) + 3) (.tup l) := by
  have z := shw_tup (f := fun d : D => d) h hl hd
  rw [List.map_id'] at z
  exact z
end Ab
/-! Keyword calls in the other order. -/
namespace Ab
open PySem PySem.Spec PyProof.Rows L2
variable {X : Cx} {kws : List Keyword} {ε : OE} {G : Gx} {N : List Str} {sc : Scope} {pos p : Pos} {x : Str} {d : D}
/-- keywords in the order from the last parameter to the first -/
abbrev gRev {α : Type} (a b : List α) : List α := a ++ b.reverse
theorem Vals.rev : ∀ {vs : List V} {us : List Value}, Vals vs us → Vals vs.reverse us.reverse
  | _, _, .nil => .nil
  | _, _, .cons r t => by
    rw [List.reverse_cons, List.reverse_cons]
    exact (Vals.rev t).append (.cons r .nil)
theorem Reps.rev {B : Hp} : ∀ {vs : List V} {ds : List D}, Reps B vs ds → Reps B vs.reverse ds.reverse
  | _, _, .nil => .nil
  | _, _, .cons r t => by
    rw [List.reverse_cons, List.reverse_cons]
    exact (Reps.rev t).append (.cons r .nil)
theorem KwB.rev {K : PySem.W.Frag} {fd : FuncData} {ps : List Str} {n : Nat} {ks : List Str} (h : ∀ us ws : List Value, us.length = n → ws.length = ks.length → bindArgs fd ⟨us, ks.zip ws⟩ = pure (ps.zip (us ++ ws.reverse))) : KwB K fd ps n ks gRev :=
  ⟨fun s us ws _ h1 h2 => .of_eq (h us ws h1 h2), fun r1 r2 => r1.append (Vals.rev r2), fun r1 r2 => r1.append (Reps.rev r2)⟩
theorem ov_callKg {go : {α : Type} → List α → List α → List α} (g : XF X G N sc) {k : Nat} {ks : List Str} {S : List D → (D → Prop) → Prop} (F : FnK G k x 0 ks go (spV S)) (hr : Room k X.A) {ds : List D} (h : oK X kws ε ds) (hl : ds.length = ks.length) (q : ∀ Q : D → Prop, Q d → S (go [] ds) Q) (hg : sc.names.lookup x = some .globalImplicit := by rfl) (hdb : (x == ("__debug__" : Str)) = false := by decide)
    (hall : (backToKw pos (keywordEach kws X.env)).all (·.1.isSome) = true := by rfl) (hks : (backToKw pos (keywordEach kws X.env)).filterMap (·.1) = ks := by rfl)
    (hpl : ((backTo pos (starEach [] X.env)).any (·.1) || (backToKw pos (keywordEach kws X.env)).any (·.1.isNone)) = false := by rfl) : oV X (.Call (.Name x p) [] kws pos) ε d := .mk fun P M0 n δ M r Q hQ =>
  ae_callK0 g F hr (h.run P M0 n δ M r _ ⟨hl, q (fun d' => Q d' M) hQ⟩) hg hdb hall hks hpl
end Ab
/-! Two comparisons in a row, defs that return a new list, list.index, list.insert. -/
namespace Ab
open PySem PySem.Spec PyProof.Rows L2
section
variable {X : Cx} {M : AHp} {δ : DE} {pos : Pos}
theorem atv_chain {op op' : CmpOp} {r r' : R2} {a b c : Expr} {da db dc : D} {k l : Bool} (ho : OpR X (compareOp op) r) (ho' : OpR X (compareOp op') r') (ha : aV X a δ M da) (hb : aV X b δ M db) (hc : aV X c δ M dc) (h1 : pR r M da db (.bl k)) (h2 : pR r' M db dc (.bl l)) (hm : lastMarks [op, op'] [b, c] = false := by rfl) : aTV X (.Compare a [op, op'] [b, c] pos) δ M (k && l) := fun Q q σ H B rs cf =>
  wT_of (pt_chain ho ho' pe_w pe_w pe_w hm) (ha.run rs cf fun x B1 H1 s1 r1 c1 => hb.run (rs.mono s1) c1 fun y B2 H2 s2 r2 c2 => h1 x y B2 H2 _ (r1.mono s2) r2 c2 fun v B3 H3 s3 r3 c3 => by
    cases r3
    refine ⟨k, rfl, ?_⟩
    cases k with
    | true =>
      rw [if_pos rfl]
      exact hc.run (((rs.mono s1).mono s2).mono s3) c3 fun z B4 H4 s4 r4 c4 => h2 y z B4 H4 _ ((r2.mono s3).mono s4) r4 c4 fun v B5 H5 s5 r5 c5 => by
        cases r5
        exact ⟨l, rfl, M, B5, (((s1.trans s2).trans s3).trans s4).trans s5, c5, q⟩
    | false =>
      rw [if_neg (by decide)]
      exact ⟨false, rfl, M, B3, (s1.trans s2).trans s3, c3, q⟩)
end
variable {X : Cx} {e a b c o : Expr} {es : List Expr} {kws : List Keyword} {ε : OE} {n : Int} {Q : OV → Int → Prop} {A : OEnds} {G : Gx} {N : List Str} {sc : Scope} {pos p apos : Pos} {x f : Str} {d : D}
theorem ot_chain {op op' : CmpOp} {u w z : OV} {k l : Bool} (ha : oX X a ε u) (hb : oX X b ε w) (hc : oX X c ε z) (ho : CmpV X op u w k) (ho' : CmpV X op' w z l) (hm : lastMarks [op, op'] [b, c] = false := by rfl) : oT X (.Compare a [op, op'] [b, c] pos) ε (k && l) := .mk fun P M0 n δ M r =>
  let ⟨_, h1, k1⟩ := ha P M0 n δ M r; let ⟨_, h2, k2⟩ := hb P M0 n δ M r; let ⟨_, h3, k3⟩ := hc P M0 n δ M r; let ⟨_, h4, k4⟩ := ho; let ⟨_, h5, k5⟩ := ho'; atv_chain h4 h5 h1 h2 h3 (k4 M _ _ k1 k2) (k5 M _ _ k2 k3) hm
/-! ### defs that return a new list -/
def spF (S : List D → (List D → Prop) → Prop) : ASp := fun ds M Q _ => S ds fun xs => ∀ p, M p = none → Q (.adr p) (updM M p (.lst xs))
structure MonF (S : List D → (List D → Prop) → Prop) : Prop where
  mon : ∀ {ds : List D} {k k' : List D → Prop}, (∀ xs, k xs → k' xs) → S ds k → S ds k'
theorem up_F {S : List D → (List D → Prop) → Prop} (m : MonF S) : Up (spF S) := ⟨fun f _ h => m.mon (fun xs q p hp => f _ _ (q p hp)) h⟩
theorem ok_fresh {y qual : Str} {st : Stmt} {f : Addr} {fd : FuncData} {N ps : List Str} {k : Nat} {S : List D → (List D → Prop) → Prop} (F : L2.Fun G.K y qual st f fd) (Sc : FnScope N ps (defScope st)) (len : ∀ ds kk, S ds kk → ds.length = ps.length)
    (hb : ∀ X : Cx, XD X G N (defScope st) → Room k X.A → ∀ ds kk, S ds kk → oSs X (defBody st) { nx := fun _ _ => False, rt := fun ov _ => ∃ xs, ov = .l xs ∧ kk xs } (startO N (ds.map .v)) 0) : FnG G CX0 (k + 1) f fd ps (toSp (spF S)) := by
  refine aok F Sc (fun ds M Q E h => len _ _ h) (fun X g hr ds M Q E h => ?_)
  have z := hb X g hr ds _ h none M _ M rl_start
  intro σ H B rs c
  refine (z σ H B rs c).imp ⟨fun σ' H' q => ?_, fun v H' q => ?_, fun σ' H' q => ?_, fun σ' H' q => ?_⟩
  · obtain ⟨_, _, _, _, _, _, _, _, _, q⟩ := q; exact q.elim
  · obtain ⟨d, M', B', s, r, c', ov, n, ε, δ, rl, ovr, xs, e, q⟩ := q
    subst e
    obtain ⟨p, rfl, hp, fr⟩ := ovr
    refine ⟨_, updM M p (.lst xs), B', s, r, c'.forget fun a o e => ?_, q p fr.1⟩
    by_cases ha : a = p
    · subst ha; rw [updM_same] at e; cases e; exact hp
    · rw [updM_ne ha] at e
      exact rl.fr a o (fun e => nomatch e) e
  · obtain ⟨_, _, _, _, _, _, _, _, _, q⟩ := q; exact q.elim
  · obtain ⟨_, _, _, _, _, _, _, _, _, q⟩ := q; exact q.elim
/-- f(..), a new list -/
theorem oe_callF (g : XF X G N sc) {k : Nat} {S : List D → (List D → Prop) → Prop} (F : Fn G k f (spF S)) (hr : Room k X.A) (mon : MonF S) {pp : Pos} {ds : List D} (he : oVs X (e :: es) ε ds) (q : S ds fun xs => Q (.l xs) n) (hg : sc.names.lookup f = some .globalImplicit := by rfl) (hdb : (f == ("__debug__" : Str)) = false := by decide)
    (hs : starEach (e :: es) X.env = (false, eval e X.env) :: starEach es X.env := by rfl) (hpl : (backTo pos (starEach es X.env)).any (·.1) = false := by rfl) : oE X (.Call (.Name f pp) (e :: es) [] pos) ε n Q := .mk fun P M0 δ M r =>
  ae_call g F hr (he P M0 n δ M r _ (mon.mon (fun xs q p hp => ⟨.l xs, n, r.new hp, ⟨p, rfl, updM_same, r.free hp⟩, q⟩) q)) hg hdb hs hpl
theorem oe_callKF (g : XF X G N sc) {k : Nat} {ks : List Str} {S : List D → (List D → Prop) → Prop} (F : FnK G k x 0 ks gApp (spF S)) (hr : Room k X.A) (mon : MonF S) {ds : List D} (h : oK X kws ε ds) (hl : ds.length = ks.length) (q : S ds fun xs => Q (.l xs) n) (hg : sc.names.lookup x = some .globalImplicit := by rfl) (hdb : (x == ("__debug__" : Str)) = false := by decide)
    (hall : (backToKw pos (keywordEach kws X.env)).all (·.1.isSome) = true := by rfl) (hks : (backToKw pos (keywordEach kws X.env)).filterMap (·.1) = ks := by rfl)
    (hpl : ((backTo pos (starEach [] X.env)).any (·.1) || (backToKw pos (keywordEach kws X.env)).any (·.1.isNone)) = false := by rfl) : oE X (.Call (.Name x p) [] kws pos) ε n Q := .mk fun P M0 δ M r =>
  ae_callK0 g F hr (h.run P M0 n δ M r _ ⟨hl, mon.mon (fun xs q p hp => ⟨.l xs, n, r.new hp, ⟨p, rfl, updM_same, r.free hp⟩, q⟩) q⟩) hg hdb hall hks hpl
/-- f(..), a new list, as data -/
theorem ov_callF (g : XF X G N sc) {k : Nat} {S : List D → (List D → Prop) → Prop} (F : Fn G k f (spF S)) (hr : Room k X.A) {pp : Pos} {ds xs : List D} (he : oVs X (e :: es) ε ds) (q : ∀ Q : List D → Prop, Q xs → S ds Q) (hg : sc.names.lookup f = some .globalImplicit := by rfl) (hdb : (f == ("__debug__" : Str)) = false := by decide)
    (hs : starEach (e :: es) X.env = (false, eval e X.env) :: starEach es X.env := by rfl) (hpl : (backTo pos (starEach es X.env)).any (·.1) = false := by rfl) : oV X (.Call (.Name f pp) (e :: es) [] pos) ε (.lst xs) := .mk fun P M0 n δ M r Q hQ =>
  ae_frz (ae_call g F hr (he P M0 n δ M r _ (q _ fun p hp => ⟨p, xs, rfl, updM_same, by rw [delM_updM hp]; exact hQ⟩)) hg hdb hs hpl)
/-! ### list.index -/
theorem index_sem {M : AHp} {δ : DE} {do_ : D} {ns : List Int} {y : Int} {j : Nat} (ho : aV X o δ M do_) (hi : ListD M do_ (ns.map D.int)) (he : aV X e δ M (.int y)) (hj : ns[j]? = some y) (hn : ∀ m, m < j → ns[m]? ≠ some y) (hbase : attributeBase o "index" X.env (eval o X.env) = eval o X.env := by rfl) (hline : (apos.endLine == pos.line) = true := by rfl) (hs : starEach [e] X.env = (false, eval e X.env) :: starEach [] X.env := by rfl)
    (hfew : ((backTo pos (starEach [e] X.env)).all (fun x => !x.1) && (backToKw pos (keywordEach [] X.env)).all (fun x => x.1.isSome)
      && decide ((e :: []).length + ([] : List Keyword).length + (if ([] : List Keyword).isEmpty then 0 else 1) < 30)) = true := by rfl) :
    aV X (.Call (.Attribute o "index" apos) [e] [] pos) δ M (.int j) := 
  av_of (pe_bm PySem.F.plainAttrs_list PySem.F.slot_list_index PySem.F.type_list_index mt_index pe_w (pa_cons pe_w pa_nil hs) hbase hfew hline hs rfl) fun σ H B Q2 rs c kk => ho.run rs c fun x B1 H1 s1 r1 c1 => by
    obtain ⟨a, xs, rfl, ha, rv⟩ := hi.at_ r1 c1
    refine ⟨.inl ⟨rfl, _, .inl (.inl ha)⟩, ?_⟩
    refine he.run (rs.mono s1) c1 fun y2 B2 H2 s2 r2 c2 => ?_
    cases r2
    obtain ⟨a2, xs2, e2, ha2, rv2⟩ := hi.at_ (r1.mono s2) c2
    cases e2
    have e3 := reps_ints rv2
    subst e3
    refine ⟨a, ns.map V.int, .int y, j, .int y, rfl, rfl, .inl (.inl ha2), rfl, flat_ints ns, by rw [List.getElem?_map, hj]; rfl, by simp [eqV], fun m z' hm hz => ?_, kk _ B2 H2 (s1.trans s2) (.int _) c2⟩
    rw [List.getElem?_map] at hz
    cases h : ns[m]? with
    | none => rw [h] at hz; cases hz
    | some w =>
      rw [h] at hz
      cases hz
      have hw : w ≠ y := fun e => hn m hm (by rw [h, e])
      simp [eqV, hw]
theorem ov_index {u : OV} {ns : List Int} {y : Int} {j : Nat} (ho : oX X o ε u) (hi : ListO u (ns.map D.int)) (he : oV X e ε (.int y)) (hj : ns[j]? = some y) (hn : ∀ m, m < j → ns[m]? ≠ some y) (hbase : attributeBase o "index" X.env (eval o X.env) = eval o X.env := by rfl) (hline : (apos.endLine == pos.line) = true := by rfl) (hs : starEach [e] X.env = (false, eval e X.env) :: starEach [] X.env := by rfl)
    (hfew : ((backTo pos (starEach [e] X.env)).all (fun x => !x.1) && (backToKw pos (keywordEach [] X.env)).all (fun x => x.1.isSome)
      && decide ((e :: []).length + ([] : List Keyword).length + (if ([] : List Keyword).isEmpty then 0 else 1) < 30)) = true := by rfl) :
    oV X (.Call (.Attribute o "index" apos) [e] [] pos) ε (.int j) := .mk fun P M0 n δ M r =>
  let ⟨_, h1, k1⟩ := ho P M0 n δ M r; index_sem h1 (hi.d k1) (he P M0 n δ M r) hj hn hbase hline hs hfew
theorem os_exprV (h : oV X e ε d) (q : A.nx ε n) (hs : swapsWith e none pos.line X.env = pure false := by rfl) : oS X (.Expr e pos) A ε n := .mk fun P M0 δ M r => as_expr (h P M0 n δ M r _ ⟨ε, n, r, q⟩) hs
/-! ### list.insert -/
theorem os_insert (g : XF X G N sc) (i : Nat) {p2 pp : Pos} {ds : List D} {k : Int} (ha : oV X a ε (.int k)) (h : oE X b ε n fun ov n' => ∃ d, ov = .v d ∧ ds.length < 100000 ∧ 0 ≤ k ∧ k < 2 ^ 62 ∧ A.nx (ε.set i (some (.l (ds.take k.toNat ++ [d] ++ ds.drop k.toNat)))) n') (hi : ε[i]? = some (some (.l ds)) := by rfl) (hN : N[i]? = some x := by rfl) (hv : visB sc x = true := by rfl) (hd : (x == ("__debug__" : Str)) = false := by decide) (hcd : (x == ("__classdict__" : Str)) = false := by decide)
    (hbase : attributeBase (.Name x pp) "insert" X.env (eval (.Name x pp) X.env) = eval (.Name x pp) X.env := by rfl) (hline : (apos.endLine == pos.line) = true := by rfl) (hs : starEach [a, b] X.env = (false, eval a X.env) :: starEach [b] X.env := by rfl) (hs2 : starEach [b] X.env = (false, eval b X.env) :: starEach [] X.env := by rfl)
    (hfew : ((backTo pos (starEach [a, b] X.env)).all (fun x => !x.1) && (backToKw pos (keywordEach [] X.env)).all (fun x => x.1.isSome)
      && decide ((a :: [b]).length + ([] : List Keyword).length + (if ([] : List Keyword).isEmpty then 0 else 1) < 30)) = true := by rfl) (hpl : (backTo pos (starEach [b] X.env)).any (·.1) = false := by rfl)
    (hsw : swapsWith (.Call (.Attribute (.Name x pp) "insert" apos) [a, b] [] pos) none p2.line X.env = pure false := by rfl) : oS X (.Expr (.Call (.Attribute (.Name x pp) "insert" apos) [a, b] [] pos) p2) A ε n := .mk fun P M0 δ M r => by
  obtain ⟨q, h1, h2, h3⟩ := r.at_l hi
  refine as_expr (ae_insert (av_name g i h1 hN hv hd hcd _ ⟨q, ds, rfl, h2, ha P M0 n δ M r _ ((h P M0 δ M r).imp fun d2 M2 ⟨ov, n', r', v, d, e2, hl, k0, k1, z⟩ => ?_)⟩) hbase hline hs hs2 hfew hpl) hsw
  subst e2
  have v : d2 = d := v
  subst v
  obtain ⟨j1, j2, r2⟩ := r'.upd hi h1 rfl (o' := .l (ds.take k.toNat ++ [d2] ++ ds.drop k.toNat)) rfl
  exact ⟨ds, k, rfl, j1, hl, k0, k1, _, n', r2, z⟩
end Ab
/-! len of an own object, comprehensions over a range whose list is new. -/
namespace Ab
open PySem PySem.Spec PyProof.Rows L2
variable {X : Cx} {e a b c o elt : Expr} {es : List Expr} {ε : OE} {n : Int} {Q : OV → Int → Prop} {A : OEnds} {G : Gx} {N : List Str} {sc scope : Scope} {pos p : Pos} {x f y : Str} {d : D}
theorem ov_lenOwn (g : XF X G N sc) {k : Nat} {C : Addr} {S : List D → (D → Prop) → Prop} {fs : List (Str × D)} {m : Int} (F : Mt G k C "__len__" (spV S)) (hr : Room (k + 1) X.A) (hm : G.mg "len" = none) (h : oV X e ε (.obj C fs)) (q : ∀ Q : D → Prop, Q (.int m) → S [.obj C fs] Q) (h0 : 0 ≤ m) (h1 : m < 2 ^ 63)
    (hg : sc.names.lookup ("len" : Str) = some .globalImplicit := by rfl) (he : starEach (e :: []) X.env = (false, eval e X.env) :: starEach [] X.env := by rfl) : oV X (.Call (.Name "len" p) [e] [] pos) ε (.int m) := .mk fun P M0 n δ M r Q hQ =>
  ae_lenOwn g F hr hm (h P M0 n δ M r _ ⟨fs, .obj, q _ ⟨m, rfl, h0, h1, hQ⟩⟩) hg he
theorem oe_lcFR (g : XF X G N sc) (j : Nat) {py p2 : Pos} {m : Nat} {pr : Nat → Bool} {h : Nat → D} (hm : G.mg "range" = none) (ha : oV X a ε (.int m)) (hl : m < 100000) (hc : ∀ i, i < m → ∀ X', XF X' G N (relS scope sc) → X'.A = X.A → oT X' c (ε.set j (some (.v (.int (i : Nat))))) (pr i)) (he : ∀ i, i < m → pr i = true → ∀ X', XF X' G N (relS scope sc) → X'.A = X.A → oV X' elt (ε.set j (some (.v (.int (i : Nat))))) (h i)) (q : Q (.l (((List.range m).filter pr).map h)) n) (hN : N[j]? = some y := by rfl) (hε : ε[j]? = some none := by rfl) (hlo : locB (relS scope sc) y = true := by rfl) (ho : ownB scope sc y = true := by rfl) (okb : blkC N sc scope [(y, j)] = true := by decide +kernel)
    (hg : sc.names.lookup ("range" : Str) = some .globalImplicit := by rfl) (hs : starEach [a] X.env = [(false, eval a X.env)] := by rfl) (hfs : ∀ x, foldedSetIterable (.Call (.Name "range" p) [a] [] p2) X.env x = pure x := by intro _; rfl) : oE X (.ListComp elt [⟨.Name y py, .Call (.Name "range" p) [a] [] p2, [c], 0⟩] scope pos) ε n Q :=
  oe_ofLC (own := [(y, j)]) g okb (tg_name g j (by exact List.mem_singleton.mpr rfl) hN hlo ho) (.inr ⟨c, rfl⟩) (olc_1 g (tg_name g j (by exact List.mem_singleton.mpr rfl) hN hlo ho) (oit_r g hm (ha.ev ⟨(m : Int), rfl, by omega, by omega, fun i acc m' => m' = n ∧ acc = ((List.range i).filter pr).map h, ⟨rfl, rfl⟩, by rw [rgD_len]; omega, fun i d acc m' hd ⟨h1, h2⟩ => by
      obtain ⟨hi, rfl⟩ := rgD_get hd
      rw [Int.toNat_natCast] at hi
      refine ⟨_, pr i, tgs_1 hε, fun X' gX eA => ?_, fun hp X' gX eA => ?_, fun hp => ⟨h1, ?_⟩⟩
      · have z := hc i hi X' gX eA
        rw [Int.zero_add]; exact z
      · have z := he i hi hp X' gX eA
        rw [Int.zero_add]
        refine z.ev ⟨_, rfl, h1, ?_⟩
        rw [h2, List.range_succ, List.filter_append, List.map_append]
        simp [hp]
      · rw [h2, List.range_succ, List.filter_append, List.map_append]
        simp [hp], fun acc m' ⟨h1, h2⟩ => by
      rw [rgD_len, Int.toNat_natCast] at h2
      rw [h1, h2]; exact q⟩) hg hs)) hfs
end Ab
/-! A list the other way about, a list taken apart. -/
namespace Ab
open PySem PySem.Spec PyProof.Rows L2
theorem ag_lst {X : Cx} {G : Gx} {N : List Str} {sc : Scope} {ts : List Expr} {ds : List D} {δ : DE} {M : AHp} {Q : DE → AHp → Prop} {k : Nat} {pos : Pos} (g : XF X G N sc) (h : aGs' X ts ds δ M Q) (hn : (assignEach ts X.env).length = ds.length := by rfl) (hst : (assignEach ts X.env).findIdx? (·.1) = none := by rfl) : aG X (.Tuple ts k pos) (.lst ds) δ M Q := fun σ H B v rs c r => by
  cases r with
  | lst h1 h2 => exact wG_of (pg_unl g.calm pgs_w hn hst) ⟨_, _, rfl, .inl (.inl (c.ex _ _ h1)), h2.length, h σ H B _ rs c h2⟩
variable {X : Cx} {e a b c o elt : Expr} {es : List Expr} {ε : OE} {n : Int} {Q : OV → Int → Prop} {A : OEnds} {G : Gx} {N : List Str} {sc scope : Scope} {pos p p1 p2 p3 : Pos} {x f y : Str} {d : D}
theorem og_twoL (g : XD X G N sc) (i j : Nat) {d1 d2 : D} {y : Str} {px py : Pos} {k : Nat} {Q : OE → Int → Prop} (q : Q ((ε.set i (some (.v d1))).set j (some (.v d2))) n) (hN : N[i]? = some x := by rfl) (hv : locB sc x = true := by rfl) (hN2 : N[j]? = some y := by rfl) (hv2 : locB sc y = true := by rfl)
    (hn : (assignEach [.Name x px, .Name y py] X.env).length = 2 := by rfl) (hst : (assignEach [.Name x px, .Name y py] X.env).findIdx? (·.1) = none := by rfl) (h1 : (assignEach [.Name x px, .Name y py] X.env).map (·.2) = assign (.Name x px) X.env :: (assignEach [.Name y py] X.env).map (·.2) := by rfl) (h2 : (assignEach [.Name y py] X.env).map (·.2) = assign (.Name y py) X.env :: (assignEach [] X.env).map (·.2) := by rfl) : oG X (.Tuple [.Name x px, .Name y py] k pos) (.lst [d1, d2]) ε n Q := .mk fun P M0 δ M r =>
  ag_lst g.toXF (ags_cons (ag_name g i (ags_cons (ag_name g j (ags_nil ⟨_, n, (r.set_v i d1).set_v j d2, q⟩) hN2 hv2) h2) hN hv) h1) hn hst
theorem ov_revL {u : OV} {ds : List D} {k : Nat} (he : oX X e ε u) (hd : ListO u ds) : oV X (.Subscript e (.Slice none none (some (.UnaryOp .USub (.Constant (.int 1) k p1) p2)) p3) pos) ε (.lst ds.reverse) := .mk fun P M0 n δ M r => by
  obtain ⟨dv, h1, k1⟩ := he P M0 n δ M r
  refine av_of (pe_revL pe_w) fun σ H B Q rs c k => h1.run rs c fun x B1 H1 s1 r1 c1 => ?_
  obtain ⟨p, xs, rfl, hx, hr⟩ := (hd.d k1).at_ r1 c1
  refine ⟨p, xs, rfl, .inl (.inl hx), fun q hq => ?_⟩
  obtain ⟨s4, c4⟩ := c1.newI (.lst xs.reverse) hq
  exact k _ _ _ (s1.trans s4) (.lst upd_same (hr.rev.mono s4)) c4
end Ab
/-! A slice that is a new list, an item of an own list at a drawn place, repr of what is drawn. -/
namespace Ab
open PySem PySem.Spec PyProof.Rows L2
variable {X : Cx} {e a b c o elt : Expr} {es : List Expr} {ε : OE} {n : Int} {Q : OV → Int → Prop} {A : OEnds} {G : Gx} {N : List Str} {sc scope : Scope} {pos p p1 p2 p3 pp : Pos} {x f y : Str} {d : D}
theorem cutZ_to {α : Type} {xs : List α} {i : Nat} : cutZ xs none (some (i : Int)) = xs.take i := by
  unfold cutZ
  rw [HT.sIx_none, HT.sIx_nat, List.drop_zero, Nat.sub_zero]
  by_cases h : i ≤ xs.length
  · rw [Nat.min_eq_left h]
  · rw [Nat.min_eq_right (by omega), List.take_of_length_le (by omega), List.take_of_length_le (by omega)]
theorem cutZ_from {α : Type} {xs : List α} {i : Nat} : cutZ xs (some (i : Int)) none = xs.drop i := by
  unfold cutZ
  rw [HT.sIx_none, HT.sIx_nat]
  by_cases h : i ≤ xs.length
  · rw [Nat.min_eq_left h, List.take_of_length_le (by rw [List.length_drop]; omega)]
  · rw [Nat.min_eq_right (by omega), List.drop_of_length_le (by omega), List.drop_of_length_le (by omega)]; simp
theorem oe_slM {lo hi : Option Expr} {i j : Option Int} (he : oE X e ε n fun u n1 => ∃ ds, u = .v (.lst ds) ∧ Q (.l (cutZ ds i j)) n1) (hl : CutI X ε lo i) (hh : CutI X ε hi j) : oE X (.Subscript e (.Slice lo hi none p2) pos) ε n Q := .mk fun P M0 δ M r =>
  ae_of (pe_slice sl_list pe_w po_w po_w) fun σ H B Q2 rs c kk => (he P M0 δ M r).run rs c fun x d1 M1 B1 H1 s1 r1 c1 ⟨ov, n1, r', v, ds, e1, q⟩ => by
    subst e1
    have v : d1 = .lst ds := v
    subst v
    refine hl.run r' (rs.mono s1) c1 fun B2 H2 s2 c2 => hh.run r' ((rs.mono s1).mono s2) c2 fun B3 H3 s3 c3 => ?_
    have r3 := (r1.mono s2).mono s3
    cases r3 with
    | lst h1 hr =>
      refine ⟨_, _, rfl, .inl (.inl (c3.ex _ _ h1)), fun q' hq => ?_⟩
      exact kk _ _ _ _ _ ((s1.trans s2).trans s3) (.adr q') (c3.newM (.lst (cutZ ds i j)) hq ⟨_, upd_same, cutZ_reps hr i j⟩) ⟨.l (cutZ ds i j), n1, r'.new (c3.none hq), ⟨q', rfl, updM_same, r'.free (c3.none hq)⟩, q⟩
theorem oe_ixN (g : XF X G N sc) (i : Nat) {ds : List D} (hb : oE X b ε n fun w n2 => ∃ k d, w = .v (.int k) ∧ atI ds k = some d ∧ Q (.v d) n2) (hi : ε[i]? = some (some (.l ds)) := by rfl) (hN : N[i]? = some x := by rfl) (hv : visB sc x = true := by rfl) (hd : (x == ("__debug__" : Str)) = false := by decide) (hcd : (x == ("__classdict__" : Str)) = false := by decide) (hs : PlainIx b := by exact fun _ _ => rfl) : oE X (.Subscript (.Name x pp) b pos) ε n Q := .mk fun P M0 δ M r => by
  obtain ⟨q, h1, h2, h3⟩ := r.at_l hi
  refine ae_ix ix_list (av_name g i h1 hN hv hd hcd _ ((hb P M0 δ M r).imp fun d2 M2 ⟨ov, n2, r2, v, k, d, e, ha, q2⟩ => ?_)) hs
  subst e
  have v : d2 = .int k := v
  subst v
  obtain ⟨q', h1', h2', _⟩ := r2.at_l hi
  rw [h1] at h1'
  cases h1'
  exact (p_ixM h2' ha).aR ⟨.v d, n2, r2, rfl, q2⟩
theorem oe_repr {k : Nat} (g : XF X G N sc) (hr : Room k X.A) (hm : G.mg "repr" = none) (h : oE X e ε n fun u n1 => ∃ d j, u = .v d ∧ Shw j d ∧ j ≤ 10000000 ∧ Q (.v (.str d.py.shown)) n1) (hg : sc.names.lookup ("repr" : Str) = some .globalImplicit := by rfl)
    (he : starEach (e :: []) X.env = (false, eval e X.env) :: starEach [] X.env := by rfl) (hpl : (backTo pos (starEach [] X.env)).any (·.1) = false := by rfl) : oE X (.Call (.Name "repr" p) [e] [] pos) ε n Q := .mk fun P M0 δ M r =>
  ae_callB g (call_repr hr g.gd) hm (by rfl) (aa_cons ((h P M0 δ M r).imp fun d2 M2 ⟨ov, n2, r2, v, d, j, e1, sh, hj, q⟩ => aa_nil (by
    subst e1
    have v : d2 = d := v
    subst v
    exact (c_repr sh hj).go ⟨.v _, n2, r2, rfl, q⟩)) he) hg (by decide) (by decide) he hpl
end Ab
/-! A def out of a dict of the module, called by a local name with a tuple spread. -/
namespace Ab
open PySem PySem.Spec PyProof.Rows L2
structure FnA (G : Gx) (k : Nat) (f : Addr) (a : ASp) : Prop where
  ex : ∃ (fd : FuncData) (ps : List Str), FnG G CX0 k f fd ps (toSp a) ∧ PySem.W.keepIn G.K (.ref f) = true ∧ Binds G.K fd ps []
  up : Up a
section
variable {X : Cx} {e : Expr} {es : List Expr} {δ : DE} {M : AHp} {G : Gx} {N : List Str} {sc : Scope} {pos p : Pos} {x : Str} {k : Nat} {f : Addr} {sp : ASp} {Q : DK}
theorem aa_star {Q : List D → AHp → Prop} (h : aE X e δ M fun d M1 => ∃ xs, d = .tup xs ∧ aA X es δ M1 fun ds M2 => Q (xs ++ ds) M2) (hs : starEach (.Starred e p :: es) X.env = (true, eval e X.env) :: starEach es X.env := by rfl) : aA X (.Starred e p :: es) δ M Q := fun σ H B rs c =>
  wA_of (StX.pa_star pe_w pa_w hs) (h.run rs c fun x d M1 B1 H1 s1 r1 c1 ⟨xs, e1, q1⟩ => by
    subst e1
    cases r1 with
    | tup h1 hr =>
      exact ⟨_, _, rfl, .inl (.inl (.inl (c1.ex _ _ h1))), aA.run q1 (rs.mono s1) c1 fun ys ds M2 B2 H2 s2 r2 c2 q2 => ⟨_, M2, B2, s1.trans s2, (hr.mono s2).append r2, c2, q2⟩⟩)
theorem ae_callLS (g : XF X G N sc) (i : Nat) (F : FnA G k f sp) (hr : Room k X.A) (hδ : δ[i]? = some (some (.adr f))) (h : aA X (e :: es) δ M fun ds M1 => sp ds M1 Q noX) (hN : N[i]? = some x := by rfl) (hv : visB sc x = true := by rfl) (hd : (x == ("__debug__" : Str)) = false := by decide) (hcd : (x == ("__classdict__" : Str)) = false := by decide)
    (he : starEach (e :: es) X.env = (false, eval e X.env) :: starEach es X.env := by rfl) (hst : (backTo pos (starEach es X.env)).any (·.1) = true := by rfl) : aE X (.Call (.Name x p) (e :: es) [] pos) δ M Q := fun σ H B rs c pins s I => by
  have gd := g.gd
  have hN2 : X.N[i]? = some x := by rw [g.hN]; exact hN
  have hv2 : Vis X.env.scope x := by rw [g.hsc]; exact vis_of hv
  obtain ⟨rfl, _⟩ := g
  obtain ⟨fd, ps, F1, hk, hb⟩ := F.ex
  obtain ⟨v0, h1, h2⟩ := rs.at_ i _ hδ
  cases h2
  refine wpAny_Call_Name_kw (thn ((pe_var (pos := p) hN2 hv2 hd hcd).run pins s σ H (fun v H1 => v = .ref f ∧ H1 = H) I ⟨.ref f, h1, rfl, rfl⟩) fun u s1 ⟨v, H1, I1, r1, q1⟩ => ?_)
  obtain ⟨rfl, rfl⟩ := q1
  cases r1
  refine PySem.W.callWith_S2 (h₀ := X.base) I.ok.mod.kin hk (thn (h σ H1 B rs c pos pins s1 I1) fun us s2 ⟨vs, H2, I2, r, q⟩ => ⟨I2.kIn, ?_⟩) he hst
  obtain ⟨ds, M1, B1, s1, r1, c1, q⟩ := q
  exact run_g F1 gd hr hb pass0 I2 r (toSp_of r1 c1 q F.up fun v d M' B' H' s r c' q => ⟨d, M', B', s1.trans s, r, c', q⟩)
end
variable {X : Cx} {e e2 a b : Expr} {ε : OE} {G : Gx} {N : List Str} {sc : Scope} {pos p p2 : Pos} {x : Str} {d : D} {f : Addr} {k : Nat}
theorem ov_callLS (g : XF X G N sc) (i : Nat) {S : List D → (D → Prop) → Prop} (F : FnA G k f (spV S)) (hr : Room k X.A) {a0 : D} {xs : List D} (h1 : oV X e ε a0) (h2 : oV X e2 ε (.tup xs)) (q : ∀ Q : D → Prop, Q d → S (a0 :: xs) Q) (hN : N[i]? = some x := by rfl) (hi : ε[i]? = some (some (.v (.adr f))) := by rfl) (hv : visB sc x = true := by rfl) (hd : (x == ("__debug__" : Str)) = false := by decide) (hcd : (x == ("__classdict__" : Str)) = false := by decide)
    (he : starEach [e, .Starred e2 p2] X.env = (false, eval e X.env) :: starEach [.Starred e2 p2] X.env := by rfl) (hst : (backTo pos (starEach [.Starred e2 p2] X.env)).any (·.1) = true := by rfl) (hs : starEach [.Starred e2 p2] X.env = (true, eval e2 X.env) :: starEach [] X.env := by rfl) : oV X (.Call (.Name x p) [e, .Starred e2 p2] [] pos) ε d := .mk fun P M0 n δ M r Q hQ =>
  ae_callLS g i F hr (r.at_v hi) (aa_cons (h1 P M0 n δ M r _ (aa_star (h2 P M0 n δ M r _ ⟨xs, rfl, aa_nil (by rw [List.append_nil]; exact q (fun d' => Q d' M) hQ)⟩) hs)) he) hN hv hd hcd he hst
/-- a def in a dict of the module -/
theorem ov_getKR {C : Addr} {z : Str} (g : XF X G N sc) (h : KDic G.K G.w C) (e : PySem.W.nsIn G.K C z = some (some (.ref f))) (ha : oV X a ε (.adr C)) (hb : oV X b ε (.str z)) (hs : PlainIx b := by exact fun _ _ => rfl) : oV X (.Subscript a b pos) ε (.adr f) := .mk fun P M0 n δ M r => by
  obtain ⟨rfl, _⟩ := g
  obtain ⟨es, k, h1, h2⟩ := h.ex
  exact av_ix ix_kdict (ha P M0 n δ M r) (hb P M0 n δ M r) (fun u v B H Q2 ra rb c kk => by
    cases ra; cases rb
    exact ⟨C, z, .ref f, rfl, rfl, ⟨es, k, _, h1, h2, e, rfl⟩, kk _ B H (Same.refl _) (.adr f) c⟩) hs
end Ab
/-! A picked list that may change. -/
namespace Ab
open PySem PySem.Spec PyProof.Rows L2
variable {X : Cx} {e a b c o elt iter tg : Expr} {es : List Expr} {ε : OE} {n : Int} {Q : OV → Int → Prop} {A : OEnds} {G : Gx} {N : List Str} {sc scope : Scope} {pos p : Pos} {own : List (Str × Nat)} {t : TG}
theorem olc_PF {α : Type} {f h : α → D} {pr : α → Bool} {sx : α → OE} (g : XF X G N sc) (tgo : TgOk X scope tg t (own.map (·.2))) (hi : oIT X tg iter ε n fun ds n1 => ∃ l : List α, ds = l.map f ∧ l.length < 100000 ∧ (∀ x ∈ l, TgS t (own.map (·.2)) ε (f x) (sx x)) ∧ (∀ x ∈ l, ∀ X', XF X' G N (relS scope sc) → X'.A = X.A → oT X' c (sx x) (pr x)) ∧ (∀ x ∈ l, pr x = true → ∀ X', XF X' G N (relS scope sc) → X'.A = X.A → oV X' elt (sx x) (h x)) ∧ Q (.l ((l.filter pr).map h)) n1) : oLC X elt tg iter [c] scope own t ε n Q := by
  refine olc_1 g tgo <| .mk fun P M0 δ M r => aI.mono (hi P M0 δ M r) fun C ds M1 ⟨hC, n1, r1, l, e1, hl, ht, hc, he, q⟩ => ⟨hC, n1, r1, fun i acc m => m = n1 ∧ acc = ((l.take i).filter pr).map h, ⟨rfl, by simp⟩, by rw [e1, List.length_map]; exact hl, fun i d acc m hd ⟨h1, h2⟩ => ?_, fun acc m ⟨h1, h2⟩ => ?_⟩
  · rw [e1, List.getElem?_map] at hd
    cases z : l[i]? with
    | none => rw [z] at hd; cases hd
    | some x =>
      rw [z] at hd
      cases hd
      have hx := List.mem_of_getElem? z
      refine ⟨sx x, pr x, ht x hx, fun X' gX eA => hc x hx X' gX eA, fun hp X' gX eA => (he x hx hp X' gX eA).ev ⟨_, rfl, h1, ?_⟩, fun hp => ⟨h1, ?_⟩⟩
      · rw [h2, List.take_succ, z, List.filter_append, List.map_append]
        simp [hp]
      · rw [h2, List.take_succ, z, List.filter_append, List.map_append]
        simp [hp]
  · rw [e1, List.length_map, List.take_length] at h2
    rw [h1, h2]; exact q
/-- y = [.. if ..] as an own list, on one line -/
theorem os_lcPF {α : Type} {f h : α → D} {pr : α → Bool} (g : XD X G N sc) (i j : Nat) {y z : Str} {py pz spos : Pos} (hi : oIT X (.Name y py) iter ε n fun ds n1 => ∃ l : List α, ds = l.map f ∧ l.length < 100000 ∧ (∀ x ∈ l, ∀ X', XF X' G N (relS scope sc) → X'.A = X.A → oT X' c (ε.set j (some (.v (f x)))) (pr x)) ∧ (∀ x ∈ l, pr x = true → ∀ X', XF X' G N (relS scope sc) → X'.A = X.A → oV X' elt (ε.set j (some (.v (f x)))) (h x)) ∧ A.nx (ε.set i (some (.l ((l.filter pr).map h)))) n1) (hNi : N[i]? = some z := by rfl) (hz : sc.names.lookup z = some .local := by rfl) (hN : N[j]? = some y := by rfl) (hε : ε[j]? = some none := by rfl) (hlo : locB (relS scope sc) y = true := by rfl) (ho : ownB scope sc y = true := by rfl) (okb : blkC N sc scope [(y, j)] = true := by decide +kernel) (hs : ∀ x, foldedSetIterable iter X.env x = pure x := by intro _; rfl)
    (hsw : ∀ env : Env, env.scope = sc → swapsWith (.ListComp elt [⟨.Name y py, iter, [c], 0⟩] scope pos) (some (.Name z pz)) spos.line env = pure true := by intro env e; cases env; cases e; rfl) : oS X (.Assign [.Name z pz] (.ListComp elt [⟨.Name y py, iter, [c], 0⟩] scope pos) spos) A ε n :=
  os_ofLC (own := [(y, j)]) g i okb (tg_name g.toXF j (by exact List.mem_singleton.mpr rfl) hN hlo ho) (.inr ⟨c, rfl⟩) (olc_PF (sx := fun x => ε.set j (some (.v (f x)))) g.toXF (tg_name g.toXF j (by exact List.mem_singleton.mpr rfl) hN hlo ho) (.mk fun P M0 δ M r => aI.mono (hi P M0 δ M r) fun C ds M1 ⟨hC, n1, r1, l, e1, hl, hc, he, q⟩ => ⟨hC, n1, r1, l, e1, hl, fun x _ => tgs_1 hε, hc, he, q⟩)) hNi hz hsw hs
end Ab
/-! The + of two instances of one own class, isinstance, list.reverse. -/
namespace Ab
open PySem PySem.Spec PyProof.Rows L2
section
variable {X : Cx} {k : Nat} {C f : Addr} {fd : FuncData} {ps : List Str} {sp : ASp}
def rOwnB (K : PySem.W.Frag) (C : Addr) (sp : ASp) : R2 := fun x y H Q => ∃ a b dx dy fs gs, x = .ref a ∧ y = .ref b ∧ H a = some (.ins C dx fs) ∧ H b = some (.ins C dy gs) ∧ toSp sp [.ref a, .ref b] H (fun v H' => (∃ p, v = .ref p) ∧ Q v H') E0
theorem op_ownB {op : Operator} (F : FnG (gxOf X) CX0 k f fd ps (toSp sp)) (gd : X.A.guards = some []) (hr : Room k X.A) (hb : Binds X.K fd ps []) (hc : PySem.W.selfFirst X.K C = true) (hs : PySem.W.findIn X.K (.ref C) (PySem.dunder op.info.2) = some (some (.ref f))) (hf : PySem.W.isFn X.K (.ref f) = true) : OpR X (binaryOp op) (rOwnB X.K C sp) := by
  intro pins s σ H x y v u Q I rx ry h
  obtain ⟨a, b, dx, dy, fs, gs, rfl, rfl, ha, hb', hsp⟩ := h
  cases rx
  cases ry
  obtain ⟨mA, J, _⟩ := ins_get I.hok ha
  obtain ⟨mB, J', _⟩ := ins_get I.hok hb'
  obtain ⟨od, J, _⟩ := J.look
  obtain ⟨od', J', _⟩ := J'.look
  obtain ⟨m, hF⟩ := I.fr
  refine PySem.W.binop_K (op := op) hF I.ok.mod.kin J J'.type hc hs hf ?_
  refine thn (run_g (us := [Value.ref a, Value.ref b]) (vs := [V.ref a, V.ref b]) F gd hr hb pass0 I (.cons rfl (.cons rfl .nil)) hsp) fun w s' hq => ?_
  obtain ⟨z, H', I', rz, ⟨p, rfl⟩, q⟩ := hq
  cases rz
  exact ⟨.ref p, H', I', rfl, q⟩
end
variable {X : Cx} {e a b c o : Expr} {es : List Expr} {ε : OE} {n : Int} {Q : OV → Int → Prop} {A : OEnds} {G : Gx} {N : List Str} {sc : Scope} {pos p apos : Pos} {x f m : Str} {d : D} {k : Nat} {C D0 : Addr} {fs gs hs : List (Str × D)}
/-- a + b, two instances of an own class -/
theorem ov_ownAdd (g : XF X G N sc) {S : List D → (D → Prop) → Prop} (F : Mt G k C "__add__" (spV S)) (hc : PySem.W.selfFirst G.K C = true) (hr : Room k X.A) (ha : oV X a ε (.obj C fs)) (hb : oV X b ε (.obj C gs)) (q : ∀ Q : D → Prop, Q (.obj D0 hs) → S [.obj C fs, .obj C gs] Q) : oV X (.BinOp a .Add b pos) ε (.obj D0 hs) := by
  have gd := g.gd
  obtain ⟨rfl, _⟩ := g
  obtain ⟨f, fd, ps, F1, hm, hb1⟩ := F.ex
  exact ov_bin (oX.of ha) (oX.of hb) ⟨_, op_ownB (op := .Add) F1 gd hr hb1 hc hm.at_ hm.fn, fun M da db ka kb x y B H Q2 ra rb c kk => by
    have ka : da = .obj C fs := ka
    have kb : db = .obj C gs := kb
    subst ka; subst kb
    cases ra with
    | obj h1 h2 h3 =>
      cases rb with
      | obj h4 h5 h6 =>
        refine ⟨_, _, _, _, _, _, rfl, rfl, c.ex _ _ h1, c.ex _ _ h4, toSp_of (.cons (.obj h1 h2 h3) (.cons (.obj h4 h5 h6) .nil)) c (Q := fun d' M' => d' = .obj D0 hs ∧ M' = M) (q _ ⟨rfl, rfl⟩) F.up fun v d' M' B' H' s r c' e => ?_⟩
        obtain ⟨rfl, rfl⟩ := e
        cases r with
        | obj h7 h8 h9 => exact ⟨⟨_, rfl⟩, kk _ _ _ s (.obj h7 h8 h9) c'⟩⟩
/-! ### isinstance -/
def tyO : OV → Option String
  | .v d => tyN d
  | .l _ => some "list"
  | .r _ => some "list"
  | .k _ => some "dict"
  | .pu => none
theorem tyO_of {K : PySem.W.Frag} {B H : Hp} {M : AHp} {u : OV} {d : D} {v : V} {T : String} (h : tyO u = some T) (r : Rep B v d) (c : Cf B M H) (k : Ov M u d) : TyOf K H v (.type T) := by
  cases u with
  | v d' =>
    have k : d = d' := k
    subst k
    exact r.tyOf c.ex h
  | l ds =>
    cases h
    obtain ⟨q, rfl, hq⟩ := k
    cases r
    obtain ⟨_, xs, hx, _⟩ := c.m q _ hq
    exact .lst hx
  | r ds =>
    cases h
    obtain ⟨q, rfl, hq⟩ := k
    cases r
    obtain ⟨_, xs, hx, _⟩ := c.m q _ hq
    exact .lst hx
  | k kvs =>
    cases h
    obtain ⟨q, rfl, hq⟩ := k
    cases r
    obtain ⟨_, xs, hx, _⟩ := c.m q _ hq
    exact .dK hx
  | pu => cases h
theorem cl_isO {u : OV} {T T' : String} {k : Bool} (h : tyO u = some T) (hk : kitB T T' = some k) : CalV X (rIsi X.K) [u, .v (.ty T')] (.bl k) := .mk fun M ds hs xs B H Q2 rx c kk => by
  cases hs with
  | cons k1 k2 => cases k2 with
    | cons k2 k3 =>
      cases k3
      have k2 : _ = D.ty T' := k2
      subst k2
      cases rx with
      | cons r1 rx => cases rx with
        | cons r2 rx =>
          cases rx
          cases r2
          exact ⟨_, _, _, _, k, rfl, .ty T', .base (tyO_of h r1 c k1), kit_ty hk, kk _ B H (Same.refl _) (.bl k) c⟩
def kitBs (T : String) : List String → Option Bool
  | [] => some false
  | c :: r => match kitB T c with
    | some true => some true
    | some false => kitBs T r
    | none => none
theorem kit_tys {K : PySem.W.Frag} {T : String} : ∀ {Ts : List String} {b : Bool}, kitBs T Ts = some b → PySem.W.kitAny K (.type T) (Ts.map Value.type) = some b
  | [], b, h => h
  | c :: r, b, h => by
    unfold kitBs at h
    rw [List.map_cons, PySem.W.kitAny]
    cases e : kitB T c with
    | none => rw [e] at h; cases h
    | some v =>
      rw [e] at h
      rw [kit_ty e]
      cases v with
      | true => exact h
      | false => exact kit_tys (Ts := r) h
theorem reps_tys {B : Hp} : ∀ {vs : List V} {Ts : List String}, Reps B vs (Ts.map D.ty) → Paired ClsV vs (Ts.map Value.type)
  | _, [], .nil => .nil
  | _, T :: Ts, .cons (.ty _) r => .cons (.ty T) (reps_tys r)
theorem cl_isT {u : OV} {T : String} (Ts : List String) {k : Bool} (h : tyO u = some T) (hk : kitBs T Ts = some k) : CalV X (rIsiT X.K) [u, .v (.tup (Ts.map D.ty))] (.bl k) := .mk fun M ds hs xs B H Q2 rx c kk => by
  cases hs with
  | cons k1 k2 => cases k2 with
    | cons k2 k3 =>
      cases k3
      have k2 : _ = D.tup (Ts.map D.ty) := k2
      subst k2
      cases rx with
      | cons r1 rx => cases rx with
        | cons r2 rx =>
          cases rx
          cases r2 with
          | tup h1 r =>
            exact ⟨_, _, _, _, _, k, rfl, c.ex _ _ h1, reps_tys r, .base (tyO_of h r1 c k1), kit_tys hk, kk _ B H (Same.refl _) (.bl k) c⟩
/-! ### list.reverse -/
theorem os_reverse (g : XF X G N sc) (i : Nat) {p2 pp : Pos} {ds : List D} (q : A.nx (ε.set i (some (.l ds.reverse))) n) (hi : ε[i]? = some (some (.l ds)) := by rfl) (hN : N[i]? = some x := by rfl) (hv : visB sc x = true := by rfl) (hd : (x == ("__debug__" : Str)) = false := by decide) (hcd : (x == ("__classdict__" : Str)) = false := by decide)
    (hbase : attributeBase (.Name x pp) "reverse" X.env (eval (.Name x pp) X.env) = eval (.Name x pp) X.env := by rfl) (hline : (apos.endLine == pos.line) = true := by rfl)
    (hsw : swapsWith (.Call (.Attribute (.Name x pp) "reverse" apos) [] [] pos) none p2.line X.env = pure false := by rfl) : oS X (.Expr (.Call (.Attribute (.Name x pp) "reverse" apos) [] [] pos) p2) A ε n := .mk fun P M0 δ M r => by
  obtain ⟨q2, h1, h2, h3⟩ := r.at_l hi
  refine as_expr (ae_reverse (av_name g i h1 hN hv hd hcd _ ⟨q2, ds, rfl, h2, ?_⟩) hbase hline) hsw
  obtain ⟨j1, j2, r2⟩ := r.upd hi h1 rfl (o' := .l ds.reverse) rfl
  exact ⟨_, n, r2, q⟩
end Ab
/-! list(range(n)), sorted(set(what is drawn)). -/
namespace Ab
open PySem PySem.Spec PyProof.Rows L2
variable {X : Cx} {e a : Expr} {ε : OE} {n : Int} {Q : OV → Int → Prop} {G : Gx} {N : List Str} {sc : Scope} {pos p p1 p2 q2 : Pos} {d : D}
theorem ov_listRng {m : Nat} (g : XF X G N sc) (ml : G.mg "list" = none) (mr : G.mg "range" = none) (h : oV X a ε (.int m)) (hm : m ≤ 100000) (hg1 : sc.names.lookup ("list" : Str) = some .globalImplicit := by rfl) (hg2 : sc.names.lookup ("range" : Str) = some .globalImplicit := by rfl)
    (na : starEach [.Call (.Name "range" p2) [a] [] q2] X.env = (false, eval (.Call (.Name "range" p2) [a] [] q2) X.env) :: starEach [] X.env := by rfl) (nb : starEach [a] X.env = (false, eval a X.env) :: starEach [] X.env := by rfl) : oV X (.Call (.Name "list" p) [.Call (.Name "range" p2) [a] [] q2] [] pos) ε (.lst (((List.range m).map fun (i : Nat) => (i : Int)).map D.int)) := .mk fun P M0 n δ M r =>
  av_of (pe_listRg g.calm (g.gl hg1) (by rw [g.mg]; exact ml) (prg_1 (g.gl hg2) (by rw [g.mg]; exact mr) pe_w nb) na) fun σ H B Q rs c k => (h P M0 n δ M r).run rs c fun x B1 H1 s1 r1 c1 => by
    cases r1
    refine ⟨_, rfl, RgOk.of_le (by decide) (by omega) (by decide) (by omega), fun q hq => ?_⟩
    obtain ⟨s4, c4⟩ := c1.newI (.lst (rgV 0 (m : Int))) hq
    refine k _ _ _ (s1.trans s4) (.lst upd_same ?_) c4
    have e : rgV 0 (m : Int) = (((List.range m).map fun (i : Nat) => (i : Int)).map V.int) := by
      unfold rgV
      rw [List.map_map, show ((m : Int) - 0).toNat = m by omega]
      exact List.map_congr_left fun i _ => by simp
    rw [e]
    exact reps_of_ints _
theorem oe_ordI (g : XF X G N sc) (ms : G.mg "sorted" = none) (mt : G.mg "set" = none) (he : oE X e ε n fun u n1 => ∃ ns : List Int, u = .v (.lst (ns.map D.int)) ∧ ns.length < 4000 ∧ (∃ us : List Int, us.length < 64 ∧ ∀ k ∈ ns, k ∈ us) ∧ Q (.v (.lst ((ordI ns).map D.int))) n1)
    (hg1 : sc.names.lookup ("sorted" : Str) = some .globalImplicit := by rfl) (hg2 : sc.names.lookup ("set" : Str) = some .globalImplicit := by rfl) (he1 : starEach [.Call (.Name "set" p2) [e] [] q2] X.env = (false, eval (.Call (.Name "set" p2) [e] [] q2) X.env) :: starEach [] X.env := by rfl) (he2 : starEach [e] X.env = (false, eval e X.env) :: starEach [] X.env := by rfl) (hp : (backTo pos (starEach [] X.env)).any (·.1) = false := by rfl) (hp2 : (backTo q2 (starEach [] X.env)).any (·.1) = false := by rfl) :
    oE X (.Call (.Name "sorted" p1) [.Call (.Name "set" p2) [e] [] q2] [] pos) ε n Q := .mk fun P M0 δ M r => by
  refine ae_callB g (cr_sortedSet g.calm) ms (by rfl) (aa_cons (ae_callTy g (cr_setI g.calm) mt (by rfl) (aa_cons ((he P M0 δ M r).imp fun d2 M2 ⟨ov, n1, r1, v, ns, e1, hl, ⟨us, hus, sub⟩, q⟩ => ?_) he2) hg2 (by decide) (by decide) he2 hp2) he1) hg1 (by decide) (by decide) he1 hp
  subst e1
  have v : d2 = .lst (ns.map D.int) := v
  subst v
  exact aa_nil (a_setI .lst hl fun a c ha hc => aa_nil (a_sortS updM_same (by have := hc us sub; omega) ⟨.v _, n1, r1.ge fun b o z => by rw [updM_ne (neM z ha)]; exact z, rfl, q⟩))
end Ab
/-! Own dicts that are filled. -/
namespace Ab
open PySem PySem.Spec PyProof.Rows L2
variable {X : Cx} {e a b o : Expr} {ε : OE} {n : Int} {A : OEnds} {G : Gx} {N : List Str} {sc : Scope} {pos : Pos} {x : Str} {d : D} {j0 : Nat}
/-- found, known = ([], {}) -/
theorem os_listDict (g : XD X G N sc) (i j : Nat) {y : Str} {px py pt pl pd : Pos} {kt k2 pt2} (q : A.nx ((ε.set i (some (.l []))).set j (some (.k []))) n) (hij : i ≠ j := by decide) (hN : N[i]? = some x := by rfl) (hN2 : N[j]? = some y := by rfl) (hv : sc.names.lookup x = some .local := by rfl) (hv2 : sc.names.lookup y = some .local := by rfl)
    (hs : swapsWithSole [.Tuple [.Name x px, .Name y py] kt pt] (.Tuple [.List [] pl, .Dict [] [] pd] k2 pt2) pos.line X.env = pure false := by rfl) (hw : ∀ env : Env, env.scope = sc → swappedStores [.Tuple [.Name x px, .Name y py] kt pt] (.Tuple [.List [] pl, .Dict [] [] pd] k2 pt2) env = pure (some [x, y]) := by intro env e; cases env; cases e; rfl)
    (s1 : starEach [.List [] pl, .Dict [] [] pd] X.env = (false, eval (.List [] pl) X.env) :: starEach [.Dict [] [] pd] X.env := by rfl) (s2 : starEach [.Dict [] [] pd] X.env = (false, eval (.Dict [] [] pd) X.env) :: starEach [] X.env := by rfl) : oS X (.Assign [.Tuple [.Name x px, .Name y py] kt pt] (.Tuple [.List [] pl, .Dict [] [] pd] k2 pt2) pos) A ε n := .mk fun P M0 δ M r =>
  as_par g i j (aa_cons (ae_lstM (ea aav_nil ⟨by decide, fun qf hf => aa_cons (ae_dictM fun qk hk => aa_nil ⟨_, _, rfl, by
    have r2 := (r.new (o := .lst []) hf).set_own i (o := .l []) rfl updM_same (r.free hf)
    have r3 := (r2.new (o := .dK []) hk).set_own j (o := .k []) rfl updM_same (r2.free hk)
    exact ⟨_, n, r3, q⟩⟩) s2⟩)) s1) hij hN hN2 hv hv2 hs hw
/-- k not in own dict -/
theorem ot_ninD (g : XF X G N sc) (i : Nat) {p : Pos} {kvs : List (Key × D)} {k : Key} (hr : Room j0 X.A) (h : oV X a ε (dK k)) (hi : ε[i]? = some (some (.k kvs)) := by rfl) (hN : N[i]? = some x := by rfl) (hv : visB sc x = true := by rfl) (hd : (x == ("__debug__" : Str)) = false := by decide) (hcd : (x == ("__classdict__" : Str)) = false := by decide) : oT X (.Compare a [.NotIn] [.Name x p] pos) ε (!(lookK kvs k).isSome) := .mk fun P M0 n δ M r Q q => by
  obtain ⟨q2, h1, h2, h3⟩ := r.at_k hi
  exact at_dnotin hr (h P M0 n δ M r _ (av_name g i h1 hN hv hd hcd _ ⟨k, q2, kvs, rfl, rfl, h2, q⟩))
/-- own[k] = d -/
theorem os_putK (g : XF X G N sc) (i : Nat) {ix : Expr} {p1 p2 : Pos} {kvs : List (Key × D)} {k : Key} (hr : Room j0 X.A) (he : oV X e ε d) (hx : oV X ix ε (dK k)) (hl : kvs.length < 100000) (q : A.nx (ε.set i (some (.k (putKD kvs k d)))) n) (hi : ε[i]? = some (some (.k kvs)) := by rfl) (hN : N[i]? = some x := by rfl) (hv : visB sc x = true := by rfl) (hd : (x == ("__debug__" : Str)) = false := by decide) (hcd : (x == ("__classdict__" : Str)) = false := by decide)
    (hs : swapsWith e (some (.Subscript (.Name x p1) ix p2)) pos.line X.env = pure false := by rfl) : oS X (.Assign [.Subscript (.Name x p1) ix p2] e pos) A ε n := .mk fun P M0 δ M r => by
  obtain ⟨q2, h1, h2, h3⟩ := r.at_k hi
  obtain ⟨k1, k2, r2⟩ := r.upd hi h1 rfl (o' := .k (putKD kvs k d)) rfl
  exact as_dput hr (he P M0 n δ M r _ (av_name g i h1 hN hv hd hcd _ (hx P M0 n δ M r _ ⟨q2, kvs, k, rfl, rfl, h2, hl, _, n, r2, q⟩))) hs
end Ab
/-! New lists as values or as own lists; data and read lists alike; comparisons of truths. -/
namespace Ab
open PySem PySem.Spec PyProof.Rows L2
variable {X : Cx} {e a b o : Expr} {es : List Expr} {ε : OE} {n : Int} {Q : OV → Int → Prop} {A : OEnds} {G : Gx} {N : List Str} {sc : Scope} {pos p p1 p2 q2 : Pos} {x m f : Str} {d : D} {ds : List D} {k : Nat} {C : Addr} {u : OV} {M : AHp}
/-- an expression that makes a new list -/
structure oN (X : Cx) (e : Expr) (ε : OE) (ds : List D) : Prop where
  run : ∀ P M0 n δ M, Rl P M0 n ε δ M → ∀ Q : DK, (∀ p, M p = none → Q (.adr p) (updM M p (.lst ds))) → aE X e δ M Q
theorem oN.v (h : oN X e ε ds) : oV X e ε (.lst ds) := .mk fun P M0 n δ M r Q q => ae_frz (h.run P M0 n δ M r _ fun p hp => ⟨p, ds, rfl, updM_same, by rw [delM_updM hp]; exact q⟩)
theorem oN.ev (h : oN X e ε ds) (q : Q (.l ds) n) : oE X e ε n Q := .mk fun P M0 δ M r => h.run P M0 n δ M r _ fun p hp => ⟨.l ds, n, r.new hp, ⟨p, rfl, updM_same, r.free hp⟩, q⟩
theorem on_prop (g : XF X G N sc) {S : List D → (List D → Prop) → Prop} {fs : List (Str × D)} (F : Pr G k C m (spF S)) (hr : Room (k + 1) X.A) (h : oV X o ε (.obj C fs)) (q : ∀ Q : List D → Prop, Q ds → S [.obj C fs] Q) (hb : attributeBase o m X.env (eval o X.env) = eval o X.env := by rfl) : oN X (.Attribute o m pos) ε ds := .mk fun P M0 n δ M r Q hQ =>
  ae_prop g F hr (h P M0 n δ M r _ ⟨fs, .obj, q (fun xs => ∀ p, M p = none → Q (.adr p) (updM M p (.lst xs))) hQ⟩) hb
theorem on_meth0 {pl : Sem Bool} (g : XF X G N sc) {S : List D → (List D → Prop) → Prop} {fs : List (Str × D)} {apos : Pos} (F : Mt G k C m (spF S)) (hr : Room k X.A) (h : oV X o ε (.obj C fs)) (hl : fs.lookup m = none) (q : ∀ Q : List D → Prop, Q ds → S [.obj C fs] Q) (ht : eval (.Call (.Attribute o m apos) [] [] pos) X.env = (do
      let ov ← eval o X.env
      standAt apos.atName
      let (fn, first) ← holding [ov] (getMethod ov m pl)
      callWith pos fn first (backTo pos (starEach [] X.env)) (backToKw pos (keywordEach [] X.env))) := by rfl) : oN X (.Call (.Attribute o m apos) [] [] pos) ε ds := .mk fun P M0 n δ M r Q hQ =>
  ae_meth0 g F hr (h P M0 n δ M r _ ⟨fs, .obj, hl, q (fun xs => ∀ p, M p = none → Q (.adr p) (updM M p (.lst xs))) hQ⟩) ht
/-- list(e) -/
theorem on_list (g : XF X G N sc) (hm : G.mg "list" = none) (he : oX X e ε u) (hu : ItemsO u ds) (hg : sc.names.lookup ("list" : Str) = some .globalImplicit := by rfl) (hs : starEach (e :: []) X.env = (false, eval e X.env) :: starEach [] X.env := by rfl) (hpl : (backTo pos (starEach [] X.env)).any (·.1) = false := by rfl) : oN X (.Call (.Name "list" p) [e] [] pos) ε ds := .mk fun P M0 n δ M r Q hQ => by
  obtain ⟨dv, h1, k1⟩ := he P M0 n δ M r
  exact ae_callTy g call_list_of hm (by rfl) (aa_cons (h1 _ (aa_nil (a_listM (hu.d k1) hQ))) hs) hg (by decide) (by decide) hs hpl
/-- o.clear() of a new list -/
theorem os_clearN {apos : Pos} (h : oN X o ε ds) (q : A.nx ε n) (hbase : attributeBase o "clear" X.env (eval o X.env) = eval o X.env := by rfl) (hline : (apos.endLine == pos.line) = true := by rfl) (hsw : swapsWith (.Call (.Attribute o "clear" apos) [] [] pos) none p2.line X.env = pure false := by rfl) : oS X (.Expr (.Call (.Attribute o "clear" apos) [] [] pos) p2) A ε n := .mk fun P M0 δ M r =>
  as_expr (ae_clear (h.run P M0 n δ M r _ fun p hp => ⟨p, _, rfl, updM_same, ε, n, by rw [updM_updM]; exact r.new hp, q⟩) hbase hline) hsw
/-- sorted(set(own ints)) as a new list -/
theorem a_sortSM {Q : DK} {p : Addr} {ns : List Int} {n : Nat} (hp : M p = some (.raw (SetO X.w p (fun j => decide (j ∈ ns)) n))) (h64 : n < 64) (q : ∀ l, M l = none → Q (.adr l) (updM M l (.lst ((ordI ns).map D.int)))) : aC (rSortedSet X.w) [.adr p] M Q := fun xs B H Q2 rx c kk => by
  cases rx with
  | cons r1 r2 =>
    cases r2
    cases r1
    refine ⟨p, _, n, rfl, (c.m p _ hp).2.1, h64, fun ms l ha hm hn hl => ?_⟩
    have e : ms = ordI ns := asc_ext ha (ordI_asc ns) fun k => by rw [hm k, mem_ordI]; simp
    subst e
    exact kk _ _ _ _ _ (Same.refl _) (.adr l) (c.newM (.lst ((ordI ns).map D.int)) hl ⟨_, upd_same, reps_of_ints _⟩) (q l (c.none hl))
theorem oe_ordN (g : XF X G N sc) (ms : G.mg "sorted" = none) (mt : G.mg "set" = none) {ns : List Int} (he : oX X e ε u) (hu : ListO u (ns.map D.int)) (hl : ns.length < 4000) (h64 : ∃ us : List Int, us.length < 64 ∧ ∀ k ∈ ns, k ∈ us) (q : Q (.l ((ordI ns).map D.int)) n)
    (hg1 : sc.names.lookup ("sorted" : Str) = some .globalImplicit := by rfl) (hg2 : sc.names.lookup ("set" : Str) = some .globalImplicit := by rfl) (he1 : starEach [.Call (.Name "set" p2) [e] [] q2] X.env = (false, eval (.Call (.Name "set" p2) [e] [] q2) X.env) :: starEach [] X.env := by rfl) (he2 : starEach [e] X.env = (false, eval e X.env) :: starEach [] X.env := by rfl) (hp : (backTo pos (starEach [] X.env)).any (·.1) = false := by rfl) (hp2 : (backTo q2 (starEach [] X.env)).any (·.1) = false := by rfl) :
    oE X (.Call (.Name "sorted" p1) [.Call (.Name "set" p2) [e] [] q2] [] pos) ε n Q := .mk fun P M0 δ M r => by
  obtain ⟨dv, h1, k1⟩ := he P M0 n δ M r
  obtain ⟨us, hus, sub⟩ := h64
  refine ae_callB g (cr_sortedSet g.calm) ms (by rfl) (aa_cons (ae_callTy g (cr_setI g.calm) mt (by rfl) (aa_cons (h1 _ (aa_nil (a_setI (hu.d k1) hl fun a c ha hc => aa_nil (a_sortSM updM_same (by have := hc us sub; omega) fun l hl2 => ?_)))) he2) hg2 (by decide) (by decide) he2 hp2) he1) hg1 (by decide) (by decide) he1 hp
  have r2 := r.new (o := .raw (SetO X.w a (fun j => decide (j ∈ ns)) c)) ha
  exact ⟨.l _, n, r2.new hl2, ⟨l, rfl, updM_same, r2.free hl2⟩, q⟩
/-! ### data and read lists alike -/
inductive DatO : OV → D → Prop
  | v {d : D} : DatO (.v d) d
  | r {ds : List D} : DatO (.r ds) (.lst ds)
theorem DatO.rd (h : DatO u d) : isRd u := by cases h <;> exact trivial
theorem ox_dat (g : XF X G N sc) (i : Nat) (hu : DatO u d) (hN : N[i]? = some x := by rfl) (h : ε[i]? = some (some u) := by rfl) (hv : visB sc x = true := by rfl) (hd : (x == ("__debug__" : Str)) = false := by decide) (hcd : (x == ("__classdict__" : Str)) = false := by decide) : oX X (.Name x pos) ε u := by
  cases hu with
  | v => exact .of (ov_nm g i h hN hv hd hcd)
  | r => exact ox_u g i (.r) hN h hv hd hcd
inductive SeqD : D → List D → Prop
  | lst {ds : List D} : SeqD (.lst ds) ds
  | tup {ds : List D} : SeqD (.tup ds) ds
theorem DatO.items (h : DatO u d) (s : SeqD d ds) : ItemsO u ds := by
  cases h with
  | v => cases s with
    | lst => exact .lst
    | tup => exact .tup
  | r => cases s; exact .r
theorem ov_ixS {i : Int} (hu : DatO u d) (s : SeqD d ds) (ha : oX X a ε u) (hb : oV X b ε (.int i)) {y : D} (h : atI ds i = some y) (hs : PlainIx b := by exact fun _ _ => rfl) : oV X (.Subscript a b pos) ε y := by
  cases hu with
  | v => cases s with
    | lst => exact ov_ixL ha .lst hb h hs
    | tup =>
      refine ov_ixT (.mk fun P M0 n δ M r => ?_) hb h hs
      obtain ⟨dv, h1, k1⟩ := ha P M0 n δ M r
      have k1 : dv = _ := k1
      subst k1
      exact h1
  | r => cases s; exact ov_ixL ha .r hb h hs
theorem ov_isT (g : XF X G N sc) (hm : G.mg "isinstance" = none) {T : String} (Ts : List String) {j : Bool} (ha : oX X a ε u) (hb : oV X b ε (.tup (Ts.map D.ty))) (h : tyO u = some T) (hk : kitBs T Ts = some j) (hg : sc.names.lookup ("isinstance" : Str) = some .globalImplicit := by rfl) (hs1 : starEach (a :: [b]) X.env = (false, eval a X.env) :: starEach [b] X.env := by rfl) (hs2 : starEach (b :: []) X.env = (false, eval b X.env) :: starEach [] X.env := by rfl) (hpl : (backTo pos (starEach [b] X.env)).any (·.1) = false := by rfl) : oV X (.Call (.Name "isinstance" p) [a, b] [] pos) ε (.bl j) :=
  ov_callB g call_isiT hm (oxs_cons ha (oxs_cons (oX.of hb) oxs_nil hs2) hs1) (cl_isT Ts h hk) (hg := hg) (he := hs1) (hpl := hpl)
theorem ov_is1 (g : XF X G N sc) (hm : G.mg "isinstance" = none) {T : String} (T' : String) {j : Bool} (ha : oX X a ε u) (hb : oV X b ε (.ty T')) (h : tyO u = some T) (hk : kitB T T' = some j) (hg : sc.names.lookup ("isinstance" : Str) = some .globalImplicit := by rfl) (hs1 : starEach (a :: [b]) X.env = (false, eval a X.env) :: starEach [b] X.env := by rfl) (hs2 : starEach (b :: []) X.env = (false, eval b X.env) :: starEach [] X.env := by rfl) (hpl : (backTo pos (starEach [b] X.env)).any (·.1) = false := by rfl) : oV X (.Call (.Name "isinstance" p) [a, b] [] pos) ε (.bl j) :=
  ov_callB g call_isi hm (oxs_cons ha (oxs_cons (oX.of hb) oxs_nil hs2) hs1) (cl_isO h hk) (hg := hg) (he := hs1) (hpl := hpl)
theorem p_neB {z w : Bool} : pR rNe M (.bl z) (.bl w) (.bl (!decide (z = w))) := fun x y B H Q2 ra rb c k => by
  cases ra; cases rb
  refine ⟨rfl, ?_⟩
  rw [dec_bl, Bool.beq_eq_decide_eq]
  exact k _ B H (Same.refl _) (.bl _) c
theorem cv_neB {z w : Bool} : CmpV X .NotEq (.v (.bl z)) (.v (.bl w)) (!decide (z = w)) := .of op_ne fun _ => p_neB
theorem cv_isNd (hu : DatO u d) : CmpV X .Is u (.v .non) (isNon d) := ⟨_, op_isN1, fun M da db ka kb => by
  have kb : db = .non := kb
  subst kb
  cases hu with
  | v =>
    have ka : da = d := ka
    subst ka
    exact p_isN
  | r =>
    obtain ⟨q, rfl, _⟩ := ka
    exact p_isN⟩
theorem atI_nat {α : Type} {l : List α} {i : Nat} (h : i < l.length) : atI l (i : Int) = some (l[i]) := by
  unfold atI ixN
  rw [if_pos (by omega), if_pos (by omega)]
  simp [List.getElem?_eq_getElem h]
noncomputable def eqD (a b : D) : Bool := @decide (a = b) (Classical.propDecidable _)
theorem eqD_of {a b : D} (h : a = b) : eqD a b = true := by unfold eqD; simp [h]
theorem eqD_no {a b : D} (h : a ≠ b) : eqD a b = false := by unfold eqD; simp [h]
theorem eqD_iff {a b : D} {j : Bool} (h : (j = true) ↔ a = b) : j = eqD a b := by
  by_cases e : a = b
  · rw [eqD_of e]; exact h.mpr e
  · rw [eqD_no e]
    cases j with
    | false => rfl
    | true => exact absurd (h.mp rfl) e
end Ab
/-! Methods by name; three stores in one row. -/
namespace Ab
open PySem PySem.Spec PyProof.Rows L2
variable {X : Cx} {e a b c o : Expr} {es : List Expr} {kws : List Keyword} {ε : OE} {n : Int} {Q : OV → Int → Prop} {A : OEnds} {G : Gx} {N : List Str} {sc : Scope} {pos p apos : Pos} {x m : Str} {d d2 d3 : D} {ds : List D} {k : Nat} {C : Addr}
theorem ov_methK0 {pl : Sem Bool} {ks : List Str} {fs : List (Str × D)} {S : List D → (D → Prop) → Prop} (g : XF X G N sc) (F : MtK G k C m 0 ks gApp (spV S)) (hr : Room k X.A) (h : oV X o ε (.obj C fs)) (hlk : fs.lookup m = none) (hk : oK X kws ε ds) (hl : ds.length = ks.length) (q : ∀ Q : D → Prop, Q d → S (.obj C fs :: ds) Q)
    (hall : (backToKw pos (keywordEach kws X.env)).all (·.1.isSome) = true := by rfl) (hks : (backToKw pos (keywordEach kws X.env)).filterMap (·.1) = ks := by rfl)
    (hpl : ((backTo pos (starEach [] X.env)).any (·.1) || (backToKw pos (keywordEach kws X.env)).any (·.1.isNone)) = false := by rfl)
    (ht : eval (.Call (.Attribute o m apos) [] kws pos) X.env = (do
      let ov ← eval o X.env
      standAt apos.atName
      let (fn, first) ← holding [ov] (getMethod ov m pl)
      callWith pos fn first (backTo pos (starEach [] X.env)) (backToKw pos (keywordEach kws X.env))) := by rfl) : oV X (.Call (.Attribute o m apos) [] kws pos) ε d := .mk fun P M0 n δ M r Q hQ =>
  ae_methK0 g F hr (h P M0 n δ M r _ ⟨fs, .obj, hlk, hk.run P M0 n δ M r _ ⟨hl, q (fun d' => Q d' M) hQ⟩⟩) hall hks hpl ht
/-- x, y, z = (a, b, c) -/
theorem os_par3 (g : XD X G N sc) (i j l : Nat) {y z : Str} {px py pz pt : Pos} {kt k2 pt2}
    (h : oA X [a, b, c] ε n fun ds n' => ∃ d1 d2 d3, ds = [d1, d2, d3] ∧ A.nx (((ε.set i (some (.v d1))).set j (some (.v d2))).set l (some (.v d3))) n') (hij : i ≠ j := by decide) (hil : i ≠ l := by decide) (hjl : j ≠ l := by decide) (hN : N[i]? = some x := by rfl) (hN2 : N[j]? = some y := by rfl) (hN3 : N[l]? = some z := by rfl)
    (hv : sc.names.lookup x = some .local := by rfl) (hv2 : sc.names.lookup y = some .local := by rfl) (hv3 : sc.names.lookup z = some .local := by rfl)
    (hs : swapsWithSole [.Tuple [.Name x px, .Name y py, .Name z pz] kt pt] (.Tuple [a, b, c] k2 pt2) pos.line X.env = pure false := by rfl) (hw : ∀ env : Env, env.scope = sc → swappedStores [.Tuple [.Name x px, .Name y py, .Name z pz] kt pt] (.Tuple [a, b, c] k2 pt2) env = pure (some [x, y, z]) := by intro env e; cases env; cases e; rfl) : oS X (.Assign [.Tuple [.Name x px, .Name y py, .Name z pz] kt pt] (.Tuple [a, b, c] k2 pt2) pos) A ε n := .mk fun P M0 δ M r =>
  as_par3 g i j l ((h P M0 δ M r).imp fun ds M' ⟨n', r', d1, d2, d3, e, q⟩ => ⟨d1, d2, d3, e, _, n', ((r'.set_v i d1).set_v j d2).set_v l d3, q⟩) hij hil hjl hN hN2 hN3 hv hv2 hv3 hs hw
/-- x, y, z = ([], b, c) -/
theorem os_nil3 (g : XD X G N sc) (i j l : Nat) {y z : Str} {px py pz pt pl : Pos} {kt k2 pt2} (hb : oV X b ε d2) (hc : oV X c ε d3)
    (q : A.nx (((ε.set i (some (.l []))).set j (some (.v d2))).set l (some (.v d3))) n) (hij : i ≠ j := by decide) (hil : i ≠ l := by decide) (hjl : j ≠ l := by decide) (hN : N[i]? = some x := by rfl) (hN2 : N[j]? = some y := by rfl) (hN3 : N[l]? = some z := by rfl)
    (hv : sc.names.lookup x = some .local := by rfl) (hv2 : sc.names.lookup y = some .local := by rfl) (hv3 : sc.names.lookup z = some .local := by rfl)
    (hs : swapsWithSole [.Tuple [.Name x px, .Name y py, .Name z pz] kt pt] (.Tuple [.List [] pl, b, c] k2 pt2) pos.line X.env = pure false := by rfl) (hw : ∀ env : Env, env.scope = sc → swappedStores [.Tuple [.Name x px, .Name y py, .Name z pz] kt pt] (.Tuple [.List [] pl, b, c] k2 pt2) env = pure (some [x, y, z]) := by intro env e; cases env; cases e; rfl)
    (s1 : starEach [.List [] pl, b, c] X.env = (false, eval (.List [] pl) X.env) :: starEach [b, c] X.env := by rfl) (s2 : starEach [b, c] X.env = (false, eval b X.env) :: starEach [c] X.env := by rfl) (s3 : starEach [c] X.env = (false, eval c X.env) :: starEach [] X.env := by rfl) : oS X (.Assign [.Tuple [.Name x px, .Name y py, .Name z pz] kt pt] (.Tuple [.List [] pl, b, c] k2 pt2) pos) A ε n := .mk fun P M0 δ M r =>
  as_par3 g i j l (aa_cons (ae_lstM (ea aav_nil ⟨by decide, fun qf hf => aa_cons (hb P M0 n δ _ (r.new hf) _ (aa_cons (hc P M0 n δ _ (r.new hf) _ (aa_nil ⟨_, _, _, rfl, by
    have r2 := (r.new (o := .lst []) hf).set_own i (o := .l []) rfl updM_same (r.free hf)
    exact ⟨_, n, (r2.set_v j d2).set_v l d3, q⟩⟩)) s3)) s2⟩)) s1) hij hil hjl hN hN2 hN3 hv hv2 hv3 hs hw
end Ab
/-! A dict display of texts and ints. -/
namespace Ab
open PySem PySem.Spec PyProof.Rows L2
variable {X : Cx} {ε : OE} {G : Gx} {N : List Str} {sc : Scope} {pos : Pos}
inductive DsP (X : Cx) (ε : OE) : List (Option Expr) → List Expr → List (TE × TE) → List (Key × D) → Prop
  | nil : DsP X ε [] [] [] []
  | cons {k v : Expr} {key : Key} {d : D} {ks : List (Option Expr)} {vs : List Expr} {trs : List (TE × TE)} {kvs : List (Key × D)} : oV X k ε (dK key) → oV X v ε d → DsP X ε ks vs trs kvs → DsP X ε (some k :: ks) (v :: vs) ((wE X k, wE X v) :: trs) ((key, d) :: kvs)
theorem DsP.pps {ks : List (Option Expr)} {vs : List Expr} {trs : List (TE × TE)} {kvs : List (Key × D)} (h : DsP X ε ks vs trs kvs) : PPs X pos ks vs trs := by
  induction h with
  | nil => exact pps_nil
  | cons _ _ _ ih => exact pps_cons pe_w pe_w ih
theorem DsP.run {ks : List (Option Expr)} {vs : List Expr} {trs : List (TE × TE)} {kvs : List (Key × D)} (h : DsP X ε ks vs trs kvs) {P : Option Addr} {M0 M : AHp} {n : Int} {δ : DE} (r : Rl P M0 n ε δ M) : ∀ {σ : L2.St} {H B : Hp} {Q : List (V × V) → Hp → Prop}, RepS B σ δ → Cf B M H → (∀ kws B' H', Same B B' → Cf B' M H' → Kreps B' kws kvs → Q (kws.map fun kv => (kV kv.1, kv.2)) H') → tPairs trs σ H Q := by
  induction h with
  | nil => intro σ H B Q rs c q; exact q [] B H (Same.refl _) c .nil
  | @cons k v key d ks vs trs kvs h1 h2 _ ih =>
    intro σ H B Q rs c q
    refine (h1 P M0 n δ M r).run rs c fun x B1 H1 s1 r1 c1 => (h2 P M0 n δ M r).run (rs.mono s1) c1 fun y B2 H2 s2 r2 c2 => ih ((rs.mono s1).mono s2) c2 fun kws B3 H3 s3 c3 r3 => ?_
    have e := r1.key
    subst e
    exact q ((key, y) :: kws) B3 H3 ((s1.trans s2).trans s3) c3 (.cons (r2.mono s3) r3)
/-- {k: v, ..} as data -/
theorem ov_disp {ks : List (Option Expr)} {vs : List Expr} {trs : List (TE × TE)} {kvs : List (Key × D)} (h : DsP X ε ks vs trs kvs) (hall : ks.all (·.isSome) = true := by rfl) (hl : ks.length = vs.length := by rfl) (h0 : ks ≠ [] := by exact List.cons_ne_nil _ _) (h15 : ks.length ≤ 15 := by exact Nat.le_of_ble_eq_true rfl) (hk : kvs.length ≤ 15 := by exact Nat.le_of_ble_eq_true rfl) : oV X (.Dict ks vs pos) ε (.dic (mergeD [] kvs)) := .mk fun P M0 n δ M r =>
  av_of (pe_disp h.pps hall hl h0 h15) fun σ H B Q rs c kk p hp => by
    have n0 := c.none hp
    have c1 := c.newM (.dK []) hp ⟨[], upd_same, .nil⟩
    refine h.run (r.new (o := .dK []) n0) rs c1 fun kws B2 H2 s2 c2 k2 => ?_
    obtain ⟨nb, ws, hx, hr⟩ := c2.m p _ updM_same
    cases hr
    refine ⟨hx, kws, rfl, by rw [k2.length]; exact hk, ?_⟩
    have c3 := c2.set (.dK (mergeD [] kvs)) updM_same (noOwn c2 updM_same fun _ z => (nomatch z)) ⟨_, upd_same, Kreps.merge k2 .nil⟩
    obtain ⟨B4, s4, c4, r4⟩ := c3.freezeK updM_same
    rw [updM_updM, delM_updM n0] at c4
    exact kk _ _ _ (s2.trans s4) r4 c4
end Ab
/-! isinstance of an own class, o[k] of an own class, max and min of two. -/
namespace Ab
open PySem PySem.Spec PyProof.Rows L2
variable {X : Cx} {e a b o : Expr} {ε : OE} {G : Gx} {N : List Str} {sc : Scope} {pos p : Pos} {x : Str} {d : D} {k : Nat} {C C' : Addr} {fs : List (Str × D)}
structure IsK (G : Gx) (C : Addr) : Prop where
  cl : Cls G.K C
  ha : PySem.W.findIn G.K (.ref C) "__class__" = some (some (.builtin "object.__class__"))
  hn : PySem.W.specialIn G.K (.builtin "object.__class__") "__get__" = some (some (.builtin "getset_descriptor.__get__"))
  htk : PySem.W.takesIn G.K (.builtin "object.__class__") = some true
  hm : PySem.W.mroIn G.K C (.type "object") = some true
theorem cl_isK {K : PySem.W.Frag} {w : World} {mg : Str → Option Value} {base : Heap} {prog : Program} {j : Bool} (I : IsK (gxOf X) C) (hk : PySem.W.kitOne X.K (.ref C) (.ref C') = some j) : CalV X (rIsi X.K) [.v (.obj C fs), .v (.adr C')] (.bl j) := .two fun M xs B H Q2 rx c kk => by
  cases rx with
  | cons r1 rx => cases rx with
    | cons r2 rx =>
      cases rx
      cases r2
      cases r1 with
      | obj h1 h2 h3 => exact ⟨_, _, _, _, j, rfl, .own C', .base (.ins (c.ex _ _ h1) I.cl I.ha I.hn I.htk I.hm), hk, kk _ B H (Same.refl _) (.bl j) c⟩
theorem ov_isOwn (g : XF X G N sc) (hm : G.mg "isinstance" = none) (I : IsK G C) {j : Bool} (hC : G.mg x = some (.ref C')) (h : oV X e ε (.obj C fs)) (hk : PySem.W.kitOne G.K (.ref C) (.ref C') = some j) (hg2 : sc.names.lookup x = some .globalImplicit := by rfl) (hd : (x == ("__debug__" : Str)) = false := by decide) (hcd : (x == ("__classdict__" : Str)) = false := by decide) (hg : sc.names.lookup ("isinstance" : Str) = some .globalImplicit := by rfl) {p2 : Pos} (hs1 : starEach (e :: [.Name x p2]) X.env = (false, eval e X.env) :: starEach [.Name x p2] X.env := by rfl) (hs2 : starEach (.Name x p2 :: []) X.env = (false, eval (.Name x p2) X.env) :: starEach [] X.env := by rfl) (hpl : (backTo pos (starEach [.Name x p2] X.env)).any (·.1) = false := by rfl) : oV X (.Call (.Name "isinstance" p) [e, .Name x p2] [] pos) ε (.bl j) := by
  have g0 := g
  obtain ⟨rfl, _⟩ := g
  exact ov_callB g0 call_isi hm (oxs_cons (oX.of h) (oxs_cons (oX.of (ov_gl g0 hC hg2 hd hcd)) oxs_nil hs2) hs1) (cl_isK (K := X.K) (w := X.w) (mg := X.mg) (base := X.base) (prog := X.prog) I hk) (hg := hg) (he := hs1) (hpl := hpl)
/-- o[k] of an own class -/
theorem ov_getOwn (g : XF X G N sc) {S : List D → (D → Prop) → Prop} (F : Gi G k C (spV S)) (hr : Room (k + 1) X.A) {d1 d2 : D} {gs : List (Str × D)} (ha : oV X a ε (.obj C gs)) (hb : oV X b ε d2) (q : ∀ Q : D → Prop, Q d → S [.obj C gs, d2] Q) (hs : ∀ o i, subscripted b true o i = runValue (.builtin "lifetime.subscript" ⟨[o, i], []⟩) := by exact fun _ _ => by with_unfolding_all rfl) : oV X (.Subscript a b pos) ε d := .mk fun P M0 n δ M r Q hQ =>
  ae_getitem g F hr (ha P M0 n δ M r _ (hb P M0 n δ M r _ ⟨gs, .obj, q (fun d' => Q d' M) hQ⟩)) hs
theorem cl_max2 {i j : Int} : CalV X (fun xs H Q => ∃ i j, xs = [.int i, .int j] ∧ Q (.int (if j > i then j else i)) H) [.v (.int i), .v (.int j)] (.int (if j > i then j else i)) := .two fun M => c_max2
theorem cl_min2 {i j : Int} : CalV X (fun xs H Q => ∃ i j, xs = [.int i, .int j] ∧ Q (.int (if j < i then j else i)) H) [.v (.int i), .v (.int j)] (.int (if j < i then j else i)) := .two fun M => c_min2
end Ab
/-! == of two instances of one own class; tuples told apart. -/
namespace Ab
open PySem PySem.Spec PyProof.Rows L2
section
variable {X : Cx} {k : Nat} {C f : Addr} {fd : FuncData} {ps : List Str} {sp : ASp}
def rOwnEq (C : Addr) (sp : ASp) : R2 := fun x y H Q => ∃ a b dx dy fs gs, x = .ref a ∧ y = .ref b ∧ H a = some (.ins C dx fs) ∧ H b = some (.ins C dy gs) ∧ toSp sp [.ref a, .ref b] H (fun v H' => (∃ p, v = .bl p) ∧ Q v H') E0
theorem op_ownEq {op : CmpOp} (hop : ∀ a b, compareOp op a b = richCompare op a b) (F : FnG (gxOf X) CX0 k f fd ps (toSp sp)) (gd : X.A.guards = some []) (hr : Room k X.A) (hb : Binds X.K fd ps []) (hs : PySem.W.findIn X.K (.ref C) (cmpInfo op).2.1 = some (some (.ref f))) (hf : PySem.W.isFn X.K (.ref f) = true) : OpR X (compareOp op) (rOwnEq C sp) := by
  intro pins s σ H x y v u Q I rx ry h
  obtain ⟨a, b, dx, dy, fs, gs, rfl, rfl, ha, hb', hsp⟩ := h
  cases rx
  cases ry
  obtain ⟨mA, J, _⟩ := ins_get I.hok ha
  obtain ⟨mB, J', _⟩ := ins_get I.hok hb'
  obtain ⟨od, J, _⟩ := J.look
  obtain ⟨od', J', _⟩ := J'.look
  obtain ⟨m, hF⟩ := I.fr
  rw [hop]
  refine PySem.W.cmp_K (op := op) (tb := .ref C) (by have := u64 hr; omega) hF I.ok.mod.kin J J'.type (by simp [PySem.W.notFirst]) hs hf ?_
  refine thn (run_g (us := [Value.ref a, Value.ref b]) (vs := [V.ref a, V.ref b]) F gd hr hb pass0 I (.cons rfl (.cons rfl .nil)) hsp) fun w s' hq => ?_
  obtain ⟨z, H', I', rz, ⟨p, rfl⟩, q⟩ := hq
  cases rz
  exact ⟨.bl p, H', I', rfl, q⟩
end
section
variable {X : Cx} {G : Gx} {N : List Str} {sc : Scope} {k : Nat} {C : Addr} {fs gs : List (Str × D)} {j : Bool}
theorem cv_ownEq (g : XF X G N sc) {S : List D → (D → Prop) → Prop} (F : Mt G k C "__eq__" (spV S)) (hr : Room k X.A) (q : ∀ Q : D → Prop, Q (.bl j) → S [.obj C fs, .obj C gs] Q) : CmpV X .Eq (.v (.obj C fs)) (.v (.obj C gs)) j := by
  have gd := g.gd
  obtain ⟨rfl, _⟩ := g
  obtain ⟨f, fd, ps, F1, hm, hb1⟩ := F.ex
  exact ⟨_, op_ownEq (op := .Eq) (fun _ _ => rfl) F1 gd hr hb1 hm.at_ hm.fn, fun M da db ka kb x y B H Q2 ra rb c kk => by
    have ka : da = .obj C fs := ka
    have kb : db = .obj C gs := kb
    subst ka; subst kb
    cases ra with
    | obj h1 h2 h3 =>
      cases rb with
      | obj h4 h5 h6 =>
        refine ⟨_, _, _, _, _, _, rfl, rfl, c.ex _ _ h1, c.ex _ _ h4, toSp_of (.cons (.obj h1 h2 h3) (.cons (.obj h4 h5 h6) .nil)) c (Q := fun d' M' => d' = .bl j ∧ M' = M) (q _ ⟨rfl, rfl⟩) F.up fun v d' M' B' H' s r c' e => ?_⟩
        obtain ⟨rfl, rfl⟩ := e
        cases r
        exact ⟨⟨_, rfl⟩, kk _ _ _ s (.bl j) c'⟩⟩
end
section
variable {α : Type} [DecidableEq α] {n : Nat} {f : α → D}
theorem en_tupl (e : En n f) : En (n + 1) fun l : List α => D.tup (l.map f) := ⟨fun l => by
    unfold D.plain
    exact plains_map fun x _ => e.plain x, fun l => by
    unfold D.py PyData.canLay0
    rw [pys_map]
    exact canLayAll_of fun d hd => by
      obtain ⟨x, _, rfl⟩ := List.mem_map.mp hd
      exact e.lay x, fun l => by
    unfold D.py PyData.depth
    rw [pys_map]
    refine Nat.succ_le_succ (depthAll_le fun d hd => ?_)
    obtain ⟨x, _, rfl⟩ := List.mem_map.mp hd
    exact e.dep x, fun l m => by
    unfold D.py PyData.eqv
    rw [pys_map, pys_map]
    exact eqvAll_map e l m⟩
end
end Ab
/-! A comprehension whose items draw, each one told by its source. -/
namespace Ab
open PySem PySem.Spec PyProof.Rows L2
variable {X : Cx} {elt iter : Expr} {ε : OE} {n : Int} {Q : OV → Int → Prop} {A : OEnds} {G : Gx} {N : List Str} {sc scope : Scope} {pos p : Pos}
theorem olc_DF {α : Type} (g : XF X G N sc) (j : Nat) {y : Str} {py : Pos} (f h : α → D) (W : Int) (hW : 0 ≤ W) (hi : oIT X (.Name y py) iter ε n fun ds n1 => ∃ l : List α, ds = l.map f ∧ l.length < 100000 ∧
      (∀ x ∈ l, ∀ m, n1 ≤ m → m + W ≤ n1 + W * l.length → ∀ X', XF X' G N (relS scope sc) → X'.A = X.A → oE X' elt (ε.set j (some (.v (f x)))) m fun ov m' => ov = .v (h x) ∧ m ≤ m' ∧ m' ≤ m + W) ∧
      ∀ n2, n1 ≤ n2 → n2 ≤ n1 + W * l.length → Q (.l (l.map h)) n2) (hN : N[j]? = some y := by rfl) (hε : ε[j]? = some none := by rfl) (hlo : locB (relS scope sc) y = true := by rfl) (ho : ownB scope sc y = true := by rfl) : oLC X elt (.Name y py) iter [] scope [(y, j)] (gName j) ε n Q := by
  refine olc_0 g (tg_name g j (by exact List.mem_singleton.mpr rfl) hN hlo ho) <| .mk fun P M0 δ M r => aI.mono (hi P M0 δ M r) fun C ds M1 ⟨hC, n1, r1, l, e1, hl, he, hq⟩ => ⟨hC, n1, r1, fun i acc m => i ≤ l.length ∧ n1 ≤ m ∧ m ≤ n1 + W * i ∧ acc = (l.take i).map h, ⟨Nat.zero_le _, Int.le_refl _, by simp, by simp⟩, by rw [e1, List.length_map]; exact hl, fun i d acc m hd ⟨h1, h2, h3, e2⟩ => ?_, fun acc m ⟨h1, h2, h3, e2⟩ => ?_⟩
  · rw [e1, List.getElem?_map] at hd
    cases z : l[i]? with
    | none => rw [z] at hd; cases hd
    | some x =>
      rw [z] at hd
      cases hd
      have hlt : i < l.length := (List.getElem?_eq_some_iff.mp z).1
      have hb : W * ((i : Int) + 1) ≤ W * (l.length : Int) := Int.mul_le_mul_of_nonneg_left (by omega) hW
      rw [Int.mul_add, Int.mul_one] at hb
      refine ⟨_, tgs_1 hε, fun X' gX eA => (he x (List.mem_of_getElem? z) m h2 (by omega) X' gX eA).imp fun ov m' ⟨e5, l1, l2⟩ => ⟨h x, e5, hlt, by omega, ?_, ?_⟩⟩
      · rw [Int.natCast_add, Int.mul_add]; simp; omega
      · rw [e2, List.take_succ, z, List.map_append]; rfl
  · rw [e1, List.length_map] at h3 e2
    rw [e2, List.take_length]
    exact hq m h2 h3
theorem oe_lcDF {α : Type} (g : XF X G N sc) (j : Nat) {y : Str} {py : Pos} (f h : α → D) (W : Int) (hW : 0 ≤ W) (hi : oIT X (.Name y py) iter ε n fun ds n1 => ∃ l : List α, ds = l.map f ∧ l.length < 100000 ∧
      (∀ x ∈ l, ∀ m, n1 ≤ m → m + W ≤ n1 + W * l.length → ∀ X', XF X' G N (relS scope sc) → X'.A = X.A → oE X' elt (ε.set j (some (.v (f x)))) m fun ov m' => ov = .v (h x) ∧ m ≤ m' ∧ m' ≤ m + W) ∧
      ∀ n2, n1 ≤ n2 → n2 ≤ n1 + W * l.length → Q (.v (.lst (l.map h))) n2) (hN : N[j]? = some y := by rfl) (hε : ε[j]? = some none := by rfl) (hlo : locB (relS scope sc) y = true := by rfl) (ho : ownB scope sc y = true := by rfl) (okb : blkC N sc scope [(y, j)] = true := by decide +kernel) (hs : ∀ x, foldedSetIterable iter X.env x = pure x := by intro _; rfl) : oE X (.ListComp elt [⟨.Name y py, iter, [], 0⟩] scope pos) ε n Q :=
  oE.frz (oe_ofLC (own := [(y, j)]) g okb (tg_name g j (by exact List.mem_singleton.mpr rfl) hN hlo ho) (.inl rfl) (olc_DF g j f h W hW (.mk fun P M0 δ M r => aI.mono (hi P M0 δ M r) fun C ds M1 ⟨hC, n1, r1, l, e1, hl, he, hq⟩ => ⟨hC, n1, r1, l, e1, hl, he, fun n2 h3 h4 => ⟨_, rfl, hq n2 h3 h4⟩⟩) hN hε hlo ho) hs)
end Ab
/-! From values of names to the rules below; methods by name that raise; loops over what is drawn. -/
namespace Ab
open PySem PySem.Spec PyProof.Rows L2
theorem rl_vals {M : AHp} {n : Int} (δ : DE) : Rl none M n (δ.map (Option.map OV.v)) δ M := by
  have z : ∀ (i : Nat) (o : OV), (δ.map (Option.map OV.v))[i]? = some (some o) → ∃ d, o = .v d ∧ δ[i]? = some (some d) := fun i o h => by
    rw [List.getElem?_map] at h
    cases e : δ[i]? with
    | none => rw [e] at h; cases h
    | some y =>
      rw [e] at h
      cases y with
      | none => cases h
      | some d => cases h; exact ⟨d, rfl, rfl⟩
  refine ⟨⟨fun _ => 0, ⟨fun i o ho => ?_, fun i o m ho hm => ?_, fun i j oi oj mi mj h1 h2 m1 m2 e => ?_, fun i xs ho => ?_⟩⟩, ?_, fun a o _ h => h, fun p e => (nomatch e), fun i ho => ?_⟩
  · obtain ⟨d, rfl, e⟩ := z i o ho; exact e
  · obtain ⟨d, rfl, e⟩ := z i o ho; cases hm
  · obtain ⟨d, rfl, e⟩ := z i oi h1; cases m1
  · obtain ⟨d, e, _⟩ := z i _ ho; cases e
  · rw [List.length_map]
  · obtain ⟨d, e, _⟩ := z i _ ho; cases e
theorem oV.a {X : Cx} {e : Expr} {δ : DE} {d : D} {M : AHp} (h : oV X e (δ.map (Option.map OV.v)) d) : aV X e δ M d := h none M 0 δ M (rl_vals δ)
theorem oT.a {X : Cx} {e : Expr} {δ : DE} {b : Bool} {M : AHp} (h : oT X e (δ.map (Option.map OV.v)) b) : aTV X e δ M b := h none M 0 δ M (rl_vals δ)
structure MtKE (G : Gx) (k : Nat) (C : Addr) (m : Str) (n : Nat) (ks : List Str) (g : {α : Type} → List α → List α → List α) (a : ASp) : Prop where
  ex : ∃ (f : Addr) (fd : FuncData) (ps : List Str), FnG G (L2.CX G.prog G.w) k f fd ps (toSp a) ∧ Meth G.K C m f ∧ KwB G.K fd ps (n + 1) ks g
  cl : Cls G.K C
  up : Up a
section
variable {X : Cx} {e o : Expr} {es : List Expr} {kws : List Keyword} {δ : DE} {M : AHp} {Q : DK} {σ : L2.St} {H B : Hp} {G : Gx} {N : List Str} {sc : Scope} {pos p apos : Pos} {x m : Str} {k n : Nat} {ks : List Str} {sp : ASp} {C : Addr} {W : AW} {go : {α : Type} → List α → List α → List α}
theorem run_gKX {f : Addr} {fd : FuncData} {ps : List Str} {pins : List (Addr × Obj)} {s : Shared} {us ws : List Value} {vs zs : List V} {ds es : List D} {M : AHp} {B0 : Hp} {Q2 : VK} (F : FnG (gxOf X) (L2.CX X.prog X.w) k f fd ps (toSp sp)) (up : Up sp) (gd : X.A.guards = some []) (hr : Room k X.A) (hb : KwB X.K fd ps n ks go) (tk : Takes X (cW W))
    (I : Inv X pins σ H s) (r : Vals vs us) (rz : Vals zs ws) (rs : RepS B σ δ) (rd : Reps B vs ds) (rf : Reps B zs es) (c : Cf B M H) (l1 : us.length = n) (l2 : es.length = ks.length) (h : sp (go ds es) M Q fun C d M' => W C d δ M')
    (kk : ∀ v d M' B' H', Same B B' → Rep B' v d → Cf B' M' H' → Q d M' → Q2 v H') : wpAny (model X.prog X.w) X.A (call (.ref f) us (ks.zip ws)) (EP X pins σ Q2) X.xe s := by
  have hs : toSp sp (go vs zs) H Q2 fun cls dd H' => cW W cls dd σ H' := toSp_ofX (B0 := B) rs (hb.relD rd rf) c h up kk
  refine wpAny_call (codeAny_mono (F.run X.A X.stack s H ⟨us, ks.zip ws⟩ (go us ws) (go vs zs) Q2 _ gd hr I.env0 (hb.to s us ws I.kIn l1 (by rw [← rz.length, rf.length]; exact l2)) (hb.relV r rz) hs) fun res s' hq => ?_)
  match res, hq with
  | .error er, hq => exact tk er s' (XE.of_call I (fun cls dd H' h => h) hq)
  | .ok (.ret u), hq => exact I.after hq
  | .ok .next, hq => exact False.elim hq
  | .ok .brk, hq => exact False.elim hq
  | .ok .cont, hq => exact False.elim hq
/-- o.m(k = v, ..) that may raise -/
theorem ae_methK0X {pl : Sem Bool} (g : XF X G N sc) (F : MtKE G k C m 0 ks go sp) (hr : Room k X.A) (tk : Takes X (cW W)) (h : aE X o δ M fun d M1 => ∃ fs, IsI M1 C d fs ∧ fs.lookup m = none ∧ aK X kws δ M1 fun zs M2 => zs.length = ks.length ∧ sp (go [d] zs) M2 Q fun C d M' => W C d δ M')
    (hall : (backToKw pos (keywordEach kws X.env)).all (·.1.isSome) = true := by rfl) (hks : (backToKw pos (keywordEach kws X.env)).filterMap (·.1) = ks := by rfl)
    (hpl : ((backTo pos (starEach [] X.env)).any (·.1) || (backToKw pos (keywordEach kws X.env)).any (·.1.isNone)) = false := by rfl)
    (ht : eval (.Call (.Attribute o m apos) [] kws pos) X.env = (do
      let ov ← eval o X.env
      standAt apos.atName
      let (fn, first) ← holding [ov] (getMethod ov m pl)
      callWith pos fn first (backTo pos (starEach [] X.env)) (backToKw pos (keywordEach kws X.env))) := by rfl) : aE X (.Call (.Attribute o m apos) [] kws pos) δ M Q := fun σ H B rs c pins s I => by
  have gd := g.gd
  obtain ⟨rfl, _⟩ := g
  obtain ⟨f, fd, ps, F1, hm, hb⟩ := F.ex
  refine PySem.W.methodCall_KW (pl := pl) (thn (h σ H B rs c pins s I) fun u s1 ⟨v, H1, I1, rv, d, M1, B1, sm, r1, c1, fs, hi, hl, q⟩ => ?_) ht
  obtain ⟨a, dx, ws, rfl, ha, hf⟩ := hi.ins r1 c1
  obtain rfl : u = Value.ref a := rv
  refine getmeth_ok I1 ha F.cl hm (hf.none hl) ?_
  refine PySem.W.callWith_KW0 (first := [.ref a]) (h₀ := X.base) I.ok.mod.kin hm.kp hall (thn (q σ H1 B1 (rs.mono sm) c1 pos pins s1 I1) fun ws s2 ⟨zs, H2, I2, rz, es2, M2, B2, sm2, r2, c2, l2, q2⟩ => ⟨I2.kIn, ?_⟩) hpl
  rw [hks]
  exact run_gKX (vs := [.ref a]) (us := [.ref a]) (B0 := B) F1 F.up gd hr hb tk I2 (.cons rfl .nil) rz ((rs.mono sm).mono sm2) (.cons (r1.mono sm2) .nil) r2 c2 rfl l2 q2 fun v d M' B' H' s' r' c' q' => ⟨d, M', B', (sm.trans sm2).trans s', r', c', q'⟩
end
section
variable {X : Cx} {e it : Expr} {es : List Expr} {ε : OE} {n : Int} {Q : OV → Int → Prop} {G : Gx} {N : List Str} {sc : Scope} {pos p : Pos}
/-- over a list that is drawn -/
theorem oit_E {tg : Expr} {K : List D → Int → Prop} (h : oE X it ε n fun u n1 => ∃ ds, u = .v (.lst ds) ∧ K ds n1) : oIT X tg it ε n K := .mk fun P M0 δ M r =>
  ai_list ((h P M0 δ M r).imp fun d M1 ⟨ov, n1, r1, v, ds, e1, q⟩ => by
    subst e1
    have v : d = .lst ds := v
    exact ⟨ds, v, fun _ => trivial, n1, r1, q⟩)
theorem rd_vals {M : AHp} : ∀ ds : List D, Rd M (ds.map OV.v) ds
  | [] => .nil
  | _ :: ds => .v (rd_vals ds)
/-- f(..) that reads, its arguments drawn -/
theorem oe_callRA (g : XF X G N sc) {k : Nat} {f : Str} {S : List OV → (OV → Prop) → Prop} (F : Fn G k f (spR S)) (hr : Room k X.A) (mon : MonR S) {pp : Pos} (he : oA X (e :: es) ε n fun ds n1 => S (ds.map OV.v) fun u => ∃ d, u = .v d ∧ Q (.v d) n1) (hg : sc.names.lookup f = some .globalImplicit := by rfl) (hdb : (f == ("__debug__" : Str)) = false := by decide)
    (hs : starEach (e :: es) X.env = (false, eval e X.env) :: starEach es X.env := by rfl) (hpl : (backTo pos (starEach es X.env)).any (·.1) = false := by rfl) : oE X (.Call (.Name f pp) (e :: es) [] pos) ε n Q := .mk fun P M0 δ M r =>
  ae_call g F hr ((he P M0 δ M r).imp fun ds M1 ⟨n1, r1, q⟩ => ⟨ds.map OV.v, rd_vals ds, mon.mon (fun u ⟨d, e1, q⟩ d' k => by
    subst e1
    have k : d' = d := k
    subst k
    exact ⟨.v d', n1, r1, rfl, q⟩) q⟩) hg hdb hs hpl
end
end Ab
/-! == and != of an own instance and a thing of another type. -/
namespace HO
open PySem PySem.Spec PyProof.Rows PySem.W PySem.SeqAt
open AutoSeq1 (wpAny_loadPart')
section
variable {M : Model} {prog : Program} {w : World} {A : Around} {E : Value → Shared → Prop} {s : Shared} {K : PySem.W.Frag} {x C L f dx : Addr} {ox : Obj} {od : Option Obj} {h₀ : Heap} {m : Str → Option Value} {b tb : Value}
theorem ifBound_objNe {args : List Value} {Q : Option Value → Shared → Prop} (X : K.In s.heap) (I : PySem.W.InstAt s.heap x ox C od) (hs : PySem.W.findIn K (.ref C) "__ne__" = some (some (.builtin "object.__ne__")))
    (h : wpAny M A (call (.builtin "object.__ne__") (.ref x :: args)) (fun v => Q (some v)) E s) : wpAny M A (callSpecialIfBound? (.ref x) "__ne__" args) Q E s := by
  simp only [callSpecialIfBound?, bindSpecialIfBound?]
  refine wpAny_holding (wpAny_bind (wpAny_bind (wpAny_bind (I.type.here ((PySem.W.looks_findIn X hs).here ?_)))))
  refine wpAny_bind (wpAny_askSetting (wpAny_ite ?_))
  have fin : wpAny M A (call (.builtin "object.__ne__") ([.ref x] ++ args) >>= fun v => pure (some v)) Q E s := wpAny_bind (wpAny_mono h (fun v s' h' => wpAny_pure h') fun _ _ h' => h')
  split
  · exact wpAny_bind (wpAny_of_eq (F.cmp_object.ne.bind _) (wpAny_pure (by exact fin)))
  · exact wpAny_tryCatch (wpAny_bind (wpAny_of_eq (F.cmp_object.ne.bind _) (wpAny_pure (by exact fin))))
theorem entry_ne {Q : Fin → Shared → Prop} (hu : A.units < cLine) (X : K.In s.heap) (I : PySem.W.InstAt s.heap x ox C od) (hs : PySem.W.findIn K (.ref C) "__eq__" = some (some (.ref f))) (hf : PySem.W.isFn K (.ref f) = true)
    (h : wpAny (model prog w) A (call (.ref f) [.ref x, b]) (fun v s' => ∃ j, v = .bool j ∧ Q (.done (.ret (.bool (!j)))) s') E s) : wpAny (model prog w) A (Builtin.«object.__ne__» ⟨[.ref x, b], []⟩) Q E s := by
  obtain ⟨hp, g, d, tk, os⟩ := s
  unfold Builtin.«object.__ne__»
  repeat (first
    | with_reducible refine wpAny_cRoomFor hu ?_
    | (refine wpAny_bind (m := callSpecialIfBound? (.ref x) (Str.ofString "__eq__") [b]) (PySem.W.ifBound_K X I hs hf (wpAny_mono h (fun r s' hr => by
        obtain ⟨j, rfl, hq⟩ := hr
        repeat (first | exact hq | exact wpAny_pure hq | exact wpAny_truthy_bool hq | (refine wpAny_bind (m := truthy (.bool _)) (wpAny_truthy_bool ?_)) | wp_step)) fun _ _ e => e)))
    | wp_step)
theorem call_ne {Q : Value → Shared → Prop} (hu : A.units + 1 < cLine) (X : K.In s.heap) (I : PySem.W.InstAt s.heap x ox C od) (hm : PySem.W.mroIn K C (.type "object") = some true) (hs : PySem.W.findIn K (.ref C) "__eq__" = some (some (.ref f))) (hf : PySem.W.isFn K (.ref f) = true)
    (h : wpAny (model prog w) A.in1 (call (.ref f) [.ref x, b]) (fun v s' => ∃ j, v = .bool j ∧ Q (.bool (!j)) s') E s) : wpAny (model prog w) A (call (.builtin "object.__ne__") [.ref x, b]) Q E s :=
  wpAny_call (codeAny_call_builtin F.cmp_object.ne.plain F.cmpEntry_ne (PySem.W.check_slot F.cmpKind_ne F.cmpSplit_ne (I.type.andThen (PySem.W.looks_mroIn X hm)) (F.cmpArgs_ne _ _)
    (entry_ne (A := A.in1) hu X I hs hf (wpAny_mono h (fun v s' ⟨j, e, q⟩ => ⟨j, e, q⟩) fun _ _ e => e))))
/-- what != asks of the own class -/
structure NeC (K : PySem.W.Frag) (C f : Addr) : Prop where
  ne : PySem.W.findIn K (.ref C) "__ne__" = some (some (.builtin "object.__ne__"))
  ob : PySem.W.mroIn K C (.type "object") = some true
  eq : PySem.W.findIn K (.ref C) "__eq__" = some (some (.ref f))
  fn : PySem.W.isFn K (.ref f) = true
theorem try_ne {Q : Option Value → Shared → Prop} (hu : A.units + 1 < cLine) (X : K.In s.heap) (I : PySem.W.InstAt s.heap x ox C od) (N : NeC K C f)
    (h : wpAny (model prog w) A.in1 (call (.ref f) [.ref x, b]) (fun v s' => ∃ j, v = .bool j ∧ Q (some (.bool (!j))) s') E s) : wpAny (model prog w) A (tryCompare (.ref x) "__ne__" b) Q E s := by
  unfold tryCompare
  refine wpAny_bind (ifBound_objNe X I N.ne (call_ne hu X I N.ob N.eq N.fn (wpAny_mono h (fun v s' hv => ?_) fun _ _ e => e)))
  obtain ⟨j, rfl, hq⟩ := hv
  exact ⟨j, rfl, wpAny_pure hq⟩
theorem try_eq {Q : Option Value → Shared → Prop} (X : K.In s.heap) (I : PySem.W.InstAt s.heap x ox C od) (N : NeC K C f)
    (h : wpAny (model prog w) A (call (.ref f) [.ref x, b]) (fun v s' => ∃ j, v = .bool j ∧ Q (some (.bool j)) s') E s) : wpAny (model prog w) A (tryCompare (.ref x) "__eq__" b) Q E s := by
  unfold tryCompare
  refine wpAny_bind (PySem.W.ifBound_K X I N.eq N.fn (wpAny_mono h (fun v s' hv => ?_) fun _ _ e => e))
  obtain ⟨j, rfl, hq⟩ := hv
  exact wpAny_pure hq
/-- an own instance on the left -/
theorem rc_left {op : CmpOp} {Q : Value → Shared → Prop} (hu : A.units < cLine) (X : K.In s.heap) (I : PySem.W.InstAt s.heap x ox C od) (hb : Looks (model prog w) s.heap (typeOf b) tb) (hn : PySem.W.notFirst K C tb = true)
    (one : wpAny (model prog w) A (tryCompare (.ref x) (cmpInfo op).2.1 b) (fun r s' => ∃ v, r = some v ∧ Q v s') E s) : wpAny (model prog w) A (richCompare op (.ref x) b) Q E s := by
  unfold richCompare
  simp only [oneThing_ref]
  refine wpAny_holding (wpAny_bind (wpAny_cRoomFor hu ?_))
  refine wpAny_bind (I.type.here (wpAny_bind (hb.here ?_)))
  split
  · rename_i q
    have e : PySem.W.subIn K tb (.ref C) = some false := by
      rcases Bool.or_eq_true_iff.mp hn with e | e
      · rw [beq_iff_eq.mp e] at q; simp at q
      · exact beq_iff_eq.mp e
    refine wpAny_bind ((PySem.W.looks_subIn X e).here ?_)
    simp only [Bool.false_eq_true, if_false]
    refine wpAny_bind (wpAny_mono one (fun r s' z => ?_) fun _ _ e => e)
    obtain ⟨v, rfl, hq⟩ := z
    exact wpAny_pure hq
  · refine wpAny_bind (wpAny_pure ?_)
    simp only [Bool.false_eq_true, if_false]
    refine wpAny_bind (wpAny_mono one (fun r s' z => ?_) fun _ _ e => e)
    obtain ⟨v, rfl, hq⟩ := z
    exact wpAny_pure hq
/-- an own instance on the right of a thing of a built-in type -/
theorem rc_right {op : CmpOp} {u : Value} {T : String} {Q : Value → Shared → Prop} (hu : A.units < cLine) (X : K.In s.heap) (hT : s.TypeIs u T) (I : PySem.W.InstAt s.heap x ox C od) (hsub : PySem.W.subIn K (.ref C) (.type T) = some false)
    (h1 : wpAny (model prog w) A (tryCompare u (cmpInfo op).2.1 (.ref x)) (fun r s' => r = none ∧ s' = s) E s)
    (h2 : wpAny (model prog w) A (tryCompare (.ref x) (cmpInfo op).2.2 u) (fun r s' => ∃ v, r = some v ∧ Q v s') E s) : wpAny (model prog w) A (richCompare op u (.ref x)) Q E s := by
  unfold richCompare
  simp only [hT.oneThing_none]
  refine wpAny_holding (wpAny_bind (wpAny_cRoomFor hu ?_))
  refine wpAny_bind (wpAny_typeOf hT (wpAny_bind (I.type.here ?_)))
  split
  · refine wpAny_bind ((PySem.W.looks_subIn X hsub).here ?_)
    simp only [Bool.false_eq_true, if_false, Bool.not_false, if_true]
    refine wpAny_bind (wpAny_mono h1 (fun r s1 z => ?_) fun _ _ e => e)
    obtain ⟨z1, z2⟩ := z
    subst z1
    subst z2
    refine wpAny_bind (wpAny_mono h2 (fun r s' z => ?_) fun _ _ e => e)
    obtain ⟨v, rfl, hq⟩ := z
    exact wpAny_pure hq
  · rename_i q
    exact absurd (by simp) q
end
section
variable {prog : Program} {w : World} {A : Around} {E : Value → Shared → Prop} {s : Shared} {K : PySem.W.Frag} {x C dx a : Addr} {od : Option Obj}
theorem int_dec {op : CmpOp} (h : op = .Eq ∨ op = .NotEq) {i : Int} {t : Tok} (hx : s.heap.get? x = some (PySem.W.instObj C dx)) :
    wpAny (model prog w) A (tryCompare (.int i t) (cmpInfo op).2.1 (.ref x)) (fun r s' => r = none ∧ s' = s) E s := by
  have m1 : Meets (Builtin.«int.__eq__» ⟨[.int i t, .ref x], []⟩) (fun _ R s => s.heap.get? x = some (PySem.W.instObj C dx) ∧ R (.ok (.ret .notImplemented)) s) :=
    .of_wp fun prog w A R s h => by obtain ⟨hp, g, d, tk, os⟩ := s; obtain ⟨hl, h⟩ := h; unfold PySem.W.instObj at hl; wp_walk using wpAny_loadPart' hl, wpAny_load hl; exact ⟨_, rfl, h⟩
  have m2 : Meets (Builtin.«int.__ne__» ⟨[.int i t, .ref x], []⟩) (fun _ R s => s.heap.get? x = some (PySem.W.instObj C dx) ∧ R (.ok (.ret .notImplemented)) s) :=
    .of_wp fun prog w A R s h => by obtain ⟨hp, g, d, tk, os⟩ := s; obtain ⟨hl, h⟩ := h; unfold PySem.W.instObj at hl; wp_walk using wpAny_loadPart' hl, wpAny_load hl; exact ⟨_, rfl, h⟩
  rcases h with rfl | rfl
  · exact wpAny_tryCompare_declines (show s.TypeIs (.int i t) "int" from rfl) F.slot_int_eq (call_meets F.slot_int_eq rfl F.entry_int_eq (F.args_int_eq_2 _ _) m1 ⟨hx, rfl, rfl, rfl⟩)
  · exact wpAny_tryCompare_declines (show s.TypeIs (.int i t) "int" from rfl) F.slot_int_ne (call_meets F.slot_int_ne rfl F.entry_int_ne (F.args_int_ne_2 _ _) m2 ⟨hx, rfl, rfl, rfl⟩)
theorem bool_dec {op : CmpOp} (h : op = .Eq ∨ op = .NotEq) {j : Bool} (hx : s.heap.get? x = some (PySem.W.instObj C dx)) :
    wpAny (model prog w) A (tryCompare (.bool j) (cmpInfo op).2.1 (.ref x)) (fun r s' => r = none ∧ s' = s) E s := by
  have m1 : Meets (Builtin.«int.__eq__» ⟨[(.bool j), .ref x], []⟩) (fun _ R s => s.heap.get? x = some (PySem.W.instObj C dx) ∧ R (.ok (.ret .notImplemented)) s) :=
    .of_wp fun prog w A R s h => by obtain ⟨hp, g, d, tk, os⟩ := s; obtain ⟨hl, h⟩ := h; unfold PySem.W.instObj at hl; wp_walk using wpAny_loadPart' hl, wpAny_load hl; exact ⟨_, rfl, h⟩
  have m2 : Meets (Builtin.«int.__ne__» ⟨[(.bool j), .ref x], []⟩) (fun _ R s => s.heap.get? x = some (PySem.W.instObj C dx) ∧ R (.ok (.ret .notImplemented)) s) :=
    .of_wp fun prog w A R s h => by obtain ⟨hp, g, d, tk, os⟩ := s; obtain ⟨hl, h⟩ := h; unfold PySem.W.instObj at hl; wp_walk using wpAny_loadPart' hl, wpAny_load hl; exact ⟨_, rfl, h⟩
  rcases h with rfl | rfl
  · exact wpAny_tryCompare_declines (show s.TypeIs (.bool j) "bool" from rfl) F.slot_bool_eq (call_meets F.slot_bool_eq rfl F.entry_int_eq (F.args_int_eq_2 _ _) m1 ⟨hx, rfl, rfl, rfl⟩)
  · exact wpAny_tryCompare_declines (show s.TypeIs (.bool j) "bool" from rfl) F.slot_bool_ne (call_meets F.slot_bool_ne rfl F.entry_int_ne (F.args_int_ne_2 _ _) m2 ⟨hx, rfl, rfl, rfl⟩)
theorem str_dec {op : CmpOp} (h : op = .Eq ∨ op = .NotEq) {z : Str} {t : Tok} (hx : s.heap.get? x = some (PySem.W.instObj C dx)) :
    wpAny (model prog w) A (tryCompare (.str z t) (cmpInfo op).2.1 (.ref x)) (fun r s' => r = none ∧ s' = s) E s := by
  have m1 : Meets (Builtin.«str.__eq__» ⟨[(.str z t), .ref x], []⟩) (fun _ R s => s.heap.get? x = some (PySem.W.instObj C dx) ∧ R (.ok (.ret .notImplemented)) s) :=
    .of_wp fun prog w A R s h => by obtain ⟨hp, g, d, tk, os⟩ := s; obtain ⟨hl, h⟩ := h; unfold PySem.W.instObj at hl; wp_walk using wpAny_loadPart' hl, wpAny_load hl; exact ⟨_, rfl, h⟩
  have m2 : Meets (Builtin.«str.__ne__» ⟨[(.str z t), .ref x], []⟩) (fun _ R s => s.heap.get? x = some (PySem.W.instObj C dx) ∧ R (.ok (.ret .notImplemented)) s) :=
    .of_wp fun prog w A R s h => by obtain ⟨hp, g, d, tk, os⟩ := s; obtain ⟨hl, h⟩ := h; unfold PySem.W.instObj at hl; wp_walk using wpAny_loadPart' hl, wpAny_load hl; exact ⟨_, rfl, h⟩
  rcases h with rfl | rfl
  · exact wpAny_tryCompare_declines (show s.TypeIs (.str z t) "str" from rfl) F.slot_str_eq (call_meets F.slot_str_eq rfl F.entry_str_eq (F.args_str_eq_2 _ _) m1 ⟨hx, rfl, rfl, rfl⟩)
  · exact wpAny_tryCompare_declines (show s.TypeIs (.str z t) "str" from rfl) F.slot_str_ne (call_meets F.slot_str_ne rfl F.entry_str_ne (F.args_str_ne_2 _ _) m2 ⟨hx, rfl, rfl, rfl⟩)
theorem none_dec {op : CmpOp} (h : op = .Eq ∨ op = .NotEq)  (hx : s.heap.get? x = some (PySem.W.instObj C dx)) :
    wpAny (model prog w) A (tryCompare .none (cmpInfo op).2.1 (.ref x)) (fun r s' => r = none ∧ s' = s) E s := by
  have m1 : Meets (Builtin.«NoneType.__eq__» ⟨[.none, .ref x], []⟩) (fun _ R s => s.heap.get? x = some (PySem.W.instObj C dx) ∧ R (.ok (.ret .notImplemented)) s) :=
    .of_wp fun prog w A R s h => by obtain ⟨hp, g, d, tk, os⟩ := s; obtain ⟨hl, h⟩ := h; unfold PySem.W.instObj at hl; wp_walk using wpAny_loadPart' hl, wpAny_load hl; exact ⟨_, rfl, h⟩
  have m2 : Meets (Builtin.«NoneType.__ne__» ⟨[.none, .ref x], []⟩) (fun _ R s => s.heap.get? x = some (PySem.W.instObj C dx) ∧ R (.ok (.ret .notImplemented)) s) :=
    .of_wp fun prog w A R s h => by obtain ⟨hp, g, d, tk, os⟩ := s; obtain ⟨hl, h⟩ := h; unfold PySem.W.instObj at hl; wp_walk using wpAny_loadPart' hl, wpAny_load hl; exact ⟨_, rfl, h⟩
  rcases h with rfl | rfl
  · exact wpAny_tryCompare_declines (show s.TypeIs .none "NoneType" from rfl) F.slot_NoneType_eq (call_meets F.slot_NoneType_eq rfl F.entry_NoneType_eq (F.args_NoneType_eq_2 _ _) m1 ⟨hx, rfl, rfl, rfl⟩)
  · exact wpAny_tryCompare_declines (show s.TypeIs .none "NoneType" from rfl) F.slot_NoneType_ne (call_meets F.slot_NoneType_ne rfl F.entry_NoneType_ne (F.args_NoneType_ne_2 _ _) m2 ⟨hx, rfl, rfl, rfl⟩)
theorem list_dec {op : CmpOp} (h : op = .Eq ∨ op = .NotEq) (hT : s.TypeIs (.ref a) "list") (X : K.In s.heap) {ox : Obj} (I : PySem.W.InstAt s.heap x ox C od) (hsub : PySem.W.subIn K (.ref C) (.type "list") = some false) :
    wpAny (model prog w) A (tryCompare (.ref a) (cmpInfo op).2.1 (.ref x)) (fun r s' => r = none ∧ s' = s) E s := by
  have hI : Looks (model prog w) s.heap (isInstance (.ref x) (.type "list")) false := I.type.andThen (PySem.W.looks_subIn X hsub)
  rcases h with rfl | rfl
  · refine wpAny_tryCompare_declines hT F.slot_list_eq (wpAny_call (codeAny_call_builtin F.slot_list_eq.plain F.entry_list_eq (F.slot_list_eq.check _ _ _ _ _ _ _ _ hT (F.args_list_eq_2 _ _) ?_)))
    obtain ⟨hp, g, d, tk, os⟩ := s
    unfold Builtin.«list.__eq__»
    repeat (first | (refine wpAny_bind (m := isInstance (.ref x) (.type "list")) (hI.here ?_)) | wp_step)
    exact ⟨rfl, rfl, rfl⟩
  · refine wpAny_tryCompare_declines hT F.slot_list_ne (wpAny_call (codeAny_call_builtin F.slot_list_ne.plain F.entry_list_ne (F.slot_list_ne.check _ _ _ _ _ _ _ _ hT (F.args_list_ne_2 _ _) ?_)))
    obtain ⟨hp, g, d, tk, os⟩ := s
    unfold Builtin.«list.__ne__»
    repeat (first | (refine wpAny_bind (m := isInstance (.ref x) (.type "list")) (hI.here ?_)) | wp_step)
    exact ⟨rfl, rfl, rfl⟩
theorem tuple_dec {op : CmpOp} (h : op = .Eq ∨ op = .NotEq) (hT : s.TypeIs (.ref a) "tuple") (X : K.In s.heap) {ox : Obj} (I : PySem.W.InstAt s.heap x ox C od) (hsub : PySem.W.subIn K (.ref C) (.type "tuple") = some false) :
    wpAny (model prog w) A (tryCompare (.ref a) (cmpInfo op).2.1 (.ref x)) (fun r s' => r = none ∧ s' = s) E s := by
  have hI : Looks (model prog w) s.heap (isInstance (.ref x) (.type "tuple")) false := I.type.andThen (PySem.W.looks_subIn X hsub)
  rcases h with rfl | rfl
  · refine wpAny_tryCompare_declines hT F.slot_tuple_eq (wpAny_call (codeAny_call_builtin F.slot_tuple_eq.plain F.entry_tuple_eq (F.slot_tuple_eq.check _ _ _ _ _ _ _ _ hT (F.args_tuple_eq_2 _ _) ?_)))
    obtain ⟨hp, g, d, tk, os⟩ := s
    unfold Builtin.«tuple.__eq__»
    repeat (first | (refine wpAny_bind (m := isInstance (.ref x) (.type "tuple")) (hI.here ?_)) | wp_step)
    exact ⟨rfl, rfl, rfl⟩
  · refine wpAny_tryCompare_declines hT F.slot_tuple_ne (wpAny_call (codeAny_call_builtin F.slot_tuple_ne.plain F.entry_tuple_ne (F.slot_tuple_ne.check _ _ _ _ _ _ _ _ hT (F.args_tuple_ne_2 _ _) ?_)))
    obtain ⟨hp, g, d, tk, os⟩ := s
    unfold Builtin.«tuple.__ne__»
    repeat (first | (refine wpAny_bind (m := isInstance (.ref x) (.type "tuple")) (hI.here ?_)) | wp_step)
    exact ⟨rfl, rfl, rfl⟩
theorem dict_dec {op : CmpOp} (h : op = .Eq ∨ op = .NotEq) (hT : s.TypeIs (.ref a) "dict") (X : K.In s.heap) {ox : Obj} (I : PySem.W.InstAt s.heap x ox C od) (hsub : PySem.W.subIn K (.ref C) (.type "dict") = some false) :
    wpAny (model prog w) A (tryCompare (.ref a) (cmpInfo op).2.1 (.ref x)) (fun r s' => r = none ∧ s' = s) E s := by
  have hI : Looks (model prog w) s.heap (isInstance (.ref x) (.type "dict")) false := I.type.andThen (PySem.W.looks_subIn X hsub)
  rcases h with rfl | rfl
  · refine wpAny_tryCompare_declines hT F.slot_dict_eq (wpAny_call (codeAny_call_builtin F.slot_dict_eq.plain F.entry_dict_eq (F.slot_dict_eq.check _ _ _ _ _ _ _ _ hT (F.args_dict_eq_2 _ _) ?_)))
    obtain ⟨hp, g, d, tk, os⟩ := s
    unfold Builtin.«dict.__eq__»
    repeat (first | (refine wpAny_bind (m := isInstance (.ref x) (.type "dict")) (hI.here ?_)) | wp_step)
    exact ⟨rfl, rfl, rfl⟩
  · refine wpAny_tryCompare_declines hT F.slot_dict_ne (wpAny_call (codeAny_call_builtin F.slot_dict_ne.plain F.entry_dict_ne (F.slot_dict_ne.check _ _ _ _ _ _ _ _ hT (F.args_dict_ne_2 _ _) ?_)))
    obtain ⟨hp, g, d, tk, os⟩ := s
    unfold Builtin.«dict.__ne__»
    repeat (first | (refine wpAny_bind (m := isInstance (.ref x) (.type "dict")) (hI.here ?_)) | wp_step)
    exact ⟨rfl, rfl, rfl⟩
end
end HO
/-! == and != of an own instance and any other value: the rules. -/
namespace Ab
open PySem PySem.Spec PyProof.Rows L2
section
variable {X : Cx} {pins : List (Addr × Obj)} {σ : L2.St} {H : Hp} {s : Shared} {v : V} {u t : Value} {T : String}
theorem looksTy (I : Inv X pins σ H s) (rx : RelV v u) (ty : TyOf X.K H v t) : PySem.W.Looks (model X.prog X.w) s.heap (typeOf u) t := by
  cases ty with
  | non => cases (show u = Value.none from rx); exact PySem.W.Looks.of_pure rfl
  | bl y => cases (show u = Value.bool y from rx); exact PySem.W.Looks.of_pure rfl
  | int i => obtain ⟨t, q⟩ := (show ∃ t, u = Value.int i t from rx); cases q; exact PySem.W.Looks.of_pure rfl
  | str y => obtain ⟨t, q⟩ := (show ∃ t, u = Value.str y t from rx); cases q; exact PySem.W.Looks.of_pure rfl
  | flt y => obtain ⟨t, q⟩ := (show ∃ t, u = Value.float y t from rx); cases q; exact PySem.W.Looks.of_pure rfl
  | @lst a xs ea =>
    cases (show u = Value.ref a from rx)
    obtain ⟨_, _, n, _, h1⟩ := (show ObjOk X.prog X.w H s.heap a (.lst xs) from I.hok a _ ea)
    exact (PySem.W.Looks.ld h1).andThen .now
  | @frz a ob xs ea =>
    cases (show u = Value.ref a from rx)
    obtain ⟨_, _, _, n, _, h1⟩ := (show ObjOk X.prog X.w H s.heap a (.frz ob (.lst xs)) from I.hok a _ ea)
    exact (PySem.W.Looks.ld h1).andThen .now
  | @tup a xs ea =>
    cases (show u = Value.ref a from rx)
    obtain ⟨_, _, _, p⟩ := (show ObjOk X.prog X.w H s.heap a (.tup xs) from I.hok a _ ea)
    obtain ⟨o, h1, h2, _⟩ := p
    exact h2 ▸ (PySem.W.Looks.ld h1).andThen .now
  | @dK a kvs ea =>
    cases (show u = Value.ref a from rx)
    obtain ⟨_, _, vs, _, p⟩ := (show ObjOk X.prog X.w H s.heap a (.dK kvs) from I.hok a _ ea)
    obtain ⟨o, es, ep, h1, h2, _⟩ := p
    exact h2.1 ▸ (PySem.W.Looks.ld h1).andThen .now
  | @dT a kvs ea =>
    cases (show u = Value.ref a from rx)
    obtain ⟨_, _, xs, _, o, es, ep, h1, h2, _⟩ := (show ObjOk X.prog X.w H s.heap a (.dT kvs) from I.hok a _ ea)
    exact h2.1 ▸ (PySem.W.Looks.ld h1).andThen .now
  | @ins a C dx fs ea cl ha hn htk hm =>
    cases (show u = Value.ref a from rx)
    obtain ⟨mA, O, _⟩ := ins_get I.hok ea
    obtain ⟨od, J, _⟩ := O.look
    exact J.type
theorem tyIs (I : Inv X pins σ H s) (rx : RelV v u) (ty : TyOf X.K H v (.type T)) : s.TypeIs u T := by
  cases ty with
  | non => cases (show u = Value.none from rx); exact rfl
  | bl y => cases (show u = Value.bool y from rx); exact rfl
  | int i => obtain ⟨t, q⟩ := (show ∃ t, u = Value.int i t from rx); cases q; exact rfl
  | str y => obtain ⟨t, q⟩ := (show ∃ t, u = Value.str y t from rx); cases q; exact rfl
  | flt y => obtain ⟨t, q⟩ := (show ∃ t, u = Value.float y t from rx); cases q; exact rfl
  | @lst a xs ea =>
    cases (show u = Value.ref a from rx)
    obtain ⟨_, _, n, _, h1⟩ := (show ObjOk X.prog X.w H s.heap a (.lst xs) from I.hok a _ ea)
    exact ⟨_, h1, rfl⟩
  | @frz a ob xs ea =>
    cases (show u = Value.ref a from rx)
    obtain ⟨_, _, _, n, _, h1⟩ := (show ObjOk X.prog X.w H s.heap a (.frz ob (.lst xs)) from I.hok a _ ea)
    exact ⟨_, h1, rfl⟩
  | @tup a xs ea =>
    cases (show u = Value.ref a from rx)
    obtain ⟨_, _, _, p⟩ := (show ObjOk X.prog X.w H s.heap a (.tup xs) from I.hok a _ ea)
    obtain ⟨o, h1, h2, _⟩ := p
    exact ⟨o, h1, h2⟩
  | @dK a kvs ea =>
    cases (show u = Value.ref a from rx)
    obtain ⟨_, _, vs, _, p⟩ := (show ObjOk X.prog X.w H s.heap a (.dK kvs) from I.hok a _ ea)
    obtain ⟨o, es, ep, h1, h2, _⟩ := p
    exact ⟨o, h1, h2.1⟩
  | @dT a kvs ea =>
    cases (show u = Value.ref a from rx)
    obtain ⟨_, _, xs, _, o, es, ep, h1, h2, _⟩ := (show ObjOk X.prog X.w H s.heap a (.dT kvs) from I.hok a _ ea)
    exact ⟨o, h1, h2.1⟩
theorem dec_ty {op : CmpOp} (hop : op = .Eq ∨ op = .NotEq) {A : Around} {E : Value → Shared → Prop} {C a dx : Addr} {od : Option Obj} (I : Inv X pins σ H s) (rx : RelV v u) (ty : TyOf X.K H v (.type T)) (nf : T ≠ "float") (hx : s.heap.get? a = some (PySem.W.instObj C dx)) (J : PySem.W.InstAt s.heap a (PySem.W.instObj C dx) C od) (hs : PySem.W.subIn X.K (.ref C) (.type T) = some false) :
    wpAny (model X.prog X.w) A (tryCompare u (cmpInfo op).2.1 (.ref a)) (fun r s' => r = none ∧ s' = s) E s := by
  have tt := tyIs I rx ty
  cases ty with
  | non => cases (show u = Value.none from rx); exact HO.none_dec hop hx
  | bl y => cases (show u = Value.bool y from rx); exact HO.bool_dec hop hx
  | int i => obtain ⟨t, q⟩ := (show ∃ t, u = Value.int i t from rx); cases q; exact HO.int_dec hop hx
  | str y => obtain ⟨t, q⟩ := (show ∃ t, u = Value.str y t from rx); cases q; exact HO.str_dec hop hx
  | flt y => exact absurd rfl nf
  | @lst b xs ea => cases (show u = Value.ref b from rx); exact HO.list_dec hop tt I.kIn J hs
  | @frz b ob xs ea => cases (show u = Value.ref b from rx); exact HO.list_dec hop tt I.kIn J hs
  | @tup b xs ea => cases (show u = Value.ref b from rx); exact HO.tuple_dec hop tt I.kIn J hs
  | @dK b kvs ea => cases (show u = Value.ref b from rx); exact HO.dict_dec hop tt I.kIn J hs
  | @dT b kvs ea => cases (show u = Value.ref b from rx); exact HO.dict_dec hop tt I.kIn J hs
/-- the callee runs inside a built-in -/
theorem run_gi {CX : CXT} {k : Nat} {f : Addr} {fd : FuncData} {ps : List Str} {sp : Sp} {E : XK} {Q : VK} {us : List Value} {vs : List V} (F : FnG (gxOf X) CX k f fd ps sp) (gd : X.A.in1.guards = some []) (hr : Room k X.A.in1) (hb : Binds X.K fd ps []) (hx : Passes CX X E)
    (I : Inv X pins σ H s) (r : Vals vs us) (h : sp vs H Q E) : wpAny (model X.prog X.w) X.A.in1 (call (.ref f) us) (EP X pins σ Q) X.xe s := by
  have hl : (us ++ []).length = ps.length := by rw [List.append_nil, ← r.length]; exact F.len _ _ _ _ h
  have b := hb s us I.kIn hl
  rw [List.append_nil] at b
  refine wpAny_call (codeAny_mono (F.run X.A.in1 X.stack s H ⟨us, []⟩ us vs Q E gd hr I.env0.in1 b r h) fun res s' hq => ?_)
  match res, hq with
  | .error er, hq => exact hx pins σ H s er s' I hq
  | .ok (.ret u), hq => exact I.after hq
  | .ok .next, hq => exact False.elim hq
  | .ok .brk, hq => exact False.elim hq
  | .ok .cont, hq => exact False.elim hq
end
section
variable {X : Cx} {k : Nat} {C f : Addr} {fd : FuncData} {ps : List Str} {sp : ASp}
/-- own == anything (ng: !=) -/
def rLft (K : PySem.W.Frag) (C : Addr) (sp : ASp) (ng : Bool) : R2 := fun x y H Q => ∃ a dx fs t, x = .ref a ∧ H a = some (.ins C dx fs) ∧ TyOf K H y t ∧ PySem.W.notFirst K C t = true ∧ toSp sp [.ref a, y] H (fun v H' => ∃ p : Bool, v = .bl p ∧ Q (.bl (if ng then !p else p)) H') E0
theorem op_eqL (F : FnG (gxOf X) CX0 k f fd ps (toSp sp)) (gd : X.A.guards = some []) (hr : Room k X.A) (hb : Binds X.K fd ps []) (N : HO.NeC X.K C f) : OpR X (compareOp .Eq) (rLft X.K C sp false) := by
  intro pins s σ H x y v u Q I rx ry h
  obtain ⟨a, dx, fs, t, rfl, ha, ty, hn, hsp⟩ := h
  cases rx
  obtain ⟨mA, J, _⟩ := ins_get I.hok ha
  obtain ⟨od, J, _⟩ := J.look
  show wpAny (model X.prog X.w) X.A (richCompare .Eq _ u) (EP X pins σ Q) X.xe s
  refine HO.rc_left (op := .Eq) (by have := u64 hr; omega) I.kIn J (looksTy I ry ty) hn (HO.try_eq I.kIn J N ?_)
  refine thn (run_g (us := [Value.ref a, u]) (vs := [V.ref a, y]) F gd hr hb pass0 I (.cons rfl (.cons ry .nil)) hsp) fun w s' hq => ?_
  obtain ⟨z, H', I', rz, p, rfl, q⟩ := hq
  cases rz
  exact ⟨p, rfl, _, rfl, .bl p, H', I', rfl, q⟩
theorem op_neL (F : FnG (gxOf X) CX0 k f fd ps (toSp sp)) (gd : X.A.guards = some []) (hr : Room (k + 1) X.A) (hb : Binds X.K fd ps []) (N : HO.NeC X.K C f) : OpR X (compareOp .NotEq) (rLft X.K C sp true) := by
  intro pins s σ H x y v u Q I rx ry h
  obtain ⟨a, dx, fs, t, rfl, ha, ty, hn, hsp⟩ := h
  cases rx
  obtain ⟨mA, J, _⟩ := ins_get I.hok ha
  obtain ⟨od, J, _⟩ := J.look
  show wpAny (model X.prog X.w) X.A (richCompare .NotEq _ u) (EP X pins σ Q) X.xe s
  refine HO.rc_left (op := .NotEq) (by have := u64 hr; omega) I.kIn J (looksTy I ry ty) hn (HO.try_ne (by have := u64 hr; omega) I.kIn J N ?_)
  refine thn (run_gi (us := [Value.ref a, u]) (vs := [V.ref a, y]) F gd hr.in1 hb pass0 I (.cons rfl (.cons ry .nil)) hsp) fun w s' hq => ?_
  obtain ⟨z, H', I', rz, p, rfl, q⟩ := hq
  cases rz
  exact ⟨p, rfl, _, rfl, .bl (!p), H', I', rfl, q⟩
/-- a thing of a built-in type == own (ng: !=) -/
def rRgt (K : PySem.W.Frag) (C : Addr) (sp : ASp) (ng : Bool) : R2 := fun x y H Q => ∃ (a dx : Addr) (fs : List (Str × V)) (T : String), y = .ref a ∧ H a = some (.ins C dx fs) ∧ TyOf K H x (.type T) ∧ T ≠ "float" ∧ PySem.W.subIn K (.ref C) (.type T) = some false ∧ toSp sp [.ref a, x] H (fun v H' => ∃ p : Bool, v = .bl p ∧ Q (.bl (if ng then !p else p)) H') E0
theorem op_eqR (F : FnG (gxOf X) CX0 k f fd ps (toSp sp)) (gd : X.A.guards = some []) (hr : Room k X.A) (hb : Binds X.K fd ps []) (N : HO.NeC X.K C f) : OpR X (compareOp .Eq) (rRgt X.K C sp false) := by
  intro pins s σ H x y v u Q I rx ry h
  obtain ⟨a, dx, fs, T, rfl, ha, ty, nf, hs, hsp⟩ := h
  cases ry
  obtain ⟨mA, O, _⟩ := ins_get I.hok ha
  obtain ⟨od, J, _⟩ := O.look
  show wpAny (model X.prog X.w) X.A (richCompare .Eq v _) (EP X pins σ Q) X.xe s
  refine HO.rc_right (op := .Eq) (by have := u64 hr; omega) I.kIn (tyIs I rx ty) J hs (dec_ty (.inl rfl) I rx ty nf O.obj J hs) (HO.try_eq I.kIn J N ?_)
  refine thn (run_g (us := [Value.ref a, v]) (vs := [V.ref a, x]) F gd hr hb pass0 I (.cons rfl (.cons rx .nil)) hsp) fun w s' hq => ?_
  obtain ⟨z, H', I', rz, p, rfl, q⟩ := hq
  cases rz
  exact ⟨p, rfl, _, rfl, .bl p, H', I', rfl, q⟩
theorem op_neR (F : FnG (gxOf X) CX0 k f fd ps (toSp sp)) (gd : X.A.guards = some []) (hr : Room (k + 1) X.A) (hb : Binds X.K fd ps []) (N : HO.NeC X.K C f) : OpR X (compareOp .NotEq) (rRgt X.K C sp true) := by
  intro pins s σ H x y v u Q I rx ry h
  obtain ⟨a, dx, fs, T, rfl, ha, ty, nf, hs, hsp⟩ := h
  cases ry
  obtain ⟨mA, O, _⟩ := ins_get I.hok ha
  obtain ⟨od, J, _⟩ := O.look
  show wpAny (model X.prog X.w) X.A (richCompare .NotEq v _) (EP X pins σ Q) X.xe s
  refine HO.rc_right (op := .NotEq) (by have := u64 hr; omega) I.kIn (tyIs I rx ty) J hs (dec_ty (.inr rfl) I rx ty nf O.obj J hs) (HO.try_ne (by have := u64 hr; omega) I.kIn J N ?_)
  refine thn (run_gi (us := [Value.ref a, v]) (vs := [V.ref a, x]) F gd hr.in1 hb pass0 I (.cons rfl (.cons rx .nil)) hsp) fun w s' hq => ?_
  obtain ⟨z, H', I', rz, p, rfl, q⟩ := hq
  cases rz
  exact ⟨p, rfl, _, rfl, .bl (!p), H', I', rfl, q⟩
end
/-- a value whose type is seen -/
inductive OTy (G : Gx) : D → Value → Prop where
  | nat {d : D} {T : String} (h : tyN d = some T) : OTy G d (.type T)
  | own {C : Addr} {gs : List (Str × D)} (I : IsK G C) : OTy G (.obj C gs) (.ref C)
theorem OTy.at {G : Gx} {d : D} {t : Value} {B H : Hp} {M : AHp} {v : V} (o : OTy G d t) (r : Rep B v d) (c : Cf B M H) : TyOf G.K H v t := by
  cases o with
  | nat h => exact r.tyOf c.ex h
  | own I => cases r with
    | obj h1 h2 h3 => exact .ins (c.ex _ _ h1) I.cl I.ha I.hn I.htk I.hm
theorem tyN_float {d : D} {T : String} (h : tyN d = some T) : T ≠ "float" := fun e => by
  subst e
  cases d <;> first | (cases h; done) | (revert h; simp [tyN])
section
variable {X : Cx} {G : Gx} {N : List Str} {sc : Scope} {k : Nat} {C : Addr} {fs : List (Str × D)} {j : Bool} {d : D} {t : Value} {T : String}
/-- an own class with an == of its own and no != -/
structure EqC (G : Gx) (k : Nat) (C : Addr) (S : List D → (D → Prop) → Prop) : Prop where
  ex : ∃ (f : Addr) (fd : FuncData) (ps : List Str), FnG G CX0 k f fd ps (toSp (spV S)) ∧ Binds G.K fd ps [] ∧ HO.NeC G.K C f
  up : Up (spV S)
theorem cv_eqL (g : XF X G N sc) {S : List D → (D → Prop) → Prop} (F : EqC G k C S) (hr : Room k X.A) (o : OTy G d t) (hn : PySem.W.notFirst G.K C t = true) (q : ∀ Q : D → Prop, Q (.bl j) → S [.obj C fs, d] Q) : CmpV X .Eq (.v (.obj C fs)) (.v d) j := by
  have gd := g.gd
  obtain ⟨rfl, _⟩ := g
  obtain ⟨f, fd, ps, F1, hb1, N1⟩ := F.ex
  exact ⟨_, op_eqL F1 gd hr hb1 N1, fun M da db ka kb x y B H Q2 ra rb c kk => by
    have ka : da = .obj C fs := ka
    have kb : db = d := kb
    subst ka; subst kb
    have ty := o.at rb c
    cases ra with
    | obj h1 h2 h3 =>
        refine ⟨_, _, _, _, rfl, c.ex _ _ h1, ty, hn, toSp_of (.cons (.obj h1 h2 h3) (.cons rb .nil)) c (Q := fun d' M' => d' = .bl j ∧ M' = M) (q _ ⟨rfl, rfl⟩) F.up fun v d' M' B' H' s r c' e => ?_⟩
        obtain ⟨rfl, rfl⟩ := e
        cases r
        exact ⟨_, rfl, kk _ _ _ s (.bl j) c'⟩⟩
theorem cv_neL (g : XF X G N sc) {S : List D → (D → Prop) → Prop} (F : EqC G k C S) (hr : Room (k + 1) X.A) (o : OTy G d t) (hn : PySem.W.notFirst G.K C t = true) (q : ∀ Q : D → Prop, Q (.bl j) → S [.obj C fs, d] Q) : CmpV X .NotEq (.v (.obj C fs)) (.v d) (!j) := by
  have gd := g.gd
  obtain ⟨rfl, _⟩ := g
  obtain ⟨f, fd, ps, F1, hb1, N1⟩ := F.ex
  exact ⟨_, op_neL F1 gd hr hb1 N1, fun M da db ka kb x y B H Q2 ra rb c kk => by
    have ka : da = .obj C fs := ka
    have kb : db = d := kb
    subst ka; subst kb
    have ty := o.at rb c
    cases ra with
    | obj h1 h2 h3 =>
        refine ⟨_, _, _, _, rfl, c.ex _ _ h1, ty, hn, toSp_of (.cons (.obj h1 h2 h3) (.cons rb .nil)) c (Q := fun d' M' => d' = .bl j ∧ M' = M) (q _ ⟨rfl, rfl⟩) F.up fun v d' M' B' H' s r c' e => ?_⟩
        obtain ⟨rfl, rfl⟩ := e
        cases r
        exact ⟨_, rfl, kk _ _ _ s (.bl _) c'⟩⟩
theorem cv_eqR (g : XF X G N sc) {S : List D → (D → Prop) → Prop} (F : EqC G k C S) (hr : Room k X.A) (h : tyN d = some T) (hs : PySem.W.subIn G.K (.ref C) (.type T) = some false) (q : ∀ Q : D → Prop, Q (.bl j) → S [.obj C fs, d] Q) : CmpV X .Eq (.v d) (.v (.obj C fs)) j := by
  have gd := g.gd
  obtain ⟨rfl, _⟩ := g
  obtain ⟨f, fd, ps, F1, hb1, N1⟩ := F.ex
  exact ⟨_, op_eqR F1 gd hr hb1 N1, fun M da db ka kb x y B H Q2 ra rb c kk => by
    have ka : da = d := ka
    have kb : db = .obj C fs := kb
    subst ka; subst kb
    have ty := ra.tyOf (K := X.K) c.ex h
    cases rb with
    | obj h1 h2 h3 =>
        refine ⟨_, _, _, _, rfl, c.ex _ _ h1, ty, tyN_float h, hs, toSp_of (.cons (.obj h1 h2 h3) (.cons ra .nil)) c (Q := fun d' M' => d' = .bl j ∧ M' = M) (q _ ⟨rfl, rfl⟩) F.up fun v d' M' B' H' s r c' e => ?_⟩
        obtain ⟨rfl, rfl⟩ := e
        cases r
        exact ⟨_, rfl, kk _ _ _ s (.bl j) c'⟩⟩
theorem cv_neR (g : XF X G N sc) {S : List D → (D → Prop) → Prop} (F : EqC G k C S) (hr : Room (k + 1) X.A) (h : tyN d = some T) (hs : PySem.W.subIn G.K (.ref C) (.type T) = some false) (q : ∀ Q : D → Prop, Q (.bl j) → S [.obj C fs, d] Q) : CmpV X .NotEq (.v d) (.v (.obj C fs)) (!j) := by
  have gd := g.gd
  obtain ⟨rfl, _⟩ := g
  obtain ⟨f, fd, ps, F1, hb1, N1⟩ := F.ex
  exact ⟨_, op_neR F1 gd hr hb1 N1, fun M da db ka kb x y B H Q2 ra rb c kk => by
    have ka : da = d := ka
    have kb : db = .obj C fs := kb
    subst ka; subst kb
    have ty := ra.tyOf (K := X.K) c.ex h
    cases rb with
    | obj h1 h2 h3 =>
        refine ⟨_, _, _, _, rfl, c.ex _ _ h1, ty, tyN_float h, hs, toSp_of (.cons (.obj h1 h2 h3) (.cons ra .nil)) c (Q := fun d' M' => d' = .bl j ∧ M' = M) (q _ ⟨rfl, rfl⟩) F.up fun v d' M' B' H' s r c' e => ?_⟩
        obtain ⟨rfl, rfl⟩ := e
        cases r
        exact ⟨_, rfl, kk _ _ _ s (.bl _) c'⟩⟩
theorem not_sub {K : PySem.W.Frag} {T : String} (h : T ∈ ["NoneType", "bool", "int", "str", "list", "tuple", "dict"]) : PySem.W.notFirst K C (.type T) = true := by
  have e : PySem.W.subIn K (.type T) (.ref C) = some false := by
    simp only [List.mem_cons, List.not_mem_nil, or_false] at h
    have z0 : fastBuiltinMro "NoneType" = some [.type "NoneType", .type "object"] := by decide +kernel
    have z1 : fastBuiltinMro "bool" = some [.type "bool", .type "int", .type "object"] := by decide +kernel
    have z2 : fastBuiltinMro "int" = some [.type "int", .type "object"] := by decide +kernel
    have z3 : fastBuiltinMro "str" = some [.type "str", .type "object"] := by decide +kernel
    have z4 : fastBuiltinMro "list" = some [.type "list", .type "object"] := by decide +kernel
    have z5 : fastBuiltinMro "tuple" = some [.type "tuple", .type "object"] := by decide +kernel
    have z6 : fastBuiltinMro "dict" = some [.type "dict", .type "object"] := by decide +kernel
    show (fastBuiltinMro T).map (·.contains (.ref C)) = some false
    rcases h with rfl | rfl | rfl | rfl | rfl | rfl | rfl
    · rw [z0]; rfl
    · rw [z1]; rfl
    · rw [z2]; rfl
    · rw [z3]; rfl
    · rw [z4]; rfl
    · rw [z5]; rfl
    · rw [z6]; rfl
  unfold PySem.W.notFirst
  rw [e]
  simp
theorem tyN_in (h : tyN d = some T) : T ∈ ["NoneType", "bool", "int", "str", "list", "tuple", "dict"] := by
  cases d <;> first | (cases h; done) | (cases h; simp)
theorem not_subN {K : PySem.W.Frag} (h : tyN d = some T) : PySem.W.notFirst K C (.type T) = true := not_sub (tyN_in h)
/-- isinstance(d, own class) -/
theorem cl_isD {C' : Addr} (o : OTy (gxOf X) d t) (hk : PySem.W.kitOne X.K t (.ref C') = some j) : CalV X (rIsi X.K) [.v d, .v (.adr C')] (.bl j) := .two fun M xs B H Q2 rx c kk => by
  cases rx with
  | cons r1 rx => cases rx with
    | cons r2 rx =>
      cases rx
      cases r2
      exact ⟨_, _, _, _, j, rfl, .own C', .base (o.at (G := gxOf X) r1 c), hk, kk _ B H (Same.refl _) (.bl j) c⟩
theorem ov_isD {e : Expr} {ε : OE} {x : Str} {C' : Addr} {pos p p2 : Pos} (g : XF X G N sc) (hm : G.mg "isinstance" = none) (o : OTy G d t) (hC : G.mg x = some (.ref C')) (h : oV X e ε d) (hk : PySem.W.kitOne G.K t (.ref C') = some j) (hg2 : sc.names.lookup x = some .globalImplicit := by rfl) (hd : (x == ("__debug__" : Str)) = false := by decide) (hcd : (x == ("__classdict__" : Str)) = false := by decide) (hg : sc.names.lookup ("isinstance" : Str) = some .globalImplicit := by rfl) (hs1 : starEach (e :: [.Name x p2]) X.env = (false, eval e X.env) :: starEach [.Name x p2] X.env := by rfl) (hs2 : starEach (.Name x p2 :: []) X.env = (false, eval (.Name x p2) X.env) :: starEach [] X.env := by rfl) (hpl : (backTo pos (starEach [.Name x p2] X.env)).any (·.1) = false := by rfl) : oV X (.Call (.Name "isinstance" p) [e, .Name x p2] [] pos) ε (.bl j) := by
  have g0 := g
  obtain ⟨rfl, _⟩ := g
  exact ov_callB g0 call_isi hm (oxs_cons (oX.of h) (oxs_cons (oX.of (ov_gl g0 hC hg2 hd hcd)) oxs_nil hs2) hs1) (cl_isD o hk) (hg := hg) (he := hs1) (hpl := hpl)
end
/-- an own class and the built-in types -/
structure OthK (G : Gx) (C : Addr) : Prop where
  ic : PySem.W.isClsIn G.K C = true
  tc : PySem.W.typeIn G.K (.ref C) = some (.type "type")
  s0 : PySem.W.subIn G.K (.ref C) (.type "NoneType") = some false
  s1 : PySem.W.subIn G.K (.ref C) (.type "bool") = some false
  s2 : PySem.W.subIn G.K (.ref C) (.type "int") = some false
  s3 : PySem.W.subIn G.K (.ref C) (.type "str") = some false
  s4 : PySem.W.subIn G.K (.ref C) (.type "list") = some false
  s5 : PySem.W.subIn G.K (.ref C) (.type "tuple") = some false
  s6 : PySem.W.subIn G.K (.ref C) (.type "dict") = some false
theorem sub_oth {K : PySem.W.Frag} {C : Addr} {T : String} (h : T ∈ ["NoneType", "bool", "int", "str", "list", "tuple", "dict"]) : PySem.W.subIn K (.type T) (.ref C) = some false := by
  have z := not_sub (K := K) (C := C) h
  unfold PySem.W.notFirst at z
  rcases Bool.or_eq_true_iff.mp z with e | e
  · exact absurd (beq_iff_eq.mp e) (fun q => nomatch q)
  · exact beq_iff_eq.mp e
theorem OthK.kit {G : Gx} {C : Addr} (o : OthK G C) {T : String} (h : T ∈ ["NoneType", "bool", "int", "str", "list", "tuple", "dict"]) : PySem.W.kitOne G.K (.type T) (.ref C) = some false := by
  have hi : (PySem.W.clsIn G.K C).isSome = true := o.ic
  unfold PySem.W.kitOne
  rw [if_neg (by simp)]
  show (if ((PySem.W.clsIn G.K C).isSome && PySem.W.typeIn G.K (.ref C) == some (.type "type")) = true then PySem.W.subIn G.K (.type T) (.ref C) else none) = some false
  rw [hi, o.tc, if_pos (by simp)]
  exact sub_oth h
theorem OthK.sub {G : Gx} {C : Addr} (o : OthK G C) {T : String} (h : T ∈ ["NoneType", "bool", "int", "str", "list", "tuple", "dict"]) : PySem.W.subIn G.K (.ref C) (.type T) = some false := by
  simp only [List.mem_cons, List.not_mem_nil, or_false] at h
  rcases h with rfl | rfl | rfl | rfl | rfl | rfl | rfl
  · exact o.s0
  · exact o.s1
  · exact o.s2
  · exact o.s3
  · exact o.s4
  · exact o.s5
  · exact o.s6
/-- what an own == of class C tells: of its own kind by f, of all else False -/
def EqOwn {α : Type} [DecidableEq α] (G : Gx) (C : Addr) (f : α → D) (x : α) (d : D) (j : Bool) : Prop := (∃ y, d = f y ∧ j = decide (x = y)) ∨ (∃ t, OTy G d t ∧ PySem.W.kitOne G.K t (.ref C) = some false ∧ j = false)
theorem eqOwn_nat {α : Type} [DecidableEq α] {G : Gx} {C : Addr} {f : α → D} {x : α} {d : D} {T : String} (o : OthK G C) (h : tyN d = some T) : EqOwn G C f x d false := .inr ⟨_, .nat h, o.kit (tyN_in h), rfl⟩
theorem eqOwn_own {α : Type} [DecidableEq α] {G : Gx} {C : Addr} {f : α → D} {x y : α} : EqOwn G C f x (f y) (decide (x = y)) := .inl ⟨y, rfl, rfl⟩
end Ab
/-! zip of three lists: its object stands at n + 5, its iterators at n, n + 1, n + 2, their tuple at n + 3, the tuple of results at n + 4. -/
namespace Z3
open PySem PySem.Spec PyProof.Rows
open Sem (wp)
theorem type_call3 (a b c : Value) : checkTypeCall "zip" ⟨[a, b, c], []⟩ = pure () := by kernel_rfl
theorem new_call3 (a b c : Value) : checkBuiltinCall "zip.__new__" ⟨[.type "zip", a, b, c], []⟩ = pure () := by kernel_rfl
theorem init_args4 (a b c d : Value) : argsOk "object.__init__" ⟨[a, b, c, d], []⟩ := by
  unfold argsOk
  rw [signature?_of (id := "object.__init__") (n := ['_', '_', 't', 'i', 'n', 'i', '_', '_']) (o := ['t', 'c', 'e', 'j', 'b', 'o']) (by kernel_rfl) F.owner_object]
  kernel_rfl
abbrev Tri (h : Heap) (T : Addr) (a b c : Value) : Prop := h.get? T = some { cls := .type "tuple", data := .seq #[a, b, c] }
abbrev ZObj (h : Heap) (n : Nat) (f0 : Value) : Prop := IsZip h (n + 5) (n + 3) (n + 4) f0
/-- the state ahead of turn k -/
structure Now (h : Heap) (n l1 l2 l3 : Nat) (k : Nat) : Prop where
  z : ZObj h n .none
  ti : Tri h (n + 3) (.ref n) (.ref (n + 1)) (.ref (n + 2))
  to : ∃ a b c, Tri h (n + 4) a b c
  i1 : h.IsListIter n l1 k
  i2 : h.IsListIter (n + 1) l2 k
  i3 : h.IsListIter (n + 2) l3 k
section
variable {prog : Program} {w : World} {A : Around} {E : Value → Shared → Prop} {s : Shared} {n l1 l2 l3 : Nat} {k : Nat} {xs ys zs : Array Value} {x y z : Value}
theorem upd_tri {T : Addr} {a b c v : Value} {j : Nat} {Q : Unit → Shared → Prop} (hT : Tri s.heap T a b c)
    (h : ∀ h', h'.get? T = some { cls := .type "tuple", data := .seq ((#[a, b, c] : Array Value).setIfInBounds j v) } → Heap.SameBut T s.heap h' → Q () { s with heap := h' }) :
    wpAny (model prog w) A (updateSeq T (·.setIfInBounds j v)) Q E s := by
  refine wpAny_updateSeq hT rfl (h _ ?_ (Heap.SameBut.update ..))
  rw [Heap.get?_update_self _ hT rfl]
  simp [Obj.mapSeq]
/-- what a turn leaves alone -/
def Rest (n : Nat) (h h' : Heap) : Prop := ∀ c o, c ≠ n → c ≠ n + 1 → c ≠ n + 2 → c ≠ n + 4 → c ≠ n + 5 → h.get? c = some o → h'.get? c = some o
theorem body_item {Q : Value → Shared → Prop} (N : Now s.heap n l1 l2 l3 k) (a1 : l1 < n) (a2 : l2 < n) (a3 : l3 < n) (L1 : s.heap.IsList l1 xs) (L2 : s.heap.IsList l2 ys) (L3 : s.heap.IsList l3 zs) (hx : xs[k]? = some x) (hy : ys[k]? = some y) (hz : zs[k]? = some z)
    (hQ : ∀ h', ZObj h' n (rawInt s.heap.objs.size) → Tri h' (n + 4) x y z → h'.IsListIter n l1 (k + 1) → h'.IsListIter (n + 1) l2 (k + 1) → h'.IsListIter (n + 2) l3 (k + 1) → Tri h' s.heap.objs.size x y z → h'.objs.size = s.heap.objs.size + 1 → Rest n s.heap h' → Q (.ref s.heap.objs.size) { s with heap := h' }) :
    wpAny (model prog w) A (Builtin.«zip.__next__» ⟨[.ref (n + 5)], []⟩) (fun fin s' => ∃ v, fin = .done (.ret v) ∧ Q v s') E s := by
  obtain ⟨Z, TI, ⟨ta, tb, tc, TO⟩, I1, I2, I3⟩ := N
  show wpAny _ _ (field (.ref (n + 5)) 2 >>= _) _ _ _
  refine wpAny_bind (wpAny_field Z rfl (x := .bool false) rfl ?_)
  show wpAny _ _ (field (.ref (n + 5)) 3 >>= _) _ _ _
  refine wpAny_bind (wpAny_field Z rfl (x := .ref (n + 3)) rfl (wpAny_bind (wpAny_seqItems TI rfl ?_)))
  show wpAny _ _ (Builtin.SmallTypes.ownedTupleIsFree (.ref (n + 5)) >>= _) _ _ _
  refine wpAny_bind ?_
  unfold Builtin.SmallTypes.ownedTupleIsFree
  refine wpAny_bind (wpAny_field Z rfl (x := .none) rfl (wpAny_pure ?_))
  simp only [if_true]
  refine wpAny_bind (wpAny_rule (wpAny_bind (wpAny_field Z rfl (x := .ref (n + 4)) rfl (wpAny_bind (wpAny_setField_rec Z (by simp) fun h1 Z1 S1 => ?_)))))
  replace Z1 : ZObj h1 n .ellipsis := Z1
  have K1 := S1.extBut
  refine wpAny_bind ?_
  simp only [List.zipIdx_cons, List.zipIdx_nil, List.forIn_cons, List.forIn_nil]
  -- the first list
  refine wpAny_bind (wpAny_bind (wpAny_onRaise ?_))
  show wpAny _ _ (Builtin.SmallTypes.nextOf (.ref n) >>= _) _ _ _
  refine wpAny_bind (wpAny_nextOf_list_item (I1.extBut K1 (by show @Ne Nat _ _; omega)) (L1.extBut K1 (by show @Ne Nat _ _; omega)) hx fun h2 J1 S2 => wpAny_pure ?_)
  have K2 := S2.extBut
  have T2 : Tri h2 (n + 4) ta tb tc := K2 _ _ (by show @Ne Nat _ _; omega) (K1 _ _ (by show @Ne Nat _ _; omega) TO)
  refine wpAny_bind (wpAny_seqItems T2 rfl (wpAny_bind (upd_tri T2 fun h3 T3 S3 => ?_)))
  replace T3 : Tri h3 (n + 4) x tb tc := T3
  have K3 := S3.extBut
  refine wpAny_bind (wpAny_letGo (wpAny_pure ?_))
  -- the second list
  refine wpAny_bind (wpAny_bind (wpAny_onRaise ?_))
  show wpAny _ _ (Builtin.SmallTypes.nextOf (.ref (n + 1)) >>= _) _ _ _
  refine wpAny_bind (wpAny_nextOf_list_item (((I2.extBut K1 (by show @Ne Nat _ _; omega)).extBut K2 (by show @Ne Nat _ _; omega)).extBut K3 (by show @Ne Nat _ _; omega)) (((L2.extBut K1 (by show @Ne Nat _ _; omega)).extBut K2 (by show @Ne Nat _ _; omega)).extBut K3 (by show @Ne Nat _ _; omega)) hy fun h4 J2 S4 => wpAny_pure ?_)
  have K4 := S4.extBut
  have T4 : Tri h4 (n + 4) x tb tc := K4 _ _ (by show @Ne Nat _ _; omega) T3
  refine wpAny_bind (wpAny_seqItems T4 rfl (wpAny_bind (upd_tri T4 fun h5 T5 S5 => ?_)))
  replace T5 : Tri h5 (n + 4) x y tc := T5
  have K5 := S5.extBut
  refine wpAny_bind (wpAny_letGo (wpAny_pure ?_))
  -- the third list
  refine wpAny_bind (wpAny_bind (wpAny_onRaise ?_))
  show wpAny _ _ (Builtin.SmallTypes.nextOf (.ref (n + 2)) >>= _) _ _ _
  refine wpAny_bind (wpAny_nextOf_list_item (((((I3.extBut K1 (by show @Ne Nat _ _; omega)).extBut K2 (by show @Ne Nat _ _; omega)).extBut K3 (by show @Ne Nat _ _; omega)).extBut K4 (by show @Ne Nat _ _; omega)).extBut K5 (by show @Ne Nat _ _; omega)) (((((L3.extBut K1 (by show @Ne Nat _ _; omega)).extBut K2 (by show @Ne Nat _ _; omega)).extBut K3 (by show @Ne Nat _ _; omega)).extBut K4 (by show @Ne Nat _ _; omega)).extBut K5 (by show @Ne Nat _ _; omega)) hz fun h6 J3 S6 => wpAny_pure ?_)
  have K6 := S6.extBut
  have T6 : Tri h6 (n + 4) x y tc := K6 _ _ (by show @Ne Nat _ _; omega) T5
  refine wpAny_bind (wpAny_seqItems T6 rfl (wpAny_bind (upd_tri T6 fun h7 T7 S7 => ?_)))
  replace T7 : Tri h7 (n + 4) x y z := T7
  have K7 := S7.extBut
  refine wpAny_bind (wpAny_letGo (wpAny_pure (wpAny_pure ?_)))
  refine wpAny_bind (wpAny_seqItems T7 rfl (wpAny_bind (wpAny_newTuple ?_)))
  have sz : h7.objs.size = s.heap.objs.size := by rw [S7.1, S6.1, S5.1, S4.1, S3.1, S2.1, S1.1]
  have Z7 : ZObj h7 n .ellipsis := K7 _ _ (by show @Ne Nat _ _; omega) (K6 _ _ (by show @Ne Nat _ _; omega) (K5 _ _ (by show @Ne Nat _ _; omega) (K4 _ _ (by show @Ne Nat _ _; omega) (K3 _ _ (by show @Ne Nat _ _; omega) (K2 _ _ (by show @Ne Nat _ _; omega) Z1)))))
  have R7 : Rest n s.heap h7 := fun c o c1 c2 c3 c4 c5 e => K7 _ _ c4 (K6 _ _ c3 (K5 _ _ c4 (K4 _ _ c2 (K3 _ _ c4 (K2 _ _ c1 (K1 _ _ c5 e))))))
  have J1' : h7.IsListIter n l1 (k + 1) := ((((J1.extBut K3 (by show @Ne Nat _ _; omega)).extBut K4 (by show @Ne Nat _ _; omega)).extBut K5 (by show @Ne Nat _ _; omega)).extBut K6 (by show @Ne Nat _ _; omega)).extBut K7 (by show @Ne Nat _ _; omega)
  have J2' : h7.IsListIter (n + 1) l2 (k + 1) := ((J2.extBut K5 (by show @Ne Nat _ _; omega)).extBut K6 (by show @Ne Nat _ _; omega)).extBut K7 (by show @Ne Nat _ _; omega)
  have J3' : h7.IsListIter (n + 2) l3 (k + 1) := J3.extBut K7 (by show @Ne Nat _ _; omega)
  have lz : n + 5 < h7.objs.size := Heap.lt_size Z7
  show wpAny _ _ (Builtin.SmallTypes.ownedTupleHandOut (.ref (n + 5)) (.ref h7.objs.size) >>= _) _ _ _
  refine wpAny_bind ?_
  unfold Builtin.SmallTypes.ownedTupleHandOut
  have Z8 : ZObj (h7.push { cls := .type "tuple", data := .seq #[x, y, z] }) n .ellipsis := Heap.get?_push_of_some _ Z7
  refine wpAny_bind (wpAny_setField_rec Z8 (by simp) fun h9 Z9 S9 => ?_)
  replace Z9 : ZObj h9 n (rawInt h7.objs.size) := Z9
  refine wpAny_setField_rec Z9 (by simp) fun h0 Z0 S0 => ?_
  replace Z0 : ZObj h0 n (rawInt h7.objs.size) := Z0
  have up : ∀ c o, c ≠ n + 5 → h7.get? c = some o → h0.get? c = some o := fun c o c1 e => S0.extBut _ _ c1 (S9.extBut _ _ c1 (Heap.get?_push_of_some _ e))
  have new : Tri h0 h7.objs.size x y z := S0.extBut _ _ (Nat.ne_of_gt lz) (S9.extBut _ _ (Nat.ne_of_gt lz) (Heap.get?_push_size _ rfl))
  have sz0 : h0.objs.size = h7.objs.size + 1 := by rw [S0.1, S9.1, Heap.size_push]
  rw [sz] at Z0 new sz0
  refine wpAny_pure ⟨_, rfl, ?_⟩
  show Q (.ref h7.objs.size) _
  rw [sz]
  exact hQ h0 Z0 (up _ _ (by show @Ne Nat _ _; omega) T7) (J1'.at fun o e => up _ o (by show @Ne Nat _ _; omega) e) (J2'.at fun o e => up _ o (by show @Ne Nat _ _; omega) e) (J3'.at fun o e => up _ o (by show @Ne Nat _ _; omega) e) new sz0 fun c o c1 c2 c3 c4 c5 e => up c o c5 (R7 c o c1 c2 c3 c4 c5 e)
theorem next_item {Q : Option Value → Shared → Prop} (N : Now s.heap n l1 l2 l3 k) (a1 : l1 < n) (a2 : l2 < n) (a3 : l3 < n) (L1 : s.heap.IsList l1 xs) (L2 : s.heap.IsList l2 ys) (L3 : s.heap.IsList l3 zs) (hx : xs[k]? = some x) (hy : ys[k]? = some y) (hz : zs[k]? = some z)
    (hQ : ∀ h', ZObj h' n (rawInt s.heap.objs.size) → Tri h' (n + 4) x y z → h'.IsListIter n l1 (k + 1) → h'.IsListIter (n + 1) l2 (k + 1) → h'.IsListIter (n + 2) l3 (k + 1) → Tri h' s.heap.objs.size x y z → h'.objs.size = s.heap.objs.size + 1 → Rest n s.heap h' → Q (some (.ref s.heap.objs.size)) { s with heap := h' }) :
    wpAny (model prog w) A (pyNext (.ref (n + 5))) Q E s := by
  have ht : s.TypeIs (.ref (n + 5)) "zip" := ⟨_, N.z, rfl⟩
  unfold pyNext
  exact wpAny_bind (wpAny_attempt (wpAny_callSpecial?_slot (name := Str.ofString "__next__") ht F.slot_zip_next (wpAny_call_entry F.slot_zip_next ht F.entry_zip_next
    (body_item N a1 a2 a3 L1 L2 L3 hx hy hz fun h' b1 b2 b3 b4 b5 b6 b7 b8 => wpAny_pure (hQ h' b1 b2 b3 b4 b5 b6 b7 b8)) (F.args_zip_next_1 _))))
theorem body_end {Q : Fin → Shared → Prop} (hh : A.handled = none) (N : Now s.heap n l1 l2 l3 k) (a1 : l1 < n) (L1 : s.heap.IsList l1 xs) (hx : xs[k]? = none)
    (hE : ∀ h' e, Rest n s.heap h' → (∃ o, h'.get? e = some o ∧ o.cls = .type "StopIteration") → E (.ref e) { s with heap := h' }) :
    wpAny (model prog w) A (Builtin.«zip.__next__» ⟨[.ref (n + 5)], []⟩) Q E s := by
  obtain ⟨Z, TI, ⟨ta, tb, tc, TO⟩, I1, I2, I3⟩ := N
  show wpAny _ _ (field (.ref (n + 5)) 2 >>= _) _ _ _
  refine wpAny_bind (wpAny_field Z rfl (x := .bool false) rfl ?_)
  show wpAny _ _ (field (.ref (n + 5)) 3 >>= _) _ _ _
  refine wpAny_bind (wpAny_field Z rfl (x := .ref (n + 3)) rfl (wpAny_bind (wpAny_seqItems TI rfl ?_)))
  show wpAny _ _ (Builtin.SmallTypes.ownedTupleIsFree (.ref (n + 5)) >>= _) _ _ _
  refine wpAny_bind ?_
  unfold Builtin.SmallTypes.ownedTupleIsFree
  refine wpAny_bind (wpAny_field Z rfl (x := .none) rfl (wpAny_pure ?_))
  simp only [if_true]
  refine wpAny_bind (wpAny_rule (wpAny_bind (wpAny_field Z rfl (x := .ref (n + 4)) rfl (wpAny_bind (wpAny_setField_rec Z (by simp) fun h1 Z1 S1 => ?_)))))
  replace Z1 : ZObj h1 n .ellipsis := Z1
  have K1 := S1.extBut
  refine wpAny_bind ?_
  simp only [List.zipIdx_cons, List.zipIdx_nil, List.forIn_cons, List.forIn_nil]
  refine wpAny_bind (wpAny_bind (wpAny_onRaise ?_))
  show wpAny _ _ (Builtin.SmallTypes.nextOf (.ref n) >>= _) _ _ _
  refine wpAny_bind (wpAny_nextOf_list_end hh (I1.extBut K1 (by show @Ne Nat _ _; omega)) (L1.extBut K1 (by show @Ne Nat _ _; omega)) hx fun h2 e S2 he => ?_)
  obtain ⟨oe, hoe, hce⟩ := he
  have Z2 : ZObj h2 n .ellipsis := S2 _ _ (by show @Ne Nat _ _; omega) Z1
  have ne : e ≠ n + 5 := fun q => by subst q; rw [Z2] at hoe; cases hoe; simp at hce
  refine wpAny_setField_rec Z2 (by simp) fun h3 _ S3 => hE h3 e (fun c o c1 _ _ _ c5 q => S3.extBut _ _ c5 (S2 _ _ c1 (K1 _ _ c5 q))) ⟨oe, S3.extBut _ _ ne hoe, hce⟩
theorem next_end {Q : Option Value → Shared → Prop} (hh : A.handled = none) (N : Now s.heap n l1 l2 l3 k) (a1 : l1 < n) (L1 : s.heap.IsList l1 xs) (hx : xs[k]? = none)
    (hQ : ∀ h', Rest n s.heap h' → Q none { s with heap := h' }) : wpAny (model prog w) A (pyNext (.ref (n + 5))) Q E s := by
  have ht : s.TypeIs (.ref (n + 5)) "zip" := ⟨_, N.z, rfl⟩
  unfold pyNext
  refine wpAny_bind (wpAny_attempt (wpAny_callSpecial?_slot (name := Str.ofString "__next__") ht F.slot_zip_next (wpAny_call_entry F.slot_zip_next ht F.entry_zip_next
    (body_end hh N a1 L1 hx fun h' e hr he => ?_) (F.args_zip_next_1 _))))
  obtain ⟨o, ho, hc⟩ := he
  refine wpAny_bind (wpAny_isInstance (T := "StopIteration") (b := true) ⟨o, ho, hc⟩ isSubtype_stop ?_)
  exact wpAny_pure (hQ _ hr)
end
def pu1 (h : Heap) (l1 : Addr) : Heap := h.push { cls := .type "list_iterator", data := .fields #[.ref l1, .int 0 0] }
def pu3 (h : Heap) (l1 l2 l3 : Addr) : Heap := pu1 (pu1 (pu1 h l1) l2) l3
def pu4 (h : Heap) (l1 l2 l3 : Addr) : Heap := (pu3 h l1 l2 l3).push { cls := .type "tuple", data := .seq #[.ref h.objs.size, .ref (pu1 h l1).objs.size, .ref (pu1 (pu1 h l1) l2).objs.size] }
def pu5 (h : Heap) (l1 l2 l3 : Addr) : Heap := (pu4 h l1 l2 l3).push { cls := .type "tuple", data := .seq #[.none, .none, .none] }
def pu6 (h : Heap) (l1 l2 l3 : Addr) : Heap := (pu5 h l1 l2 l3).push { cls := .type "zip", data := .fields #[.none, .bool false, .bool false, .ref (pu3 h l1 l2 l3).objs.size, .ref (pu4 h l1 l2 l3).objs.size] }
theorem meets_new (l1 l2 l3 : Addr) (xs ys zs : Array Value) :
    Meets (Builtin.«zip.__new__» ⟨[.type "zip", .ref l1, .ref l2, .ref l3], []⟩) (fun _ R s => s.heap.IsList l1 xs ∧ s.heap.IsList l2 ys ∧ s.heap.IsList l3 zs ∧
      R (.ok (.ret (.ref (pu5 s.heap l1 l2 l3).objs.size))) { s with heap := pu6 s.heap l1 l2 l3 }) :=
  .of_wp fun prog w A R s h => by
    obtain ⟨hp, g, d, tk, os⟩ := s
    obtain ⟨L1, L2, L3, h⟩ := h
    have sub := sub_zip
    have M1 : Heap.IsList (Shared.heap ⟨hp, g, d, tk, os⟩) l1 xs := L1
    have M2 : Heap.IsList (Shared.heap ⟨hp.push { cls := .type "list_iterator", data := .fields #[.ref l1, .int 0 0] }, g, d, tk, os⟩) l2 ys := Heap.IsList.push L2 _
    have M3 : Heap.IsList (Shared.heap ⟨(hp.push { cls := .type "list_iterator", data := .fields #[.ref l1, .int 0 0] }).push { cls := .type "list_iterator", data := .fields #[.ref l2, .int 0 0] }, g, d, tk, os⟩) l3 zs := Heap.IsList.push (Heap.IsList.push L3 _) _
    wp_walk using wpAny_pyIter_list M1, wpAny_pyIter_list M2, wpAny_pyIter_list M3
    exact ⟨_, rfl, h⟩
section
variable {prog : Program} {w : World} {A : Around} {E : Value → Shared → Prop} {s : Shared} {l1 l2 l3 : Addr} {xs ys zs : Array Value}
theorem call_zip {Q : Value → Shared → Prop} (L1 : s.heap.IsList l1 xs) (L2 : s.heap.IsList l2 ys) (L3 : s.heap.IsList l3 zs)
    (h : ∀ h', Now h' s.heap.objs.size l1 l2 l3 0 → h'.objs.size = s.heap.objs.size + 6 → (∀ c o, s.heap.get? c = some o → h'.get? c = some o) → Q (.ref (s.heap.objs.size + 5)) { s with heap := h' }) :
    wpAny (model prog w) A (call (.type "zip") [.ref l1, .ref l2, .ref l3]) Q E s := by
  refine callType_new F.called_zip (by decide) (type_call3 _ _ _) (new_call3 _ _ _) (fun obj => init_args4 obj _ _ _) F.entry_zip_new (meets_new l1 l2 l3 xs ys zs) ⟨L1, L2, L3, ?_⟩
  have z1 : (pu1 s.heap l1).objs.size = s.heap.objs.size + 1 := Heap.size_push ..
  have z2 : (pu1 (pu1 s.heap l1) l2).objs.size = s.heap.objs.size + 2 := by unfold pu1; rw [Heap.size_push, Heap.size_push]
  have z3 : (pu3 s.heap l1 l2 l3).objs.size = s.heap.objs.size + 3 := by unfold pu3 pu1; rw [Heap.size_push, Heap.size_push, Heap.size_push]
  have z4 : (pu4 s.heap l1 l2 l3).objs.size = s.heap.objs.size + 4 := by unfold pu4; rw [Heap.size_push, z3]
  have z5 : (pu5 s.heap l1 l2 l3).objs.size = s.heap.objs.size + 5 := by unfold pu5; rw [Heap.size_push, z4]
  have z6 : (pu6 s.heap l1 l2 l3).objs.size = s.heap.objs.size + 6 := by unfold pu6; rw [Heap.size_push, z5]
  have k1 : ∀ (g : Heap) (l : Addr) c o, g.get? c = some o → (pu1 g l).get? c = some o := fun g l c o e => Heap.get?_push_of_some _ e
  have k4 : ∀ c o, (pu3 s.heap l1 l2 l3).get? c = some o → (pu6 s.heap l1 l2 l3).get? c = some o := fun c o e => Heap.get?_push_of_some _ (Heap.get?_push_of_some _ (Heap.get?_push_of_some _ e))
  have g5 : (pu6 s.heap l1 l2 l3).get? (pu5 s.heap l1 l2 l3).objs.size = some _ := Heap.get?_push_size _ rfl
  have g4 : (pu6 s.heap l1 l2 l3).get? (pu4 s.heap l1 l2 l3).objs.size = some _ := Heap.get?_push_of_some _ (Heap.get?_push_size _ rfl)
  have g3 : (pu6 s.heap l1 l2 l3).get? (pu3 s.heap l1 l2 l3).objs.size = some _ := Heap.get?_push_of_some _ (Heap.get?_push_of_some _ (Heap.get?_push_size _ rfl))
  have g2 : (pu6 s.heap l1 l2 l3).get? (pu1 (pu1 s.heap l1) l2).objs.size = some _ := k4 _ _ (Heap.get?_push_size _ rfl)
  have g1 : (pu6 s.heap l1 l2 l3).get? (pu1 s.heap l1).objs.size = some _ := k4 _ _ (k1 _ _ _ _ (Heap.get?_push_size _ rfl))
  have g0 : (pu6 s.heap l1 l2 l3).get? s.heap.objs.size = some _ := k4 _ _ (k1 _ _ _ _ (k1 _ _ _ _ (Heap.get?_push_size _ rfl)))
  show _ ∧ _
  rw [z5, z3, z4] at g5
  rw [z4] at g4
  rw [z1, z2, z3] at g3
  rw [z2] at g2
  rw [z1] at g1
  rw [z5]
  exact ⟨⟨_, g5, rfl⟩, h _ ⟨g5, g3, ⟨_, _, _, g4⟩, ⟨_, g0, rfl, rfl⟩, ⟨_, g1, rfl, rfl⟩, ⟨_, g2, rfl, rfl⟩⟩ z6 fun c o e => k4 _ _ (k1 _ _ _ _ (k1 _ _ _ _ (k1 _ _ _ _ e)))⟩
end
end Z3
/-! for a, b, c in zip(xs, ys, zs) -/
namespace Ab
open PySem PySem.Spec PyProof.Rows L2 Z3
/-- three lists as they stand at each turn, their items in a new tuple -/
def Itz3 (K : PySem.W.Frag) (a b c : Addr) : It :=
  ⟨fun i H => ∃ (xs ys zs : List V) (x y z : V), SqL K H a xs ∧ SqL K H b ys ∧ SqL K H c zs ∧ xs[i]? = some x ∧ ys[i]? = some y ∧ zs[i]? = some z,
    fun i H v H' => ∃ T x y z, v = .ref T ∧ H T = none ∧ H' = upd H T (.tup [x, y, z]) ∧ (∀ xs, SqL K H a xs → xs[i]? = some x) ∧ (∀ ys, SqL K H b ys → ys[i]? = some y) ∧ ∀ zs, SqL K H c zs → zs[i]? = some z,
    fun i H => ∃ xs : List V, SqL K H a xs ∧ xs.length ≤ i⟩
theorem mem6 {n c : Nat} (h : c ∈ [n + 5, n + 3, n + 4, n, n + 1, n + 2]) : c = n + 5 ∨ c = n + 3 ∨ c = n + 4 ∨ c = n ∨ c = n + 1 ∨ c = n + 2 := by simpa using h
theorem now_lt {h : Heap} {n l1 l2 l3 : Nat} {k : Nat} (N : Now h n l1 l2 l3 k) : n + 5 < h.objs.size := Heap.lt_size N.z
theorem turn3 {P : Program} {w : World} {K : PySem.W.Frag} {elts : List Expr} {kk : Nat} {tpos : Pos} {a b c n : Nat} (ha : a < n) (hb : b < n) (hc : c < n) :
    Turn P w K (.Tuple elts kk tpos) (Itz3 K a b c) [n + 5, n + 3, n + 4, n, n + 1, n + 2] (n + 5) (fun i h => Now h n a b c i) where
  mem := by simp
  obj := fun i h N d hd => by
    obtain ⟨Z, TI, ⟨x, y, z, TO⟩, ⟨o1, e1, _, d1⟩, ⟨o2, e2, _, d2⟩, ⟨o3, e3, _, d3⟩⟩ := N
    rcases mem6 hd with q | q | q | q | q | q
    · rw [q]; exact ⟨_, Z, fun v q => nomatch q⟩
    · rw [q]; exact ⟨_, TI, fun v q => nomatch q⟩
    · rw [q]; exact ⟨_, TO, fun v q => nomatch q⟩
    · rw [q]; exact ⟨o1, e1, fun v q => by rw [d1] at q; cases q⟩
    · rw [q]; exact ⟨o2, e2, fun v q => by rw [d2] at q; cases q⟩
    · rw [q]; exact ⟨o3, e3, fun v q => by rw [d3] at q; cases q⟩
  keep := fun i h h' N kp => by
    obtain ⟨Z, TI, ⟨x, y, z, TO⟩, I1, I2, I3⟩ := N
    exact ⟨kp (n + 5) (by simp) _ Z, kp (n + 3) (by simp) _ TI, ⟨x, y, z, kp (n + 4) (by simp) _ TO⟩, I1.at fun o q => kp n (by simp) o q, I2.at fun o q => kp (n + 1) (by simp) o q, I3.at fun o q => kp (n + 2) (by simp) o q⟩
  item := by
    intro X hP hw hK hcalm i pins s σ H E I hf N hg
    subst hP hw hK
    obtain ⟨xs, ys, zs, x, y, z, q1, q2, q3, hx, hy, hz⟩ := hg
    obtain ⟨t1, r1, p1, _⟩ := I.list q1
    obtain ⟨t2, r2, p2, _⟩ := I.list q2
    obtain ⟨t3, r3, p3, _⟩ := I.list q3
    obtain ⟨u1, v1, w1⟩ := r1.get hx
    obtain ⟨u2, v2, w2⟩ := r2.get hy
    obtain ⟨u3, v3, w3⟩ := r3.get hz
    have lz := now_lt N
    have TI := N.ti
    refine next_item N ha hb hc p1.isList p2.isList p3.isList (x := u1) (y := u2) (z := u3) (by simpa using v1) (by simpa using v2) (by simpa using v3) fun h1 Z1 T1 J1 J2 J3 hT hsz R => ?_
    refine ⟨_, rfl, wpAny_letOwnedTupleGo_zip (s := { s with heap := h1 }) Z1 fun h2 Z2 sb => ?_⟩
    have K2 := sb.extBut
    have new : Tri h2 s.heap.objs.size u1 u2 u3 := K2 _ _ (Nat.ne_of_gt lz) hT
    have ok : ObjOk X.prog X.w (upd H s.heap.objs.size (.tup [x, y, z])) h2 s.heap.objs.size (.tup [x, y, z]) :=
      ⟨by show 3 ≤ sizeLine; decide, [u1, u2, u3], .cons w1 (.cons w2 (.cons w3 .nil)), ⟨_, new, rfl, _, rfl⟩⟩
    have I1 : Inv X pins σ (upd H s.heap.objs.size (.tup [x, y, z])) { s with heap := h2 } :=
      I.turnedNew (t' := s.toks) (ch := [n + 5, n + 3, n + 4, n, n + 1, n + 2]) (fun d o hd e => K2 _ _ (fun q => hd (by simp [q])) (R d o (fun q => hd (by simp [q])) (fun q => hd (by simp [q])) (fun q => hd (by simp [q])) (fun q => hd (by simp [q])) (fun q => hd (by simp [q])) e)) hf (Nat.le_refl _) ok
    refine ⟨.ref s.heap.objs.size, _, I1, rfl, ⟨_, x, y, z, rfl, I.hok.fresh (Nat.le_refl _), rfl, fun l hl => by rw [I.list_inj hl q1]; exact hx, fun l hl => by rw [I.list_inj hl q2]; exact hy, fun l hl => by rw [I.list_inj hl q3]; exact hz⟩, ⟨Z2, ?_, ⟨u1, u2, u3, ?_⟩, ?_, ?_, ?_⟩, fun d hd => ?_⟩
    · exact K2 _ _ (by show @Ne Nat _ _; omega) (R _ _ (by show @Ne Nat _ _; omega) (by show @Ne Nat _ _; omega) (by show @Ne Nat _ _; omega) (by show @Ne Nat _ _; omega) (by show @Ne Nat _ _; omega) TI)
    · exact K2 _ _ (by show @Ne Nat _ _; omega) T1
    · exact J1.at fun o q => K2 _ _ (by show @Ne Nat _ _; omega) q
    · exact J2.at fun o q => K2 _ _ (by show @Ne Nat _ _; omega) q
    · exact J3.at fun o q => K2 _ _ (by show @Ne Nat _ _; omega) q
    · have hlt : d < s.heap.objs.size := by
        rcases mem6 hd with q | q | q | q | q | q <;> rw [q] <;> (show @LT.lt Nat _ _ _; omega)
      rw [upd_ne (Nat.ne_of_lt hlt)]
      exact (hf d hd).1
  done := by
    intro X hP hw hK hcalm i pins s σ H E I hf N hg
    subst hP hw hK
    obtain ⟨xs, q1, hend⟩ := hg
    obtain ⟨t1, r1, p1, _⟩ := I.list q1
    have l1 := r1.length
    exact next_end (I.ok.hd hcalm) N ha p1.isList (by simp; omega) fun h1 R => ⟨rfl, I.turnedL (t' := s.toks) (ch := [n + 5, n + 3, n + 4, n, n + 1, n + 2]) (fun d o hd e =>
      R d o (fun q => hd (by simp [q])) (fun q => hd (by simp [q])) (fun q => hd (by simp [q])) (fun q => hd (by simp [q])) (fun q => hd (by simp [q])) e) hf⟩
  self := fun A i s Q E N q => wpAny_pyIter_zip N.z q
def iZip3 (K : PySem.W.Frag) (ta : TA) : TI := fun σ H R => ta σ H fun vs H1 => ∃ a b c xs ys zs, vs = [.ref a, .ref b, .ref c] ∧ SqL K H1 a xs ∧ SqL K H1 b ys ∧ SqL K H1 c zs ∧ R (Itz3 K a b c) H1
theorem pi_zip3 {X : Cx} {e1 e2 e3 : Expr} {ta : TA} {p pos tpos : Pos} {elts : List Expr} {kk : Nat} (hg : Gl X "zip") (hm : X.mg "zip" = none) (ha : PA X [e1, e2, e3] ta)
    (hs : starEach [e1, e2, e3] X.env = (false, eval e1 X.env) :: starEach [e2, e3] X.env := by rfl) (hpl : (backTo pos (starEach [e2, e3] X.env)).any (·.1) = false := by rfl) :
    PI X (.Tuple elts kk tpos) (.Call (.Name "zip" p) [e1, e2, e3] [] pos) (iZip3 X.K ta) := by
  refine ⟨fun pins s σ H R I h => Call_ (ld_blt I hg hm PyProof.Rows.boot_zip (PyProof.Rows.callWith_type1 (thn (ha.run pos pins s σ H _ I h) fun us s1 ⟨vs, H1, I1, r1, q1⟩ => ?_) hs hpl))⟩
  obtain ⟨a, b, c, xs, ys, zs, rfl, h1, h2, h3, q⟩ := q1
  cases r1 with
  | cons ra rr => cases rr with
    | cons rb rr => cases rr with
      | cons rc rr =>
        cases rr; cases ra; cases rb; cases rc
        obtain ⟨t1, _, p1, _⟩ := I1.list h1
        obtain ⟨t2, _, p2, _⟩ := I1.list h2
        obtain ⟨t3, _, p3, _⟩ := I1.list h3
        refine Z3.call_zip p1.isList p2.isList p3.isList fun g N hsz kp => wpAny_pyIter_zip N.z ?_
        have I2 : Inv X pins σ H1 { s1 with heap := g } := I1.kept (t' := s1.toks) kp
        refine ⟨s1.heap.objs.size + 5, [s1.heap.objs.size + 5, s1.heap.objs.size + 3, s1.heap.objs.size + 4, s1.heap.objs.size, s1.heap.objs.size + 1, s1.heap.objs.size + 2], _, _, H1, rfl, I2, turn3 p1.lt p2.lt p3.lt, N, fun d hd => ?_, q⟩
        have hle : s1.heap.objs.size ≤ d := by
          rcases mem6 hd with z | z | z | z | z | z <;> rw [z] <;> (show @LE.le Nat _ _ _; omega)
        exact I1.fpOk hle (I1.hok.fresh hle)
/-- the tuples of three lists, as far as all of them go -/
def zip3D : List D → List D → List D → List D
  | x :: xs, y :: ys, z :: zs => .tup [x, y, z] :: zip3D xs ys zs
  | _, _, _ => []
theorem zip3_get : ∀ {xs ys zs : List D} {i : Nat} {d : D}, (zip3D xs ys zs)[i]? = some d → ∃ x y z, xs[i]? = some x ∧ ys[i]? = some y ∧ zs[i]? = some z ∧ d = .tup [x, y, z]
  | [], _, _, i, d, h => by simp [zip3D] at h
  | _ :: _, [], _, i, d, h => by simp [zip3D] at h
  | _ :: _, _ :: _, [], i, d, h => by simp [zip3D] at h
  | x :: xs, y :: ys, z :: zs, 0, d, h => by
    simp [zip3D] at h
    exact ⟨x, y, z, rfl, rfl, rfl, h.symm⟩
  | x :: xs, y :: ys, z :: zs, i + 1, d, h => by
    simp [zip3D] at h
    obtain ⟨a, b, c, h1, h2, h3, h4⟩ := zip3_get h
    exact ⟨a, b, c, by simpa using h1, by simpa using h2, by simpa using h3, h4⟩
theorem zip3_len : ∀ {xs ys zs : List D}, xs.length = ys.length → ys.length = zs.length → (zip3D xs ys zs).length = xs.length
  | [], [], [], _, _ => rfl
  | x :: xs, y :: ys, z :: zs, h1, h2 => by
    show (zip3D xs ys zs).length + 1 = xs.length + 1
    rw [zip3_len (by simpa using h1) (by simpa using h2)]
section
variable {X : Cx} {e1 e2 e3 : Expr} {ε : OE} {n : Int} {G : Gx} {N : List Str} {sc : Scope} {pos p : Pos} {δ : DE} {M : AHp}
theorem ai_zip3 {elts : List Expr} {kk : Nat} {tpos : Pos} {P : (AHp → Prop) → List D → AHp → Prop} {xs ys zs : List D} (g : XF X G N sc) (hm : G.mg "zip" = none) (l1 : xs.length = ys.length) (l2 : ys.length = zs.length) (h : aA X [e1, e2, e3] δ M fun ds M' => ds = [.lst xs, .lst ys, .lst zs] ∧ P (fun _ => True) (zip3D xs ys zs) M') (hg : sc.names.lookup ("zip" : Str) = some .globalImplicit := by rfl)
    (hs : starEach [e1, e2, e3] X.env = (false, eval e1 X.env) :: starEach [e2, e3] X.env := by rfl) (hpl : (backTo pos (starEach [e2, e3] X.env)).any (·.1) = false := by rfl) : aI X (.Tuple elts kk tpos) (.Call (.Name "zip" p) [e1, e2, e3] [] pos) δ M P := fun σ H B rs c R k =>
  wI_of (pi_zip3 (g.gl hg) (by rw [g.mg]; exact hm) pa_w hs hpl) (aA.run h rs c fun vs ds' M' B' H' s r c' ⟨eq, q⟩ => by
    cases eq
    cases r with
    | cons r1 r => cases r with
      | cons r2 r => cases r with
        | cons r3 r =>
          cases r
          cases r1 with
          | @lst a us _ ha1 ha2 => cases r2 with
            | @lst b vs _ hb1 hb2 => cases r3 with
              | @lst c3 ws _ hc1 hc2 =>
                refine ⟨a, b, c3, us, vs, ws, rfl, .inl (.inl (c'.ex _ _ ha1)), .inl (.inl (c'.ex _ _ hb1)), .inl (.inl (c'.ex _ _ hc1)), k _ _ B' _ _ _ s c' ⟨fun i B2 M2 H2 d s2 c2 _ hd => ?_, fun i B2 M2 H2 s2 c2 _ hl => ⟨us, .inl (.inl (c2.ex _ _ (s2 _ _ ha1))), ?_⟩⟩ q⟩
                · obtain ⟨x, y, z, gx, gy, gz, rfl⟩ := zip3_get hd
                  obtain ⟨vx, kx, rx⟩ := ha2.get gx
                  obtain ⟨vy, ky, ry⟩ := hb2.get gy
                  obtain ⟨vz, kz, rz⟩ := hc2.get gz
                  have qx : SqL X.K H2 a us := .inl (.inl (c2.ex _ _ (s2 _ _ ha1)))
                  have qy : SqL X.K H2 b vs := .inl (.inl (c2.ex _ _ (s2 _ _ hb1)))
                  have qz : SqL X.K H2 c3 ws := .inl (.inl (c2.ex _ _ (s2 _ _ hc1)))
                  refine ⟨⟨us, vs, ws, vx, vy, vz, qx, qy, qz, kx, ky, kz⟩, fun w H3 ⟨T, x2, y2, z2, eT, hT, eH, f1, f2, f3⟩ => ?_⟩
                  have z1 := f1 us qx
                  have z2' := f2 vs qy
                  have z3 := f3 ws qz
                  rw [kx] at z1; rw [ky] at z2'; rw [kz] at z3
                  cases z1; cases z2'; cases z3
                  subst eT; subst eH
                  obtain ⟨s4, c4⟩ := c2.newI (.tup [vx, vy, vz]) hT
                  exact ⟨_, s4, c4, .tup upd_same (.cons ((rx.mono s2).mono s4) (.cons ((ry.mono s2).mono s4) (.cons ((rz.mono s2).mono s4) .nil)))⟩
                · rw [ha2.length]
                  rw [zip3_len l1 l2] at hl
                  exact hl)
theorem oit_zip3 {elts : List Expr} {kk : Nat} {tpos : Pos} {K : List D → Int → Prop} {xs ys zs : List D} (g : XF X G N sc) (hm : G.mg "zip" = none) (h1 : oV X e1 ε (.lst xs)) (h2 : oV X e2 ε (.lst ys)) (h3 : oV X e3 ε (.lst zs)) (l1 : xs.length = ys.length) (l2 : ys.length = zs.length) (q : K (zip3D xs ys zs) n) (hg : sc.names.lookup ("zip" : Str) = some .globalImplicit := by rfl)
    (hs : starEach [e1, e2, e3] X.env = (false, eval e1 X.env) :: starEach [e2, e3] X.env := by rfl) (hs2 : starEach [e2, e3] X.env = (false, eval e2 X.env) :: starEach [e3] X.env := by rfl) (hs3 : starEach [e3] X.env = (false, eval e3 X.env) :: starEach [] X.env := by rfl) (hpl : (backTo pos (starEach [e2, e3] X.env)).any (·.1) = false := by rfl) : oIT X (.Tuple elts kk tpos) (.Call (.Name "zip" p) [e1, e2, e3] [] pos) ε n K := .mk fun P M0 δ M r =>
  ai_zip3 g hm l1 l2 (aa_cons (h1 P M0 n δ M r _ (aa_cons (h2 P M0 n δ M r _ (aa_cons (h3 P M0 n δ M r _ (aa_nil ⟨rfl, fun _ => trivial, n, r, q⟩)) hs3)) hs2)) hs) hg hs hpl
end
end Ab
/-! Four names in one row; a list in three names. -/
namespace Ab
open PySem PySem.Spec PyProof.Rows L2
variable {X : Cx} {ε : OE} {n : Int} {G : Gx} {N : List Str} {sc : Scope} {pos : Pos} {x : Str}
theorem og_four (g : XD X G N sc) (i j l m : Nat) {d1 d2 d3 d4 : D} {y z w : Str} {px py pz pw : Pos} {k : Nat} {Q : OE → Int → Prop} (q : Q ((((ε.set i (some (.v d1))).set j (some (.v d2))).set l (some (.v d3))).set m (some (.v d4))) n) (hN : N[i]? = some x := by rfl) (hv : locB sc x = true := by rfl) (hN2 : N[j]? = some y := by rfl) (hv2 : locB sc y = true := by rfl) (hN3 : N[l]? = some z := by rfl) (hv3 : locB sc z = true := by rfl) (hN4 : N[m]? = some w := by rfl) (hv4 : locB sc w = true := by rfl)
    (hn : (assignEach [.Name x px, .Name y py, .Name z pz, .Name w pw] X.env).length = 4 := by rfl) (hst : (assignEach [.Name x px, .Name y py, .Name z pz, .Name w pw] X.env).findIdx? (·.1) = none := by rfl) (h1 : (assignEach [.Name x px, .Name y py, .Name z pz, .Name w pw] X.env).map (·.2) = assign (.Name x px) X.env :: (assignEach [.Name y py, .Name z pz, .Name w pw] X.env).map (·.2) := by rfl) (h2 : (assignEach [.Name y py, .Name z pz, .Name w pw] X.env).map (·.2) = assign (.Name y py) X.env :: (assignEach [.Name z pz, .Name w pw] X.env).map (·.2) := by rfl) (h3 : (assignEach [.Name z pz, .Name w pw] X.env).map (·.2) = assign (.Name z pz) X.env :: (assignEach [.Name w pw] X.env).map (·.2) := by rfl) (h4 : (assignEach [.Name w pw] X.env).map (·.2) = assign (.Name w pw) X.env :: (assignEach [] X.env).map (·.2) := by rfl) : oG X (.Tuple [.Name x px, .Name y py, .Name z pz, .Name w pw] k pos) (.tup [d1, d2, d3, d4]) ε n Q := .mk fun P M0 δ M r =>
  ag_tup g.toXF (ags_cons (ag_name g i (ags_cons (ag_name g j (ags_cons (ag_name g l (ags_cons (ag_name g m (ags_nil ⟨_, n, (((r.set_v i d1).set_v j d2).set_v l d3).set_v m d4, q⟩) hN4 hv4) h4) hN3 hv3) h3) hN2 hv2) h2) hN hv) h1) hn hst
theorem og_threeL (g : XD X G N sc) (i j l : Nat) {d1 d2 d3 : D} {y z : Str} {px py pz : Pos} {k : Nat} {Q : OE → Int → Prop} (q : Q (((ε.set i (some (.v d1))).set j (some (.v d2))).set l (some (.v d3))) n) (hN : N[i]? = some x := by rfl) (hv : locB sc x = true := by rfl) (hN2 : N[j]? = some y := by rfl) (hv2 : locB sc y = true := by rfl) (hN3 : N[l]? = some z := by rfl) (hv3 : locB sc z = true := by rfl)
    (hn : (assignEach [.Name x px, .Name y py, .Name z pz] X.env).length = 3 := by rfl) (hst : (assignEach [.Name x px, .Name y py, .Name z pz] X.env).findIdx? (·.1) = none := by rfl) (h1 : (assignEach [.Name x px, .Name y py, .Name z pz] X.env).map (·.2) = assign (.Name x px) X.env :: (assignEach [.Name y py, .Name z pz] X.env).map (·.2) := by rfl) (h2 : (assignEach [.Name y py, .Name z pz] X.env).map (·.2) = assign (.Name y py) X.env :: (assignEach [.Name z pz] X.env).map (·.2) := by rfl) (h3 : (assignEach [.Name z pz] X.env).map (·.2) = assign (.Name z pz) X.env :: (assignEach [] X.env).map (·.2) := by rfl) : oG X (.Tuple [.Name x px, .Name y py, .Name z pz] k pos) (.lst [d1, d2, d3]) ε n Q := .mk fun P M0 δ M r =>
  ag_lst g.toXF (ags_cons (ag_name g i (ags_cons (ag_name g j (ags_cons (ag_name g l (ags_nil ⟨_, n, ((r.set_v i d1).set_v j d2).set_v l d3, q⟩) hN3 hv3) h3) hN2 hv2) h2) hN hv) h1) hn hst
end Ab
/-! sorted pairs of ints, the greatest ahead; all of truths; 1 << n; max with a default. -/
namespace Ab
open PySem PySem.Spec PyProof.Rows L2
/-! ### pairs of ints in order -/
def ltII (p q : Int × Int) : Bool := SrtO.lexB p q
def insP (x : Int × Int) : List (Int × Int) → List (Int × Int)
  | [] => [x]
  | y :: l => if ltII y x = true then y :: insP x l else x :: y :: l
def srtP (l : List (Int × Int)) : List (Int × Int) := l.foldr insP []
theorem insP_perm (x : Int × Int) : ∀ l, (insP x l).Perm (x :: l)
  | [] => .refl _
  | y :: l => by
    unfold insP
    split
    · exact ((insP_perm x l).cons y).trans (.swap x y l)
    · exact .refl _
theorem srtP_perm : ∀ l, (srtP l).Perm l
  | [] => .refl _
  | x :: l => (insP_perm x (srtP l)).trans ((srtP_perm l).cons x)
abbrev AscP (l : List (Int × Int)) : Prop := l.Pairwise fun x y => ltII y x = false
theorem ltII_iff {p q : Int × Int} : ltII p q = true ↔ p.1 < q.1 ∨ (p.1 = q.1 ∧ p.2 < q.2) := SrtO.lexB_iff
theorem ltII_no {p q : Int × Int} : ltII p q = false ↔ ¬ (p.1 < q.1 ∨ (p.1 = q.1 ∧ p.2 < q.2)) := SrtO.lexB_no
theorem insP_asc {x : Int × Int} : ∀ {l}, AscP l → AscP (insP x l)
  | [], _ => .cons (fun _ z => (nomatch z)) .nil
  | y :: l, h => by
    obtain ⟨h1, h2⟩ := List.pairwise_cons.mp h
    unfold insP
    by_cases c : ltII y x = true
    · rw [if_pos c]
      refine .cons (fun z hz => ?_) (insP_asc h2)
      rcases List.mem_cons.mp ((insP_perm x l).mem_iff.mp hz) with e | e
      · subst e
        have := ltII_iff.mp c
        exact ltII_no.mpr (by omega)
      · exact h1 z e
    · rw [if_neg c]
      have c : ltII y x = false := by simpa using c
      refine .cons (fun z hz => ?_) h
      rcases List.mem_cons.mp hz with e | e
      · subst e; exact c
      · have a := ltII_no.mp (h1 z e)
        have b := ltII_no.mp c
        exact ltII_no.mpr (by omega)
theorem srtP_asc : ∀ l, AscP (srtP l)
  | [] => .nil
  | x :: l => insP_asc (srtP_asc l)
theorem ascP_uniq : ∀ {l m : List (Int × Int)}, l.Perm m → AscP l → AscP m → l = m
  | [], m, p, _, _ => by rw [List.nil_perm.mp p]
  | x :: l, m, p, hl, hm => by
    cases m with
    | nil => exact absurd p.length_eq (by simp)
    | cons y m =>
      obtain ⟨l1, l2⟩ := List.pairwise_cons.mp hl
      obtain ⟨m1, m2⟩ := List.pairwise_cons.mp hm
      have e : x = y := by
        rcases List.mem_cons.mp (p.mem_iff.mp (List.mem_cons_self (a := x) (l := l))) with e | hx
        · exact e
        · rcases List.mem_cons.mp (p.mem_iff.mpr (List.mem_cons_self (a := y) (l := m))) with e | hy
          · exact e.symm
          · have a := ltII_no.mp (l1 y hy)
            have b := ltII_no.mp (m1 x hx)
            exact Prod.ext (by omega) (by omega)
      subst e
      rw [ascP_uniq (List.Perm.cons_inv p) l2 m2]
/-- what a value tells as a pair of ints -/
def pairOf (B : Hp) : V → Int × Int
  | .ref t => match B t with
    | some (.tup [.int i, .int j]) => (i, j)
    | _ => (0, 0)
  | _ => (0, 0)
abbrev dI2 (p : Int × Int) : D := .tup [.int p.1, .int p.2]
theorem rep_pair {B : Hp} {v : V} {q : Int × Int} (h : Rep B v (dI2 q)) : pairOf B v = q ∧ ∃ t, v = .ref t ∧ B t = some (.tup [.int q.1, .int q.2]) := by
  obtain ⟨i, p⟩ := q
  cases h with
  | @tup a xs ds h1 h2 =>
    cases h2 with
    | cons r1 t1 => cases t1 with
      | cons r2 t2 =>
        cases t2
        cases r1
        cases r2
        refine ⟨?_, a, rfl, h1⟩
        unfold pairOf
        simp only [h1]
theorem reps_i2 {B : Hp} : ∀ {xs : List V} {l : List (Int × Int)}, Reps B xs (l.map dI2) → xs.map (pairOf B) = l ∧ ∀ x ∈ xs, Rep B x (dI2 (pairOf B x))
  | _, [], h => by cases h; exact ⟨rfl, fun _ z => (nomatch z)⟩
  | _, q :: l, h => by
    cases h with
    | cons r t =>
      obtain ⟨e, _⟩ := rep_pair r
      obtain ⟨h1, h2⟩ := reps_i2 t
      refine ⟨by rw [List.map_cons, e, h1], fun x hx => ?_⟩
      rcases List.mem_cons.mp hx with z | z
      · rw [z, e]; exact r
      · exact h2 x z
/-- sorted(xs, reverse=True) of pairs of ints -/
def rSortPRev (K : PySem.W.Frag) : List V → List V → Hp → VK → Prop := fun vs zs H Q => ∃ (a : Addr) (xs : List V) (k : V → Int × Int), vs = [V.ref a] ∧ zs = [.bl true] ∧ SqL K H a xs ∧ (∀ x ∈ xs, ∃ t, x = V.ref t ∧ H t = some (.tup [.int (k x).1, .int (k x).2])) ∧
  ∀ (ys : List V) (p : Addr), ys.Pairwise (fun x y => ltII (k y) (k x) = false) → ys.Perm xs → H p = none → Q (.ref p) (upd H p (.lst ys.reverse))
section
variable {X : Cx}
theorem cr_sortPRev : CallRK X (.builtin "sorted") [Str.ofString "reverse"] (rSortPRev X.K) := by
  intro pins s σ H vs zs us ws Q I r rz h
  obtain ⟨a, xs, k, rfl, rfl, hs, hx, q⟩ := h
  obtain rfl := Vals.ref1 r
  obtain ⟨w1, rfl, e1⟩ := vals1 rz
  obtain rfl : w1 = Value.bool true := e1
  obtain ⟨its, rv, hl, hz⟩ := I.list hs
  obtain ⟨b1, b2⟩ := refs_back rv fun x m => let ⟨t, e, _⟩ := hx x m; ⟨t, e⟩
  have pr : ∀ v ∈ its, Srt.IsPair s.heap v (k (backV v)).1 (k (backV v)).2 := fun v hv => by
    obtain ⟨t, rfl⟩ := b2 v hv
    obtain ⟨t', e, ht⟩ := hx _ (by rw [b1]; exact List.mem_map_of_mem hv)
    cases e
    obtain ⟨_, l2, r2, o, ho, hc, n, hd⟩ := I.hok _ _ ht
    obtain ⟨u1, u2, rfl, ⟨t1, rfl⟩, ⟨t2, rfl⟩⟩ := vals2 r2
    exact ⟨t, o, t1, t2, n, rfl, ho, hc, hd⟩
  refine SrtR.sorted_ordK (b := true) (fun _ => rfl) (PyProof.Rows.args_sorted_rev _ _) (fun _ => PyProof.Rows.args_list_sort_rev _ _) (SrtO.swo_lex fun u => k (backV u)) hl.isList (by rw [← rv.length]; exact hz) (fun h2 h₁ a' ha kk => ?_) fun out h1 h2 => ?_
  · refine SrtO.pairs_sortableO (by omega) (fun v hm => (pr v hm).keeps fun b o e _ => (kk b o e).2) fun o e c => ?_
    rw [ha] at e
    cases e
    exact absurd (Value.type.inj c) (by decide)
  · have pm : out.Perm its := h2.perm.trans (List.reverse_perm _)
    have fr : ∀ u ∈ out.reverse, ∃ a, u = Value.ref a := fun u hu => b2 u (pm.mem_iff.mp (List.mem_reverse.mp hu))
    have hb : (out.map backV).Perm xs := by rw [b1]; exact pm.map backV
    have er : (out.map backV).reverse = out.reverse.map backV := List.map_reverse.symm
    have ea : out.reverse.toArray = out.toArray.reverse := by simp
    obtain ⟨ep, he⟩ := PyProof.Rows.sortedAll_at s.heap its (if true = true then out.toArray.reverse else out.toArray)
    have he2 : (PyProof.Rows.sortedAll s.heap its (if true = true then out.toArray.reverse else out.toArray)).get? (s.heap.objs.size + 1) = some (PyProof.Rows.seqObj "list" out.reverse.toArray ep) := by rw [ea]; exact he
    refine ⟨.ref (s.heap.objs.size + 1), upd H (s.heap.objs.size + 1) (.lst (out.map backV).reverse), I.laid (t' := s.toks) (fun _ _ => PyProof.Rows.sortedAll_old) (Nat.le_succ _) ⟨?_, out.reverse, ep, by rw [er]; exact vals_back fr, he2⟩, rfl, q _ _ (List.pairwise_map.mpr h1) hb (I.hok.fresh (Nat.le_succ _))⟩
    rw [List.length_reverse, hb.length_eq]
    exact hz
/-! ### all of truths -/
theorem reps_blA {B : Hp} : ∀ {bs : List Bool} {ys : List V}, Reps B ys (bs.map D.bl) → ys = bs.map V.bl
  | [], _, .nil => rfl
  | _ :: _, _, .cons r1 r2 => by cases r1; rw [reps_blA r2]; rfl
theorem c_all {M : AHp} {d : D} {bs : List Bool} (hi : ListD M d (bs.map D.bl)) : pC (rAll X.K) M [d] (.bl (bs.all id)) := fun xs B H Q2 rx c kk => by
  cases rx with
  | cons r1 r2 =>
    cases r2
    obtain ⟨a, ys, rfl, hs, hr⟩ := hi.at_ r1 c
    exact ⟨a, bs, rfl, by rw [← reps_blA hr]; exact .inl (.inl hs), kk _ _ _ (Same.refl _) (.bl _) c⟩
theorem cl_all {u : OV} {bs : List Bool} (h : ListO u (bs.map D.bl)) : CalV X (rAll X.K) [u] (.bl (bs.all id)) := .one fun M d' k => c_all (h.d k)
end
section
variable {X : Cx} {e a b : Expr} {ε : OE} {n : Int} {G : Gx} {N : List Str} {sc : Scope} {pos p kpos : Pos} {δ : DE} {M : AHp}
/-- sorted(xs, reverse=r), r true -/
theorem ov_sortPRev (g : XF X G N sc) (hm : G.mg "sorted" = none) {u : OV} {l : List (Int × Int)} (he : oX X e ε u) (hi : ListO u (l.map dI2)) (ha : oV X a ε (.bl true)) (hg : sc.names.lookup ("sorted" : Str) = some .globalImplicit := by rfl)
    (hs : starEach (e :: []) X.env = (false, eval e X.env) :: starEach [] X.env := by rfl) (h1 : backTo pos (starEach (e :: []) X.env) = (false, eval e X.env) :: backTo pos (starEach [] X.env) := by rfl) (hpl : (backTo pos (starEach (e :: []) X.env)).any (·.1) = false := by rfl)
    (hall : (backToKw pos (keywordEach [⟨some "reverse", a, kpos⟩] X.env)).all (·.1.isSome) = true := by rfl) (hnone : (backToKw pos (keywordEach [⟨some "reverse", a, kpos⟩] X.env)).any (·.1.isNone) = false := by rfl) (hks : (backToKw pos (keywordEach [⟨some "reverse", a, kpos⟩] X.env)).filterMap (·.1) = [Str.ofString "reverse"] := by rfl) :
    oV X (.Call (.Name "sorted" p) [e] [⟨some "reverse", a, kpos⟩] pos) ε (.lst ((srtP l).reverse.map dI2)) := .mk fun P M0 n δ M r Q q => by
  obtain ⟨d, h2, k2⟩ := he P M0 n δ M r
  refine ae_callBK g cr_sortPRev hm (by rfl) (aa_cons (h2 _ (aa_nil (ak_cons (ha P M0 n δ M r _ (ak_nil fun xs ys B H Q2 rx ry c kk => ?_))))) hs) hg (by decide) (by decide) h1 hpl hall hnone hks
  cases rx with
  | cons r1 r2 =>
    cases r2
    cases ry with
    | cons q1 q2 =>
      cases q2
      cases q1
      obtain ⟨a, zs, rfl, hq, hr⟩ := (hi.d k2).at_ r1 c
      obtain ⟨e1, e2⟩ := reps_i2 hr
      refine ⟨a, zs, pairOf B, rfl, rfl, .inl (.inl hq), fun x hx => ?_, fun ws p h1 h2 h3 => ?_⟩
      · obtain ⟨_, t, e, h⟩ := rep_pair (e2 x hx)
        exact ⟨t, e, c.ex _ _ h⟩
      · have pm : (ws.map (pairOf B)).Perm l := by rw [← e1]; exact h2.map _
        have es : ws.map (pairOf B) = srtP l := ascP_uniq (pm.trans (srtP_perm l).symm) (List.pairwise_map.mpr h1) (srtP_asc l)
        obtain ⟨s2, c2⟩ := c.newI (.lst ws.reverse) h3
        refine kk _ _ _ _ _ s2 (.lst upd_same ?_) c2 q
        rw [← es, ← List.map_reverse, List.map_map]
        exact (reps_of_all fun x hx => e2 x (h2.mem_iff.mp (List.mem_reverse.mp hx))).mono s2
/-- max(xs, default=d) -/
theorem ov_maxDef (g : XF X G N sc) (hm : G.mg "max" = none) {u : OV} {ns : List Int} {d : Int} (he : oX X e ε u) (hi : ListO u (ns.map D.int)) (ha : oV X a ε (.int d)) (hg : sc.names.lookup ("max" : Str) = some .globalImplicit := by rfl)
    (hs : starEach (e :: []) X.env = (false, eval e X.env) :: starEach [] X.env := by rfl) (h1 : backTo pos (starEach (e :: []) X.env) = (false, eval e X.env) :: backTo pos (starEach [] X.env) := by rfl) (hpl : (backTo pos (starEach (e :: []) X.env)).any (·.1) = false := by rfl)
    (hall : (backToKw pos (keywordEach [⟨some "default", a, kpos⟩] X.env)).all (·.1.isSome) = true := by rfl) (hnone : (backToKw pos (keywordEach [⟨some "default", a, kpos⟩] X.env)).any (·.1.isNone) = false := by rfl) (hks : (backToKw pos (keywordEach [⟨some "default", a, kpos⟩] X.env)).filterMap (·.1) = [Str.ofString "default"] := by rfl) :
    oV X (.Call (.Name "max" p) [e] [⟨some "default", a, kpos⟩] pos) ε (.int (maxOr d ns)) := .mk fun P M0 n δ M r => by
  obtain ⟨dd, h2, k2⟩ := he P M0 n δ M r
  exact av_maxD g hm h2 (hi.d k2) (ha P M0 n δ M r) hg hs h1 hpl hall hnone hks
end
theorem bv_shl {X : Cx} {i : Int} (h0 : 0 ≤ i) (h1 : i ≤ 100000) : BinV X .LShift (.v (.int 1)) (.v (.int i)) (.int (2 ^ i.toNat)) := ⟨_, op_oneShl, fun M da db ka kb => fun x y B H Q2 rx ry c kk => by
  have ka : da = _ := ka
  have kb : db = _ := kb
  subst ka
  subst kb
  cases rx
  cases ry
  exact ⟨i.toNat, rfl, by rw [Int.toNat_of_nonneg h0], by omega, kk _ _ _ (Same.refl _) (.int _) c⟩⟩
/-! ### comprehensions over three names -/
section
variable {X : Cx} {e a b : Expr} {ε : OE} {n : Int} {G : Gx} {N : List Str} {sc scope : Scope} {pos p : Pos} {elt iter c : Expr} {α : Type} {h : α → D} {l : List α} {pr : α → Bool}
theorem tg_three (g : XF X G N sc) (j1 j2 j3 : Nat) {vs : List Nat} {x1 x2 x3 : Str} {p p1 p2 p3 : Pos} {kt : Nat} (h1 : j1 ∈ vs) (h2 : j2 ∈ vs) (h3 : j3 ∈ vs) (hN1 : N[j1]? = some x1) (hN2 : N[j2]? = some x2) (hN3 : N[j3]? = some x3) (hl1 : locB (relS scope sc) x1 = true) (hl2 : locB (relS scope sc) x2 = true) (hl3 : locB (relS scope sc) x3 = true)
    (ho1 : ownB scope sc x1 = true) (ho2 : ownB scope sc x2 = true) (ho3 : ownB scope sc x3 = true) : TgOk X scope (.Tuple [.Name x1 p1, .Name x2 p2, .Name x3 p3] kt p) (gThree X.K j1 j2 j3) vs :=
  ⟨fun X' h => by
    have e : X'.K = X.K := by obtain ⟨s, H, C, cl, fp, rfl⟩ := h; rfl
    have cm : X'.calm = true := (g.blk h).1.calm
    have z := pg_tup (k := kt) (pos := p) cm (pgs_cons (tg_pg (p := p1) g hN1 hl1 ho1 h) (pgs_cons (tg_pg (p := p2) g hN2 hl2 ho2 h) (pgs_cons (tg_pg (p := p3) g hN3 hl3 ho3 h) pgs_nil)))
    rw [e] at z
    exact z, keeps_three h1 h2 h3⟩
theorem tgs_3n {K : PySem.W.Frag} {ε : OE} {d1 d2 d3 : D} {j1 j2 j3 : Nat} (h1 : ε[j1]? = some none) (h2 : ε[j2]? = some none) (h3 : ε[j3]? = some none) (n12 : j1 ≠ j2) (n13 : j1 ≠ j3) (n23 : j2 ≠ j3) : TgS (gThree K j1 j2 j3) [j1, j2, j3] ε (.tup [d1, d2, d3]) (((ε.set j1 (some (.v d1))).set j2 (some (.v d2))).set j3 (some (.v d3))) := fun δ hl => by
  refine ⟨_, agt_three, fun P M m M0 r => ?_, fun P M m M0 r => r.back (fun i o h => ⟨?_, ?_⟩) hl⟩
  · show Rl P M0 m _ ((((((δ.set j3 none).set j2 none).set j1 none).set j1 (some d1)).set j2 (some d2)).set j3 (some d3)) M
    have z : (((((δ.set j3 none).set j2 none).set j1 none).set j1 (some d1)).set j2 (some d2)).set j3 (some d3) = ((δ.set j1 (some d1)).set j2 (some d2)).set j3 (some d3) := by
      rw [List.set_set, List.set_comm _ _ n12.symm, List.set_set, List.set_comm (i := j3) (j := j1) _ _ n13.symm, List.set_comm (i := j3) (j := j2) _ _ n23.symm, List.set_set]
    rw [z]
    exact ((r.set_v j1 d1).set_v j2 d2).set_v j3 d3
  · have a1 : j1 ≠ i := fun e => by subst e; rw [h1] at h; cases h
    have a2 : j2 ≠ i := fun e => by subst e; rw [h2] at h; cases h
    have a3 : j3 ≠ i := fun e => by subst e; rw [h3] at h; cases h
    rw [List.getElem?_set_ne a3, List.getElem?_set_ne a2, List.getElem?_set_ne a1]; exact h
  · have a1 : j1 ≠ i := fun e => by subst e; rw [h1] at h; cases h
    have a2 : j2 ≠ i := fun e => by subst e; rw [h2] at h; cases h
    have a3 : j3 ≠ i := fun e => by subst e; rw [h3] at h; cases h
    show _ = ((((((δ.set j3 none).set j2 none).set j1 none).set j1 (some d1)).set j2 (some d2)).set j3 (some d3))[i]?
    rw [List.getElem?_set_ne a3, List.getElem?_set_ne a2, List.getElem?_set_ne a1, List.getElem?_set_ne a1, List.getElem?_set_ne a2, List.getElem?_set_ne a3]
theorem ov_lc3 (g : XF X G N sc) (j1 j2 j3 : Nat) {y1 y2 y3 : Str} {p1 p2 p3 pt : Pos} {kt : Nat} (f1 f2 f3 : α → D) (hi : oSrc X (.Tuple [.Name y1 p1, .Name y2 p2, .Name y3 p3] kt pt) iter ε (l.map fun x => .tup [f1 x, f2 x, f3 x])) (he : ∀ x ∈ l, ∀ X', XF X' G N (relS scope sc) → X'.A = X.A → oV X' elt (((ε.set j1 (some (.v (f1 x)))).set j2 (some (.v (f2 x)))).set j3 (some (.v (f3 x)))) (h x)) (hl : l.length < 100000)
    (hN1 : N[j1]? = some y1 := by rfl) (hN2 : N[j2]? = some y2 := by rfl) (hN3 : N[j3]? = some y3 := by rfl) (hε1 : ε[j1]? = some none := by rfl) (hε2 : ε[j2]? = some none := by rfl) (hε3 : ε[j3]? = some none := by rfl) (n12 : j1 ≠ j2 := by decide) (n13 : j1 ≠ j3 := by decide) (n23 : j2 ≠ j3 := by decide)
    (hl1 : locB (relS scope sc) y1 = true := by rfl) (hl2 : locB (relS scope sc) y2 = true := by rfl) (hl3 : locB (relS scope sc) y3 = true := by rfl) (ho1 : ownB scope sc y1 = true := by rfl) (ho2 : ownB scope sc y2 = true := by rfl) (ho3 : ownB scope sc y3 = true := by rfl)
    (okb : blkC N sc scope [(y1, j1), (y2, j2), (y3, j3)] = true := by decide +kernel) (hs : ∀ x, foldedSetIterable iter X.env x = pure x := by intro _; rfl) : oV X (.ListComp elt [⟨.Tuple [.Name y1 p1, .Name y2 p2, .Name y3 p3] kt pt, iter, [], 0⟩] scope pos) ε (.lst (l.map h)) :=
  oV_lc (own := [(y1, j1), (y2, j2), (y3, j3)]) (sx := fun x => ((ε.set j1 (some (.v (f1 x)))).set j2 (some (.v (f2 x)))).set j3 (some (.v (f3 x)))) g (tg_three g j1 j2 j3 (by simp) (by simp) (by simp) hN1 hN2 hN3 hl1 hl2 hl3 ho1 ho2 ho3) hi hl (fun x _ => tgs_3n hε1 hε2 hε3 n12 n13 n23) he okb hs
theorem ov_lcF3 (g : XF X G N sc) (j1 j2 j3 : Nat) {y1 y2 y3 : Str} {p1 p2 p3 pt : Pos} {kt : Nat} (f1 f2 f3 : α → D) (hi : oSrc X (.Tuple [.Name y1 p1, .Name y2 p2, .Name y3 p3] kt pt) iter ε (l.map fun x => .tup [f1 x, f2 x, f3 x])) (hc : ∀ x ∈ l, ∀ X', XF X' G N (relS scope sc) → X'.A = X.A → oT X' c (((ε.set j1 (some (.v (f1 x)))).set j2 (some (.v (f2 x)))).set j3 (some (.v (f3 x)))) (pr x))
    (he : ∀ x ∈ l, pr x = true → ∀ X', XF X' G N (relS scope sc) → X'.A = X.A → oV X' elt (((ε.set j1 (some (.v (f1 x)))).set j2 (some (.v (f2 x)))).set j3 (some (.v (f3 x)))) (h x)) (hl : l.length < 100000)
    (hN1 : N[j1]? = some y1 := by rfl) (hN2 : N[j2]? = some y2 := by rfl) (hN3 : N[j3]? = some y3 := by rfl) (hε1 : ε[j1]? = some none := by rfl) (hε2 : ε[j2]? = some none := by rfl) (hε3 : ε[j3]? = some none := by rfl) (n12 : j1 ≠ j2 := by decide) (n13 : j1 ≠ j3 := by decide) (n23 : j2 ≠ j3 := by decide)
    (hl1 : locB (relS scope sc) y1 = true := by rfl) (hl2 : locB (relS scope sc) y2 = true := by rfl) (hl3 : locB (relS scope sc) y3 = true := by rfl) (ho1 : ownB scope sc y1 = true := by rfl) (ho2 : ownB scope sc y2 = true := by rfl) (ho3 : ownB scope sc y3 = true := by rfl)
    (okb : blkC N sc scope [(y1, j1), (y2, j2), (y3, j3)] = true := by decide +kernel) (hs : ∀ x, foldedSetIterable iter X.env x = pure x := by intro _; rfl) : oV X (.ListComp elt [⟨.Tuple [.Name y1 p1, .Name y2 p2, .Name y3 p3] kt pt, iter, [c], 0⟩] scope pos) ε (.lst ((l.filter pr).map h)) :=
  oV_lcF (own := [(y1, j1), (y2, j2), (y3, j3)]) (sx := fun x => ((ε.set j1 (some (.v (f1 x)))).set j2 (some (.v (f2 x)))).set j3 (some (.v (f3 x)))) g (tg_three g j1 j2 j3 (by simp) (by simp) (by simp) hN1 hN2 hN3 hl1 hl2 hl3 ho1 ho2 ho3) hi hl (fun x _ => tgs_3n hε1 hε2 hε3 n12 n13 n23) hc he okb hs
end
end Ab
/-! An expression that only reads, with own lists and dicts as arguments: looked at as data. -/
namespace Ab
open PySem PySem.Spec PyProof.Rows L2

/-- a thing as it looks to one who only reads -/
def OV.vw : OV → Option OV
  | .v d => some (.v d)
  | .l ds => some (.v (.lst ds))
  | .k kvs => some (.v (.dic kvs))
  | .r ds => some (.v (.lst ds))
  | .pu => none
def OV.dat : OV → Option D
  | .v d => some d
  | _ => none
def vwE (ε : OE) : OE := ε.map fun o => o.bind OV.vw
/-- a value that refers to nothing -/
def Clo (d : D) : Prop := ∀ (B B' : Hp) (v : V), Rep B v d → Rep B' v d
theorem clo_bl {b : Bool} : Clo (.bl b) := fun _ _ _ r => by cases r; exact .bl b
theorem clo_int {i : Int} : Clo (.int i) := fun _ _ _ r => by cases r; exact .int i
theorem clo_non : Clo .non := fun _ _ _ r => by cases r; exact .non
theorem clo_str {x : Str} : Clo (.str x) := fun _ _ _ r => by cases r; exact .str x
theorem vwE_get {ε : OE} {i : Nat} {o : OV} (h : (vwE ε)[i]? = some (some o)) : ∃ o', ε[i]? = some (some o') ∧ o'.vw = some o := by
  unfold vwE at h
  rw [List.getElem?_map] at h
  cases e : ε[i]? with
  | none => rw [e] at h; cases h
  | some x =>
    rw [e] at h
    cases x with
    | none => cases h
    | some o' =>
      injection h with h
      exact ⟨o', rfl, h⟩
theorem vw_v {o o' : OV} (h : o'.vw = some o) : ∃ d, o = .v d := by
  cases o' <;> first | cases h | skip
  all_goals exact ⟨_, rfl⟩
theorem ov_peek {X : Cx} {e : Expr} {ε : OE} {d : D} (h : oV X e (vwE ε) d) (hd : Clo d) : oV X e ε d := ⟨fun P M0 n δ M r Q q σ H B rs c => by
  obtain ⟨ad, a⟩ := r.ad
  have dl : ((vwE ε).map fun o => o.bind OV.dat).length = (vwE ε).length := List.length_map _
  have vl : (vwE ε).length = ε.length := List.length_map _
  have rl : Rl none (fun _ => none) 0 (vwE ε) ((vwE ε).map fun o => o.bind OV.dat) (fun _ => none) := by
    refine ⟨⟨fun _ => 0, ⟨fun i o h => ?_, fun i o m h hm => ?_, fun i j oi oj mi mj h1 h2 m1 m2 e => ?_, fun i ds h => ?_⟩⟩, dl, fun a o _ h => (by cases h), fun p h => (by cases h), fun i h => ?_⟩
    · obtain ⟨o', _, hv⟩ := vwE_get h
      obtain ⟨d, rfl⟩ := vw_v hv
      rw [List.getElem?_map, h]
      rfl
    · obtain ⟨o', _, hv⟩ := vwE_get h
      obtain ⟨d, rfl⟩ := vw_v hv
      cases hm
    · obtain ⟨o', _, hv⟩ := vwE_get h1
      obtain ⟨d, rfl⟩ := vw_v hv
      cases m1
    · obtain ⟨o', _, hv⟩ := vwE_get h
      obtain ⟨d, hd⟩ := vw_v hv
      cases hd
    · obtain ⟨o', _, hv⟩ := vwE_get h
      obtain ⟨d, hd⟩ := vw_v hv
      cases hd
  have rs2 : RepS H σ ((vwE ε).map fun o => o.bind OV.dat) := by
    refine ⟨by rw [rs.len, r.len, dl, vl], fun i d' h => ?_⟩
    rw [List.getElem?_map] at h
    cases e : (vwE ε)[i]? with
    | none => rw [e] at h; cases h
    | some x =>
      rw [e] at h
      cases x with
      | none => cases h
      | some o =>
        obtain ⟨o', e', hv⟩ := vwE_get e
        have own : ∀ (ds : List D), o' = .l ds ∨ o' = .r ds → M (ad i) = some (.lst ds) := fun ds z => by
          rcases z with rfl | rfl
          · exact (a.own i _ _ e' rfl).1
          · exact r.fr _ _ (a.rd i _ e').2 (a.rd i _ e').1
        have z := a.at_ i o' e'
        obtain ⟨v, sv, rv⟩ := rs.at_ i _ z
        refine ⟨v, sv, ?_⟩
        cases o' with
        | v d0 =>
          cases hv
          cases h
          exact rv.mono c.ex
        | l ds =>
          cases hv
          cases h
          obtain ⟨xs, ex, rx⟩ := (c.m _ _ (own ds (.inl rfl))).2
          cases rv
          exact .lst ex (rx.mono c.ex)
        | r ds =>
          cases hv
          cases h
          obtain ⟨xs, ex, rx⟩ := (c.m _ _ (own ds (.inr rfl))).2
          cases rv
          exact .lst ex (rx.mono c.ex)
        | k kvs =>
          cases hv
          cases h
          obtain ⟨xs, ex, rx⟩ := (c.m _ _ (a.own i _ _ e' rfl).1).2
          cases rv
          exact .dic ex (rx.mono c.ex)
        | pu => cases hv
  have z := (h none _ 0 _ _ rl) (fun d' _ => d' = d) rfl
  refine z.run rs2 ⟨Same.refl H, fun p o e => (by cases e)⟩ fun v d' M' B' H' s rv cc ed => ⟨d, M, B, Same.refl B, hd _ _ _ (ed ▸ rv), ⟨c.ex.trans (s.trans cc.ex), fun p o e => ⟨(c.m p o e).1, (c.m p o e).2.grow (Same.refl B) (s.trans cc.ex) fun a u h => .inl h⟩⟩, q⟩⟩
end Ab
/-! xs[i:j] = ys: a part of an own list, or all of it, exchanged. -/
namespace Ab
open PySem PySem.Spec PyProof.Rows L2 PySem.W
section
variable {prog : Program} {w : World} {A : Around} {E : Value → Shared → Prop} {s : Shared}
theorem setSl_core {p q z : Addr} {us ws : Array Value} {k m : Nat} {v1 v2 : Value} {o1 o2 : Option Int} {i j : Nat} {R : Unit → Shared → Prop}
    (hp : s.heap.get? p = some { cls := .type "list", data := .seq us k }) (hq : s.heap.get? q = some { cls := .type "list", data := .seq ws m }) (npq : p ≠ q)
    (hz : s.heap.IsSliceOf z v1 v2 .none) (q1 : IsPart v1 o1) (q2 : IsPart v2 o2) (hb : sliceBounds o1 o2 none us.size = ((i : Int), (j : Int), 1)) (hij : i ≤ j) (hj : j ≤ us.size)
    (hsize : us.size + ws.size ≤ sizeLine) (hR : R () { s with heap := s.heap.update p (Obj.mapSeq fun a => a.extract 0 i ++ ws ++ a.extract j a.size) }) :
    wpAny (model prog w) A (setItem (.ref p) (.ref z) (.ref q)) R E s := by
  have lp := PySem.IsL.isList hp
  have lq := PySem.IsL.isList hq
  obtain ⟨oz, hoz, cz, dz⟩ := id hz
  have tz : s.TypeIs (.ref z) "slice" := ⟨oz, hoz, cz⟩
  have other : Builtin.List.listSameRef (.ref p) (.ref q) = false := beq_eq_false_iff_ne.mpr npq
  have mx : (max (i : Int) (j : Int)).toNat = j := by omega
  have room : ((fun a : Array Value => a.extract 0 i ++ ws ++ a.extract j a.size) us).size ≤ sizeLine + 1 := by
    show (us.extract 0 i ++ ws ++ us.extract j us.size).size ≤ sizeLine + 1
    rw [Array.size_append, Array.size_append, Array.size_extract, Array.size_extract]
    omega
  have sub : wpAny (model prog w) A.in1 (Builtin.List.listSubscript? (.ref z)) (fun r s' => r = none ∧ s' = s) E s := by
    unfold Builtin.List.listSubscript?
    refine wpAny_bind (wpAny_specialOf tz slice_no_index ?_)
    simp only [Option.isNone_none, if_true]
    exact wpAny_pure ⟨rfl, rfl⟩
  have all : wpAny (model prog w) A.in1 (Builtin.List.listAllItems (.ref q) "must assign iterable to extended slice") (fun r s' => r = ws ∧ s' = s) E s := by
    unfold Builtin.List.listAllItems
    refine wpAny_bind (wpAny_typeOf lq.typeIs ?_)
    simp only [beq_self_eq_true, Bool.true_or, if_true]
    unfold Builtin.List.listItems
    exact wpAny_bind (wpAny_seqItems hq rfl (wpAny_pure ⟨rfl, rfl⟩))
  unfold setItem
  refine wpAny_holding (wpAny_bind (wpAny_sequenceKey lp.typeIs (by decide) (wpAny_bind (wpAny_callSpecial?_slot (name := Str.ofString "__setitem__") lp.typeIs slot_list_setitem (wpAny_call_entry slot_list_setitem lp.typeIs entry_list_setitem ?_ (args_list_setitem _ _ _))))))
  show wpAny _ _ (Builtin.List.listSubscript? (.ref z) >>= _) _ _ s
  refine wpAny_bind (thn sub fun r s' x => ?_)
  obtain ⟨rfl, rfl⟩ := x
  show wpAny _ _ (typeOf (.ref z) >>= _) _ _ _
  refine wpAny_bind (wpAny_typeOf tz ?_)
  rw [if_neg (by decide), listSliceParts_eq]
  refine wpAny_bind (wpAny_bind (wpAny_field hoz dz (x := .none) rfl (wpAny_bind (wpAny_listPart .none ?_))))
  rw [if_neg (show ¬ ((rawPart none == rawInt 0) = true) from Bool.false_ne_true)]
  refine wpAny_bind (wpAny_field hoz dz (x := v1) rfl (wpAny_bind (wpAny_listPart q1 (wpAny_bind (wpAny_field hoz dz (x := v2) rfl (wpAny_bind (wpAny_listPart q2 (wpAny_pure ?_))))))))
  simp only [other, Bool.false_eq_true, if_false]
  refine wpAny_bind (thn all fun r s'' x => ?_)
  obtain ⟨rfl, rfl⟩ := x
  refine wpAny_bind (wpAny_bind (wpAny_seqItems hp rfl (wpAny_pure ?_)))
  refine wpAny_bind (wpAny_of_eq ((sliceIndices_raw o1 o2 none us.size (by simp)).trans (congrArg (pure : Int × Int × Int → Sem (Int × Int × Int)) hb)) ?_)
  show wpAny _ _ (if ((1 : Int) == 1) = true then _ else _) _ _ _
  rw [if_pos (by decide)]
  refine wpAny_bind (wpAny_rule ?_)
  simp only [notLongL hsize, Bool.false_eq_true, if_false]
  show wpAny _ _ (updateSeq p (fun a => a.extract 0 ((i : Int)).toNat ++ r ++ a.extract (max (i : Int) (j : Int)).toNat a.size) >>= _) _ _ _
  rw [mx, Int.toNat_natCast]
  exact wpAny_bind (wpAny_updateSeq (hz := Nat.le_trans (Nat.le_add_right _ _) hsize) (_hz' := room) hp rfl (wpAny_bind (wpAny_letGo (wpAny_bind (wpAny_pure (wpAny_pure ⟨.none, rfl, wpAny_pure hR⟩))))))
end
/-- the parts i and j of xs, ys between -/
def splD {α : Type} (xs ys : List α) (i j : Option Nat) : List α := xs.take (i.getD 0) ++ ys ++ xs.drop (j.getD xs.length)
theorem part_bounds (i j : Option Nat) (n : Nat) : sliceBounds (i.map fun (k : Nat) => (k : Int)) (j.map fun (k : Nat) => (k : Int)) none n = (((min (i.getD 0) n : Nat) : Int), ((min (j.getD n) n : Nat) : Int), 1) := by
  unfold sliceBounds
  cases i <;> cases j <;> simp <;> omega
section
variable {X : Cx} {δ : DE} {M : AHp}
theorem ag_setSl {o : Expr} {lo hi : Option Expr} {i j : Option Nat} {d : D} {ys : List D} {Q : DE → AHp → Prop} {pos p2 : Pos} (hd : ListD M d ys)
    (h : aE X o δ M fun d1 M1 => ∃ p ds, d1 = .adr p ∧ M1 = M ∧ M p = some (.lst ds) ∧ d ≠ .adr p ∧ Cut X δ M lo i ∧ Cut X δ M hi j ∧ i.getD 0 ≤ j.getD ds.length ∧ ds.length + ys.length ≤ 1000000 ∧ Q δ (updM M p (.lst (splD ds ys i j))))
    (ha : ∀ v, assign (.Subscript o (.Slice lo hi none p2) pos) X.env v = (do
      let ov ← holding [v] (eval o X.env)
      let iv ← holding [v, ov] (eval (.Slice lo hi none p2) X.env)
      standAt pos
      holding [v, ov, iv] (setItem ov iv v)
      release [iv, v, ov] []) := by intro _; rfl) : aG X (.Subscript o (.Slice lo hi none p2) pos) d δ M Q := fun σ H B v rs c r pins s u I rv => by
  rw [ha]
  refine wpAny_bind (wpAny_holding (thn (h.run rs c (Q2 := fun x H1 => ∃ p ds B1, x = .ref p ∧ Same B B1 ∧ Cf B1 M H1 ∧ M p = some (.lst ds) ∧ d ≠ .adr p ∧ Cut X δ M lo i ∧ Cut X δ M hi j ∧ i.getD 0 ≤ j.getD ds.length ∧ ds.length + ys.length ≤ 1000000 ∧ Q δ (updM M p (.lst (splD ds ys i j)))) (fun x d1 M1 B1 H1 s1 r1 c1 q1 => by
    obtain ⟨p, ds, rfl, rfl, q⟩ := q1
    cases r1
    exact ⟨p, ds, B1, rfl, s1, c1, q⟩) pins s I) fun ov s1 ⟨x, H1, I1, r1, p, ds, B1, e1, b1, c1, hp, np, hl, hh, hij, hz, q⟩ => ?_))
  subst e1
  cases r1
  refine wpAny_bind (wpAny_holding (wpAny_Slice (thn (po_w.run pins s1 σ H1 _ I1 (hl.run (rs.mono b1) c1 (Q2 := fun k H2 => k = i.map (fun (n : Nat) => (n : Int)) ∧ ∃ B2, Same B1 B2 ∧ Cf B2 M H2) fun B2 H2 b2 c2 => ⟨rfl, B2, b2, c2⟩)) fun vl s2 ⟨l, H2, I2, pl, el, B2, b2, c2⟩ => thn (po_w.run pins s2 σ H2 _ I2 (hh.run ((rs.mono b1).mono b2) c2 (Q2 := fun k H3 => k = j.map (fun (n : Nat) => (n : Int)) ∧ ∃ B3, Same B2 B3 ∧ Cf B3 M H3) fun B3 H3 b3 c3 => ⟨rfl, B3, b3, c3⟩)) fun vu s3 ⟨l2, H3, I3, pu, eu, B3, b3, c3⟩ => ?_)))
  subst el eu
  rw [evalPart_none]
  refine wpAny_pure ?_
  have I4 : Inv X pins σ H3 { s3 with heap := s3.heap.push { cls := .type "slice", data := .fields #[vl, vu, .none] } } := I3.kept (t' := s3.toks) fun b ob q => Heap.get?_push_of_some _ q
  have r3 := ((r.mono b1).mono b2).mono b3
  obtain ⟨q0, ws, rfl, hw, rw0⟩ := hd.at_ r3 c3
  cases rv
  have npq : p ≠ q0 := fun z => by
    cases hd with
    | lst =>
      cases r3 with
      | lst hb _ =>
        have := (c3.m p _ hp).1
        rw [z, hb] at this
        cases this
    | adr hq =>
      cases r3
      exact np (by rw [z])
  obtain ⟨_, xs, hx, rx⟩ := c3.m p _ hp
  obtain ⟨z1, its, n1, v1, l1, g1⟩ := I4.lstM hx
  obtain ⟨z2, its2, n2, v2, l2, g2⟩ := I4.lstM hw
  have lx := rx.length
  have lw := rw0.length
  rw [show ds.length = its.length by omega] at hij hz
  have hb := part_bounds i j its.toArray.size
  rw [List.size_toArray] at hb
  refine wpAny_bind (wpAny_standAt (wpAny_bind (wpAny_holding (setSl_core (i := min (i.getD 0) its.length) (j := min (j.getD its.length) its.length) g1 g2 npq (Heap.IsSliceOf.new ..) pl pu (by rw [List.size_toArray]; exact hb) (by omega) (by rw [List.size_toArray]; omega) (by rw [List.size_toArray, List.size_toArray, sizeLine_eq]; omega) ?_))))
  have ev : splD xs ws i j = xs.take (min (i.getD 0) its.length) ++ ws ++ xs.drop (min (j.getD its.length) its.length) := by
    unfold splD
    rw [← l1]
    congr 1
    · congr 1
      by_cases y : i.getD 0 ≤ xs.length
      · rw [Nat.min_eq_left y]
      · rw [Nat.min_eq_right (by omega), List.take_of_length_le (by omega), List.take_of_length_le (by omega)]
    · by_cases y : j.getD xs.length ≤ xs.length
      · rw [Nat.min_eq_left y]
      · rw [Nat.min_eq_right (by omega), List.drop_eq_nil_of_le (by omega), List.drop_eq_nil_of_le (by omega)]
  refine wpAny_release ⟨σ, _, I4.lset (its' := its.take (min (i.getD 0) its.length) ++ its2 ++ its.drop (min (j.getD its.length) its.length)) (ys := splD xs ws i j) (t' := s3.toks) hx g1 (splice_eq ..) (by rw [ev]; exact ((v1.take _).append v2).append (v1.drop _)) ?_, δ, _, B3, (b1.trans b2).trans b3, ((rs.mono b1).mono b2).mono b3, c3.set (.lst (splD ds ys i j)) hp (noOwn c3 hp fun _ z => (nomatch z)) ⟨_, upd_same, ?_⟩, q⟩
  · rw [ev, List.length_append, List.length_append, List.length_take, List.length_drop, sizeLine_eq]
    omega
  · unfold splD
    rw [← lx]
    exact ((rx.take _).append rw0).append (rx.drop _)
end
end Ab
/-! Lists that several names and tuples hold: their places told, the heap of the entry grown by them; readings of data with such lists. -/
namespace Ab
open PySem PySem.Spec PyProof.Rows L2
/-! ### data with lists at places, as they look -/
mutual
inductive Vw (K : Addr → List D → Prop) : D → D → Prop
  | id (d : D) : Vw K d d
  | lst {a : Addr} {ds es : List D} : K a ds → Vws K ds es → Vw K (.adr a) (.lst es)
  | tup {ds es : List D} : Vws K ds es → Vw K (.tup ds) (.tup es)
  | frz {ds es : List D} : Vws K ds es → Vw K (.lst ds) (.lst es)
inductive Vws (K : Addr → List D → Prop) : List D → List D → Prop
  | nil : Vws K [] []
  | cons {d e : D} {ds es : List D} : Vw K d e → Vws K ds es → Vws K (d :: ds) (e :: es)
end
theorem Vws.id {K : Addr → List D → Prop} : ∀ ds : List D, Vws K ds ds
  | [] => .nil
  | d :: ds => .cons (.id d) (Vws.id ds)
section
variable {K : Addr → List D → Prop} {B H : Hp} {M : AHp}
mutual
theorem Vw.rep (c : Cf B M H) (hk : ∀ a ds, K a ds → M a = some (.lst ds)) : ∀ {d e : D} {v : V}, Vw K d e → Rep B v d → Rep H v e
  | _, _, _, .id d, r => r.mono c.ex
  | _, _, _, .lst ka vs, r => by
    cases r
    obtain ⟨_, xs, hx, rx⟩ := c.m _ _ (hk _ _ ka)
    exact .lst hx (Vws.reps c hk vs rx)
  | _, _, _, .tup vs, r => by
    cases r with
    | tup h rx => exact .tup (c.ex _ _ h) (Vws.reps c hk vs rx)
  | _, _, _, .frz vs, r => by
    cases r with
    | lst h rx => exact .lst (c.ex _ _ h) (Vws.reps c hk vs rx)
theorem Vws.reps (c : Cf B M H) (hk : ∀ a ds, K a ds → M a = some (.lst ds)) : ∀ {ds es : List D} {vs : List V}, Vws K ds es → Reps B vs ds → Reps H vs es
  | _, _, _, .nil, r => by
    cases r
    exact .nil
  | _, _, _, .cons w ws, r => by
    cases r with
    | cons r1 r2 => exact .cons (Vw.rep c hk w r1) (Vws.reps c hk ws r2)
end
end
/-- what stands at places of M0 that are not the purse's -/
def KpM (P : Option Addr) (M0 : AHp) (a : Addr) (ds : List D) : Prop := M0 a = some (.lst ds) ∧ P ≠ some a
/-- pure, at this heap of the entry -/
structure oVA (X : Cx) (e : Expr) (ε : OE) (d : D) (P : Option Addr) (M0 : AHp) : Prop where
  run : ∀ n δ M, Rl P M0 n ε δ M → aV X e δ M d
structure oTA (X : Cx) (e : Expr) (ε : OE) (b : Bool) (P : Option Addr) (M0 : AHp) : Prop where
  run : ∀ n δ M, Rl P M0 n ε δ M → aTV X e δ M b
theorem oV.am {X : Cx} {e : Expr} {ε : OE} {d : D} {P : Option Addr} {M0 : AHp} (h : oV X e ε d) : oVA X e ε d P M0 := ⟨fun n δ M r => h P M0 n δ M r⟩
theorem oT.am {X : Cx} {e : Expr} {ε : OE} {b : Bool} {P : Option Addr} {M0 : AHp} (h : oT X e ε b) : oTA X e ε b P M0 := ⟨fun n δ M r => h P M0 n δ M r⟩
/-- names as data for one who only reads: ε2 has what ε's data look like -/
def VwE (K : Addr → List D → Prop) (ε ε2 : OE) : Prop := ε2.length = ε.length ∧ ∀ (i : Nat) (o : OV), ε2[i]? = some (some o) → ∃ d e, ε[i]? = some (some (.v d)) ∧ o = .v e ∧ Vw K d e
theorem VwE.nil {K : Addr → List D → Prop} : VwE K [] [] := ⟨rfl, fun i o h => by simp at h⟩
theorem VwE.cons {K : Addr → List D → Prop} {d e : D} {ε ε2 : OE} (h : Vw K d e) (hs : VwE K ε ε2) : VwE K (some (.v d) :: ε) (some (.v e) :: ε2) := ⟨by rw [List.length_cons, List.length_cons, hs.1], fun i o ho => by
  cases i with
  | zero =>
    have ho : some (some (OV.v e)) = some (some o) := ho
    cases ho
    exact ⟨d, e, rfl, rfl, h⟩
  | succ i => exact hs.2 i o (by simpa using ho)⟩
theorem VwE.skip {K : Addr → List D → Prop} {x : Option OV} {ε ε2 : OE} (hs : VwE K ε ε2) : VwE K (x :: ε) (none :: ε2) := ⟨by rw [List.length_cons, List.length_cons, hs.1], fun i o ho => by
  cases i with
  | zero => have ho : some none = some (some o) := ho; cases ho
  | succ i => exact hs.2 i o (by simpa using ho)⟩
theorem VwE.same {K : Addr → List D → Prop} {d : D} {ε ε2 : OE} (hs : VwE K ε ε2) : VwE K (some (.v d) :: ε) (some (.v d) :: ε2) := hs.cons (.id d)
theorem peek_ctx {σ : L2.St} {H B : Hp} {M : AHp} {δ : DE} {n : Int} {ε ε2 : OE} {P : Option Addr} {M0 : AHp} (r : Rl P M0 n ε δ M) (hv : VwE (KpM P M0) ε ε2) (rs : RepS B σ δ) (c : Cf B M H) : Rl none (fun _ => none) 0 ε2 (ε2.map fun o => o.bind OV.dat) (fun _ => none) ∧ RepS H σ (ε2.map fun o => o.bind OV.dat) := by
  obtain ⟨ad, a⟩ := r.ad
  have dl : (ε2.map fun o => o.bind OV.dat).length = ε2.length := List.length_map _
  have rl : Rl none (fun _ => none) 0 ε2 (ε2.map fun o => o.bind OV.dat) (fun _ => none) := by
    refine ⟨⟨fun _ => 0, ⟨fun i o h => ?_, fun i o m h hm => ?_, fun i j oi oj mi mj h1 h2 m1 m2 e => ?_, fun i ds h => ?_⟩⟩, dl, fun a o _ h => (by cases h), fun p h => (by cases h), fun i h => ?_⟩
    · obtain ⟨d, e, _, rfl, _⟩ := hv.2 i o h
      rw [List.getElem?_map, h]
      rfl
    · obtain ⟨d, e, _, rfl, _⟩ := hv.2 i o h
      cases hm
    · obtain ⟨d, e, _, rfl, _⟩ := hv.2 i oi h1
      cases m1
    · obtain ⟨d, e, _, hd, _⟩ := hv.2 i _ h
      cases hd
    · obtain ⟨d, e, _, hd, _⟩ := hv.2 i _ h
      cases hd
  have hk : ∀ a ds, KpM P M0 a ds → M a = some (.lst ds) := fun a ds h => r.fr _ _ h.2 h.1
  have rs2 : RepS H σ (ε2.map fun o => o.bind OV.dat) := by
    refine ⟨by rw [rs.len, r.len, dl, hv.1], fun i d' h => ?_⟩
    rw [List.getElem?_map] at h
    cases e1 : ε2[i]? with
    | none => rw [e1] at h; cases h
    | some x =>
      rw [e1] at h
      cases x with
      | none => cases h
      | some o =>
        obtain ⟨d0, e0, h0, rfl, w⟩ := hv.2 i o e1
        cases h
        obtain ⟨v, sv, rv⟩ := rs.at_ i _ (r.at_v h0)
        exact ⟨v, sv, w.rep c hk rv⟩
  exact ⟨rl, rs2⟩
theorem peek_run {X : Cx} {e : Expr} {ε ε2 : OE} {d : D} {P : Option Addr} {M0 : AHp} (h : oV X e ε2 d) (hd : Clo d) (hv : VwE (KpM P M0) ε ε2) : oVA X e ε d P M0 := ⟨fun n δ M r Q q σ H B rs c => by
  obtain ⟨rl, rs2⟩ := peek_ctx r hv rs c
  have z := (h none _ 0 _ _ rl) (fun d' _ => d' = d) rfl
  refine z.run rs2 ⟨Same.refl H, fun p o e => (by cases e)⟩ fun v d' M' B' H' s rv cc ed => ⟨d, M, B, Same.refl B, hd _ _ _ (ed ▸ rv), ⟨c.ex.trans (s.trans cc.ex), fun p o e => ⟨(c.m p o e).1, (c.m p o e).2.grow (Same.refl B) (s.trans cc.ex) fun a u h => .inl h⟩⟩, q⟩⟩
theorem peek_test {X : Cx} {e : Expr} {ε ε2 : OE} {b : Bool} {P : Option Addr} {M0 : AHp} (h : oT X e ε2 b) (hv : VwE (KpM P M0) ε ε2) : oTA X e ε b P M0 := ⟨fun n δ M r Q q σ H B rs c => by
  obtain ⟨rl, rs2⟩ := peek_ctx r hv rs c
  have z := (h none _ 0 _ _ rl) (fun d' _ => d' = b) rfl
  refine z.run rs2 ⟨Same.refl H, fun p o e => (by cases e)⟩ fun d' M' B' H' s cc ed => ⟨M, B, Same.refl B, ⟨c.ex.trans (s.trans cc.ex), fun p o e => ⟨(c.m p o e).1, (c.m p o e).2.grow (Same.refl B) (s.trans cc.ex) fun a u h => .inl h⟩⟩, by rw [ed]; exact q⟩⟩
/-! ### statements with such places -/
structure oSsE (X : Cx) (sts : List Stmt) (E : AEnds) (ε : OE) (n : Int) (P : Option Addr) (M0 : AHp) : Prop where
  run : ∀ δ M, Rl P M0 n ε δ M → aSs X sts E δ M
section
variable {X : Cx} {st : Stmt} {sts s1 s2 : List Stmt} {E : AEnds} {ε : OE} {n : Int} {P : Option Addr} {M0 M00 : AHp} {G : Gx} {N : List Str} {sc : Scope} {pos : Pos}
theorem oSs.of {A : OEnds} (h : ∀ P M0, (∀ p, P = some p → M0 p ≠ none) → oSsE X sts (lift P M0 A) ε n P M0) : oSs X sts A ε n := .mk fun P M0 δ M r => (h P M0 fun p e => (r.pu p e).2).run δ M r
theorem aS.endsTo {B C : AEnds} {δ : DE} {M : AHp} (h : aS X st B δ M) (h1 : ∀ δ' M', B.nx δ' M' → C.nx δ' M') (h2 : ∀ d M', B.rt d M' → C.rt d M') (h3 : ∀ δ' M', B.bk δ' M' → C.bk δ' M') (h4 : ∀ δ' M', B.ct δ' M' → C.ct δ' M') : aS X st C δ M := fun σ H B rs c =>
  (h σ H B rs c).imp ⟨fun _ _ ⟨δ', M', B', s, r, c', q⟩ => ⟨δ', M', B', s, r, c', h1 _ _ q⟩, fun _ _ ⟨δ', M', B', s, r, c', q⟩ => ⟨δ', M', B', s, r, c', h2 _ _ q⟩, fun _ _ ⟨δ', M', B', s, r, c', q⟩ => ⟨δ', M', B', s, r, c', h3 _ _ q⟩, fun _ _ ⟨δ', M', B', s, r, c', q⟩ => ⟨δ', M', B', s, r, c', h4 _ _ q⟩⟩
theorem osE_cons (J : OE → Int → Prop) (h : oS X st { nx := J, rt := fun _ _ => False } ε n) (k : ∀ ε' n', J ε' n' → oSsE X sts E ε' n' P M0) : oSsE X (st :: sts) E ε n P M0 := ⟨fun δ M r => by
  refine as_seq (lN P M0 J) ?_ fun δ' M' ⟨ε', n', r', q⟩ => (k ε' n' q).run δ' M' r'
  exact (h P M0 δ M r).endsTo (fun _ _ x => x) (fun d M' x => by obtain ⟨_, _, _, _, _, _, q⟩ := x; exact q.elim) (fun _ _ x => by obtain ⟨_, _, _, q⟩ := x; exact q.elim) (fun _ _ x => by obtain ⟨_, _, _, q⟩ := x; exact q.elim)⟩
theorem osE_nil (q : ∀ δ M, Rl P M0 n ε δ M → E.nx δ M) : oSsE X [] E ε n P M0 := ⟨fun δ M r => as_nil (q δ M r)⟩
theorem osE_ifF {c : Expr} (h : oTA X c ε false P M0) (k : oSsE X sts E ε n P M0) : oSsE X (.If c s1 [] pos :: sts) E ε n P M0 := ⟨fun δ M r => as_cons (as_ifV (h.run n δ M r) (fun z => by cases z) fun _ => as_nil (k.run δ M r))⟩
theorem osE_ifT {c : Expr} (h : oTA X c ε true P M0) (k : oSsE X s1 { E with nx := fun δ' M' => aSs X sts E δ' M' } ε n P M0) : oSsE X (.If c s1 s2 pos :: sts) E ε n P M0 := ⟨fun δ M r => as_cons (as_ifV (h.run n δ M r) (fun _ => k.run δ M r) fun z => by cases z)⟩
/-- a test that draws, which is known to fail -/
theorem osE_ifD {c : Expr} (K : Int → Prop) (h : ∀ δ M, Rl P M0 n ε δ M → aT X c δ M fun b M' => b = false ∧ ∃ n', Rl P M0 n' ε δ M' ∧ K n') (k : ∀ n', K n' → oSsE X sts E ε n' P M0) : oSsE X (.If c s1 [] pos :: sts) E ε n P M0 := ⟨fun δ M r => as_cons (as_if ((h δ M r).imp fun b M' ⟨e, n', r', q⟩ => ⟨fun z => (by rw [e] at z; cases z), fun _ => as_nil ((k n' q).run δ M' r')⟩))⟩
theorem osE_set {d : D} {x : Str} {e : Expr} {p' : Pos} (g : XD X G N sc) (i : Nat) (h : oVA X e ε d P M0) (k : oSsE X sts E (ε.set i (some (.v d))) n P M0) (hN : N[i]? = some x := by rfl) (hv : locB sc x = true := by rfl) (hs : swapsWith e (some (.Name x p')) pos.line X.env = pure false := by rfl) : oSsE X (.Assign [.Name x p'] e pos :: sts) E ε n P M0 := ⟨fun δ M r => as_cons (as_setV g i (h.run n δ M r) (k.run _ M (r.set_v i d)) hN hv hs)⟩
/-- an own list gets a place that is told -/
theorem osE_ext (i : Nat) {ds : List D} (k : ∀ a, P ≠ some a → M0 a = none → oSsE X sts E (ε.set i (some (.v (.adr a)))) n P (updM M0 a (.lst ds))) (hi : ε[i]? = some (some (.l ds)) := by rfl) : oSsE X sts E ε n P M0 := ⟨fun δ M r => by
  obtain ⟨ad, a⟩ := r.ad
  obtain ⟨h1, h2⟩ := a.own i _ _ hi rfl
  have hd : δ[i]? = some (some (.adr (ad i))) := a.at_ i _ hi
  refine (k (ad i) (r.noP h2) h2).run δ M ⟨⟨ad, ⟨fun j o h => ?_, fun j o m h hm => ?_, fun j j2 oi oj mi mj g1 g2 m1 m2 e => ?_, fun j es h => ?_⟩⟩, by rw [List.length_set]; exact r.len, fun b o np e => ?_, fun p e => ?_, fun j h => ?_⟩
  · rcases get_set h with ⟨rfl, e, hl⟩ | ⟨ne, e⟩
    · cases e
      exact hd
    · exact a.at_ _ _ e
  · rcases get_set h with ⟨rfl, e, hl⟩ | ⟨ne, e⟩
    · cases e
      cases hm
    · have na : ad j ≠ ad i := fun z => ne (a.inj _ _ _ _ _ _ e hi hm rfl z).symm
      rw [updM_ne na]
      exact a.own _ _ _ e hm
  · rcases get_set g1 with ⟨rfl, e1, _⟩ | ⟨_, e1⟩
    · cases e1; cases m1
    · rcases get_set g2 with ⟨rfl, e2, _⟩ | ⟨_, e2⟩
      · cases e2; cases m2
      · exact a.inj _ _ _ _ _ _ e1 e2 m1 m2 e
  · rcases get_set h with ⟨rfl, e, hl⟩ | ⟨ne, e⟩
    · cases e
    · obtain ⟨x1, x2⟩ := a.rd _ _ e
      have na : ad j ≠ ad i := fun z => by rw [z, h2] at x1; cases x1
      exact ⟨by rw [updM_ne na]; exact x1, x2⟩
  · by_cases z : b = ad i
    · subst z
      rw [updM_same] at e
      cases e
      exact h1
    · rw [updM_ne z] at e
      exact r.fr b o np e
  · obtain ⟨h3, h4⟩ := r.pu p e
    refine ⟨h3, ?_⟩
    by_cases z : p = ad i
    · rw [z, updM_same]
      exact fun y => by cases y
    · rw [updM_ne z]
      exact h4
  · rcases get_set h with ⟨rfl, e, hl⟩ | ⟨_, e⟩
    · cases e
    · exact r.tk _ e⟩
/-- the heap of the entry, grown by places that are told -/
structure Ext (P : Option Addr) (M00 M0 : AHp) : Prop where
  le : ∀ a o, M00 a = some o → M0 a = some o
  pu : ∀ p, P = some p → M00 p ≠ none
theorem Ext.refl (h : ∀ p, P = some p → M0 p ≠ none) : Ext P M0 M0 := ⟨fun _ _ e => e, h⟩
theorem Ext.put {a : Addr} {m : MO} (h : Ext P M00 M0) (hn : M00 a = none) : Ext P M00 (updM M0 a m) := ⟨fun b o e => by
  have nb : b ≠ a := fun z => by rw [z, hn] at e; cases e
  rw [updM_ne nb]
  exact h.le b o e, h.pu⟩
theorem Ext.none {a : Addr} (h : Ext P M00 M0) (e : M0 a = none) : M00 a = none := by
  cases z : M00 a with
  | none => rfl
  | some o => rw [h.le a o z] at e; cases e
def noR (ε : OE) : Prop := ∀ (i : Nat) (ds : List D), ε[i]? ≠ some (some (.r ds))
theorem Rl.weak {δ : DE} {M : AHp} (h : Ext P M00 M0) (hr : noR ε) (r : Rl P M0 n ε δ M) : Rl P M00 n ε δ M := by
  obtain ⟨ad, a⟩ := r.ad
  exact ⟨⟨ad, ⟨a.at_, fun i o m e hm => ⟨(a.own i o m e hm).1, h.none (a.own i o m e hm).2⟩, a.inj, fun i ds e => absurd e (hr i ds)⟩⟩, r.len, fun b o np e => r.fr b o np (h.le b o e), fun p e => ⟨(r.pu p e).1, h.pu p e⟩, r.tk⟩
/-- back to what the names hold -/
theorem osE_end {A : OEnds} (h : Ext P M00 M0) (hr : noR ε) (q : A.nx ε n) : oSsE X [] (lift P M00 A) ε n P M0 := osE_nil fun δ M r => ⟨ε, n, r.weak h hr, q⟩
theorem osE_ret {A : OEnds} {e : Expr} {d : D} (h : Ext P M00 M0) (hr : noR ε) (he : oVA X e ε d P M0) (q : A.rt (.v d) n) : oSsE X [.Return (some e) pos] (lift P M00 A) ε n P M0 := ⟨fun δ M r => as_one (as_ret ((he.run n δ M r) _ ⟨.v d, n, ε, δ, r.weak h hr, rfl, q⟩))⟩
/-- what stands at a told place is exchanged -/
theorem Rl.put {δ : DE} {M : AHp} {a : Addr} {m m' : MO} (r : Rl P M0 n ε δ M) (hp : P ≠ some a) (hm : M0 a = some m) (hr : noR ε) : Rl P (updM M0 a m') n ε δ (updM M a m') := by
  obtain ⟨ad, x⟩ := r.ad
  refine ⟨⟨ad, ⟨x.at_, fun i o w e hw => ?_, x.inj, fun i ds e => absurd e (hr i ds)⟩⟩, r.len, fun b o np e => ?_, fun p e => ?_, r.tk⟩
  · have na : ad i ≠ a := fun z => by have := (x.own i o w e hw).2; rw [z, hm] at this; cases this
    rw [updM_ne na, updM_ne na]
    exact x.own i o w e hw
  · by_cases z : b = a
    · subst z
      rw [updM_same] at e ⊢
      exact e
    · rw [updM_ne z] at e ⊢
      exact r.fr b o np e
  · obtain ⟨h3, h4⟩ := r.pu p e
    have na : p ≠ a := fun z => hp (by rw [e, z])
    exact ⟨h3.upd na, by rw [updM_ne na]; exact h4⟩
/-- o[:] = ys, o[:k] = ys at a told place -/
theorem osE_setSl {o e : Expr} {lo hi : Option Expr} {u v : Option Nat} {p2 p3 : Pos} {a : Addr} {ds : List D} (J : Int → List D → Prop) (ho : oV X o ε (.adr a)) (hp : P ≠ some a) (hm : M0 a = some (.lst ds)) (hr : noR ε) (hl : ∀ δ M, Cut X δ M lo u) (hh : ∀ δ M, Cut X δ M hi v) (h : oE X e ε n fun ov n' => ∃ ys : List D, ov = .v (.lst ys) ∧ u.getD 0 ≤ v.getD ds.length ∧ ds.length + ys.length ≤ 1000000 ∧ J n' ys)
    (k : ∀ n' ys, J n' ys → oSsE X sts E ε n' P (updM M0 a (.lst (splD ds ys u v))))
    (ha : ∀ v, assign (.Subscript o (.Slice lo hi none p2) p3) X.env v = (do
      let ov ← holding [v] (eval o X.env)
      let iv ← holding [v, ov] (eval (.Slice lo hi none p2) X.env)
      standAt p3
      holding [v, ov, iv] (setItem ov iv v)
      release [iv, v, ov] []) := by intro _; rfl) (hs : swapsWithSole [.Subscript o (.Slice lo hi none p2) p3] e pos.line X.env = pure false := by rfl) (hw : swappedStores [.Subscript o (.Slice lo hi none p2) p3] e X.env = pure none := by rfl) (h1 : (assignEach [.Subscript o (.Slice lo hi none p2) p3] X.env).map (·.2) = [assign (.Subscript o (.Slice lo hi none p2) p3) X.env] := by rfl) : oSsE X (.Assign [.Subscript o (.Slice lo hi none p2) p3] e pos :: sts) E ε n P M0 := ⟨fun δ M r => by
  refine as_cons (as_asg ((h P M0 δ M r).imp fun d2 M2 ⟨ov, n', r', vv, ys, e2, le, lz, z⟩ => ?_) hs hw h1)
  subst e2
  have vv : d2 = .lst ys := vv
  subst vv
  exact ag_setSl .lst (ho P M0 n' δ M2 r' _ ⟨a, ds, rfl, rfl, r'.fr a _ hp hm, fun z => (by cases z), hl δ M2, hh δ M2, le, lz, (k n' ys z).run δ _ (r'.put hp hm hr)⟩) ha⟩
/-- o[i] = d at a told place -/
theorem osE_setIx {o ix e : Expr} {p3 : Pos} {a : Addr} {ds : List D} {i : Int} {j : Nat} (J : Int → D → Prop) (ho : oV X o ε (.adr a)) (hx : oV X ix ε (.int i)) (hj : ixN ds.length i = some j) (hp : P ≠ some a) (hm : M0 a = some (.lst ds)) (hr : noR ε) (h : oE X e ε n fun ov n' => ∃ d, ov = .v d ∧ J n' d)
    (k : ∀ n' d, J n' d → oSsE X sts E ε n' P (updM M0 a (.lst (ds.set j d))))
    (ha : ∀ v, assign (.Subscript o ix p3) X.env v = (do
      let ov ← holding [v] (eval o X.env)
      let iv ← holding [v, ov] (eval ix X.env)
      standAt p3
      holding [v, ov, iv] (setItem ov iv v)
      release [v, ov, iv] []) := by intro _; rfl) (hs : swapsWithSole [.Subscript o ix p3] e pos.line X.env = pure false := by rfl) (hw : swappedStores [.Subscript o ix p3] e X.env = pure none := by rfl) (h1 : (assignEach [.Subscript o ix p3] X.env).map (·.2) = [assign (.Subscript o ix p3) X.env] := by rfl) : oSsE X (.Assign [.Subscript o ix p3] e pos :: sts) E ε n P M0 := ⟨fun δ M r => by
  refine as_cons (as_asg ((h P M0 δ M r).imp fun d2 M2 ⟨ov, n', r', vv, d, e2, z⟩ => ?_) hs hw h1)
  subst e2
  have vv : d2 = d := vv
  subst vv
  exact ag_setL (ho P M0 n' δ M2 r' _ (hx P M0 n' δ M2 r' _ ⟨a, ds, i, j, rfl, rfl, r'.fr a _ hp hm, hj, (k n' d2 z).run δ _ (r'.put hp hm hr)⟩)) ha⟩
/-- x = (list, d) with a new list -/
theorem osE_newT {x : Str} {e1 e2 : Expr} {ds : List D} {d2 : D} {p' pt : Pos} {kt : Nat} (g : XD X G N sc) (i : Nat) (h1 : oN X e1 ε ds) (h2 : oV X e2 ε d2) (k : ∀ a, P ≠ some a → M0 a = none → oSsE X sts E (ε.set i (some (.v (.tup [.adr a, d2])))) n P (updM M0 a (.lst ds))) (hN : N[i]? = some x := by rfl) (hv : locB sc x = true := by rfl) (hs : swapsWith (.Tuple [e1, e2] kt pt) (some (.Name x p')) pos.line X.env = pure false := by rfl)
    (s1 : starEach [e1, e2] X.env = (false, eval e1 X.env) :: starEach [e2] X.env := by rfl) (s2 : starEach [e2] X.env = (false, eval e2 X.env) :: starEach [] X.env := by rfl) : oSsE X (.Assign [.Name x p'] (.Tuple [e1, e2] kt pt) pos :: sts) E ε n P M0 := ⟨fun δ M r => by
  refine as_cons (as_set g i (ae_tup (aa_cons (h1.run P M0 n δ M r _ fun p hp => aa_cons (h2 P M0 n δ _ (r.new hp) _ (aa_nil ⟨by show 2 ≤ 10000; decide, ?_⟩)) s2) s1)) hN hv hs)
  have m0 : M0 p = none := (r.free hp).1
  refine (k p (r.noP m0) m0).run _ _ ?_
  have r1 := (r.new (o := .lst ds) hp).set_v i (.tup [.adr p, d2])
  obtain ⟨ad, a⟩ := r1.ad
  refine ⟨⟨ad, ⟨a.at_, fun j o w e hw => ?_, a.inj, fun j es e => ?_⟩⟩, r1.len, fun b o np e => ?_, fun q e => ?_, r1.tk⟩
  · have own := a.own j o w e hw
    have na : ad j ≠ p := fun z => by
      rcases get_set e with ⟨rfl, e2, _⟩ | ⟨ne, e2⟩
      · cases e2; cases hw
      · obtain ⟨ad2, a2⟩ := r.ad
        have o2 := a2.own j o w e2 hw
        have t1 := a.at_ j o e
        rw [List.getElem?_set_ne ne, a2.at_ j o e2] at t1
        have cco : ∀ a, o.cc P a = .adr a := fun a => by cases o <;> first | rfl | cases hw
        rw [cco, cco] at t1
        injection t1 with t1
        injection t1 with t1
        injection t1 with t1
        rw [t1, z, hp] at o2
        cases o2.1
    exact ⟨own.1, by rw [updM_ne na]; exact own.2⟩
  · obtain ⟨x1, x2⟩ := a.rd j es e
    have na : ad j ≠ p := fun z => by rw [z, m0] at x1; cases x1
    exact ⟨by rw [updM_ne na]; exact x1, x2⟩
  · by_cases z : b = p
    · subst z
      rw [updM_same] at e
      cases e
      exact updM_same
    · rw [updM_ne z] at e
      exact r1.fr b o np e
  · obtain ⟨h3, h4⟩ := r1.pu q e
    refine ⟨h3, ?_⟩
    by_cases z : q = p
    · rw [z, updM_same]
      exact fun y => by cases y
    · rw [updM_ne z]
      exact h4⟩
end
/-! ### a def that only reads, asked with such lists -/
def spPk (S : List D → (D → Prop) → Prop) : ASp := fun ds M Q _ => ∃ es, Vws (fun a xs => M a = some (.lst xs)) ds es ∧ S es fun d => Clo d ∧ Q d M
theorem Fn.peek {G : Gx} {k : Nat} {x : Str} {S : List D → (D → Prop) → Prop} (F : Fn G k x (spV S)) (mon : MonS S) : Fn G k x (spPk S) := by
  obtain ⟨⟨f, fd, ps, Fg, hm, hk, hb⟩, _⟩ := F
  have weak : ∀ vs H Q E, toSp (spPk S) vs H Q E → toSp (spV S) vs H Q E := fun vs H Q E ⟨B, M, ds, rv, c, es, w, s⟩ => by
    refine ⟨H, fun _ => none, es, w.reps c (fun _ _ e => e) rv, ⟨Same.refl H, fun p o e => (by cases e)⟩, ?_⟩
    refine mon.mon (fun d h v B' H' sm rd cc => ?_) s
    exact h.2 v B H' (Same.refl B) (h.1 B' B v rd) ⟨c.ex.trans (sm.trans cc.ex), fun p o e => ⟨(c.m p o e).1, (c.m p o e).2.grow (Same.refl B) (sm.trans cc.ex) fun a u y => .inl y⟩⟩
  refine ⟨⟨f, fd, ps, ⟨fun vs H Q E h => Fg.len vs H Q E (weak vs H Q E h), fun A outer s H args us vs Q E hg hr e hbd hv h => Fg.run A outer s H args us vs Q E hg hr e hbd hv (weak vs H Q E h)⟩, hm, hk, hb⟩, ⟨fun h1 _ ⟨es, w, s⟩ => ⟨es, w, mon.mon (fun d h => ⟨h.1, h1 d _ h.2⟩) s⟩⟩⟩
end Ab
namespace Pf
open PySem PySem.Spec PyProof.Rows L2 Ab
set_option hygiene false in
local macro_rules
  | `(tactic| exists "n") => `(tactic| first
     | exact ov_n (by assumption) 0
     | exact ov_n (by assumption) 1
     | exact ov_n (by assumption) 2
     | exact ov_n (by assumption) 3
     | exact ov_n (by assumption) 4
     | exact ov_n (by assumption) 5
     | exact ov_n (by assumption) 6
     | exact ov_n (by assumption) 7
     | exact ov_n (by assumption) 8
     | exact ov_n (by assumption) 9
     | exact ov_n (by assumption) 10
     | exact ov_n (by assumption) 11
     | exact ov_n (by assumption) 12
     | exact ov_n (by assumption) 13
     | exact ov_n (by assumption) 14
     | exact ov_n (by assumption) 15
     | exact ov_n (by assumption) 16
     | exact ov_n (by assumption) 17
     | exact ov_n (by assumption) 18
     | exact ov_n (by assumption) 19)
set_option hygiene false in
local macro_rules
  | `(tactic| exists "o") => `(tactic| first
     | exact ox_n (by assumption) 0
     | exact ox_n (by assumption) 1
     | exact ox_n (by assumption) 2
     | exact ox_n (by assumption) 3
     | exact ox_n (by assumption) 4
     | exact ox_n (by assumption) 5
     | exact ox_n (by assumption) 6
     | exact ox_n (by assumption) 7
     | exact ox_n (by assumption) 8
     | exact ox_n (by assumption) 9
     | exact ox_n (by assumption) 10
     | exact ox_n (by assumption) 11
     | exact ox_n (by assumption) 12
     | exact ox_n (by assumption) 13
     | exact ox_n (by assumption) 14
     | exact ox_n (by assumption) 15
     | exact ox_u (by assumption) 0 (by assumption)
     | exact ox_u (by assumption) 1 (by assumption)
     | exact ox_u (by assumption) 2 (by assumption)
     | exact ox_u (by assumption) 3 (by assumption)
     | exact ox_u (by assumption) 4 (by assumption))
set_option hygiene false in
local macro_rules
  | `(tactic| exists "x") => `(tactic| first
     | exact oX.of (by exists "v")
     | (show oX _ (.Name _ _) _ _; exists "o"))
set_option hygiene false in
local macro_rules
  | `(tactic| exists "l") => `(tactic| first
     | exact .lst
     | exact .l
     | assumption)
set_option hygiene false in
local macro_rules
  | `(tactic| exists "i") => `(tactic| first
     | exact .lst
     | exact .tup
     | exact .l
     | exact ListO.items (by assumption))
set_option hygiene false in
local macro_rules
  | `(tactic| exists "len") => `(tactic| first
     | (simp only [List.length_append, List.length_map, List.length_cons, List.length_nil, Ab.cutD, List.length_take, List.length_drop, Option.getD_some, Option.getD_none]; omega)
     | decide)
set_option hygiene false in
local macro_rules
  | `(tactic| exists "cm") => `(tactic| first
     | decide
     | exact .inl (by decide)
     | exact .inr (by decide)
     | exact .inl ⟨by omega, by omega⟩
     | exact .inr ⟨by omega, by omega⟩)
set_option hygiene false in
local macro_rules
  | `(tactic| exists "b") => `(tactic| first
     | exact bv_add
     | exact bv_sub
     | (show BinV _ .Mult _ _ _; exact bv_mul (by exists "cm"))
     | (show BinV _ .Mod _ _ _; exact bv_mod (by first | decide | omega))
     | (show BinV _ .FloorDiv _ _ _; exact bv_fdiv (by first | decide | exact ⟨by omega, by omega⟩))
     | (show BinV _ .Add (.v (.tup _)) _ _; exact bv_catT (by exists "len"))
     | (show BinV _ .Add _ _ _; exact bv_cat (by exists "l") (by exists "l") (by exists "len"))
     | (show BinV _ .Pow _ _ _; exact bv_pow ⟨by decide, by decide, by decide⟩))
set_option hygiene false in
local macro_rules
  | `(tactic| exists "c") => `(tactic| first
     | exact cv_lt
     | exact cv_le
     | exact cv_gt
     | exact cv_ge
     | exact cv_eq
     | exact cv_ne
     | exact cv_eqS
     | exact cv_neS
     | exact cv_isN
     | exact cv_notN
     | exact cv_eqP
     | exact cv_neP
     | (show CmpV _ .In _ _ _; exact cv_inI (by exists "i"))
     | (show CmpV _ .NotIn _ _ _; exact cv_ninI (by exists "i")))
set_option hygiene false in
local macro_rules
  | `(tactic| exists "vs") => `(tactic| first
     | exact ovs_nil
     | (show oVs _ (_ :: _) _ _; exact ovs_cons (by exists "v") (by exists "vs")))
set_option hygiene false in
local macro_rules
  | `(tactic| exists "xs") => `(tactic| first
     | exact oxs_nil
     | (show oXs _ (_ :: _) _ _; exact oxs_cons (by exists "x") (by exists "xs")))
set_option hygiene false in
local macro_rules
  | `(tactic| exists "at") => `(tactic| first
     | rfl
     | assumption
     | exact at_last
     | (exact at_getD (by omega) (by first | omega | (simp; omega))))
set_option hygiene false in
local macro_rules
  | `(tactic| exists "v") => `(tactic| first
     | (show oV _ (.Name _ _) _ _; exists "n")
     | (show oV _ (.Constant _ _ _) _ _; first | exact ov_int | exact ov_non | exact ov_bl | exact ov_str)
     | (show oV _ (.BinOp _ _ _ _) _ _; exact ov_bin (by exists "x") (by exists "x") (by exists "b"))
     | (show oV _ (.Compare _ [_] [_] _) _ _; exact ov_cmp (by exists "x") (by exists "x") (by exists "c"))
     | (show oV _ (.UnaryOp .USub _ _) _ _; exact ov_neg (by exists "v"))
     | (show oV _ (.UnaryOp .Not _ _) _ _; exact ov_not (by exists "v"))
     | (show oV _ (.Tuple _ _ _) _ _; exact ov_tup (by exists "vs"))
     | (show oV _ (.List _ _) _ _; exact ov_lst (by exists "vs"))
     | (show oV _ (.Subscript _ (.Slice _ _ none _) _) _ _; exact ov_sl (by exists "x") (by exists "l") (by exists "cut") (by exists "cut"))
     | (show oV _ (.Subscript _ _ _) _ _; exact ov_ixT (by exists "v") (by exists "v") (by exists "at"))
     | (show oV _ (.Subscript _ _ _) _ _; exact ov_ixL (by exists "x") (by exists "l") (by exists "v") (by exists "at"))
     | (show oV _ (.Call (.Name "len" _) [_] [] _) _ _; exact ov_callB (by assumption) call_len_seq T.len (by exists "xs") (cl_len (by exists "i"))))
set_option hygiene false in
local macro_rules
  | `(tactic| exists "cut") => `(tactic| first
     | exact .no
     | exact .upto (by exists "v") (by first | omega | (simp; omega)))
set_option hygiene false in
local macro_rules
  | `(tactic| exists "t") => `(tactic| first
     | (show oT _ (.Compare _ [_] [_] _) _ _; exact ot_cmp (by exists "x") (by exists "x") (by exists "c"))
     | (show oT _ (.UnaryOp .Not _ _) _ _; exact ot_not (by exists "t"))
     | (show oT _ (.BoolOp _ _ _) _ _; exact oW.t (by exists "w"))
     | exact ot_val (by exists "v"))
set_option hygiene false in
local macro_rules
  | `(tactic| exists "w") => `(tactic| first
     | (show oW _ (.BoolOp .And [_] _) _ _; exact ow_and1 (by exists "t"))
     | (show oW _ (.BoolOp .Or [_] _) _ _; exact ow_or1 (by exists "t"))
     | (show oW _ (.BoolOp .And (_ :: _ :: _) _) _ _; exact ow_and (by exists "t") (fun h => by exists "w"))
     | (show oW _ (.BoolOp .Or (_ :: _ :: _) _) _ _; exact ow_or (by exists "t") (fun h => by exists "w")))
set_option hygiene false in
local macro_rules
  | `(tactic| exists "v") => `(tactic| first
     | (show oV _ (.Name "ON_SPANS" _) _ _; exact ov_gl (by assumption) mo.on)
     | (show oV _ (.Name "SIZES" _) _ _; exact ov_gl (by assumption) mo.sz)
     | (show oV _ (.Subscript (.Name "SIZES" _) _ _) _ _; exact ov_getK (by assumption) mo.kd ek (by exists "v") (by exists "v")))
set_option hygiene false in
local macro_rules
  | `(tactic| exists "c") => `(tactic| first
     | (show CmpV _ .In _ (.v (.adr _)) _; exact cv_inKT (by assumption) mo.ko)
     | (show CmpV _ .NotIn _ (.v (.adr _)) _; first | exact cv_ninKT (by assumption) mo.ko | exact cv_ninK (by assumption) mo.kd ek))
set_option hygiene false in
local macro_rules
  | `(tactic| exists "hr") => `(tactic| first | exact hr | exact hr.mono (by decide) | (rw [eA]; first | exact hr | exact hr.mono (by decide)) | (rw [eA2, eA]; first | exact hr | exact hr.mono (by decide)))
set_option hygiene false in
local macro_rules
  | `(tactic| exists "c") => `(tactic| first
     | (show CmpV _ .In (.v (.str _)) (.v (.tup _)) _; exact cv_inS (zs := ["cover", "raise", "repeat"]) .tup))
set_option hygiene false in
local macro_rules
  | `(tactic| exists "s") => `(tactic| first
     | show oSs _ _ _ [_] _
     | show oSs _ _ _ [_, _] _
     | show oSs _ _ _ [_, _, _] _
     | show oSs _ _ _ [_, _, _, _] _
     | show oSs _ _ _ [_, _, _, _, _] _
     | show oSs _ _ _ [_, _, _, _, _, _] _
     | show oSs _ _ _ [_, _, _, _, _, _, _] _
     | show oSs _ _ _ [_, _, _, _, _, _, _, _] _
     | show oSs _ _ _ [_, _, _, _, _, _, _, _, _] _
     | show oSs _ _ _ [_, _, _, _, _, _, _, _, _, _] _
     | show oSs _ _ _ [_, _, _, _, _, _, _, _, _, _, _] _
     | show oSs _ _ _ [_, _, _, _, _, _, _, _, _, _, _, _] _
     | show oSs _ _ _ [_, _, _, _, _, _, _, _, _, _, _, _, _] _
     | show oSs _ _ _ [_, _, _, _, _, _, _, _, _, _, _, _, _, _] _
     | show oSs _ _ _ [_, _, _, _, _, _, _, _, _, _, _, _, _, _, _] _
     | show oSs _ _ _ [_, _, _, _, _, _, _, _, _, _, _, _, _, _, _, _] _
     | show oSs _ _ _ [_, _, _, _, _, _, _, _, _, _, _, _, _, _, _, _, _] _
     | show oSs _ _ _ [_, _, _, _, _, _, _, _, _, _, _, _, _, _, _, _, _, _] _
     | show oSs _ _ _ [_, _, _, _, _, _, _, _, _, _, _, _, _, _, _, _, _, _, _] _
     | show oSs _ _ _ [_, _, _, _, _, _, _, _, _, _, _, _, _, _, _, _, _, _, _, _] _
     | show oSs _ _ _ [_, _, _, _, _, _, _, _, _, _, _, _, _, _, _, _, _, _, _, _, _] _
     | show oSs _ _ _ [_, _, _, _, _, _, _, _, _, _, _, _, _, _, _, _, _, _, _, _, _, _] _
     | show oSs _ _ _ [_, _, _, _, _, _, _, _, _, _, _, _, _, _, _, _, _, _, _, _, _, _, _] _
     | show oSs _ _ _ [_, _, _, _, _, _, _, _, _, _, _, _, _, _, _, _, _, _, _, _, _, _, _, _] _)
set_option hygiene false in
local macro_rules
  | `(tactic| exists "sa") => `(tactic| first
     | show aSs _ _ _ [_] _
     | show aSs _ _ _ [_, _] _
     | show aSs _ _ _ [_, _, _] _
     | show aSs _ _ _ [_, _, _, _] _
     | show aSs _ _ _ [_, _, _, _, _] _
     | show aSs _ _ _ [_, _, _, _, _, _] _
     | show aSs _ _ _ [_, _, _, _, _, _, _] _
     | show aSs _ _ _ [_, _, _, _, _, _, _, _] _
     | show aSs _ _ _ [_, _, _, _, _, _, _, _, _] _
     | show aSs _ _ _ [_, _, _, _, _, _, _, _, _, _] _
     | show aSs _ _ _ [_, _, _, _, _, _, _, _, _, _, _] _
     | show aSs _ _ _ [_, _, _, _, _, _, _, _, _, _, _, _] _
     | show aSs _ _ _ [_, _, _, _, _, _, _, _, _, _, _, _, _] _
     | show aSs _ _ _ [_, _, _, _, _, _, _, _, _, _, _, _, _, _] _
     | show aSs _ _ _ [_, _, _, _, _, _, _, _, _, _, _, _, _, _, _] _
     | show aSs _ _ _ [_, _, _, _, _, _, _, _, _, _, _, _, _, _, _, _] _
     | show aSs _ _ _ [_, _, _, _, _, _, _, _, _, _, _, _, _, _, _, _, _] _
     | show aSs _ _ _ [_, _, _, _, _, _, _, _, _, _, _, _, _, _, _, _, _, _] _
     | show aSs _ _ _ [_, _, _, _, _, _, _, _, _, _, _, _, _, _, _, _, _, _, _] _
     | show aSs _ _ _ [_, _, _, _, _, _, _, _, _, _, _, _, _, _, _, _, _, _, _, _] _
     | show aSs _ _ _ [_, _, _, _, _, _, _, _, _, _, _, _, _, _, _, _, _, _, _, _, _] _
     | show aSs _ _ _ [_, _, _, _, _, _, _, _, _, _, _, _, _, _, _, _, _, _, _, _, _, _] _
     | show aSs _ _ _ [_, _, _, _, _, _, _, _, _, _, _, _, _, _, _, _, _, _, _, _, _, _, _] _
     | show aSs _ _ _ [_, _, _, _, _, _, _, _, _, _, _, _, _, _, _, _, _, _, _, _, _, _, _, _] _)
def top (i : Nat) : Stmt := PySem.Challenge.pw_inforce_k07_lists_asked_by_turns.main.body.getD i (.Pass ⟨0, 0, 0, 0⟩)
abbrev s_PriceError___init__ : Stmt := inClass (top 1) 0
abbrev s_told_on : Stmt := top 5
abbrev s_PriceList___init__ : Stmt := inClass (top 6) 0
abbrev s_PriceList_entries : Stmt := inClass (top 6) 1
abbrev s_PriceList_changes : Stmt := inClass (top 6) 2
abbrev s_PriceList_alike : Stmt := inClass (top 6) 3
abbrev s_PriceList_first_unlike : Stmt := inClass (top 6) 4
abbrev s_PriceList___getitem__ : Stmt := inClass (top 6) 5
abbrev s_PriceList___iter__ : Stmt := inClass (top 6) 6
abbrev s_PriceList___len__ : Stmt := inClass (top 6) 7
abbrev s_PriceList___eq__ : Stmt := inClass (top 6) 8
abbrev s_law_purse : Stmt := top 8
abbrev s_law_coin : Stmt := top 9
abbrev s_law_price_drawn : Stmt := top 10
abbrev s_law_rows_drawn : Stmt := top 11
abbrev s_law_any_rows : Stmt := top 12
abbrev s_law_sweep : Stmt := top 13
abbrev s_law_changes : Stmt := top 14
abbrev s_law_first_apart : Stmt := top 15
abbrev s_law_near_rows : Stmt := top 16
abbrev s_law_told : Stmt := top 17
abbrev s_law_held_right : Stmt := top 18
abbrev s_law_keep : Stmt := top 19
abbrev s_law_last : Stmt := top 20
abbrev s_law_near : Stmt := top 21
abbrev s_law_owed : Stmt := top 22
abbrev s_law_answer : Stmt := top 23
abbrev s_law_right : Stmt := top 24
abbrev s_law : Stmt := top 25
theorem sc_PriceError___init__ : FnScope ["self", "value"] ["self", "value"] (defScope s_PriceError___init__) := ⟨rfl, rfl, rfl, by decide +kernel, rfl, by decide +kernel, by decide +kernel⟩
theorem sc_told_on : FnScope ["kept", "day", "found", "known", "price"] ["kept", "day"] (defScope s_told_on) := ⟨rfl, rfl, rfl, by decide +kernel, rfl, by decide +kernel, by decide +kernel⟩
theorem sc_PriceList___init__ : FnScope ["self", "entries", "book", "day", "price"] ["self", "entries"] (defScope s_PriceList___init__) := ⟨rfl, rfl, rfl, by decide +kernel, rfl, by decide +kernel, by decide +kernel⟩
theorem sc_PriceList_entries : FnScope ["self"] ["self"] (defScope s_PriceList_entries) := ⟨rfl, rfl, rfl, by decide +kernel, rfl, by decide +kernel, by decide +kernel⟩
theorem sc_PriceList_changes : FnScope ["self", "found", "last", "day", "price"] ["self"] (defScope s_PriceList_changes) := ⟨rfl, rfl, rfl, by decide +kernel, rfl, by decide +kernel, by decide +kernel⟩
theorem sc_PriceList_alike : FnScope ["self", "other"] ["self", "other"] (defScope s_PriceList_alike) := ⟨rfl, rfl, rfl, by decide +kernel, rfl, by decide +kernel, by decide +kernel⟩
theorem sc_PriceList_first_unlike : FnScope ["self", "other", "day", "pair"] ["self", "other"] (defScope s_PriceList_first_unlike) := ⟨rfl, rfl, rfl, by decide +kernel, rfl, by decide +kernel, by decide +kernel⟩
theorem sc_PriceList___getitem__ : FnScope ["self", "at"] ["self", "at"] (defScope s_PriceList___getitem__) := ⟨rfl, rfl, rfl, by decide +kernel, rfl, by decide +kernel, by decide +kernel⟩
theorem sc_PriceList___iter__ : FnScope ["self"] ["self"] (defScope s_PriceList___iter__) := ⟨rfl, rfl, rfl, by decide +kernel, rfl, by decide +kernel, by decide +kernel⟩
theorem sc_PriceList___len__ : FnScope ["self"] ["self"] (defScope s_PriceList___len__) := ⟨rfl, rfl, rfl, by decide +kernel, rfl, by decide +kernel, by decide +kernel⟩
theorem sc_PriceList___eq__ : FnScope ["self", "other"] ["self", "other"] (defScope s_PriceList___eq__) := ⟨rfl, rfl, rfl, by decide +kernel, rfl, by decide +kernel, by decide +kernel⟩
theorem sc_law_purse : FnScope ["script", "place", "cell"] ["script", "place"] (defScope s_law_purse) := ⟨rfl, rfl, rfl, by decide +kernel, rfl, by decide +kernel, by decide +kernel⟩
theorem sc_law_coin : FnScope ["purse", "many", "drawn", "stirred"] ["purse", "many"] (defScope s_law_coin) := ⟨rfl, rfl, rfl, by decide +kernel, rfl, by decide +kernel, by decide +kernel⟩
theorem sc_law_price_drawn : FnScope ["purse", "way"] ["purse"] (defScope s_law_price_drawn) := ⟨rfl, rfl, rfl, by decide +kernel, rfl, by decide +kernel, by decide +kernel⟩
theorem sc_law_rows_drawn : FnScope ["purse", "most", "last", "found", "known", "turn", "spot"] ["purse", "most", "last"] (defScope s_law_rows_drawn) := ⟨rfl, rfl, rfl, by decide +kernel, rfl, by decide +kernel, by decide +kernel⟩
theorem sc_law_any_rows : FnScope ["purse", "size", "step", "off", "at"] ["purse"] (defScope s_law_any_rows) := ⟨rfl, rfl, rfl, by decide +kernel, rfl, by decide +kernel, by decide +kernel⟩
theorem sc_law_sweep : FnScope ["rows", "last", "book", "held", "found", "spot"] ["rows", "last"] (defScope s_law_sweep) := ⟨rfl, rfl, rfl, by decide +kernel, rfl, by decide +kernel, by decide +kernel⟩
theorem sc_law_changes : FnScope ["rows", "last", "sweep", "spot"] ["rows", "last"] (defScope s_law_changes) := ⟨rfl, rfl, rfl, by decide +kernel, rfl, by decide +kernel, by decide +kernel⟩
theorem sc_law_first_apart : FnScope ["rows", "lines", "last", "left", "right", "spot"] ["rows", "lines", "last"] (defScope s_law_first_apart) := ⟨rfl, rfl, rfl, by decide +kernel, rfl, by decide +kernel, by decide +kernel⟩
theorem sc_law_near_rows : FnScope ["purse", "rows", "last", "sweep", "way", "found", "known", "pair", "free", "spot", "turn", "at", "price"] ["purse", "rows", "last"] (defScope s_law_near_rows) := ⟨rfl, rfl, rfl, by decide +kernel, rfl, by decide +kernel, by decide +kernel⟩
theorem sc_law_told : FnScope ["rows", "spot", "best", "pair"] ["rows", "spot"] (defScope s_law_told) := ⟨rfl, rfl, rfl, by decide +kernel, rfl, by decide +kernel, by decide +kernel⟩
theorem sc_law_held_right : FnScope ["held", "pair"] ["held"] (defScope s_law_held_right) := ⟨rfl, rfl, rfl, by decide +kernel, rfl, by decide +kernel, by decide +kernel⟩
theorem sc_law_keep : FnScope ["purse", "held", "told"] ["purse", "held", "told"] (defScope s_law_keep) := ⟨rfl, rfl, rfl, by decide +kernel, rfl, by decide +kernel, by decide +kernel⟩
theorem sc_law_last : FnScope ["rows", "pair"] ["rows"] (defScope s_law_last) := ⟨rfl, rfl, rfl, by decide +kernel, rfl, by decide +kernel, by decide +kernel⟩
theorem sc_law_near : FnScope ["purse", "rows", "last"] ["purse", "rows"] (defScope s_law_near) := ⟨rfl, rfl, rfl, by decide +kernel, rfl, by decide +kernel, by decide +kernel⟩
theorem sc_law_owed : FnScope ["way", "rows", "lines", "spot"] ["way", "rows", "lines", "spot"] (defScope s_law_owed) := ⟨rfl, rfl, rfl, by decide +kernel, rfl, by decide +kernel, by decide +kernel⟩
theorem sc_law_answer : FnScope ["way", "one_list", "two_list", "spot"] ["way", "one_list", "two_list", "spot"] (defScope s_law_answer) := ⟨rfl, rfl, rfl, by decide +kernel, rfl, by decide +kernel, by decide +kernel⟩
theorem sc_law_right : FnScope ["purse", "rows", "plans", "made", "held", "plan", "turn", "way", "spot", "at", "to", "told"] ["purse"] (defScope s_law_right) := ⟨rfl, rfl, rfl, by decide +kernel, rfl, by decide +kernel, by decide +kernel⟩
theorem sc_law : FnScope ["script", "spot", "purse"] ["script"] (defScope s_law) := ⟨rfl, rfl, rfl, by decide +kernel, rfl, by decide +kernel, by decide +kernel⟩
structure Txt (G : Gx) : Prop where
  TypeError : G.mg "TypeError" = none
  ValueError : G.mg "ValueError" = none
  abs : G.mg "abs" = none
  dict : G.mg "dict" = none
  int : G.mg "int" = none
  isinstance : G.mg "isinstance" = none
  len : G.mg "len" = none
  list : G.mg "list" = none
  max : G.mg "max" = none
  min : G.mg "min" = none
  property : G.mg "property" = none
  range : G.mg "range" = none
  repr : G.mg "repr" = none
  sorted : G.mg "sorted" = none
  tuple : G.mg "tuple" = none
theorem sc_coin : FnScope ["purse", "many", "drawn", "stirred"] ["purse", "many"] (defScope s_law_coin) := ⟨rfl, rfl, rfl, by decide +kernel, rfl, by decide +kernel, by decide +kernel⟩
theorem pow100 {i : Int} (h0 : 0 ≤ i) (h1 : i < 1267650600228229401496703205376) : i.natAbs < 2 ^ 1000 := Nat.lt_of_lt_of_le (show i.natAbs < 1267650600228229401496703205376 by omega) (by decide)
theorem ok_coin {G : Gx} {f : Addr} {fd : FuncData} (F : L2.Fun G.K "_law_coin" "_law_coin" s_law_coin f fd) (T : Txt G) : FnG G CX0 1 f fd ["purse", "many"] (toSp (spDraw 1 SCoin)) := by
  refine aok F sc_coin (fun ds M Q E h => ?_) (fun X g hr ds M Q E h => ?_)
  · obtain ⟨p, n, r, rfl, _, _, m, rfl, _⟩ := h; rfl
  · obtain ⟨p, n, r, rfl, ⟨a, b, c, hp, ha, hb, hb2, hc, hc2⟩, hn, k, rfl, hk1, hk2, q⟩ := h
    have gf := g.toXF
    show aSs X _ _ [some (.adr p), some (.int k), none, none] M
    refine as_cons (as_ifP (atv_cmp op_gt (av_ix ix_list (av_name gf 0) av_int (p_ixM hp (show atI _ _ = some (D.int a) from rfl))) av_int p_gt) (fun h1 => ?_) (fun h1 => ?_))
    · refine as_cons (as_setV g 2 (av_op op_mod (av_callTy gf call_int1 T.int (by rfl) (aav_cons (av_ix ix_list (av_name gf 0) av_int (p_ixM hp (show atI _ _ = some (D.int a) from rfl))) aav_nil) c_int) (av_name gf 1) (p_mod (by omega))) ?_)
      show aSs X _ _ [some (.adr p), some (.int k), some (.int (a % k)), none] M
      refine as_cons (as_asg (ev (av_op op_fdiv (av_ix ix_list (av_name gf 0) av_int (p_ixM hp (show atI _ _ = some (D.int a) from rfl))) (av_name gf 1) (p_fdiv ⟨by omega, by omega⟩)) (ag_setL (ev (av_name gf 0) (ev av_int ⟨p, _, _, 0, rfl, rfl, hp, rfl, ?_⟩)))))
      show aSs X _ _ [some (.adr p), some (.int k), some (.int (a % k)), none] (updM M p (.lst [.int (a / k), .int b, .int c]))
      refine as_one (as_ret (ev (av_name gf 2) ?_))
      refine q _ (Int.emod_nonneg _ (by omega)) (Int.emod_lt_of_pos _ (by omega)) _ ⟨_, _, _, updM_same, Int.ediv_nonneg ha (by omega), hb, hb2, hc, by omega⟩ off_upd
    · refine as_nil ?_
      show aSs X _ _ [some (.adr p), some (.int k), none, none] M
      refine as_cons (as_asg (ev (av_op op_add (av_ix ix_list (av_name gf 0) av_int (p_ixM hp (show atI _ _ = some (D.int c) from rfl))) av_int p_add) (ag_setL (ev (av_name gf 0) (ev av_int ⟨p, _, _, 2, rfl, rfl, hp, rfl, ?_⟩)))))
      have hp1 : updM M p (.lst [.int a, .int b, .int (c + 1)]) p = some (.lst [.int a, .int b, .int (c + 1)]) := updM_same
      show aSs X _ _ [some (.adr p), some (.int k), none, none] (updM M p (.lst [.int a, .int b, .int (c + 1)]))
      refine as_cons (as_setV g 3 (av_op op_mod (av_op op_powW (av_callTy gf call_int1 T.int (by rfl) (aav_cons (av_op op_add (av_ix ix_list (av_name gf 0) av_int (p_ixM hp1 (show atI _ _ = some (D.int b) from rfl))) (av_op op_mul av_int (av_ix ix_list (av_name gf 0) av_int (p_ixM hp1 (show atI _ _ = some (D.int (c + 1)) from rfl))) (p_mul (.inl (by decide)))) p_add) aav_nil) c_int) av_int (p_powW ⟨by decide, by decide, pow100 (by omega) (by omega)⟩)) (av_op op_add (av_op op_pow av_int av_int (pr_I ⟨by decide, by decide, by decide⟩ fun _ => .int _)) av_int p_add) (p_mod (by decide))) ?_)
      show aSs X _ _ [some (.adr p), some (.int k), none, some (.int ((b + 2038074743 * (c + 1)) ^ (3 : Int).toNat % ((10 : Int) ^ (25 : Int).toNat + 13)))] _
      have s0 := Int.emod_nonneg ((b + 2038074743 * (c + 1)) ^ (3 : Int).toNat) (show (10 : Int) ^ (25 : Int).toNat + 13 ≠ 0 by decide)
      have s1 : (b + 2038074743 * (c + 1)) ^ (3 : Int).toNat % ((10 : Int) ^ (25 : Int).toNat + 13) < 10000000000000000000000013 := Int.emod_lt_of_pos _ (by decide)
      generalize (b + 2038074743 * (c + 1)) ^ (3 : Int).toNat % ((10 : Int) ^ (25 : Int).toNat + 13) = s at s0 s1 ⊢
      refine as_cons (as_setV g 3 (av_op op_mod (av_op op_powW (av_callTy gf call_int1 T.int (by rfl) (aav_cons (av_op op_add (av_name gf 3) (av_op op_mul av_int (av_ix ix_list (av_name gf 0) av_int (p_ixM hp1 (show atI _ _ = some (D.int (c + 1)) from rfl))) (p_mul (.inl (by decide)))) p_add) aav_nil) c_int) av_int (p_powW ⟨by decide, by decide, pow100 (by omega) (by omega)⟩)) (av_op op_add (av_op op_pow av_int av_int (pr_I ⟨by decide, by decide, by decide⟩ fun _ => .int _)) av_int p_add) (p_mod (by decide))) ?_)
      show aSs X _ _ [some (.adr p), some (.int k), none, some (.int ((s + 982451653 * (c + 1)) ^ (2 : Int).toNat % ((10 : Int) ^ (24 : Int).toNat + 7)))] _
      generalize (s + 982451653 * (c + 1)) ^ (2 : Int).toNat % ((10 : Int) ^ (24 : Int).toNat + 7) = t
      refine as_one (as_ret (ev (av_op op_mod (av_callTy gf call_int1 T.int (by rfl) (aav_cons (av_op op_fdiv (av_name gf 3) av_int (p_fdiv ⟨by decide, by decide⟩)) aav_nil) c_int) (av_name gf 1) (p_mod (by omega))) ?_))
      exact q _ (Int.emod_nonneg _ (by omega)) (Int.emod_lt_of_pos _ (by omega)) _ ⟨_, _, _, updM_same, ha, hb, hb2, by omega, by omega⟩ off_upd
theorem sc_purse : FnScope ["script", "place", "cell"] ["script", "place"] (defScope s_law_purse) := ⟨rfl, rfl, rfl, by decide +kernel, rfl, by decide +kernel, by decide +kernel⟩
theorem ok_purse {G : Gx} {f : Addr} {fd : FuncData} (F : L2.Fun G.K "_law_purse" "_law_purse" s_law_purse f fd) (T : Txt G) : FnG G CX0 1 f fd ["script", "place"] (toSp (spPurse G.K)) := by
  refine aok F sc_purse (fun ds M Q E h => ?_) (fun X g hr ds M Q E h => ?_)
  · obtain ⟨a, ns, i, rfl, _⟩ := h; rfl
  · obtain ⟨a, ns, i, rfl, hs, hl, h0, h1, q⟩ := h
    rw [← g.K] at hs
    have gf := g.toXF
    show aSs X _ _ [some (.adr a), some (.int i), none] M
    have body : ∀ c : Int, aSs X [(defBody s_law_purse).getD 1 (.Pass ⟨0, 0, 0, 0⟩)] { nx := fun _ M' => Q .non M', rt := Q } [some (.adr a), some (.int i), some (.int c)] M := fun c => by
      refine as_one (as_ret (ae_lstM (ea (aav_cons (av_callB gf (call_max2 g.calm) T.max (by rfl) (aav_cons av_int (aav_cons (av_op op_sub (av_callB gf call_abs T.abs (by rfl) (aav_cons (av_name gf 2) aav_nil) c_abs) (av_op op_pow av_int av_int (pr_I ⟨by decide, by decide, by decide⟩ fun _ => .int _)) p_sub) aav_nil)) c_max2)
        (aav_cons (av_op op_mod (av_callTy gf call_int1 T.int (by rfl) (aav_cons (av_op op_add (av_op op_add (av_op op_mul (av_name gf 2) av_int (p_mul (.inr (by decide)))) (av_op op_mul (av_name gf 1) av_int (p_mul (.inr (by decide)))) p_add) av_int p_add) aav_nil) c_int) (av_op op_add (av_op op_pow av_int av_int (pr_I ⟨by decide, by decide, by decide⟩ fun _ => .int _)) av_int p_add) (p_mod (by decide)))
        (aav_cons av_int aav_nil))) ⟨by show 3 ≤ 10000; decide, fun p hp => ?_⟩)))
      refine q p _ hp ⟨_, _, _, updM_same, ?_, Int.emod_nonneg _ (by decide), Int.emod_lt_of_pos _ (by decide), by omega, by omega⟩ off_upd
      split <;> omega
    refine as_cons (as_setV g 2 (d := .int (if i < ns.length then ns.getD i.toNat 0 else 0)) (aV.to (av_if (d1 := .int (ns.getD i.toNat 0)) (atv_cmp op_lt (av_name gf 1) (av_callB gf call_len_seq T.len (by rfl) (aav_cons (av_name gf 0) aav_nil) (c_lenS hs)) p_lt) (fun h => ?_) fun _ => av_int) ?_) (body _))
    · have h := of_decide_eq_true h
      refine av_ix ix_list (av_name gf 0) (av_name gf 1) (p_ixS hs ?_)
      have hlt : i.toNat < ns.length := by omega
      have z := atI_nat (xs := ns) (j := i.toNat) (v := ns[i.toNat]) (by simp [hlt])
      rw [show ((i.toNat : Nat) : Int) = i by omega] at z
      rw [z]
      simp [hlt]
    · by_cases h : i < ns.length
      · rw [if_pos (decide_eq_true h), if_pos h]
      · rw [if_neg (by simp; omega), if_neg h]
/-! deeds -/
inductive Deed where
  | put (d : Int) (p : Option Int) | take (d : Int) | stop (d : Int) | cover (a b : Int) (p : Option Int) | rais (a b k : Int) | rep (a b c : Int)
  deriving DecidableEq
abbrev dDeed : Deed → D
  | .put d p => .tup [.str "put", .int d, dP p]
  | .take d => .tup [.str "take", .int d]
  | .stop d => .tup [.str "end", .int d]
  | .cover a b p => .tup [.str "cover", .int a, .int b, dP p]
  | .rais a b k => .tup [.str "raise", .int a, .int b, .int k]
  | .rep a b c => .tup [.str "repeat", .int a, .int b, .int c]
abbrev dDeeds (l : List Deed) : D := .lst (l.map dDeed)
/-- a price of at most m to either side -/
def PrB (m : Int) (q : Option Int) : Prop := ∀ i, q = some i → -m ≤ i ∧ i ≤ m
/-- a deed on days of which ok holds -/
def DeedB (ok : Int → Prop) : Deed → Prop
  | .put d p => ok d ∧ PrB 9999 p
  | .take d => ok d
  | .stop d => ok d
  | .cover a b p => ok a ∧ ok b ∧ a < b ∧ PrB 9999 p
  | .rais a b k => ok a ∧ ok b ∧ a < b ∧ -9999 ≤ k ∧ k ≤ 9999
  | .rep a b c => ok a ∧ ok b ∧ ok c ∧ a < b
theorem DeedB.imp {ok ok' : Int → Prop} (h : ∀ d, ok d → ok' d) : ∀ {t : Deed}, DeedB ok t → DeedB ok' t
  | .put d p, z => ⟨h _ z.1, z.2⟩
  | .take d, z => h _ z
  | .stop d, z => h _ z
  | .cover a b p, z => ⟨h _ z.1, h _ z.2.1, z.2.2⟩
  | .rais a b k, z => ⟨h _ z.1, h _ z.2.1, z.2.2⟩
  | .rep a b c, z => ⟨h _ z.1, h _ z.2.1, h _ z.2.2.1, z.2.2.2⟩
theorem prB_none {m : Int} : PrB m none := fun _ h => (nomatch h)
theorem prB_some {m i : Int} (h1 : -m ≤ i) (h2 : i ≤ m) : PrB m (some i) := fun _ h => by cases h; exact ⟨h1, h2⟩
/-- a pool of ascending days -/
structure Pool (most last : Int) (l : List Int) : Prop where
  two : 2 ≤ l.length
  len : (l.length : Int) ≤ most
  asc : l.Pairwise (· < ·)
  day : ∀ x ∈ l, 0 ≤ x ∧ x ≤ last
theorem Pool.mono {m m' k k' : Int} {l : List Int} (h : Pool m k l) (a : m ≤ m') (b : k ≤ k') : Pool m' k' l := ⟨h.two, by have := h.len; omega, h.asc, fun x hx => by have := h.day x hx; omega⟩
theorem Pool.lt {m k : Int} {l : List Int} (h : Pool m k l) {i j : Nat} (hij : i < j) (hj : j < l.length) : l[i]'(by omega) < l[j] := List.pairwise_iff_getElem.mp h.asc i j (by omega) hj hij
/-- items of lists of ints -/
theorem at_last {α : Type} {f : α → D} {l : List α} {y : α} : atI ((l ++ [y]).map f) (-1) = some (f y) := by
  rw [List.map_append]
  unfold atI ixN
  simp
  rw [if_pos (by omega), show (-1 + ((l.length : Int) + 1)).toNat = (l.map f).length by simp; omega]
  simp
theorem at_int {l : List Int} {i : Int} (h0 : 0 ≤ i) (h1 : i < l.length) : atI (l.map D.int) i = some (.int (l[i.toNat]'(by omega))) := by
  have z := atD (f := D.int) (xs := l) (j := i.toNat) (y := l[i.toNat]'(by omega)) (by simp)
  rw [show ((i.toNat : Nat) : Int) = i by omega] at z
  exact z
theorem at_getD {α : Type} {f : α → D} {l : List α} {i : Int} (h0 : 0 ≤ i) (h1 : i < l.length) : atI (l.map f) i = some (f (l[i.toNat]'(by omega))) := by
  have z := atD (f := f) (xs := l) (j := i.toNat) (y := l[i.toNat]'(by omega)) (by simp)
  rw [show ((i.toNat : Nat) : Int) = i by omega] at z
  exact z
def SPriceD : List D → (D → Prop) → Prop := fun rest k => rest = [] ∧ ∀ q, PrB 9999 q → k (dP q)
theorem mon_priceD : MonS SPriceD := ⟨fun f ⟨a, b⟩ => ⟨a, fun q h => f _ (b q h)⟩⟩
def SRaiseN : List D → (D → Prop) → Prop := fun rest k => rest = [] ∧ ∀ i : Int, -4999 ≤ i → i ≤ 4999 → k (.int i)
theorem mon_raiseN : MonS SRaiseN := ⟨fun f ⟨a, b⟩ => ⟨a, fun q h h' => f _ (b q h h')⟩⟩
def SSomeDays : List D → (D → Prop) → Prop := fun rest k => ∃ m : Int, rest = [.int m] ∧ 2 ≤ m ∧ m ≤ 8 ∧ ∀ l, Pool m (3 * m - 1) l → k (.lst (l.map D.int))
theorem mon_someDays : MonS SSomeDays := ⟨fun f ⟨m, a, b, c, h⟩ => ⟨m, a, b, c, fun l hl => f _ (h l hl)⟩⟩
def SDeedOn : List D → (D → Prop) → Prop := fun rest k => ∃ (l : List Int) (m L : Int), rest = [.lst (l.map D.int)] ∧ Pool m L l ∧ m ≤ 1000 ∧ ∀ t, DeedB (· ∈ l) t → k (dDeed t)
theorem mon_deedOn : MonS SDeedOn := ⟨fun f ⟨l, m, L, a, b, c, h⟩ => ⟨l, m, L, a, b, c, fun t ht => f _ (h t ht)⟩⟩
theorem rgD0 (k : Nat) : rgD 0 k = ((List.range k).map fun (i : Nat) => (i : Int)).map D.int := by
  unfold rgD
  rw [List.map_map]
  exact List.map_congr_left fun i _ => by show D.int (0 + (i : Int)) = D.int (i : Int); rw [Int.zero_add]
theorem rgD1 (a : Int) (k : Nat) : rgD a k = ((List.range k).map fun (i : Nat) => a + (i : Int)).map D.int := by
  unfold rgD
  rw [List.map_map]
  rfl
def SPriceB : List D → (D → Prop) → Prop := fun rest k => rest = [] ∧ ∀ q, PrB 9999 q → k (dP q)
theorem mon_priceB : MonS SPriceB := ⟨fun f ⟨h, q⟩ => ⟨h, fun p hp => f _ (q p hp)⟩⟩
theorem ok_priceB {G : Gx} {f : Addr} {fd : FuncData} (F : L2.Fun G.K "_law_price_drawn" "_law_price_drawn" s_law_price_drawn f fd) (T : Txt G) (FC : Fn G 1 "_law_coin" (spDraw 1 SCoin)) : FnG G CX0 2 f fd ["purse"] (toSp (spDraw 2 SPriceB)) := by
  refine ok_draw F sc_law_price_drawn (fun ds kk h => by obtain ⟨rfl, _⟩ := h; rfl) fun X g hr ds kk n n0 hn h => ?_
  obtain ⟨rfl, q⟩ := h
  have gf := g.toXF
  refine os_cons (os_set g 1 (oe_coin gf FC hr 0 ov_int (by decide) (by omega) fun w w0 w1 => ?_))
  exists "s"
  refine os_cons (os_ifP (by exists "t") (fun h => os_one (os_retV ov_non ⟨by omega, _, rfl, q none prB_none⟩)) (fun h => os_nil ?_))
  exists "s"
  exact os_one (os_ret (oe_ifT (k := decide (w = 1)) (by exists "t") (fun _ => oe_bin (oe_coin gf FC hr 0 ov_int (by decide) (by omega) fun c c0 c1 => oV.ev ov_int ⟨_, _, _, rfl, rfl, bv_sub, by omega, _, rfl, q (some (c - 9999)) (prB_some (by omega) (by omega))⟩)) (fun _ => oe_bin (oe_coin gf FC hr 0 ov_int (by decide) (by omega) fun c c0 c1 => oV.ev ov_int ⟨_, _, _, rfl, rfl, bv_add, by omega, _, rfl, q (some (c + 4)) (prB_some (by omega) (by omega))⟩))))
theorem prB_okP {p : Option Int} (h : PrB 9999 p) : OkP p := fun i e => by have := h i e; omega
/-- drawn rows, a new list -/
def spRowsN : ASp := fun ds M Q _ => ∃ (p : Addr) (n most last : Int), ds = [.adr p, .int most, .int last] ∧ PurseAt M p n ∧ n + 121 < 18446744073709551616 ∧ 0 ≤ most ∧ most ≤ 40 ∧ 0 ≤ last ∧ last < 1000000 ∧ ∀ (l : List Ent) (M' : AHp) (q : Addr), RowsOk most last l → (∀ x ∈ l, PrB 9999 x.2) → PurseAt M' p (n + 121) → Off p M M' → M q = none → M' q = some (.lst (l.map dE)) → Q (.adr q) M'
theorem up_rowsN : Up spRowsN := ⟨fun f _ ⟨p, n, m, l, h, h1, h2, h3, h4, h5, h6, q⟩ => ⟨p, n, m, l, h, h1, h2, h3, h4, h5, h6, fun l M' a b c d e i j => f _ _ (q l M' a b c d e i j)⟩⟩
theorem ok_rowsN {G : Gx} {f : Addr} {fd : FuncData} (F : L2.Fun G.K "_law_rows_drawn" "_law_rows_drawn" s_law_rows_drawn f fd) (T : Txt G) (FC : Fn G 1 "_law_coin" (spDraw 1 SCoin)) (FP : Fn G 2 "_law_price_drawn" (spDraw 2 SPriceB)) : FnG G CX0 3 f fd ["purse", "most", "last"] (toSp spRowsN) := by
  refine aok F sc_law_rows_drawn (fun ds M Q E h => ?_) (fun X g hr ds M Q E h => ?_)
  · obtain ⟨p, n, m, l, rfl, _⟩ := h; rfl
  · obtain ⟨p, n, most, last, rfl, hp, hn, h1, h2, h3, h4, q⟩ := h
    have gf := g.toXF
    show aSs X _ _ [some (.adr p), some (.int most), some (.int last), none, none, none, none] M
    refine as_cons (as_par g 3 4 (aa_cons (ae_lstM (ea aav_nil ⟨by decide, fun qf hf => aa_cons (ae_dictM fun qk hk => aa_nil ⟨_, _, rfl, ?_⟩)⟩))))
    have npf := hp.ne hf
    have nfk : qf ≠ qk := fun z => by rw [z, updM_same] at hk; cases hk
    have hk0 : M qk = none := by rw [updM_ne nfk.symm] at hk; exact hk
    have npk := hp.ne hk0
    show aSs X _ _ [some (.adr p), some (.int most), some (.int last), some (.adr qf), some (.adr qk), none, none] _
    refine as_cons (as_forR gf T.range (ae_coin gf FC (hr.mono (by decide)) (av_name gf 0) (av_op op_add (av_name gf 1) av_int p_add) ((hp.new hf).new hk) (by omega) (by omega) fun t M1 t0 t1 hp1 of1 => ⟨t, rfl, by omega, by omega, ?_⟩))
    let J : List D → DE → AHp → Prop := fun ds δ' M' => ∃ (l : List Ent) (kvs : List (Key × D)) (t5 t6 : Option D), δ' = [some (.adr p), some (.int most), some (.int last), some (.adr qf), some (.adr qk), t5, t6] ∧ PurseAt M' p (n + 121 - 3 * (ds.length : Int)) ∧ Off p M M' ∧
      M' qf = some (.lst (l.map dE)) ∧ M' qk = some (.dK kvs) ∧ (kvs.length : Int) + ds.length ≤ 40 ∧ (∀ i, (lookK kvs (.inl i)).isSome = decide (i ∈ l.map (·.1))) ∧ RowsOk (most - ds.length) last l ∧ (∀ x ∈ l, PrB 9999 x.2) ∧ (ds.length : Int) ≤ most
    refine al_inv J (fun d ds δ' M' hJ => ?_) (fun δ' M' hJ => ?_) ?_
    · obtain ⟨l, kvs, t5, t6, rfl, hp', of', hf', hk', hkl, hin, ok, hB, hl⟩ := hJ
      rw [List.length_cons] at hp' hkl ok hl
      have budget : (ds.length : Int) + 1 ≤ 40 := by omega
      refine ag_name g 5 ?_
      show aSs X _ _ [some (.adr p), some (.int most), some (.int last), some (.adr qf), some (.adr qk), some d, t6] M'
      refine as_cons (as_set g 6 (ae_coin gf FC (hr.mono (by decide)) (av_name gf 0) (av_op op_add (av_name gf 2) av_int p_add) hp' (by omega) (by omega) fun r M2 r0 r1 hp2 of2 => ?_))
      show aSs X _ _ [some (.adr p), some (.int most), some (.int last), some (.adr qf), some (.adr qk), some d, some (.int r)] M2
      have hf2 := of2.at hf' npf.symm
      have hk2 := of2.at hk' npk.symm
      refine as_one (as_if (at_dnotin hr (ev (av_name gf 6) (ev (av_name gf 4) ⟨.inl r, qk, kvs, rfl, rfl, hk2, fun h => ?_, fun h => ?_⟩))))
      · rw [hin] at h
        have hnew : r ∉ l.map (·.1) := by simpa using h
        refine as_cons (as_dput hr (ev av_int (ev (av_name gf 4) (ev (av_name gf 6) ⟨qk, kvs, .inl r, rfl, rfl, hk2, by omega, ?_⟩))))
        refine as_one (as_expr (ae_append (ev (av_name gf 3) ⟨qf, _, rfl, by rw [updM_ne nfk]; exact hf2, ae_tup (aa_cons (ev (av_name gf 6) (aa_cons (ae_call gf FP hr (aa_cons (ev (av_name gf 0) (aa_nil ⟨p, _, _, rfl, hp2.upd npk, by omega, rfl, fun pr hpr M3 hp3 of3 => aa_nil ⟨by show 2 ≤ 10000; decide, ?_⟩⟩)))))))⟩)))
        have hf3 := of3.at (show updM M2 qk _ qf = _ by rw [updM_ne nfk]; exact hf2) npf.symm
        have hk3 := of3.at (show updM M2 qk _ qk = _ from updM_same) npk.symm
        have hlen := ok.len
        refine ⟨_, hf3, by rw [List.length_map]; omega, l ++ [(r, pr)], putKD kvs (.inl r) (.int 1), _, _, rfl, (hp3.upd npf).mono (by omega), ?_, by rw [updM_same, List.map_append]; rfl, by rw [updM_ne nfk.symm]; exact hk3, ?_, fun i => ?_, ⟨?_, ?_, ?_, ?_⟩, fun x hx => ?_, by omega⟩
        · refine Off.new (Off.trans ?_ of3) hf
          exact Off.new (of'.trans of2) hk0
        · have := putKD_len kvs (.inl r) (.int 1)
          omega
        · rw [lookK_put]
          by_cases z : i = r
          · rw [if_pos (congrArg Sum.inl z)]
            simp [z]
          · rw [if_neg (fun y => z (Sum.inl.inj y)), hin]
            simp [z]
        · rw [List.length_append, List.length_singleton]; omega
        · intro x hx
          rcases List.mem_append.mp hx with hx | hx
          · exact ok.day x hx
          · rw [List.mem_singleton.mp hx]; show 0 ≤ r ∧ r ≤ last; omega
        · rw [List.map_append, List.nodup_append]
          refine ⟨ok.nd, by simp, fun a ha b hb z => ?_⟩
          rw [List.map_cons, List.map_nil] at hb
          rw [List.mem_singleton.mp hb] at z
          exact hnew (by rw [show r = a from z.symm]; exact ha)
        · intro x hx
          rcases List.mem_append.mp hx with hx | hx
          · exact ok.pr x hx
          · rw [List.mem_singleton.mp hx]; exact prB_okP hpr
        · rcases List.mem_append.mp hx with hx | hx
          · exact hB x hx
          · rw [List.mem_singleton.mp hx]; exact hpr
      · exact as_nil ⟨l, kvs, _, _, rfl, hp2.mono (by omega), of'.trans of2, hf2, hk2, by omega, hin, ok.mono (by omega) (by omega), hB, by omega⟩
    · obtain ⟨l, kvs, t5, t6, rfl, hp', of', hf', hk', hkl, hin, ok, hB, hl⟩ := hJ
      refine as_one (as_ret (ev (av_name gf 3) ?_))
      exact q l _ qf (ok.mono (by simp) (by omega)) hB (hp'.mono (by simp)) of' hf hf'
    · have hl : ((rgD 0 t.toNat).length : Int) = t := by rw [rgD_len]; omega
      refine ⟨[], [], none, none, rfl, hp1.mono (by omega), ?_, ?_, ?_, by rw [hl]; simp; omega, fun i => rfl, .nil (by omega), fun x hx => (nomatch hx), by omega⟩
      · exact Off.trans ((Off.new (Off.new (Off.refl _ _) hf) hk0)) of1
      · exact of1.at (by rw [updM_ne nfk, updM_same]; rfl) npf.symm
      · exact of1.at updM_same npk.symm
theorem ae_lcSN {α β : Type} {X : Cx} {G : Gx} {N : List Str} {sc scope : Scope} {δ : DE} {M : AHp} {Q : DK} {pos : Pos} {elt tg iter : Expr} {own : List (Str × Nat)} {t : TG} (g : XF X G N sc) (f : α → D) (h : β → D) (l : List α) (dx : α → DE) (I : Nat → List β → AHp → Prop) (tgo : TgOk X scope tg t (own.map (·.2)))
    (hi : SrcT X tg iter δ M (l.map f)) (hl : l.length < 100000) (h0 : I 0 [] M) (hlen : ∀ i ys M', I i ys M' → ys.length = i)
    (hU : ∀ i ys M' L o, M L = none → I i ys M' → I i ys (updM M' L o)) (ht : ∀ x ∈ l, aGt t (f x) (wipeD δ (own.map (·.2))) (dx x))
    (he : ∀ i x ys M', l[i]? = some x → I i ys M' → ∀ X', XF X' G N (relS scope sc) → X'.A = X.A → aE X' elt (dx x) M' fun d M4 => ∃ y, d = h y ∧ I (i + 1) (ys ++ [y]) M4 ∧ ∀ L o, M L = none → M' L = some o → M4 L = some o)
    (q : ∀ ys M' L, M L = none → I l.length ys M' → M' L = some (.lst (ys.map h)) → Q (.adr L) M') (okb : blkC N sc scope own = true := by decide +kernel) (hs : ∀ x, foldedSetIterable iter X.env x = pure x := by intro _; rfl) : aE X (.ListComp elt [⟨tg, iter, [], 0⟩] scope pos) δ M Q :=
  ae_ofLC g okb tgo (.inl rfl) (lc0 g tgo (.inl rfl) (hi _ fun L hL => ⟨fun i acc M' => ∃ ys, acc = ys.map h ∧ I i ys M' ∧ M' L = some (.lst acc) ∧ i ≤ l.length, ⟨[], rfl, hU _ _ _ _ _ hL h0, updM_same, Nat.zero_le _⟩, fun i acc M' ⟨ys, e1, e2, e3, e4⟩ => ⟨trivial, e3, by
      rw [e1, List.length_map, hlen _ _ _ e2]; omega⟩, fun i d acc M' hd ⟨ys, e1, e2, e3, e4⟩ => by
      rw [List.getElem?_map] at hd
      cases z : l[i]? with
      | none => rw [z] at hd; cases hd
      | some x =>
        rw [z] at hd
        cases hd
        have hx := List.mem_of_getElem? z
        have hlt : i < l.length := (List.getElem?_eq_some_iff.mp z).1
        refine ⟨dx x, ht x hx, fun X' gX eA => (he i x ys M' z e2 X' gX eA).imp fun d M4 ⟨y, y1, y2, y3⟩ => ?_⟩
        refine ⟨y3 L _ hL e3, ys ++ [y], ?_, hU _ _ _ _ _ hL y2, updM_same, hlt⟩
        rw [e1, y1]
        simp, fun acc M' ⟨ys, e1, e2, e3, e4⟩ => by
      rw [List.length_map] at e2
      rw [e1] at e3
      exact q ys M' L hL e2 e3⟩)) hs
/-- drawn entries, a new list -/
def spAnyN : ASp := fun ds M Q _ => ∃ (p : Addr) (n : Int), ds = [.adr p] ∧ PurseAt M p n ∧ n + 122 < 18446744073709551616 ∧ ∀ (l : List Ent) (M' : AHp) (q : Addr), RowsOk 40 402 l → PurseAt M' p (n + 122) → Off p M M' → M q = none → M' q = some (.lst (l.map dE)) → Q (.adr q) M'
theorem up_anyN : Up spAnyN := ⟨fun f _ ⟨p, n, h, h1, h2, q⟩ => ⟨p, n, h, h1, h2, fun l M' a z b c d e => f _ _ (q l M' a z b c d e)⟩⟩
theorem ok_anyN {G : Gx} {f : Addr} {fd : FuncData} (F : L2.Fun G.K "_law_any_rows" "_law_any_rows" s_law_any_rows f fd) (T : Txt G) (FC : Fn G 1 "_law_coin" (spDraw 1 SCoin)) (FP : Fn G 2 "_law_price_drawn" (spDraw 2 SPriceB)) (FR : Fn G 3 "_law_rows_drawn" spRowsN) : FnG G CX0 4 f fd ["purse"] (toSp spAnyN) := by
  refine aok F sc_law_any_rows (fun ds M Q E h => ?_) (fun X g hr ds M Q E h => ?_)
  · obtain ⟨p, n, rfl, _⟩ := h; rfl
  · obtain ⟨p, n, rfl, hp, hn, q⟩ := h
    have gf := g.toXF
    show aSs X _ _ [some (.adr p), none, none, none, none] M
    refine as_cons (as_set g 1 (ae_coin gf FC (hr.mono (by decide)) (av_name gf 0) av_int hp (by decide) (by omega) fun c M1 c0 c1 hp1 of1 => ?_))
    show aSs X _ _ [some (.adr p), some (.int c), none, none, none] M1
    refine as_cons (as_ifP (atv_cmp op_eq (av_name gf 1) av_int p_eq) (fun h => ?_) (fun h => ?_))
    · refine as_one (as_ret (ae_call gf FR hr (aa_cons (ev (av_name gf 0) (aa_cons (ev av_int (aa_cons (ev av_int (aa_nil ⟨p, _, 40, 402, rfl, hp1, by omega, by decide, by decide, by decide, by decide, fun l M2 q2 hl hB hp2 of2 fq hq => ?_⟩)))))))))
      exact q l M2 q2 hl (hp2.mono (by omega)) (of1.trans of2) (of1.free fq hp1) hq
    · refine as_nil ?_
      refine as_cons (as_ifP (atv_cmp op_eq (av_name gf 1) av_int p_eq) (fun h2 => ?_) (fun h2 => ?_))
      · refine as_cons (as_asg (ae_tup (aa_cons (ae_op op_add (ev av_int (ae_coin gf FC (hr.mono (by decide)) (av_name gf 0) av_int hp1 (by decide) (by omega) fun st M2 s0 s1 hp2 of2 => p_add.aR ?_))))) (hw := sw_of gf (by intro env e; cases env; cases e; rfl)))
        refine aa_cons (ae_coin gf FC (hr.mono (by decide)) (av_name gf 0) av_int hp2 (by decide) (by omega) fun off M3 o0 o1 hp3 of3 => aa_nil ⟨by show 2 ≤ 10000; decide, ?_⟩)
        refine ag_tup gf (ags_cons (ag_name g 2 (ags_cons (ag_name g 3 (ags_nil ?_)))))
        show aSs X _ _ [some (.adr p), some (.int c), some (.int (1 + st)), some (.int off), none] M3
        refine as_one (as_ret (ae_lcSN (own := [(("at" : Str), 4)]) gf D.int dE ((List.range 40).map fun (i : Nat) => (i : Int)) (fun i => [some (.adr p), some (.int c), some (.int (1 + st)), some (.int off), some (.int i)])
          (fun i ys M' => PurseAt M' p (n + 3 + 2 * (i : Int)) ∧ Off p M3 M' ∧ ys.length = i ∧ ys.map (·.1) = (List.range i).map (fun (j : Nat) => off + (1 + st) * (39 - (j : Int))) ∧ ∀ x ∈ ys, OkP x.2) (tg_name gf 4) (srcR (n := 40) gf T.range av_int (by decide) (by decide)) (by decide) ⟨hp3.mono (by omega), .refl _ _, rfl, rfl, fun _ z => (nomatch z)⟩ (fun i ys M' h => h.2.2.1)
          (fun i ys M' L o hL ⟨a, b, c⟩ => ⟨a.upd (hp3.ne hL), b.new hL, c⟩) (fun x _ => agt_name) (fun i x ys M' hx hI X' gX eA => ?_) (fun ys M' L hL hI hML => ?_)))
        · obtain ⟨hp', of', hl, hm, hpr⟩ := hI
          have hxe : x = (i : Int) ∧ i < 40 := by
            rw [List.getElem?_map] at hx
            cases z : (List.range 40)[i]? with
            | none => rw [z] at hx; cases hx
            | some y =>
              rw [z] at hx
              have h1 := (List.getElem?_eq_some_iff.mp z).1
              rw [List.length_range] at h1
              rw [List.getElem?_range h1] at z
              cases z
              cases hx
              exact ⟨rfl, h1⟩
          obtain ⟨rfl, hi⟩ := hxe
          refine ae_tup (aa_cons (ev (av_op op_add (av_name gX 3) (av_op op_mul (av_name gX 2) (av_op op_sub av_int (av_name gX 4) p_sub) (p_mul (.inl ⟨by omega, by omega⟩))) p_add) (aa_cons (ae_call gX FP (by rw [eA]; exact hr.mono (by decide)) (aa_cons (ev (av_name gX 0) (aa_nil ⟨p, _, _, rfl, hp', by omega, rfl, fun pr hprB M4 hp4 of4 => aa_nil ⟨by show 2 ≤ 10000; decide, ?_⟩⟩)))))))
          refine ⟨(off + (1 + st) * (39 - (i : Int)), pr), rfl, ⟨hp4.mono (by omega), of'.trans of4, by rw [List.length_append, hl]; rfl, ?_, fun y hy => ?_⟩, fun L o hL e => of4.at e (fun z => (hp3.ne hL) z.symm)⟩
          · rw [List.map_append, hm, List.range_succ, List.map_append]; rfl
          · rcases List.mem_append.mp hy with hy | hy
            · exact hpr y hy
            · rw [List.mem_singleton.mp hy]; exact prB_okP hprB
        · obtain ⟨hp', of', hl, hm, hpr⟩ := hI
          refine q ys M' L ⟨?_, fun x hx => ?_, ?_, hpr⟩ (hp'.mono (by simp; omega)) (of1.trans (of2.trans (of3.trans of'))) (of1.free (of2.free (of3.free hL hp3) hp2) hp1) hML
          · rw [hl]; simp
          · have z : x.1 ∈ ys.map (·.1) := List.mem_map_of_mem hx
            rw [hm] at z
            obtain ⟨j, hj, e⟩ := List.mem_map.mp z
            have hj2 : j < 40 := by simpa using hj
            have b1 : 0 ≤ (1 + st) * (39 - (j : Int)) := Int.mul_nonneg (by omega) (by omega)
            have b2 : (1 + st) * (39 - (j : Int)) ≤ 10 * 39 := Int.mul_le_mul (by omega) (by omega) (by omega) (by decide)
            omega
          · rw [hm]
            refine List.Pairwise.map _ (fun a b hab => ?_) (List.nodup_range (n := _))
            intro e
            apply hab
            have e2 : (1 + st) * (39 - (a : Int)) = (1 + st) * (39 - (b : Int)) := by omega
            have := Int.eq_of_mul_eq_mul_left (by omega) e2
            omega
      · refine as_nil ?_
        have hc : c = 2 ∨ c = 3 := by omega
        refine as_one (as_ret (ae_call gf FR hr (aa_cons (ev (av_name gf 0) (aa_cons (ev av_int (aa_cons (ev (av_ix ix_list (av_lst (aav_cons av_int (aav_cons av_int aav_nil))) (av_op op_sub (av_name gf 1) av_int p_sub) (p_ixL (d := .int (if c = 2 then 9 else 40)) (by rcases hc with rfl | rfl <;> rfl))) (aa_nil ⟨p, _, 7, if c = 2 then 9 else 40, rfl, hp1, by omega, by decide, by decide, by split <;> decide, by split <;> decide, fun l M2 q2 hl hB hp2 of2 fq hq => ?_⟩)))))))))
        exact q l M2 q2 (hl.mono (by decide) (by split <;> decide)) (hp2.mono (by omega)) (of1.trans of2) (of1.free fq hp1) hq
theorem sc_sweep : FnScope ["rows", "last", "book", "held", "found", "spot"] ["rows", "last"] (defScope s_law_sweep) := ⟨rfl, rfl, rfl, by decide +kernel, rfl, by decide +kernel, by decide +kernel⟩
def SSweep : List D → AHp → (D → Prop) → Prop := fun ds _ k => ∃ (l : List Ent) (last : Int), ds = [dEs l, .int last] ∧ 0 ≤ last ∧ last < 50000 ∧ (l.map (·.1)).Nodup ∧ k (.lst ((sweepL l (last.toNat + 1)).map dP))
theorem mon_sweep : MonP SSweep := ⟨fun f ⟨l, d, h, h1, h2, h3, q⟩ => ⟨l, d, h, h1, h2, h3, f _ q⟩⟩
theorem kvI_pairs (l : List Ent) : l.map dE = (kvI dP l).map fun kv => .tup [dK kv.1, kv.2] := by
  unfold kvI
  rw [List.map_map]
  rfl
theorem kvI_merge {l : List Ent} (h : (l.map (·.1)).Nodup) : mergeD [] (kvI dP l) = kvI dP l := by
  rw [mergeD_nodup]
  · rfl
  · rw [List.nil_append]
    unfold kvI
    rw [List.map_map]
    have : ((fun kv : Key × D => kv.1) ∘ fun x : Ent => ((Sum.inl x.1 : Key), dP x.2)) = fun x : Ent => (Sum.inl x.1 : Key) := rfl
    rw [this]
    have e : (l.map fun x : Ent => (Sum.inl x.1 : Key)) = (l.map (·.1)).map Sum.inl := by rw [List.map_map]; rfl
    rw [e]
    exact List.Pairwise.map _ (fun a b hab z => hab (Sum.inl.inj z)) h
theorem ok_sweep {G : Gx} {f : Addr} {fd : FuncData} (F : L2.Fun G.K "_law_sweep" "_law_sweep" s_law_sweep f fd) (T : Txt G) : FnG G CX0 1 f fd ["rows", "last"] (toSp (spPure SSweep)) := by
  refine aok F sc_sweep (fun ds M Q E h => ?_) (fun X g hr ds M Q E h => ?_)
  · obtain ⟨l, d, rfl, _⟩ := h; rfl
  · obtain ⟨l, last, rfl, h0, h1, hnd, q⟩ := h
    have gf := g.toXF
    show aSs X _ _ [some (dEs l), some (.int last), none, none, none, none] M
    refine as_cons (as_par3 g 2 3 4 (aa_cons (ae_callTy gf (call_dictP g.calm) T.dict (by rfl) (ea (aav_cons (av_callTy gf call_list_of T.list (by rfl) (aav_cons (av_name gf 0) aav_nil) (c_list .lst)) aav_nil) ((kvI_pairs l) ▸ a_dict .lst fun qb hb => ?_)))))
    rw [kvI_merge hnd]
    refine aa_cons (ev av_non (aa_cons (ae_lstM (ea aav_nil ⟨by decide, fun qf hf => aa_nil ⟨_, _, _, rfl, ?_⟩⟩))))
    have nbf : qb ≠ qf := fun z => by rw [← z, updM_same] at hf; cases hf
    have hf0 : M qf = none := by rw [updM_ne nbf.symm] at hf; exact hf
    show aSs X _ _ [some (dEs l), some (.int last), some (.adr qb), some .non, some (.adr qf), none] _
    refine as_cons (as_forR gf T.range (ev (av_op op_add (av_name gf 1) av_int p_add) ⟨last + 1, rfl, by omega, by omega, ?_⟩))
    let J : List D → DE → AHp → Prop := fun ds δ' M' => ∃ (i : Nat) (t : Option D), i + ds.length = last.toNat + 1 ∧ ds = rgD (i : Int) ds.length ∧ δ' = [some (dEs l), some (.int last), some (.adr qb), some (dP (heldN l i)), some (.adr qf), t] ∧ Ge M M' ∧ M' qb = some (.dK (kvI dP l)) ∧ M' qf = some (.lst ((sweepL l i).map dP))
    refine al_inv J (fun d ds δ' M' hJ => ?_) (fun δ' M' hJ => ?_) ⟨0, none, by rw [rgD_len]; omega, by rw [rgD_len]; rfl, rfl, fun a o e => by rw [updM_ne (neM e hf0), updM_ne (neM e hb)]; exact e, by rw [updM_ne nbf]; exact updM_same, updM_same⟩
    · obtain ⟨i, t, hi, hds, rfl, ge, hb', hf'⟩ := hJ
      rw [List.length_cons] at hi hds
      rw [rgD_succ] at hds
      obtain ⟨e1, e2⟩ := List.cons.inj hds
      subst e1
      refine ag_name g 5 ?_
      show aSs X _ _ [some (dEs l), some (.int last), some (.adr qb), some (dP (heldN l i)), some (.adr qf), some (.int (i : Int))] M'
      have push : aSs X [(match (defBody s_law_sweep).getD 1 (.Pass ⟨0, 0, 0, 0⟩) with | .For _ _ b _ _ => b.getD 1 (.Pass ⟨0, 0, 0, 0⟩) | s => s)] { nx := J ds, rt := Q, bk := J [], ct := J ds } [some (dEs l), some (.int last), some (.adr qb), some (dP (heldN l (i + 1))), some (.adr qf), some (.int (i : Int))] M' := by
        refine as_one (as_expr (ae_append (ev (av_name gf 4) ⟨qf, _, rfl, hf', ev (av_name gf 3) ⟨_, hf', by simp [sweepL]; omega, i + 1, _, by omega, e2, rfl, ?_, by rw [updM_ne nbf]; exact hb', ?_⟩⟩)))
        · exact fun a o e => by rw [updM_ne (neM e hf0)]; exact ge a o e
        · rw [updM_same]
          unfold sweepL
          rw [List.range_succ, List.map_append, List.map_append]
          rfl
      refine as_cons (as_if (at_din hr (ev (av_name gf 5) (ev (av_name gf 2) ⟨.inl (i : Int), qb, _, rfl, rfl, hb', fun h => ?_, fun h => ?_⟩))))
      · rw [lookK_kvI] at h
        cases e : lookI l (i : Int) with
        | none => rw [e] at h; cases h
        | some pr =>
          refine as_one (as_setV g 3 (av_dget hr (av_name gf 2) (av_name gf 5) hb' (k := .inl (i : Int)) (d := dP pr) (by rw [lookK_kvI, e]; rfl)) ?_)
          have e2 : heldN l (i + 1) = pr := by unfold heldN; rw [e]
          rw [e2] at push
          exact push
      · rw [lookK_kvI] at h
        cases e : lookI l (i : Int) with
        | none =>
          have e2 : heldN l (i + 1) = heldN l i := by
            show (match lookI l (i : Int) with | some q => q | none => heldN l i) = heldN l i
            rw [e]
          rw [e2] at push
          exact as_nil push
        | some pr => rw [e] at h; cases h
    · obtain ⟨i, t, hi, hds, rfl, ge, hb', hf'⟩ := hJ
      have hi : i = last.toNat + 1 := hi
      subst hi
      refine as_freeze 4 rfl hf' (as_forget (M' := M) (fun a o e => ?_) (as_one (as_ret (ev (av_name gf 4) q))))
      rw [delM_ne (neM e hf0)]
      exact ge a o e
/-- the same of a list at a place -/
def spSweepN : ASp := fun ds M Q _ => ∃ (rq : Addr) (l : List Ent) (last : Int), ds = [.adr rq, .int last] ∧ M rq = some (.lst (l.map dE)) ∧ 0 ≤ last ∧ last < 50000 ∧ (l.map (·.1)).Nodup ∧ Q (.lst ((sweepL l (last.toNat + 1)).map dP)) M
theorem up_sweepN : Up spSweepN := ⟨fun f _ ⟨a, l, d, h, h1, h2, h3, h4, q⟩ => ⟨a, l, d, h, h1, h2, h3, h4, f _ _ q⟩⟩
theorem ok_sweepN {G : Gx} {f : Addr} {fd : FuncData} (F : L2.Fun G.K "_law_sweep" "_law_sweep" s_law_sweep f fd) (T : Txt G) : FnG G CX0 1 f fd ["rows", "last"] (toSp spSweepN) := by
  refine aok F sc_sweep (fun ds M Q E h => ?_) (fun X g hr ds M Q E h => ?_)
  · obtain ⟨rq, l, d, rfl, _⟩ := h; rfl
  · obtain ⟨rq, l, last, rfl, hR, h0, h1, hnd, q⟩ := h
    have gf := g.toXF
    show aSs X _ _ [some (.adr rq), some (.int last), none, none, none, none] M
    refine as_cons (as_par3 g 2 3 4 (aa_cons (ae_callTy gf (call_dictP g.calm) T.dict (by rfl) (ea (aav_cons (av_callTy gf call_list_of T.list (by rfl) (aav_cons (av_name gf 0) aav_nil) (c_list (.adr hR))) aav_nil) ((kvI_pairs l) ▸ a_dict .lst fun qb hb => ?_)))))
    rw [kvI_merge hnd]
    refine aa_cons (ev av_non (aa_cons (ae_lstM (ea aav_nil ⟨by decide, fun qf hf => aa_nil ⟨_, _, _, rfl, ?_⟩⟩))))
    have nbf : qb ≠ qf := fun z => by rw [← z, updM_same] at hf; cases hf
    have hf0 : M qf = none := by rw [updM_ne nbf.symm] at hf; exact hf
    show aSs X _ _ [some (.adr rq), some (.int last), some (.adr qb), some .non, some (.adr qf), none] _
    refine as_cons (as_forR gf T.range (ev (av_op op_add (av_name gf 1) av_int p_add) ⟨last + 1, rfl, by omega, by omega, ?_⟩))
    let J : List D → DE → AHp → Prop := fun ds δ' M' => ∃ (i : Nat) (t : Option D), i + ds.length = last.toNat + 1 ∧ ds = rgD (i : Int) ds.length ∧ δ' = [some (.adr rq), some (.int last), some (.adr qb), some (dP (heldN l i)), some (.adr qf), t] ∧ Ge M M' ∧ M' qb = some (.dK (kvI dP l)) ∧ M' qf = some (.lst ((sweepL l i).map dP))
    refine al_inv J (fun d ds δ' M' hJ => ?_) (fun δ' M' hJ => ?_) ⟨0, none, by rw [rgD_len]; omega, by rw [rgD_len]; rfl, rfl, fun a o e => by rw [updM_ne (neM e hf0), updM_ne (neM e hb)]; exact e, by rw [updM_ne nbf]; exact updM_same, updM_same⟩
    · obtain ⟨i, t, hi, hds, rfl, ge, hb', hf'⟩ := hJ
      rw [List.length_cons] at hi hds
      rw [rgD_succ] at hds
      obtain ⟨e1, e2⟩ := List.cons.inj hds
      subst e1
      refine ag_name g 5 ?_
      show aSs X _ _ [some (.adr rq), some (.int last), some (.adr qb), some (dP (heldN l i)), some (.adr qf), some (.int (i : Int))] M'
      have push : aSs X [(match (defBody s_law_sweep).getD 1 (.Pass ⟨0, 0, 0, 0⟩) with | .For _ _ b _ _ => b.getD 1 (.Pass ⟨0, 0, 0, 0⟩) | s => s)] { nx := J ds, rt := Q, bk := J [], ct := J ds } [some (.adr rq), some (.int last), some (.adr qb), some (dP (heldN l (i + 1))), some (.adr qf), some (.int (i : Int))] M' := by
        refine as_one (as_expr (ae_append (ev (av_name gf 4) ⟨qf, _, rfl, hf', ev (av_name gf 3) ⟨_, hf', by simp [sweepL]; omega, i + 1, _, by omega, e2, rfl, ?_, by rw [updM_ne nbf]; exact hb', ?_⟩⟩)))
        · exact fun a o e => by rw [updM_ne (neM e hf0)]; exact ge a o e
        · rw [updM_same]
          unfold sweepL
          rw [List.range_succ, List.map_append, List.map_append]
          rfl
      refine as_cons (as_if (at_din hr (ev (av_name gf 5) (ev (av_name gf 2) ⟨.inl (i : Int), qb, _, rfl, rfl, hb', fun h => ?_, fun h => ?_⟩))))
      · rw [lookK_kvI] at h
        cases e : lookI l (i : Int) with
        | none => rw [e] at h; cases h
        | some pr =>
          refine as_one (as_setV g 3 (av_dget hr (av_name gf 2) (av_name gf 5) hb' (k := .inl (i : Int)) (d := dP pr) (by rw [lookK_kvI, e]; rfl)) ?_)
          have e2 : heldN l (i + 1) = pr := by unfold heldN; rw [e]
          rw [e2] at push
          exact push
      · rw [lookK_kvI] at h
        cases e : lookI l (i : Int) with
        | none =>
          have e2 : heldN l (i + 1) = heldN l i := by
            show (match lookI l (i : Int) with | some q => q | none => heldN l i) = heldN l i
            rw [e]
          rw [e2] at push
          exact as_nil push
        | some pr => rw [e] at h; cases h
    · obtain ⟨i, t, hi, hds, rfl, ge, hb', hf'⟩ := hJ
      have hi : i = last.toNat + 1 := hi
      subst hi
      refine as_freeze 4 rfl hf' (as_forget (M' := M) (fun a o e => ?_) (as_one (as_ret (ev (av_name gf 4) q))))
      rw [delM_ne (neM e hf0)]
      exact ge a o e
theorem sc_near_rows : FnScope ["purse", "rows", "last", "sweep", "way", "found", "known", "free", "turn", "spot", "at", "price", "pair"] ["purse", "rows", "last"] (defScope s_law_near_rows) := ⟨rfl, rfl, rfl, by decide +kernel, rfl, by decide +kernel, by decide +kernel⟩
def SNear : List D → (D → Prop) → Prop := fun rest k => ∃ (l : List Ent) (last : Int), rest = [dEs l, .int last] ∧ 0 ≤ last ∧ last ≤ 402 ∧ RowsOk 40 last l ∧ ∀ l', RowsOk 40 last l' → k (dEs l')
theorem mon_near : MonS SNear := ⟨fun f ⟨l, last, h1, h2, h3, h4, q⟩ => ⟨l, last, h1, h2, h3, h4, fun l' h => f _ (q l' h)⟩⟩
def freeI (l : List Ent) (last : Int) : List Int := ((List.range (last + 1).toNat).map fun (i : Nat) => (i : Int)).filter fun d => !decide (d ∈ l.map (·.1))
theorem free_mem {l : List Ent} {last d : Int} (h : d ∈ freeI l last) : 0 ≤ d ∧ d ≤ last ∧ d ∉ l.map (·.1) := by
  unfold freeI at h
  obtain ⟨h1, h2⟩ := List.mem_filter.mp h
  obtain ⟨i, hi, rfl⟩ := List.mem_map.mp h1
  have hi := List.mem_range.mp hi
  exact ⟨by omega, by omega, by simpa using h2⟩
theorem free_len (l : List Ent) (last : Int) : (freeI l last).length ≤ (last + 1).toNat := by
  unfold freeI
  refine Nat.le_trans (List.length_filter_le _ _) ?_
  rw [List.length_map, List.length_range]
  exact Nat.le_refl _
theorem sc_last : FnScope ["rows", "pair"] ["rows"] (defScope s_law_last) := ⟨rfl, rfl, rfl, by decide +kernel, rfl, by decide +kernel, by decide +kernel⟩
theorem sc_near : FnScope ["purse", "rows", "last"] ["purse", "rows"] (defScope s_law_near) := ⟨rfl, rfl, rfl, by decide +kernel, rfl, by decide +kernel, by decide +kernel⟩
def spNearN : ASp := fun ds M Q _ => ∃ (p rq : Addr) (n : Int) (l : List Ent) (last : Int), ds = [.adr p, .adr rq, .int last] ∧ PurseAt M p n ∧ n + 12 < 18446744073709551616 ∧ M rq = some (.lst (l.map dE)) ∧ rq ≠ p ∧ 0 ≤ last ∧ last ≤ 402 ∧ RowsOk 40 last l ∧ ∀ l', RowsOk 40 last l' → ∀ M', PurseAt M' p (n + 12) → Off p M M' → Q (dEs l') M'
theorem up_nearN : Up spNearN := ⟨fun f _ ⟨p, a, n, l, d, h, h1, h2, h3, h4, h5, h6, h7, q⟩ => ⟨p, a, n, l, d, h, h1, h2, h3, h4, h5, h6, h7, fun l' z M' b c => f _ _ (q l' z M' b c)⟩⟩
theorem ok_near_rowsN {G : Gx} {f : Addr} {fd : FuncData} (F : L2.Fun G.K "_law_near_rows" "_law_near_rows" s_law_near_rows f fd) (T : Txt G) (FC : Fn G 1 "_law_coin" (spDraw 1 SCoin)) (FP : Fn G 2 "_law_price_drawn" (spDraw 2 SPriceB)) (FS : Fn G 1 "_law_sweep" spSweepN) : FnG G CX0 3 f fd ["purse", "rows", "last"] (toSp spNearN) := by
  refine aok F sc_near_rows (fun ds M Q E h => ?_) (fun X g hr ds M Q E h => ?_)
  · obtain ⟨p, rq, n, l, last, rfl, _⟩ := h; rfl
  · obtain ⟨p, rq, n, l, last, rfl, hp, hn, hR, rne, h0, h1, ok, q⟩ := h
    have gf := g.toXF
    have r1 := hr.mono (show 1 ≤ 2 by decide)
    have hu := u64 hr
    have hlen := ok.len
    show aSs X _ _ [some (.adr p), some (.adr rq), some (.int last), none, none, none, none, none, none, none, none, none, none] M
    refine as_cons (as_par g 3 4 (aa_cons (ae_call gf FS r1 (ea (aav_cons (av_name gf 1) (aav_cons (av_name gf 2) aav_nil)) ⟨rq, l, last, rfl, hR, h0, by omega, ok.nd, aa_cons (ae_coin gf FC r1 (av_name gf 0) av_int hp (by decide) (by omega) fun way M1 w0 w1 hp1 of1 => aa_nil ⟨_, _, rfl, ?_⟩)⟩))))
    refine as_cons (as_set g 5 (ae_callTy gf call_list_of T.list (by rfl) (ea (aav_cons (av_name gf 1) aav_nil) (a_listM (.adr (of1 _ _ rne hR)) fun qf hf => ?_))))
    have npf := hp1.ne hf
    have hf0 := of1.free hf hp1
    have hp2 := hp1.new (o := .lst (l.map dE)) hf
    have of2 := of1.add (o := .lst (l.map dE)) hf
    have hf2 : updM M1 qf (.lst (l.map dE)) qf = some (.lst (l.map dE)) := updM_same
    generalize updM M1 qf (.lst (l.map dE)) = M2 at hp2 of2 hf2 ⊢
    show aSs X _ _ [some (.adr p), some (.adr rq), some (.int last), some (.lst ((sweepL l (last.toNat + 1)).map dP)), some (.int way), some (.adr qf), none, none, none, none, none, none, none] M2
    refine as_cons (as_set g 6 (hs := sx_of gf (by intro env e; cases env; cases e; rfl)) (ev (av_lc (own := [(("pair" : Str), 12)]) gf dE (fun x => D.int x.1) l (fun x => [some (.adr p), some (.adr rq), some (.int last), some (.lst ((sweepL l (last.toNat + 1)).map dP)), some (.int way), some (.adr qf), none, none, none, none, none, none, some (dE x)]) (tg_name gf 12) (Ab.src_adr (av_name gf 1) (of2 _ _ rne hR)) (by omega) (fun _ _ => agt_name) (fun x _ M' _ X' gX _ => av_ix ix_tup (av_name gX 12) av_int (p_ixT rfl))) ?_))
    rw [days_map]
    refine as_cons (as_lcF (own := [(("spot" : Str), 9)]) g 7 D.int D.int (fun d => !decide (d ∈ l.map (·.1))) ((List.range (last + 1).toNat).map fun (i : Nat) => (i : Int)) (fun d => [some (.adr p), some (.adr rq), some (.int last), some (.lst ((sweepL l (last.toNat + 1)).map dP)), some (.int way), some (.adr qf), some (.lst ((l.map (·.1)).map D.int)), none, none, some (.int d), none, none, none]) (tg_name gf 9) (srcR gf T.range (av_op op_add (av_name gf 2) av_int p_add) (by omega) (by omega)).v (by rw [List.length_map, List.length_range]; omega) (fun _ _ => agt_name) (fun d _ M' _ X' gX _ => atv_cmp op_notIn_seq (av_name gX 9) (av_name gX 6) (p_notInI .lst)) (fun d _ _ M' _ X' gX _ => av_name gX 9) ?_)
    show aSs X _ _ [some (.adr p), some (.adr rq), some (.int last), some (.lst ((sweepL l (last.toNat + 1)).map dP)), some (.int way), some (.adr qf), some (.lst ((l.map (·.1)).map D.int)), some (.lst ((freeI l last).map D.int)), none, none, none, none, none] M2
    have fl := free_len l last
    have tail : ∀ (l' : List Ent) (t8 t9 t10 t11 : Option D) (M' : AHp), PurseAt M' p (n + 12) → Off p M M' → M' qf = some (.lst (l'.map dE)) → RowsOk 40 last l' → aSs X [(defBody s_law_near_rows).getD 7 (.Pass ⟨0, 0, 0, 0⟩)] { nx := fun _ M' => Q .non M', rt := Q } [some (.adr p), some (.adr rq), some (.int last), some (.lst ((sweepL l (last.toNat + 1)).map dP)), some (.int way), some (.adr qf), some (.lst ((l.map (·.1)).map D.int)), some (.lst ((freeI l last).map D.int)), t8, t9, t10, t11, none] M' := fun l' t8 t9 t10 t11 M' hp' of' hf' ok' => by
      refine as_freeze 5 rfl hf' ?_
      exact as_one (as_ret (ev (av_name gf 5) (q l' ok' _ (hp'.del npf) (of'.del hf0))))
    refine as_seq (fun δ' M' => ∃ (l' : List Ent) (t8 t9 : Option D), δ' = [some (.adr p), some (.adr rq), some (.int last), some (.lst ((sweepL l (last.toNat + 1)).map dP)), some (.int way), some (.adr qf), some (.lst ((l.map (·.1)).map D.int)), some (.lst ((freeI l last).map D.int)), t8, t9, none, none, none] ∧ PurseAt M' p (n + 4) ∧ Off p M M' ∧ M' qf = some (.lst (l'.map dE)) ∧ RowsOk 40 last l' ∧ (2 < way → l' = l)) (as_if (aW.t (aw_and (et (atv_cmp op_in_seq (av_name gf 4) (av_tup (aav_cons av_int (aav_cons av_int (aav_cons av_int aav_nil)))) (p_inI (ns := [0, 1, 2]) .tup)) ⟨fun hw => aw_and1 (et (atv_cmp (op_neD hu) (av_name gf 7) (av_lst aav_nil) (p_neN en_ints (x := freeI l last) .dat (.dat (x := ([] : List Int))))) ⟨fun hfr => ?_, fun _ => ?_⟩), fun hw => ⟨fun z => (nomatch z), fun _ => ?_⟩⟩)))) (fun δ' M3 hP => ?_)
    · have hw : way ≤ 2 := by
        have hw := of_decide_eq_true hw
        simp at hw
        omega
      have hfr : freeI l last ≠ [] := by simpa using hfr
      have hfp : 0 < (freeI l last).length := List.length_pos_iff.mpr hfr
      refine as_one (as_forR gf T.range (ev (av_op op_add av_int (av_name gf 4) p_add) ⟨1 + way, rfl, by omega, by omega, ?_⟩))
      refine al_inv (fun ds δ' M' => ∃ (l' : List Ent) (t8 t9 : Option D), δ' = [some (.adr p), some (.adr rq), some (.int last), some (.lst ((sweepL l (last.toNat + 1)).map dP)), some (.int way), some (.adr qf), some (.lst ((l.map (·.1)).map D.int)), some (.lst ((freeI l last).map D.int)), t8, t9, none, none, none] ∧ PurseAt M' p (n + 4 - ds.length) ∧ (ds.length : Int) ≤ 3 ∧ Off p M M' ∧ M' qf = some (.lst (l'.map dE)) ∧ RowsOk 40 last l') (fun d ds δ' M3 hJ => ?_) (fun δ' M3 hJ => ?_) ⟨l, none, none, rfl, hp2.mono (by rw [rgD_len]; omega), by rw [rgD_len]; omega, of2, hf2, ok⟩
      · obtain ⟨l', t8, t9, rfl, hp3, hd3, of3, hf3, ok3⟩ := hJ
        rw [List.length_cons] at hp3 hd3
        refine ag_name g 8 ?_
        show aSs X _ _ [some (.adr p), some (.adr rq), some (.int last), some (.lst ((sweepL l (last.toNat + 1)).map dP)), some (.int way), some (.adr qf), some (.lst ((l.map (·.1)).map D.int)), some (.lst ((freeI l last).map D.int)), some d, t9, none, none, none] M3
        refine as_cons (as_set g 9 (ae_ix ix_list (ev (av_name gf 7) (ae_coin gf FC r1 (av_name gf 0) (av_callB gf call_len_seq T.len (by rfl) (aav_cons (av_name gf 7) aav_nil) c_lenL) hp3 (by rw [List.length_map]; omega) (by omega) fun j M4 j0 j1 hp4 of4 => ?_))))
        rw [List.length_map] at j1
        obtain ⟨y, hy, _, hj⟩ := atD' (f := D.int) j0 j1
        refine (p_ixL hj).aR ?_
        show aSs X _ _ [some (.adr p), some (.adr rq), some (.int last), some (.lst ((sweepL l (last.toNat + 1)).map dP)), some (.int way), some (.adr qf), some (.lst ((l.map (·.1)).map D.int)), some (.lst ((freeI l last).map D.int)), some d, some (.int y), none, none, none] M4
        obtain ⟨y0, y1, y2⟩ := free_mem hy
        have hf4 := of4.at hf3 npf.symm
        have ol := ok3.len
        refine as_one (as_if (aW.t (aw_and (et (atv_cmp op_lt (av_callB gf call_len_seq T.len (by rfl) (aav_cons (av_name gf 5) aav_nil) (c_lenM hf4)) av_int p_lt) ⟨fun hl => aw_and1 (et (atv_cmp op_notIn_seq (av_name gf 9) (aV.to (av_lc (own := [(("pair" : Str), 12)]) gf dE (fun x => D.int x.1) l' (fun x => [some (.adr p), some (.adr rq), some (.int last), some (.lst ((sweepL l (last.toNat + 1)).map dP)), some (.int way), some (.adr qf), some (.lst ((l.map (·.1)).map D.int)), some (.lst ((freeI l last).map D.int)), some d, some (.int y), none, none, some (dE x)]) (tg_name gf 12) (src_adr (av_name gf 5) hf4) (by omega) (fun _ _ => agt_name) (fun x _ M' _ X' gX _ => av_ix ix_tup (av_name gX 12) av_int (p_ixT rfl))) (by rw [days_map])) (p_notInI (ns := l'.map (·.1)) .lst)) ⟨fun hni => ?_, fun _ => ?_⟩), fun _ => ⟨fun z => (nomatch z), fun _ => ?_⟩⟩))))
        · have hl := of_decide_eq_true hl
          rw [List.length_map] at hl
          have hni : y ∉ l'.map (·.1) := by simpa using hni
          refine as_one (as_expr (ae_append (ev (av_name gf 5) ⟨qf, _, rfl, hf4, ev (av_tup (aav_cons (av_name gf 9) (aav_cons (av_ix ix_list (av_name gf 3) (av_name gf 9) (p_ixL (sweep_at l y0 (by omega)))) aav_nil))) ⟨_, hf4, by rw [List.length_map]; omega, l' ++ [(y, heldN l (y.toNat + 1))], _, _, rfl, (hp4.upd npf).mono (by omega), by omega, (of3.trans of4).new hf0, by rw [updM_same, List.map_append]; rfl, ok3.snoc (by omega) y0 y1 hni (heldN_ok ok.pr _)⟩⟩)))
        · exact as_nil ⟨l', _, _, rfl, hp4.mono (by omega), by omega, of3.trans of4, hf4, ok3⟩
        · exact as_nil ⟨l', _, _, rfl, hp4.mono (by omega), by omega, of3.trans of4, hf4, ok3⟩
      · obtain ⟨l', t8, t9, rfl, hp3, hd3, of3, hf3, ok3⟩ := hJ
        exact ⟨l', t8, t9, rfl, hp3.mono (by show n + 4 - ((0 : Nat) : Int) ≤ _; omega), of3, hf3, ok3, fun z => absurd z (by omega)⟩
    · exact as_nil ⟨l, none, none, rfl, hp2.mono (by omega), of2, hf2, ok, fun _ => rfl⟩
    · exact as_nil ⟨l, none, none, rfl, hp2.mono (by omega), of2, hf2, ok, fun _ => rfl⟩
    · obtain ⟨l3, t8, t9, rfl, hp3, of3, hf3, ok3, e3⟩ := hP
      have ol3 := ok3.len
      refine as_seq (fun δ' M' => ∃ (l' : List Ent), δ' = [some (.adr p), some (.adr rq), some (.int last), some (.lst ((sweepL l (last.toNat + 1)).map dP)), some (.int way), some (.adr qf), some (.lst ((l.map (·.1)).map D.int)), some (.lst ((freeI l last).map D.int)), t8, t9, none, none, none] ∧ PurseAt M' p (n + 7) ∧ Off p M M' ∧ M' qf = some (.lst (l'.map dE)) ∧ RowsOk 40 last l' ∧ (3 < way → l' = l)) (as_if (aW.t (aw_and (et (atv_cmp op_eq (av_name gf 4) av_int p_eq) ⟨fun hw => aw_and (et (atv_cmp (op_neD hu) (av_name gf 7) (av_lst aav_nil) (p_neN en_ints (x := freeI l last) .dat (.dat (x := ([] : List Int))))) ⟨fun hfr => aw_and1 (et (atv_cmp op_lt (av_callB gf call_len_seq T.len (by rfl) (aav_cons (av_name gf 5) aav_nil) (c_lenM hf3)) av_int p_lt) ⟨fun hl => ?_, fun _ => ?_⟩), fun _ => ⟨fun z => (nomatch z), fun _ => ?_⟩⟩), fun hw => ⟨fun z => (nomatch z), fun _ => ?_⟩⟩)))) (fun δ' M4 hP => ?_)
      · have hw := of_decide_eq_true hw
        have hfr : freeI l last ≠ [] := by simpa using hfr
        have hfp : 0 < (freeI l last).length := List.length_pos_iff.mpr hfr
        have hl := of_decide_eq_true hl
        rw [List.length_map] at hl
        have e := e3 (by omega)
        subst e
        refine as_one (as_expr (ae_append (ev (av_name gf 5) ⟨qf, _, rfl, hf3, ae_tup (aa_cons (ae_ix ix_list (ev (av_name gf 7) (ae_coin gf FC r1 (av_name gf 0) (av_callB gf call_len_seq T.len (by rfl) (aav_cons (av_name gf 7) aav_nil) c_lenL) hp3 (by rw [List.length_map]; omega) (by omega) fun j M4 j0 j1 hp4 of4 => ?_))))⟩)))
        rw [List.length_map] at j1
        obtain ⟨y, hy, _, hj⟩ := atD' (f := D.int) j0 j1
        obtain ⟨y0, y1, y2⟩ := free_mem hy
        refine (p_ixL hj).aR (aa_cons (ae_call gf FP hr (aa_cons (ev (av_name gf 0) (aa_nil ⟨p, _, _, rfl, hp4, by omega, rfl, fun pr hprB M5 hp5 of5 => aa_nil ⟨by show 2 ≤ 10000; decide, _, of5.at (of4.at hf3 npf.symm) npf.symm, by rw [List.length_map]; omega, l3 ++ [(y, pr)], rfl, (hp5.upd npf).mono (by omega), ((of3.trans of4).trans of5).new hf0, by rw [updM_same, List.map_append]; rfl, ok3.snoc (by omega) y0 y1 y2 (prB_okP hprB), fun z => absurd z (by omega)⟩⟩)))))
      · exact as_nil ⟨l3, rfl, hp3.mono (by omega), of3, hf3, ok3, fun z => e3 (by omega)⟩
      · exact as_nil ⟨l3, rfl, hp3.mono (by omega), of3, hf3, ok3, fun z => e3 (by omega)⟩
      · exact as_nil ⟨l3, rfl, hp3.mono (by omega), of3, hf3, ok3, fun z => e3 (by omega)⟩
      · obtain ⟨l4, rfl, hp4, of4, hf4, ok4, e4⟩ := hP
        refine as_seq (fun δ' M' => ∃ (l' : List Ent) (t9 t10 t11 : Option D), δ' = [some (.adr p), some (.adr rq), some (.int last), some (.lst ((sweepL l (last.toNat + 1)).map dP)), some (.int way), some (.adr qf), some (.lst ((l.map (·.1)).map D.int)), some (.lst ((freeI l last).map D.int)), t8, t9, t10, t11, none] ∧ PurseAt M' p (n + 12) ∧ Off p M M' ∧ M' qf = some (.lst (l'.map dE)) ∧ RowsOk 40 last l') (as_if (aW.t (aw_and (et (atv_cmp op_gt (av_name gf 4) av_int p_gt) ⟨fun hw => aw_and1 (et (atv_cmp (op_neD hu) (av_name gf 1) (av_lst aav_nil) (p_neN en_entries (x := l) (.adr (of4 _ _ rne hR) rfl) (.dat (x := ([] : List Ent))))) ⟨fun hr0 => ?_, fun _ => ?_⟩), fun hw => ⟨fun z => (nomatch z), fun _ => ?_⟩⟩)))) (fun δ' M5 hP => ?_)
        · have hw := of_decide_eq_true hw
          have e := e4 (by omega)
          subst e
          have hne : l4 ≠ [] := by simpa using hr0
          have hpos : 0 < l4.length := List.length_pos_iff.mpr hne
          refine as_cons (as_set g 10 (ae_coin gf FC r1 (av_name gf 0) (av_callB gf call_len_seq T.len (by rfl) (aav_cons (av_name gf 1) aav_nil) (c_lenM (of4 _ _ rne hR))) hp4 (by rw [List.length_map]; omega) (by omega) fun j M5 j0 j1 hp5 of5 => ?_))
          rw [List.length_map] at j1
          have hf5 := of5.at hf4 npf.symm
          obtain ⟨y, hy, hyj, _⟩ := atD' (f := dE) j0 j1
          obtain ⟨okE, hyn⟩ := ok4.erase hyj
          have oyd := ok4.day y hy
          have oyp := ok4.pr y hy
          refine as_cons (as_asg (ae_popAt (ev (av_name gf 5) ⟨qf, _, rfl, hf5, ev (av_name gf 10) ⟨_, j, dE y, rfl, hf5, j0, by omega, by rw [List.getElem?_map, hyj]; rfl, ag_tup gf (ags_cons (ag_name g 9 (ags_cons (ag_name g 11 (ags_nil ?_)))))⟩⟩)))
          have hm6 : updM M5 qf (.lst ((l4.map dE).eraseIdx j.toNat)) qf = some (.lst ((l4.eraseIdx j.toNat).map dE)) := by rw [updM_same, map_erase]
          have hp6 := hp5.upd (o := .lst ((l4.map dE).eraseIdx j.toNat)) npf
          have of6 := (of4.trans of5).new (o := .lst ((l4.map dE).eraseIdx j.toNat)) hf0
          generalize updM M5 qf (.lst ((l4.map dE).eraseIdx j.toNat)) = M6 at hm6 hp6 of6 ⊢
          show aSs X _ _ [some (.adr p), some (.adr rq), some (.int last), some (.lst ((sweepL l4 (last.toNat + 1)).map dP)), some (.int way), some (.adr qf), some (.lst ((l4.map (·.1)).map D.int)), some (.lst ((freeI l4 last).map D.int)), t8, some (.int y.1), some (.int j), some (dP y.2), none] M6
          have oel := okE.len
          have okE4 := okE.mono (m' := 40) (n' := last) (by omega) (by omega)
          refine as_seq (fun δ' M' => ∃ (l' : List Ent), δ' = [some (.adr p), some (.adr rq), some (.int last), some (.lst ((sweepL l4 (last.toNat + 1)).map dP)), some (.int way), some (.adr qf), some (.lst ((l4.map (·.1)).map D.int)), some (.lst ((freeI l4 last).map D.int)), t8, some (.int y.1), some (.int j), some (dP y.2), none] ∧ PurseAt M' p (n + 10) ∧ Off p M M' ∧ M' qf = some (.lst (l'.map dE)) ∧ RowsOk 40 last l' ∧ (way ≠ 4 → l' = l4.eraseIdx j.toNat)) (as_ifP (atv_cmp op_eq (av_name gf 4) av_int p_eq) (fun hw4 => ?_) (fun hw4 => ?_)) (fun δ' M7 hP => ?_)
          · refine as_one (as_expr (ae_append (ev (av_name gf 5) ⟨qf, _, rfl, hm6, ae_tup (aa_cons (ev (av_name gf 9) (aa_cons (ae_call gf FP hr (aa_cons (ev (av_name gf 0) (aa_nil ⟨p, _, _, rfl, hp6, by omega, rfl, fun pr hprB M7 hp7 of7 => aa_nil ⟨by show 2 ≤ 10000; decide, _, of7.at hm6 npf.symm, by rw [List.length_map]; omega, l4.eraseIdx j.toNat ++ [(y.1, pr)], rfl, (hp7.upd npf).mono (by omega), (of6.trans of7).new hf0, by rw [updM_same, List.map_append]; rfl, (okE4).snoc (by omega) oyd.1 oyd.2 hyn (prB_okP hprB), fun z => absurd hw4 z⟩⟩)))))))⟩)))
          · exact as_nil ⟨_, rfl, hp6.mono (by omega), of6, hm6, okE4, fun _ => rfl⟩
          · obtain ⟨l7, rfl, hp7, of7, hm7, ok7, e7⟩ := hP
            refine as_seq (fun δ' M' => ∃ (l' : List Ent), δ' = [some (.adr p), some (.adr rq), some (.int last), some (.lst ((sweepL l4 (last.toNat + 1)).map dP)), some (.int way), some (.adr qf), some (.lst ((l4.map (·.1)).map D.int)), some (.lst ((freeI l4 last).map D.int)), t8, some (.int y.1), some (.int j), some (dP y.2), none] ∧ PurseAt M' p (n + 12) ∧ Off p M M' ∧ M' qf = some (.lst (l'.map dE)) ∧ RowsOk 40 last l' ∧ (way = 6 → l' = l4.eraseIdx j.toNat)) (as_if (aW.t (aw_and (et (atv_cmp op_eq (av_name gf 4) av_int p_eq) ⟨fun hw5 => aw_and1 (et (atv_cmp (op_neD hu) (av_name gf 7) (av_lst aav_nil) (p_neN en_ints (x := freeI l4 last) .dat (.dat (x := ([] : List Int))))) ⟨fun hfr => ?_, fun _ => ?_⟩), fun _ => ⟨fun z => (nomatch z), fun _ => ?_⟩⟩)))) (fun δ' M8 hP => ?_)
            · have hw5 := of_decide_eq_true hw5
              have hfr : freeI l4 last ≠ [] := by simpa using hfr
              have hfp : 0 < (freeI l4 last).length := List.length_pos_iff.mpr hfr
              have e := e7 (by omega)
              subst e
              refine as_one (as_expr (ae_insert (ev (av_name gf 5) ⟨qf, _, rfl, hm7, ev (av_name gf 10) (ae_tup (aa_cons (ae_ix ix_list (ev (av_name gf 7) (ae_coin gf FC r1 (av_name gf 0) (av_callB gf call_len_seq T.len (by rfl) (aav_cons (av_name gf 7) aav_nil) c_lenL) hp7 (by rw [List.length_map]; omega) (by omega) fun i M8 i0 i1 hp8 of8 => ?_)))))⟩)))
              rw [List.length_map] at i1
              obtain ⟨z, hz, _, hj⟩ := atD' (f := D.int) i0 i1
              obtain ⟨z0, z1, z2⟩ := free_mem hz
              have hnz : z ∉ (l4.eraseIdx j.toNat).map (·.1) := fun w => z2 (((List.eraseIdx_sublist l4 j.toNat).map _).subset w)
              refine (p_ixL hj).aR (aa_cons (ev (av_name gf 11) (aa_nil ⟨by show 2 ≤ 10000; decide, _, j, rfl, of8.at hm7 npf.symm, by rw [List.length_map]; omega, j0, by omega, _, rfl, (hp8.upd npf).mono (by omega), (of7.trans of8).new hf0, ?_, (okE4.snoc (d := z) (q := y.2) (by omega) z0 z1 hnz oyp).perm (ins_perm _ j.toNat _), fun w => absurd w (by omega)⟩)))
              rw [updM_same, List.map_append, List.map_append, List.map_take, List.map_drop]
              rfl
            · exact as_nil ⟨l7, rfl, hp7.mono (by omega), of7, hm7, ok7, fun w => e7 (by omega)⟩
            · exact as_nil ⟨l7, rfl, hp7.mono (by omega), of7, hm7, ok7, fun w => e7 (by omega)⟩
            · obtain ⟨l8, rfl, hp8, of8, hm8, ok8, e8⟩ := hP
              refine as_one (as_ifP (atv_cmp op_eq (av_name gf 4) av_int p_eq) (fun hw6 => ?_) (fun hw6 => ?_))
              · have e := e8 hw6
                subst e
                refine as_one (as_expr (ae_append (ev (av_name gf 5) ⟨qf, _, rfl, hm8, ae_tup (aa_cons (ev (av_name gf 9) (aa_cons (ae_if (et (atv_cmp op_isN1 (av_name gf 11) av_non p_isN) ⟨fun h => ev av_int ?_, fun h => ?_⟩)))))⟩)))
                · exact aa_nil ⟨by show 2 ≤ 10000; decide, _, hm8, by rw [List.length_map]; omega, l4.eraseIdx j.toNat ++ [(y.1, some 0)], _, _, _, rfl, (hp8.upd npf).mono (by omega), of8.new hf0, by rw [updM_same, List.map_append]; rfl, okE4.snoc (by omega) oyd.1 oyd.2 hyn (okP_some (by decide) (by decide))⟩
                · rcases hy2 : y.2 with _ | v
                  · rw [hy2] at h; cases h
                  · rw [hy2] at oyp
                    have := oyp v rfl
                    exact ev (av_neg (av_name gf 11)) (aa_nil ⟨by show 2 ≤ 10000; decide, _, hm8, by rw [List.length_map]; omega, l4.eraseIdx j.toNat ++ [(y.1, some (-v))], _, _, _, rfl, (hp8.upd npf).mono (by omega), of8.new hf0, by rw [updM_same, List.map_append]; rfl, okE4.snoc (by omega) oyd.1 oyd.2 hyn (okP_some (by omega) (by omega))⟩)
              · exact as_nil ⟨l8, _, _, _, rfl, hp8.mono (by omega), of8, hm8, ok8⟩
        · exact as_nil ⟨l4, t9, none, none, rfl, hp4.mono (by omega), of4, hf4, ok4⟩
        · exact as_nil ⟨l4, t9, none, none, rfl, hp4.mono (by omega), of4, hf4, ok4⟩
        · obtain ⟨l5, t9, t10, t11, rfl, hp5, of5, hf5, ok5⟩ := hP
          exact tail l5 t8 t9 t10 t11 M5 hp5 of5 hf5 ok5
def spLastN : ASp := fun ds M Q _ => ∃ (rq : Addr) (l : List Ent), ds = [.adr rq] ∧ M rq = some (.lst (l.map dE)) ∧ l.length < 10000 ∧ Q (.int (maxOr 0 (l.map (·.1)))) M
theorem up_lastN : Up spLastN := ⟨fun f _ ⟨a, l, h, h1, h2, q⟩ => ⟨a, l, h, h1, h2, f _ _ q⟩⟩
theorem ok_lastN {G : Gx} {f : Addr} {fd : FuncData} (F : L2.Fun G.K "_law_last" "_law_last" s_law_last f fd) (T : Txt G) : FnG G CX0 1 f fd ["rows"] (toSp spLastN) := by
  refine aok F sc_last (fun ds M Q E h => ?_) (fun X g hr ds M Q E h => ?_)
  · obtain ⟨rq, l, rfl, _⟩ := h; rfl
  · obtain ⟨rq, l, rfl, hR, h1, q⟩ := h
    have gf := g.toXF
    show aSs X _ _ [some (.adr rq), none] M
    exact as_one (as_ret (ev (av_maxD gf T.max (ns := l.map (·.1)) (av_lc (own := [(("pair" : Str), 1)]) gf dE (fun x => D.int x.1) l (fun x => [some (.adr rq), some (dE x)]) (tg_name gf 1) (Ab.src_adr (av_name gf 0) hR) (by omega) (fun _ _ => agt_name) (fun x _ M' _ X' gX _ => av_ix ix_tup (av_name gX 1) av_int (p_ixT rfl))) (by rw [days_map]; exact .lst) av_int) q))
def spNear1N : ASp := fun ds M Q _ => ∃ (p rq : Addr) (n : Int) (l : List Ent), ds = [.adr p, .adr rq] ∧ PurseAt M p n ∧ n + 13 < 18446744073709551616 ∧ M rq = some (.lst (l.map dE)) ∧ rq ≠ p ∧ RowsOk 40 402 l ∧ ∀ l', RowsOk 40 402 l' → ∀ M', PurseAt M' p (n + 13) → Off p M M' → Q (dEs l') M'
theorem up_near1N : Up spNear1N := ⟨fun f _ ⟨p, a, n, l, h, h1, h2, h3, h4, h5, q⟩ => ⟨p, a, n, l, h, h1, h2, h3, h4, h5, fun l' z M' b c => f _ _ (q l' z M' b c)⟩⟩
theorem ok_nearN {G : Gx} {f : Addr} {fd : FuncData} (F : L2.Fun G.K "_law_near" "_law_near" s_law_near f fd) (T : Txt G) (FC : Fn G 1 "_law_coin" (spDraw 1 SCoin)) (FN : Fn G 3 "_law_near_rows" spNearN) (FLa : Fn G 1 "_law_last" spLastN) : FnG G CX0 4 f fd ["purse", "rows"] (toSp spNear1N) := by
  refine aok F sc_near (fun ds M Q E h => ?_) (fun X g hr ds M Q E h => ?_)
  · obtain ⟨p, rq, n, l, rfl, _⟩ := h; rfl
  · obtain ⟨p, rq, n, l, rfl, hp, hn, hR, rne, ok, q⟩ := h
    have gf := g.toXF
    have r1 := hr.mono (show 1 ≤ 3 by decide)
    have ol := ok.len
    show aSs X _ _ [some (.adr p), some (.adr rq), none] M
    refine as_seq (fun δ' M' => ∃ last : Int, δ' = [some (.adr p), some (.adr rq), some (.int last)] ∧ PurseAt M' p (n + 1) ∧ Off p M M' ∧ 0 ≤ last ∧ last ≤ 402 ∧ RowsOk 40 last l) (as_set g 2 (ae_if (aW.t (aw_and (at_cmp op_lt (ae_call gf FLa r1 (ea (aav_cons (av_name gf 1) aav_nil) ⟨rq, l, rfl, hR, by omega, ev av_int (p_lt.aR ⟨_, rfl, fun h1 => aw_and1 (at_cmp op_eq (ae_coin gf FC r1 (av_name gf 0) av_int hp (by decide) (by omega) fun c M1 c0 c1 hp1 of1 => ev av_int (p_eq.aR ⟨_, rfl, fun _ => ev av_int ?_, fun _ => ev av_int ?_⟩))), fun _ => ⟨fun z => (nomatch z), fun _ => ev av_int ?_⟩⟩)⟩))))))) (fun δ' M1 hP => ?_)
    · have h1 := of_decide_eq_true h1
      exact ⟨41, rfl, hp1, of1, by decide, by decide, ⟨ol, fun x hx => ⟨(ok.day x hx).1, by have := le_maxOr (d := 0) (List.mem_map_of_mem (f := (·.1)) hx); omega⟩, ok.nd, ok.pr⟩⟩
    · exact ⟨402, rfl, hp1, of1, by decide, by decide, ok⟩
    · exact ⟨402, rfl, hp.mono (by omega), .refl _ _, by decide, by decide, ok⟩
    · obtain ⟨last, rfl, hp1, of1, l0, l1, ok1⟩ := hP
      refine as_one (as_ret (ae_call gf FN hr (aa_cons (ev (av_name gf 0) (aa_cons (ev (av_name gf 1) (aa_cons (ev (av_name gf 2) (aa_nil ⟨p, rq, _, l, last, rfl, hp1, by omega, of1 _ _ rne hR, rne, l0, l1, ok1, fun l' hl' M2 hp2 of2 => ?_⟩)))))))))
      exact q l' (hl'.mono (by decide) l1) M2 (hp2.mono (by omega)) (of1.trans of2)
theorem sc_told : FnScope ["kept", "day", "found", "known", "price"] ["kept", "day"] (defScope s_told_on) := ⟨rfl, rfl, rfl, by decide +kernel, rfl, by decide +kernel, by decide +kernel⟩
def STold : List D → AHp → (D → Prop) → Prop := fun ds _ k => ∃ (l : List Ent) (d : Int), ds = [.tup (l.map dE), .int d] ∧ k (dP (toldL l d none))
theorem mon_told : MonP STold := ⟨fun f ⟨l, d, h, q⟩ => ⟨l, d, h, f _ q⟩⟩
theorem ok_told {G : Gx} {f : Addr} {fd : FuncData} (F : L2.Fun G.K "told_on" "told_on" s_told_on f fd) (T : Txt G) : FnG G CX0 1 f fd ["kept", "day"] (toSp (spPure STold)) := by
  refine aok F sc_told (fun ds M Q E h => ?_) (fun X g hr ds M Q E h => ?_)
  · obtain ⟨l, d, rfl, _⟩ := h; rfl
  · obtain ⟨l0, d, rfl, q⟩ := h
    have gf := g.toXF
    show aSs X _ _ [some (.tup (l0.map dE)), some (.int d), none, none, none] M
    refine as_cons (as_setV g 2 av_non ?_)
    show aSs X _ _ [some (.tup (l0.map dE)), some (.int d), some .non, none, none] M
    refine as_cons (as_forD gf .tup (av_name gf 0) (fun ds δ' M' => ∃ (l : List Ent) (f : Option Int) (t3 t4 : Option D), ds = l.map dE ∧ M' = M ∧ δ' = [some (.tup (l0.map dE)), some (.int d), some (dP f), t3, t4] ∧ toldL l d f = toldL l0 d none) ⟨l0, none, none, none, rfl, rfl, rfl, rfl⟩ (fun _ _ M' z q e => (nomatch e)) (fun x ds δ' M' hJ => ?_) (fun δ' M' hJ => ?_))
    · obtain ⟨l, f, t3, t4, e, rfl, rfl, hq⟩ := hJ
      cases l with
      | nil => cases e
      | cons y l =>
        rw [List.map_cons] at e
        cases e
        refine ag_tup gf (ags_cons (ag_name g 3 (ags_cons (ag_name g 4 (ags_nil ?_)))))
        show aSs X _ _ [some (.tup (l0.map dE)), some (.int d), some (dP f), some (.int y.1), some (dP y.2)] M'
        have e1 : toldL (y :: l) d f = if d < y.1 then f else toldL l d y.2 := rfl
        rw [e1] at hq
        refine as_cons (as_ifP (atv_cmp op_gt (av_name gf 3) (av_name gf 1) p_gt) (fun h => ?_) (fun h => ?_))
        · rw [if_pos h] at hq
          exact as_one (as_break ⟨[], f, _, _, rfl, rfl, rfl, hq⟩)
        · rw [if_neg h] at hq
          refine as_nil (as_one (as_setV g 2 (av_name gf 4) ⟨l, y.2, _, _, rfl, rfl, rfl, hq⟩))
    · obtain ⟨l, f, t3, t4, e, rfl, rfl, hq⟩ := hJ
      have e : l = [] := List.map_eq_nil_iff.mp e.symm
      subst e
      exact as_one (as_ret (ev (av_name gf 2) (by rw [show f = toldL l0 d none from hq]; exact q)))
abbrev dPL (C : Addr) (l : List Ent) : D := .obj C [("kept_entries", .tup (l.map dE))]
structure ClPL (G : Gx) (C : Addr) : Prop where
  cl : Cls G.K C
  nk : NoAttr G.K C "kept_entries"
theorem sc_PL_init : FnScope ["self", "entries", "book", "day", "price"] ["self", "entries"] (defScope s_PriceList___init__) := ⟨rfl, rfl, rfl, by decide +kernel, rfl, by decide +kernel, by decide +kernel⟩
def spPLinit (C : Addr) : ASp := fun ds M Q _ => ∃ (p : Addr) (e : D) (l : List Ent), ds = [.adr p, e] ∧ M p = some (.ins C []) ∧ ItemsD M e (l.map dE) ∧ (l.map (·.1)).Nodup ∧ (∀ x ∈ l, 0 ≤ x.1) ∧ l.length < 64 ∧ Q .non (updM M p (.ins C [("kept_entries", .tup ((srtE l).map dE))]))
theorem up_PLinit {C : Addr} : Up (spPLinit C) := ⟨fun f _ ⟨p, e, l, h1, h2, h3, h4, h5, h6, q⟩ => ⟨p, e, l, h1, h2, h3, h4, h5, h6, f _ _ q⟩⟩
theorem ok_PL_init {G : Gx} {f C : Addr} {fd : FuncData} (F : L2.Fun G.K "__init__" "PriceList.__init__" s_PriceList___init__ f fd) (T : Txt G) (c : ClPL G C) : FnG G CX0 1 f fd ["self", "entries"] (toSp (spPLinit C)) := by
  refine aok F sc_PL_init (fun ds M Q E h => ?_) (fun X g hr ds M Q E h => ?_)
  · obtain ⟨p, e, l, rfl, _⟩ := h; rfl
  · obtain ⟨p, e, l, rfl, hp, hi, hnd, hpos, hlen, q⟩ := h
    have gf := g.toXF
    show aSs X _ _ [some (.adr p), some e, none, none, none] M
    refine as_cons (as_set g 2 (ae_dictM fun qb hb => ?_))
    have npb := neM hp hb
    have hne : ∀ a, e = .adr a → a ≠ qb := by
      rintro a rfl
      cases hi with
      | adr ha => exact neM ha hb
    have hi2 : ItemsD (updM M qb (.dK [])) e (l.map dE) := by
      cases hi with
      | lst => exact .lst
      | tup => exact .tup
      | adr ha => exact .adr (by rw [updM_ne (hne _ rfl)]; exact ha)
    show aSs X _ _ [some (.adr p), some e, some (.adr qb), none, none] _
    refine as_cons (as_forD gf hi2 (av_name gf 1) (fun ds δ' M' => ∃ (l1 l2 : List Ent) (t3 t4 : Option D), l = l1 ++ l2 ∧ ds = l2.map dE ∧ M' = updM M qb (.dK (kvI dP l1)) ∧ δ' = [some (.adr p), some e, some (.adr qb), t3, t4]) ⟨[], l, none, none, rfl, rfl, rfl, rfl⟩ (fun ds δ' M' hJ a ha => ?_) (fun x ds δ' M' hJ => ?_) (fun δ' M' hJ => ?_))
    · obtain ⟨l1, l2, t3, t4, _, _, rfl, _⟩ := hJ
      rw [updM_ne (hne a ha), updM_ne (hne a ha)]
    · obtain ⟨l1, l2, t3, t4, e1, e2, rfl, rfl⟩ := hJ
      cases l2 with
      | nil => cases e2
      | cons y l2 =>
        rw [List.map_cons] at e2
        cases e2
        have h0 := hpos y (by rw [e1]; simp)
        have hnew : lookI l1 y.1 = none := lookI_none.mpr fun z => by
          rw [e1, List.map_append, List.map_cons] at hnd
          exact (List.nodup_append.mp hnd).2.2 _ z _ List.mem_cons_self rfl
        refine ag_tup gf (ags_cons (ag_name g 3 (ags_cons (ag_name g 4 (ags_nil ?_)))))
        show aSs X _ _ [some (.adr p), some e, some (.adr qb), some (.int y.1), some (dP y.2)] _
        refine as_cons (as_ifP (atv_cmp op_lt (av_name gf 3) av_int p_lt) (fun h => absurd h (by omega)) (fun _ => as_nil ?_))
        refine as_cons (as_if (at_din hr (ev (av_name gf 3) (ev (av_name gf 2) ⟨.inl y.1, qb, _, rfl, rfl, updM_same, fun h => ?_, fun _ => as_nil ?_⟩))))
        · rw [lookK_kvI, hnew] at h; cases h
        · refine as_one (as_dput hr (ev (av_name gf 4) (ev (av_name gf 2) (ev (av_name gf 3) ⟨qb, _, .inl y.1, rfl, rfl, updM_same, ?_, l1 ++ [y], l2, _, _, by rw [e1]; simp, rfl, ?_, rfl⟩))))
          · have := congrArg List.length e1
            simp at this
            simp [kvI]
            omega
          · rw [updM_updM, putKD_new _ (by rw [lookK_kvI, hnew]; rfl)]
            unfold kvI
            rw [List.map_append]
            rfl
    · obtain ⟨l1, l2, t3, t4, e1, e2, rfl, rfl⟩ := hJ
      have e2 : l2 = [] := List.map_eq_nil_iff.mp e2.symm
      subst e2
      rw [List.append_nil] at e1
      subst e1
      have hpb : updM M qb (.dK (kvI dP l)) p = some (.ins C []) := by rw [updM_ne npb]; exact hp
      refine as_cons (as_fld gf c.cl c.nk (ev (av_callTy gf call_tuple_of T.tuple (by rfl) (aav_cons (av_lc (own := [(("day" : Str), 3)]) gf D.int (fun d => dE (d, (lookI l d).getD none)) (srtI (l.map (·.1))) (fun d => [some (.adr p), some e, some (.adr qb), some (.int d), t4]) (tg_name gf 3) (Ab.src_list (av_callB gf (call_sortedDI g.calm) T.sorted (by rfl) (aav_cons (av_name gf 2) aav_nil) (c_sortedD updM_same (ks := l.map (·.1)) (by unfold kvI; rw [List.map_map, List.map_map]; rfl) (by rw [List.length_map]; exact hlen)))) ?_ (fun d _ => agt_name) (fun d hd M' ge X' gX eA => ?_)) aav_nil) c_tupL) (ev (av_name gf 0) ⟨p, [], rfl, hpb, by decide, ?_⟩)))
      · rw [(srtBy_perm _ _).length_eq, List.length_map]; omega
      · have hd2 := (srtBy_perm _ _).mem_iff.mp hd
        obtain ⟨x, hx, e⟩ := List.mem_map.mp hd2
        have hl := (lookI_some (i := x.1) (y := x.2) hnd).mpr hx
        have e : x.1 = d := e
        rw [e] at hl
        rw [hl]
        exact av_tup (aav_cons (av_name gX 3) (aav_cons (av_dget (j0 := 0) (by rw [eA]; exact hr) (av_name gX 2) (av_name gX 3) (ge qb _ updM_same) (k := .inl d) (by rw [lookK_kvI, hl]; rfl)) aav_nil))
      · have e3 : (srtI (l.map (·.1))).map (fun d => dE (d, (lookI l d).getD none)) = (srtE l).map dE := by rw [← srt_days hnd, List.map_map]; rfl
        rw [e3]
        refine as_forget (M' := updM M p (.ins C [("kept_entries", .tup ((srtE l).map dE))])) (fun a o z => ?_) (as_nil q)
        by_cases ap : a = p
        · subst ap
          rw [updM_same] at z ⊢
          exact z
        · rw [updM_ne ap] at z ⊢
          rw [updM_ne (neM z hb)]
          exact z
section
variable {X : Cx} {e : Expr} {δ : DE} {M : AHp} {Q : DK} {G : Gx} {N : List Str} {sc : Scope} {pos pp kpos : Pos} {C : Addr}
theorem PL_args {d : D} {l : List Ent} (hi : ItemsD M d (l.map dE)) (hnd : (l.map (·.1)).Nodup) (h0 : ∀ x ∈ l, 0 ≤ x.1) (hl : l.length < 64) (q : Q (dPL C (srtE l)) M) : ∀ p, M p = none → spPLinit C [.adr p, d] (updM M p (.ins C [])) (fun d' M' => d' = .non ∧ ∃ p2 fs, D.adr p = .adr p2 ∧ M' p2 = some (.ins C fs) ∧ Q (.obj C fs) (delM M' p2)) noX := fun p hp => by
  refine ⟨p, d, l, rfl, updM_same, ?_, hnd, h0, hl, rfl, p, _, rfl, updM_same, ?_⟩
  · cases hi with
    | lst => exact .lst
    | tup => exact .tup
    | adr ha => exact .adr (by rw [updM_ne (neM ha hp)]; exact ha)
  · rw [updM_updM, delM_updM hp]
    exact q
/-- PriceList(e), PriceList(entries=e) -/
theorem ae_PL (g : XF X G N sc) (F : Cn G 1 "PriceList" C (spPLinit C)) (hr : Room 2 X.A) {d : D} {l : List Ent} (he : aV X e δ M d) (hi : ItemsD M d (l.map dE)) (hnd : (l.map (·.1)).Nodup) (h0 : ∀ x ∈ l, 0 ≤ x.1) (hl : l.length < 64) (q : Q (dPL C (srtE l)) M)
    (hg : sc.names.lookup ("PriceList" : Str) = some .globalImplicit := by rfl) (hs : starEach (e :: []) X.env = (false, eval e X.env) :: starEach [] X.env := by rfl) : aE X (.Call (.Name "PriceList" pp) [e] [] pos) δ M Q :=
  ae_frzI (C := C) (ae_make g F hr (aa_cons (he _ (aa_nil fun p hp => PL_args hi hnd h0 hl q p hp)) hs) hg (by decide) hs)
theorem ae_PLK (g : XF X G N sc) (F : CnK G 1 "PriceList" C 0 ["entries"] gApp (spPLinit C)) (hr : Room 2 X.A) {d : D} {l : List Ent} (he : aV X e δ M d) (hi : ItemsD M d (l.map dE)) (hnd : (l.map (·.1)).Nodup) (h0 : ∀ x ∈ l, 0 ≤ x.1) (hl : l.length < 64) (q : Q (dPL C (srtE l)) M)
    (hg : sc.names.lookup ("PriceList" : Str) = some .globalImplicit := by rfl) (hall : (backToKw pos (keywordEach [⟨some "entries", e, kpos⟩] X.env)).all (·.1.isSome) = true := by rfl) (hks : (backToKw pos (keywordEach [⟨some "entries", e, kpos⟩] X.env)).filterMap (·.1) = [("entries" : Str)] := by rfl)
    (hpl : ((backTo pos (starEach [] X.env)).any (·.1) || (backToKw pos (keywordEach [⟨some "entries", e, kpos⟩] X.env)).any (·.1.isNone)) = false := by rfl) : aE X (.Call (.Name "PriceList" pp) [] [⟨some "entries", e, kpos⟩] pos) δ M Q :=
  ae_frzI (C := C) (ae_makeK0 g F hr (ak_cons (he _ (ak_nil ⟨rfl, fun p hp => PL_args hi hnd h0 hl q p hp⟩))) hg (by decide) hall hks hpl)
end
theorem sc_PL_entries : FnScope ["self"] ["self"] (defScope s_PriceList_entries) := ⟨rfl, rfl, rfl, by decide +kernel, rfl, by decide +kernel, by decide +kernel⟩
def spPLentries (C : Addr) : ASp := fun ds M Q _ => ∃ (l : List Ent), ds = [dPL C l] ∧ ∀ p, M p = none → Q (.adr p) (updM M p (.lst (l.map dE)))
theorem up_PLentries {C : Addr} : Up (spPLentries C) := ⟨fun f _ ⟨l, h, q⟩ => ⟨l, h, fun p hp => f _ _ (q p hp)⟩⟩
theorem ok_PL_entries {G : Gx} {f C : Addr} {fd : FuncData} (F : L2.Fun G.K "entries" "PriceList.entries" s_PriceList_entries f fd) (T : Txt G) (c : ClPL G C) : FnG G CX0 1 f fd ["self"] (toSp (spPLentries C)) := by
  refine aok F sc_PL_entries (fun ds M Q E h => ?_) (fun X g hr ds M Q E h => ?_)
  · obtain ⟨l, rfl, _⟩ := h; rfl
  · obtain ⟨l, rfl, q⟩ := h
    have gf := g.toXF
    show aSs X _ _ [some (dPL C l)] M
    exact as_one (as_ret (ae_callTy gf call_list_of T.list (by rfl) (ea (aav_cons (av_fld gf c.cl c.nk (av_name gf 0) .obj rfl) aav_nil) (a_listM .tup q))))
theorem sc_PL_getitem : FnScope ["self", "at"] ["self", "at"] (defScope s_PriceList___getitem__) := ⟨rfl, rfl, rfl, by decide +kernel, rfl, by decide +kernel, by decide +kernel⟩
def SPLget (C : Addr) : List D → AHp → (D → Prop) → Prop := fun ds _ k => ∃ (l : List Ent) (d : Int), ds = [dPL C l, .int d] ∧ 0 ≤ d ∧ k (dP (toldL l d none))
theorem mon_PLget {C : Addr} : MonP (SPLget C) := ⟨fun f ⟨l, d, h, h2, q⟩ => ⟨l, d, h, h2, f _ q⟩⟩
theorem ok_PL_getitem {G : Gx} {f C : Addr} {fd : FuncData} (F : L2.Fun G.K "__getitem__" "PriceList.__getitem__" s_PriceList___getitem__ f fd) (T : Txt G) (c : ClPL G C) (FT : Fn G 1 "told_on" (spPure STold)) : FnG G CX0 2 f fd ["self", "at"] (toSp (spPure (SPLget C))) := by
  refine aok F sc_PL_getitem (fun ds M Q E h => ?_) (fun X g hr ds M Q E h => ?_)
  · obtain ⟨l, d, rfl, _⟩ := h; rfl
  · obtain ⟨l, d, rfl, h0, q⟩ := h
    have gf := g.toXF
    show aSs X _ _ [some (dPL C l), some (.int d)] M
    refine as_cons (as_ifP (atv_cmp op_lt (av_name gf 1) av_int p_lt) (fun h => absurd h (by omega)) (fun _ => as_nil ?_))
    exact as_one (as_ret (ae_call gf FT hr (ea (aav_cons (av_fld gf c.cl c.nk (av_name gf 0) .obj rfl) (aav_cons (av_name gf 1) aav_nil)) ⟨l, d, rfl, q⟩)))
theorem sc_PL_len : FnScope ["self"] ["self"] (defScope s_PriceList___len__) := ⟨rfl, rfl, rfl, by decide +kernel, rfl, by decide +kernel, by decide +kernel⟩
def SPLlen (C : Addr) : List D → AHp → (D → Prop) → Prop := fun ds _ k => ∃ (l : List Ent), ds = [dPL C l] ∧ k (.int l.length)
theorem mon_PLlen {C : Addr} : MonP (SPLlen C) := ⟨fun f ⟨l, h, q⟩ => ⟨l, h, f _ q⟩⟩
theorem ok_PL_len {G : Gx} {f C : Addr} {fd : FuncData} (F : L2.Fun G.K "__len__" "PriceList.__len__" s_PriceList___len__ f fd) (T : Txt G) (c : ClPL G C) : FnG G CX0 1 f fd ["self"] (toSp (spPure (SPLlen C))) := by
  refine aok F sc_PL_len (fun ds M Q E h => ?_) (fun X g hr ds M Q E h => ?_)
  · obtain ⟨l, rfl, _⟩ := h; rfl
  · obtain ⟨l, rfl, q⟩ := h
    have gf := g.toXF
    show aSs X _ _ [some (dPL C l)] M
    refine as_one (as_ret (ev (aV.to (av_callB gf call_len_seq T.len (by rfl) (aav_cons (av_fld gf c.cl c.nk (av_name gf 0) .obj rfl) aav_nil) c_lenT) (by rw [List.length_map])) q))
theorem sc_PL_changes : FnScope ["self", "found", "last", "day", "price"] ["self"] (defScope s_PriceList_changes) := ⟨rfl, rfl, rfl, by decide +kernel, rfl, by decide +kernel, by decide +kernel⟩
def spPLchanges (C : Addr) : ASp := fun ds M Q _ => ∃ (l : List Ent), ds = [dPL C l] ∧ l.length < 10000 ∧ ∀ q, M q = none → Q (.adr q) (updM M q (.lst ((chgL none l).map dE)))
theorem up_PLchanges {C : Addr} : Up (spPLchanges C) := ⟨fun f _ ⟨l, h, h2, q⟩ => ⟨l, h, h2, fun p hp => f _ _ (q p hp)⟩⟩
theorem ok_PL_changes {G : Gx} {f C : Addr} {fd : FuncData} (F : L2.Fun G.K "changes" "PriceList.changes" s_PriceList_changes f fd) (T : Txt G) (c : ClPL G C) : FnG G CX0 1 f fd ["self"] (toSp (spPLchanges C)) := by
  refine aok F sc_PL_changes (fun ds M Q E h => ?_) (fun X g hr ds M Q E h => ?_)
  · obtain ⟨l, rfl, _⟩ := h; rfl
  · obtain ⟨l, rfl, hlen, q⟩ := h
    have gf := g.toXF
    show aSs X _ _ [some (dPL C l), none, none, none, none] M
    refine as_cons (as_set g 1 (ae_lstM (ea aav_nil ⟨by decide, fun qf hf => ?_⟩)))
    refine as_cons (as_setV g 2 av_non ?_)
    show aSs X _ _ [some (dPL C l), some (.adr qf), some .non, none, none] _
    refine as_cons (as_forD gf .tup (av_fld gf c.cl c.nk (av_name gf 0) .obj rfl) (fun ds δ' M' => ∃ (l2 acc : List Ent) (last : Option Int) (t3 t4 : Option D), ds = l2.map dE ∧ chgL none l = acc ++ chgL last l2 ∧ acc.length + l2.length ≤ l.length ∧ M' = updM M qf (.lst (acc.map dE)) ∧ δ' = [some (dPL C l), some (.adr qf), some (dP last), t3, t4]) ⟨l, [], none, none, none, rfl, rfl, by simp, rfl, rfl⟩ (fun _ _ M' z a e => (nomatch e)) (fun x ds δ' M' hJ => ?_) (fun δ' M' hJ => ?_))
    · obtain ⟨l2, acc, last, t3, t4, e1, e2, e3, rfl, rfl⟩ := hJ
      cases l2 with
      | nil => cases e1
      | cons y l2 =>
        rw [List.map_cons] at e1
        cases e1
        rw [List.length_cons] at e3
        have e4 : chgL last (y :: l2) = if y.2 = last then chgL y.2 l2 else y :: chgL y.2 l2 := rfl
        rw [e4] at e2
        refine ag_tup gf (ags_cons (ag_name g 3 (ags_cons (ag_name g 4 (ags_nil ?_)))))
        show aSs X _ _ [some (dPL C l), some (.adr qf), some (dP last), some (.int y.1), some (dP y.2)] _
        refine as_cons (as_ifV (atv_cmp op_ne (av_name gf 4) (av_name gf 2) p_neP) (fun h => ?_) (fun h => ?_))
        · have h : ¬ y.2 = last := by simpa using h
          rw [if_neg h] at e2
          refine as_one (as_expr (ae_append (ev (av_name gf 1) ⟨qf, _, rfl, updM_same, ev (av_tup (aav_cons (av_name gf 3) (aav_cons (av_name gf 4) aav_nil))) ⟨_, updM_same, by rw [List.length_map]; omega, ?_⟩⟩)))
          rw [updM_updM]
          exact as_one (as_setV g 2 (av_name gf 4) ⟨l2, acc ++ [y], y.2, _, _, rfl, by rw [e2, List.append_assoc]; rfl, by rw [List.length_append, List.length_singleton]; omega, by rw [List.map_append]; rfl, rfl⟩)
        · have h : y.2 = last := by simpa using h
          rw [if_pos h] at e2
          exact as_nil (as_one (as_setV g 2 (av_name gf 4) ⟨l2, acc, y.2, _, _, rfl, e2, by omega, rfl, rfl⟩))
    · obtain ⟨l2, acc, last, t3, t4, e1, e2, e3, rfl, rfl⟩ := hJ
      have e : l2 = [] := List.map_eq_nil_iff.mp e1.symm
      subst e
      refine as_one (as_ret (ev (av_name gf 1) ?_))
      have z := q qf hf
      rw [e2, show chgL last ([] : List Ent) = [] from rfl, List.append_nil] at z
      exact z
theorem sc_PL_alike : FnScope ["self", "other"] ["self", "other"] (defScope s_PriceList_alike) := ⟨rfl, rfl, rfl, by decide +kernel, rfl, by decide +kernel, by decide +kernel⟩
def SPLalike (C : Addr) : List D → AHp → (D → Prop) → Prop := fun ds _ k => ∃ (s t : List Ent), ds = [dPL C s, dPL C t] ∧ s.length < 10000 ∧ t.length < 10000 ∧ k (.bl (decide (chgL none s = chgL none t)))
theorem mon_PLalike {C : Addr} : MonP (SPLalike C) := ⟨fun f ⟨s, t, h, h1, h2, q⟩ => ⟨s, t, h, h1, h2, f _ q⟩⟩
theorem ok_PL_alike {G : Gx} {f C : Addr} {fd : FuncData} (F : L2.Fun G.K "alike" "PriceList.alike" s_PriceList_alike f fd) (T : Txt G) (FM : Mt G 1 C "changes" (spPLchanges C)) : FnG G CX0 2 f fd ["self", "other"] (toSp (spPure (SPLalike C))) := by
  refine aok F sc_PL_alike (fun ds M Q E h => ?_) (fun X g hr ds M Q E h => ?_)
  · obtain ⟨s, t, rfl, _⟩ := h; rfl
  · obtain ⟨s, t, rfl, h1, h2, q⟩ := h
    have gf := g.toXF
    have hu := u64 hr
    show aSs X _ _ [some (dPL C s), some (dPL C t)] M
    refine as_one (as_ret (ae_forget (ae_cmp (op_eqD hu) (ae_meth0 gf FM hr (ev (av_name gf 0) ⟨_, .obj, rfl, s, rfl, h1, fun q1 hq1 => ae_meth0 gf FM hr (ev (av_name gf 1) ⟨_, .obj, rfl, t, rfl, h2, fun q2 hq2 => ?_⟩)⟩)))))
    have ne : q1 ≠ q2 := fun z => by rw [z, updM_same] at hq2; cases hq2
    refine (p_eqN en_entries (x := chgL none s) (y := chgL none t) (.adr (show updM (updM M q1 (.lst ((chgL none s).map dE))) q2 (MO.lst ((chgL none t).map dE)) q1 = some (.lst ((chgL none s).map dE)) by rw [updM_ne ne]; exact updM_same) rfl) (.adr updM_same rfl)).aR ⟨fun a o e => ?_, q⟩
    have e2 : updM M q1 (.lst ((chgL none s).map dE)) a = some o := by rw [updM_ne (neM e hq1)]; exact e
    rw [updM_ne (neM e2 hq2)]
    exact e2
theorem sc_PL_unlike : FnScope ["self", "other", "day", "pair"] ["self", "other"] (defScope s_PriceList_first_unlike) := ⟨rfl, rfl, rfl, by decide +kernel, rfl, by decide +kernel, by decide +kernel⟩
def SPLun (C : Addr) : List D → AHp → (D → Prop) → Prop := fun ds _ k => ∃ (s t : List Ent), ds = [dPL C s, dPL C t] ∧ s.length + t.length < 10000 ∧ k (dP (unlikeI s t))
theorem mon_PLun {C : Addr} : MonP (SPLun C) := ⟨fun f ⟨s, t, h, h1, q⟩ => ⟨s, t, h, h1, f _ q⟩⟩
theorem ok_PL_unlike {G : Gx} {f C : Addr} {fd : FuncData} (F : L2.Fun G.K "first_unlike" "PriceList.first_unlike" s_PriceList_first_unlike f fd) (T : Txt G) (c : ClPL G C) (FT : Fn G 1 "told_on" (spPure STold)) : FnG G CX0 2 f fd ["self", "other"] (toSp (spPure (SPLun C))) := by
  refine aok F sc_PL_unlike (fun ds M Q E h => ?_) (fun X g hr ds M Q E h => ?_)
  · obtain ⟨s, t, rfl, _⟩ := h; rfl
  · obtain ⟨s, t, rfl, hl, q⟩ := h
    have gf := g.toXF
    show aSs X _ _ [some (dPL C s), some (dPL C t), none, none] M
    refine as_cons (as_forD gf .lst (av_callB gf cr_sortedI T.sorted (by rfl) (aav_cons (av_lc (own := [(("pair" : Str), 3)]) gf dE (fun x => D.int x.1) (s ++ t) (fun x => [some (dPL C s), some (dPL C t), none, some (dE x)]) (tg_name gf 3) (by rw [List.map_append]; exact Ab.src_tup (av_op op_catA (av_fld gf c.cl c.nk (av_name gf 0) .obj rfl) (av_fld gf c.cl c.nk (av_name gf 1) .obj rfl) (p_catA (by rw [List.length_map, List.length_map]; omega)))) (by rw [List.length_append]; omega) (fun _ _ => agt_name) (fun x _ M' _ X' gX _ => av_ix ix_tup (av_name gX 3) av_int (p_ixT rfl))) aav_nil) (c_sortedI (ns := (s ++ t).map (·.1)) (by rw [days_map]; exact .lst)))
      (fun ds δ' M' => ∃ (l2 : List Int) (t2 : Option D), ds = l2.map D.int ∧ l2.find? (fun d => !decide (toldL s d none = toldL t d none)) = unlikeI s t ∧ M' = M ∧ δ' = [some (dPL C s), some (dPL C t), t2, none]) ⟨_, none, rfl, rfl, rfl, rfl⟩ (fun _ _ M' z a e => (nomatch e)) (fun x ds δ' M' hJ => ?_) (fun δ' M' hJ => ?_))
    · obtain ⟨l2, t2, e1, e2, rfl, rfl⟩ := hJ
      cases l2 with
      | nil => cases e1
      | cons y l2 =>
        rw [List.map_cons] at e1
        cases e1
        refine ag_name g 2 ?_
        show aSs X _ _ [some (dPL C s), some (dPL C t), some (.int y), none] M'
        rw [List.find?_cons] at e2
        refine as_one (as_if (at_cmp op_ne (ae_call gf FT hr (ea (aav_cons (av_fld gf c.cl c.nk (av_name gf 0) .obj rfl) (aav_cons (av_name gf 2) aav_nil)) ⟨s, y, rfl, ae_call gf FT hr (ea (aav_cons (av_fld gf c.cl c.nk (av_name gf 1) .obj rfl) (aav_cons (av_name gf 2) aav_nil)) ⟨t, y, rfl, p_neP.aR ⟨_, rfl, fun h => ?_, fun h => ?_⟩⟩)⟩))))
        · rw [h] at e2
          refine as_one (as_ret (ev (av_name gf 2) ?_))
          rw [← e2] at q
          exact q
        · rw [h] at e2
          exact as_nil ⟨l2, _, rfl, e2, rfl, rfl⟩
    · obtain ⟨l2, t2, e1, e2, rfl, rfl⟩ := hJ
      have e : l2 = [] := List.map_eq_nil_iff.mp e1.symm
      subst e
      rw [List.find?_nil] at e2
      rw [← e2] at q
      exact as_one (as_ret (ev av_non q))
def SPLeqD (G : Gx) (C : Addr) : List D → (D → Prop) → Prop := fun ds k => ∃ (l : List Ent) (d : D) (j : Bool), ds = [dPL C l, d] ∧ EqOwn G C (dPL C) l d j ∧ k (.bl j)
theorem mon_PLeqD {G : Gx} {C : Addr} : MonS (SPLeqD G C) := ⟨fun f ⟨l, d, j, h, h2, q⟩ => ⟨l, d, j, h, h2, f _ q⟩⟩
theorem ok_PL_eqD {G : Gx} {f C : Addr} {fd : FuncData} (F : L2.Fun G.K "__eq__" "PriceList.__eq__" s_PriceList___eq__ f fd) (T : Txt G) (c : ClPL G C) (IK : IsK G C) (hC : G.mg "PriceList" = some (.ref C)) (hk : PySem.W.kitOne G.K (.ref C) (.ref C) = some true) : FnG G CX0 2 f fd ["self", "other"] (toSp (spV (SPLeqD G C))) := by
  refine ok_pure F sc_PriceList___eq__ (fun ds kk h => by obtain ⟨l, d, j, rfl, _⟩ := h; rfl) fun X g hr ds kk h => ?_
  obtain ⟨l, d, j, rfl, e, q⟩ := h
  have gf := g.toXF
  rcases e with ⟨m, rfl, rfl⟩ | ⟨t, o, hk2, rfl⟩
  · exact os_one (os_retV (oV.to (ov_and (k := true) (ov_isOwn gf T.isinstance IK hC (by exists "n") hk) fun _ => ov_one (ov_cmp (oX.of (ov_fld gf (by exists "n") c.cl c.nk rfl)) (oX.of (ov_fld gf (by exists "n") c.cl c.nk rfl)) (cv_eqN hr (en_tupl en_entry) (.dat (f := fun l : List Ent => D.tup (l.map dE)) (x := l)) (.dat (f := fun l : List Ent => D.tup (l.map dE)) (x := m))))) (by rw [Bool.true_and])) ⟨_, rfl, q⟩)
  · exact os_one (os_retV (ov_and (k := false) (l := false) (ov_isD gf T.isinstance o hC (by exists "n") hk2) (fun z => by cases z)) ⟨_, rfl, q⟩)
section
variable {X : Cx} {G : Gx} {N : List Str} {sc : Scope} {C : Addr} {l m : List Ent} {d : D} {t : Value} {T : String}
theorem cv_PLeq (g : XF X G N sc) (F : EqC G 2 C (SPLeqD G C)) (hr : Room 2 X.A) (IK : IsK G C) : CmpV X .Eq (.v (dPL C l)) (.v (dPL C m)) (decide (l = m)) := cv_eqL g F hr (.own IK) (by simp [PySem.W.notFirst]) fun Q hQ => ⟨l, _, _, rfl, .inl ⟨m, rfl, rfl⟩, hQ⟩
theorem cv_PLne (g : XF X G N sc) (F : EqC G 2 C (SPLeqD G C)) (hr : Room 3 X.A) (IK : IsK G C) : CmpV X .NotEq (.v (dPL C l)) (.v (dPL C m)) (!decide (l = m)) := cv_neL g F hr (.own IK) (by simp [PySem.W.notFirst]) fun Q hQ => ⟨l, _, _, rfl, .inl ⟨m, rfl, rfl⟩, hQ⟩
theorem cv_PLeqN (g : XF X G N sc) (F : EqC G 2 C (SPLeqD G C)) (hr : Room 2 X.A) (O : OthK G C) (h : tyN d = some T) : CmpV X .Eq (.v (dPL C l)) (.v d) false := cv_eqL g F hr (.nat h) (not_subN h) fun Q hQ => ⟨l, _, _, rfl, eqOwn_nat O h, hQ⟩
theorem cv_PLneN (g : XF X G N sc) (F : EqC G 2 C (SPLeqD G C)) (hr : Room 3 X.A) (O : OthK G C) (h : tyN d = some T) : CmpV X .NotEq (.v (dPL C l)) (.v d) (!false) := cv_neL g F hr (.nat h) (not_subN h) fun Q hQ => ⟨l, _, _, rfl, eqOwn_nat O h, hQ⟩
theorem cv_PLeqR (g : XF X G N sc) (F : EqC G 2 C (SPLeqD G C)) (hr : Room 2 X.A) (O : OthK G C) (h : tyN d = some T) : CmpV X .Eq (.v d) (.v (dPL C l)) false := cv_eqR g F hr h (O.sub (tyN_in h)) fun Q hQ => ⟨l, _, _, rfl, eqOwn_nat O h, hQ⟩
/-- .. and an instance of another own class -/
theorem cv_PLeqO {C2 : Addr} {gs : List (Str × D)} (g : XF X G N sc) (F : EqC G 2 C (SPLeqD G C)) (hr : Room 2 X.A) (I2 : IsK G C2) (hn : PySem.W.notFirst G.K C (.ref C2) = true) (hk : PySem.W.kitOne G.K (.ref C2) (.ref C) = some false) : CmpV X .Eq (.v (dPL C l)) (.v (.obj C2 gs)) false := cv_eqL g F hr (.own I2) hn fun Q hQ => ⟨l, _, _, rfl, .inr ⟨_, .own I2, hk, rfl⟩, hQ⟩
theorem cv_PLneO {C2 : Addr} {gs : List (Str × D)} (g : XF X G N sc) (F : EqC G 2 C (SPLeqD G C)) (hr : Room 3 X.A) (I2 : IsK G C2) (hn : PySem.W.notFirst G.K C (.ref C2) = true) (hk : PySem.W.kitOne G.K (.ref C2) (.ref C) = some false) : CmpV X .NotEq (.v (dPL C l)) (.v (.obj C2 gs)) (!false) := cv_neL g F hr (.own I2) hn fun Q hQ => ⟨l, _, _, rfl, .inr ⟨_, .own I2, hk, rfl⟩, hQ⟩
end
theorem sc_changes : FnScope ["rows", "last", "sweep", "spot"] ["rows", "last"] (defScope s_law_changes) := ⟨rfl, rfl, rfl, by decide +kernel, rfl, by decide +kernel, by decide +kernel⟩
def SChg : List D → AHp → (D → Prop) → Prop := fun ds _ k => ∃ (l : List Ent) (last : Int), ds = [dEs l, .int last] ∧ 0 ≤ last ∧ last < 50000 ∧ (l.map (·.1)).Nodup ∧ k (dEs (chgN l (last.toNat + 1)))
theorem mon_chg : MonP SChg := ⟨fun f ⟨l, d, h, h1, h2, h3, q⟩ => ⟨l, d, h, h1, h2, h3, f _ q⟩⟩
theorem ok_changes {G : Gx} {f : Addr} {fd : FuncData} (F : L2.Fun G.K "_law_changes" "_law_changes" s_law_changes f fd) (T : Txt G) (FS : Fn G 1 "_law_sweep" (spPure SSweep)) : FnG G CX0 2 f fd ["rows", "last"] (toSp (spPure SChg)) := by
  refine aok F sc_changes (fun ds M Q E h => ?_) (fun X g hr ds M Q E h => ?_)
  · obtain ⟨l, d, rfl, _⟩ := h; rfl
  · obtain ⟨l, last, rfl, h0, h1, hnd, q⟩ := h
    have gf := g.toXF
    show aSs X _ _ [some (dEs l), some (.int last), none, none] M
    refine as_cons (as_set g 2 (ae_op op_cat (ev (av_lst (aav_cons av_non aav_nil)) (ae_call gf FS hr (ea (aav_cons (av_name gf 0) (aav_cons (av_name gf 1) aav_nil)) ⟨l, last, rfl, h0, h1, hnd, (p_cat (by rw [List.length_map, sweep_len]; simp; omega)).aR ?_⟩)))))
    show aSs X _ _ [some (dEs l), some (.int last), some (.lst ((none :: sweepL l (last.toNat + 1)).map dP)), none] M
    have hn : (last + 1).toNat = last.toNat + 1 := by omega
    refine as_one (as_ret (ev (aV.to (av_lcF (own := [(("spot" : Str), 3)]) gf (fun i : Nat => D.int (i : Int)) (fun i : Nat => dE ((i : Int), heldN l (i + 1))) (fun i => !decide (heldN l (i + 1) = heldN l i)) (List.range (last + 1).toNat) (fun i => [some (dEs l), some (.int last), some (.lst ((none :: sweepL l (last.toNat + 1)).map dP)), some (.int (i : Int))]) (tg_name gf 3) (srcN gf T.range (av_op op_add (av_name gf 1) av_int p_add) (by omega) (by omega)) (by rw [List.length_range]; omega) (fun _ _ => agt_name) (fun i hi M' _ X' gX _ => ?_) (fun i hi _ M' _ X' gX _ => ?_)) ?_) q))
    · have hi := List.mem_range.mp hi
      exact atv_cmp op_ne (av_ix ix_list (av_name gX 2) (av_op op_add (av_name gX 3) av_int p_add) (p_ixL (show atI _ ((i : Int) + 1) = _ from sweepP_at l (i := i + 1) (by omega)))) (av_ix ix_list (av_name gX 2) (av_name gX 3) (p_ixL (sweepP_at l (by omega)))) p_neP
    · have hi := List.mem_range.mp hi
      exact av_tup (aav_cons (av_name gX 3) (aav_cons (av_ix ix_list (av_name gX 2) (av_op op_add (av_name gX 3) av_int p_add) (p_ixL (show atI _ ((i : Int) + 1) = _ from sweepP_at l (i := i + 1) (by omega)))) aav_nil))
    · rw [hn]
      unfold chgN dEs
      rw [List.map_map]
      rfl
theorem sc_apart : FnScope ["rows", "lines", "last", "left", "right", "spot"] ["rows", "lines", "last"] (defScope s_law_first_apart) := ⟨rfl, rfl, rfl, by decide +kernel, rfl, by decide +kernel, by decide +kernel⟩
def SFA : List D → AHp → (D → Prop) → Prop := fun ds _ k => ∃ (l m : List Ent) (last : Int), ds = [dEs l, dEs m, .int last] ∧ 0 ≤ last ∧ last < 50000 ∧ (l.map (·.1)).Nodup ∧ (m.map (·.1)).Nodup ∧ k (dP (apI l m (last.toNat + 1)))
theorem mon_fa : MonP SFA := ⟨fun f ⟨l, m, d, h, h1, h2, h3, h4, q⟩ => ⟨l, m, d, h, h1, h2, h3, h4, f _ q⟩⟩
theorem ok_apart {G : Gx} {f : Addr} {fd : FuncData} (F : L2.Fun G.K "_law_first_apart" "_law_first_apart" s_law_first_apart f fd) (T : Txt G) (FS : Fn G 1 "_law_sweep" (spPure SSweep)) : FnG G CX0 2 f fd ["rows", "lines", "last"] (toSp (spPure SFA)) := by
  refine aok F sc_apart (fun ds M Q E h => ?_) (fun X g hr ds M Q E h => ?_)
  · obtain ⟨l, m, d, rfl, _⟩ := h; rfl
  · obtain ⟨l, m, last, rfl, h0, h1, hl, hm, q⟩ := h
    have gf := g.toXF
    show aSs X _ _ [some (dEs l), some (dEs m), some (.int last), none, none, none] M
    refine as_cons (as_par g 3 4 (aa_cons (ae_call gf FS hr (ea (aav_cons (av_name gf 0) (aav_cons (av_name gf 2) aav_nil)) ⟨l, last, rfl, h0, h1, hl, aa_cons (ae_call gf FS hr (ea (aav_cons (av_name gf 1) (aav_cons (av_name gf 2) aav_nil)) ⟨m, last, rfl, h0, h1, hm, aa_nil ⟨_, _, rfl, ?_⟩⟩))⟩))))
    show aSs X _ _ [some (dEs l), some (dEs m), some (.int last), some (.lst ((sweepL l (last.toNat + 1)).map dP)), some (.lst ((sweepL m (last.toNat + 1)).map dP)), none] M
    refine as_cons (as_forR gf T.range (ev (av_op op_add (av_name gf 2) av_int p_add) ⟨last + 1, rfl, by omega, by omega, ?_⟩))
    refine al_inv (fun ds δ' M' => ∃ (i : Nat) (t : Option D), i + ds.length = last.toNat + 1 ∧ ds = rgD (i : Int) ds.length ∧ M' = M ∧ δ' = [some (dEs l), some (dEs m), some (.int last), some (.lst ((sweepL l (last.toNat + 1)).map dP)), some (.lst ((sweepL m (last.toNat + 1)).map dP)), t] ∧ ∀ j, j < i → heldN l (j + 1) = heldN m (j + 1)) (fun d ds δ' M' hJ => ?_) (fun δ' M' hJ => ?_) ⟨0, none, by rw [rgD_len]; omega, by rw [rgD_len]; rfl, rfl, rfl, fun j hj => by omega⟩
    · obtain ⟨i, t, hi, hds, rfl, rfl, hlt⟩ := hJ
      rw [List.length_cons] at hi hds
      rw [rgD_succ] at hds
      obtain ⟨e1, e2⟩ := List.cons.inj hds
      subst e1
      refine ag_name g 5 ?_
      show aSs X _ _ [some (dEs l), some (dEs m), some (.int last), some (.lst ((sweepL l (last.toNat + 1)).map dP)), some (.lst ((sweepL m (last.toNat + 1)).map dP)), some (.int (i : Int))] M'
      have s1 := sweep_at l (n := last.toNat + 1) (d := (i : Int)) (by omega) (by omega)
      have s2 := sweep_at m (n := last.toNat + 1) (d := (i : Int)) (by omega) (by omega)
      rw [Int.toNat_natCast] at s1 s2
      refine as_one (as_ifV (atv_cmp op_ne (av_ix ix_list (av_name gf 3) (av_name gf 5) (p_ixL s1)) (av_ix ix_list (av_name gf 4) (av_name gf 5) (p_ixL s2)) p_neP) (fun h => ?_) (fun h => ?_))
      · have h : heldN l (i + 1) ≠ heldN m (i + 1) := by simpa using h
        refine as_one (as_ret (ev (av_name gf 5) ?_))
        have e : apI l m (last.toNat + 1) = some (i : Int) := by unfold apI; rw [apN_of (by omega) h hlt]; rfl
        rw [e] at q
        exact q
      · have h : heldN l (i + 1) = heldN m (i + 1) := by simpa using h
        refine as_nil ⟨i + 1, _, by omega, e2, rfl, rfl, fun j hj => ?_⟩
        by_cases z : j = i
        · rw [z]; exact h
        · exact hlt j (by omega)
    · obtain ⟨i, t, hi, hds, rfl, rfl, hlt⟩ := hJ
      have e : apI l m (last.toNat + 1) = none := apI_none.mpr fun j hj => hlt j (by have : i = last.toNat + 1 := hi; omega)
      rw [e] at q
      exact as_one (as_ret (ev av_non q))
/-! what is in force, by rows in any sequence (where no deeds are done) -/
theorem held_none {l : List Ent} : ∀ {n : Nat}, (∀ x ∈ l, (n : Int) ≤ x.1) → heldN l n = none
  | 0, _ => rfl
  | n + 1, h => by
    unfold heldN
    rw [lookI_far (fun x hx => by have := h x hx; omega)]
    exact held_none fun x hx => by have := h x hx; omega
theorem held_max {l : List Ent} (hn : (l.map (·.1)).Nodup) {b : Ent} (hb : b ∈ l) (h0 : 0 ≤ b.1) : ∀ {n : Nat}, b.1 < (n : Int) → (∀ x ∈ l, x.1 < (n : Int) → x.1 ≤ b.1) → heldN l n = b.2
  | 0, h, _ => by omega
  | n + 1, h, hm => by
    unfold heldN
    cases e : lookI l (n : Int) with
    | some q =>
      have m1 := lookI_mem e
      have e1 := hm _ m1 (by show (n : Int) < _; omega)
      have e1 : (n : Int) ≤ b.1 := e1
      have e2 : b.1 = (n : Int) := by omega
      have e3 := (lookI_some (i := b.1) (y := b.2) hn).mpr hb
      rw [e2, e] at e3
      cases e3
      rfl
    | none =>
      have e2 : b.1 ≠ (n : Int) := fun z => by
        have e3 := (lookI_some (i := b.1) (y := b.2) hn).mpr hb
        rw [z, e] at e3
        cases e3
      exact held_max hn hb h0 (by omega) fun x hx hl => hm x hx (by omega)
def forceOn (l : List Ent) (d : Int) : Option Int := heldN l (d + 1).toNat
theorem force_told {l : List Ent} (hn : (l.map (·.1)).Nodup) (h0 : ∀ x ∈ l, 0 ≤ x.1) {d : Int} (hd : 0 ≤ d) : toldL (srtE l) d none = forceOn l d := by
  rw [told_srt hn h0 hd]
  unfold forceOn
  rw [show (d + 1).toNat = d.toNat + 1 by omega]
def within (l : List Ent) (a b : Int) : Bool := !decide (l.filter (fun x => decide (a ≤ x.1) && decide (x.1 ≤ b)) = [])
def STold2 : List D → (D → Prop) → Prop := fun ds k => ∃ (l : List Ent) (d : Int), ds = [dEs l, .int d] ∧ (l.map (·.1)).Nodup ∧ (∀ x ∈ l, 0 ≤ x.1) ∧ 0 ≤ d ∧ k (dP (forceOn l d))
theorem mon_told2 : MonS STold2 := ⟨fun f ⟨l, d, h, h1, h2, h3, q⟩ => ⟨l, d, h, h1, h2, h3, f _ q⟩⟩
def bestT : Option Ent → Ent
  | none => (-1, none)
  | some e => e
def bestOkT (l : List Ent) (d : Int) : Option Ent → Prop
  | none => ∀ x ∈ l, d < x.1
  | some b => b ∈ l ∧ b.1 ≤ d ∧ ∀ x ∈ l, x.1 ≤ d → x.1 ≤ b.1
theorem bestT_fin {l : List Ent} {d : Int} {b : Option Ent} (hn : (l.map (·.1)).Nodup) (h0 : ∀ x ∈ l, 0 ≤ x.1) (hd : 0 ≤ d) (h : bestOkT l d b) : forceOn l d = (bestT b).2 := by
  unfold forceOn
  cases b with
  | none => exact held_none fun x hx => by have := h x hx; omega
  | some b =>
    obtain ⟨h1, h2, h3⟩ := h
    exact held_max hn h1 (h0 _ h1) (by omega) fun x hx z => h3 x hx (by omega)
theorem ok_told2 {G : Gx} {f : Addr} {fd : FuncData} (F : L2.Fun G.K "_law_told" "_law_told" s_law_told f fd) (T : Txt G) : FnG G CX0 1 f fd ["rows", "spot"] (toSp (spV STold2)) := by
  refine ok_pure F sc_law_told (fun us kk h => by obtain ⟨l, d, rfl, _⟩ := h; rfl) fun X g hr us kk h => ?_
  obtain ⟨l, d, rfl, hn, h0, hd, q⟩ := h
  have gf := g.toXF
  refine os_cons (os_setV g 2 (d := dE (bestT none)) (by exists "v") ?_)
  show oSs X _ _ [some (.v (dEs l)), some (.v (.int d)), some (.v (dE (bestT none))), none] _
  refine os_cons (os_for gf (by exists "n") .lst (fun ds ε n => ∃ (l1 l2 : List Ent) (b : Option Ent) (t3 : Option OV), ds = l2.map dE ∧ l = l1 ++ l2 ∧ bestOkT l1 d b ∧ ε = [some (.v (dEs l)), some (.v (.int d)), some (.v (dE (bestT b))), t3]) ⟨[], l, none, none, rfl, rfl, fun _ z => (nomatch z), rfl⟩ (fun x ds ε n hJ => ?_) (fun ε n hJ => ?_))
  · obtain ⟨l1, l2, b, t3, e1, e2, hb, rfl⟩ := hJ
    cases l2 with
    | nil => cases e1
    | cons y l2 =>
      rw [List.map_cons] at e1
      cases e1
      refine og_name g 3 ?_
      show oSs X _ _ [some (.v (dEs l)), some (.v (.int d)), some (.v (dE (bestT b))), some (.v (dE y))] _
      have e3 : l = (l1 ++ [y]) ++ l2 := by rw [e2]; simp
      have y00 : 0 ≤ y.1 := h0 y (by rw [e2]; simp)
      have y0 : atI [D.int y.1, dP y.2] 0 = some (.int y.1) := rfl
      have b0 : atI [D.int (bestT b).1, dP (bestT b).2] 0 = some (.int (bestT b).1) := rfl
      refine os_one (os_if (k := decide ((bestT b).1 < y.1) && decide (y.1 ≤ d)) (ot_chain (oX.of (ov_ixT (by exists "n") ov_int b0)) (oX.of (ov_ixT (by exists "n") ov_int y0)) (by exists "x") cv_lt cv_le) (fun h => ?_) (fun h => os_nil ?_))
      · have h : (bestT b).1 < y.1 ∧ y.1 ≤ d := by simpa using h
        refine os_one (os_setV g 2 (by exists "n") ⟨l1 ++ [y], l2, some y, _, rfl, e3, ⟨by simp, h.2, fun x hx hd => ?_⟩, rfl⟩)
        rcases List.mem_append.mp hx with z | z
        · cases b with
          | none => have := hb x z; omega
          | some b => have := hb.2.2 x z hd; have := h.1; have : b.1 < y.1 := this; omega
        · rw [List.mem_singleton.mp z]; exact Int.le_refl _
      · have h : (bestT b).1 < y.1 → d < y.1 := by simpa using h
        refine ⟨l1 ++ [y], l2, b, _, rfl, e3, ?_, rfl⟩
        cases b with
        | none =>
          intro x hx
          rcases List.mem_append.mp hx with z | z
          · exact hb x z
          · rw [List.mem_singleton.mp z]; exact h (by show (-1 : Int) < y.1; omega)
        | some b =>
          refine ⟨List.mem_append_left _ hb.1, hb.2.1, fun x hx hd => ?_⟩
          rcases List.mem_append.mp hx with z | z
          · exact hb.2.2 x z hd
          · rw [List.mem_singleton.mp z] at hd ⊢
            have h : b.1 < y.1 → d < y.1 := h
            omega
  · obtain ⟨l1, l2, b, t3, e1, e2, hb, rfl⟩ := hJ
    have e1 : l2 = [] := List.map_eq_nil_iff.mp e1.symm
    subst e1
    rw [List.append_nil] at e2
    subst e2
    rw [bestT_fin hn h0 hd hb] at q
    exact os_one (os_retV (ov_ixT (ds := [.int (bestT b).1, dP (bestT b).2]) (by exists "n") ov_int rfl) ⟨_, rfl, q⟩)
/-- weaker promises of defs -/
theorem Fn.wk {G : Gx} {k : Nat} {x : Str} {a b : ASp} (F : Fn G k x a) (up : Up b) (w : ∀ ds M Q E, b ds M Q E → a ds M Q E) : Fn G k x b := by
  obtain ⟨⟨f, fd, ps, Fg, hm, hk, hb⟩, _⟩ := F
  have weak : ∀ vs H Q E, toSp b vs H Q E → toSp a vs H Q E := fun vs H Q E ⟨B, M, ds, rv, c, s⟩ => ⟨B, M, ds, rv, c, w _ _ _ _ s⟩
  exact ⟨⟨f, fd, ps, ⟨fun vs H Q E h => Fg.len vs H Q E (weak vs H Q E h), fun A outer s H args us vs Q E hg hr e hbd hv h => Fg.run A outer s H args us vs Q E hg hr e hbd hv (weak vs H Q E h)⟩, hm, hk, hb⟩, up⟩
theorem rl_valsR {M : AHp} {δ : DE} {i : Nat} {p : Addr} {xs : List D} (hi : δ[i]? = some (some (.adr p))) (hp : M p = some (.lst xs)) : Rl none M 0 ((δ.map (Option.map OV.v)).set i (some (.r xs))) δ M := by
  have z : ∀ (j : Nat) (o : OV), ((δ.map (Option.map OV.v)).set i (some (.r xs)))[j]? = some (some o) → (j = i ∧ o = .r xs) ∨ ∃ d, o = .v d ∧ δ[j]? = some (some d) := fun j o h => by
    rcases get_set h with ⟨rfl, e, _⟩ | ⟨_, e⟩
    · cases e; exact .inl ⟨rfl, rfl⟩
    · rw [List.getElem?_map] at e
      cases h2 : δ[j]? with
      | none => rw [h2] at e; cases e
      | some y =>
        rw [h2] at e
        cases y with
        | none => cases e
        | some d => cases e; exact .inr ⟨d, rfl, rfl⟩
  refine ⟨⟨fun _ => p, ⟨fun j o ho => ?_, fun j o m ho hm => ?_, fun j j2 oi oj mi mj h1 h2 m1 m2 e => ?_, fun j ys ho => ?_⟩⟩, ?_, fun a o _ h => h, fun p e => (nomatch e), fun j ho => ?_⟩
  · rcases z j o ho with ⟨rfl, rfl⟩ | ⟨d, rfl, e⟩
    · exact hi
    · exact e
  · rcases z j o ho with ⟨rfl, rfl⟩ | ⟨d, rfl, e⟩ <;> cases hm
  · rcases z j oi h1 with ⟨rfl, rfl⟩ | ⟨d, rfl, e⟩ <;> cases m1
  · rcases z j _ ho with ⟨rfl, e⟩ | ⟨d, e, _⟩
    · cases e; exact ⟨hp, fun z => nomatch z⟩
    · cases e
  · rw [List.length_set, List.length_map]
  · rcases z j _ ho with ⟨rfl, e⟩ | ⟨d, e, _⟩ <;> cases e
theorem oV_aR {X : Cx} {e : Expr} {δ : DE} {d : D} {M : AHp} (i : Nat) {p : Addr} {xs : List D} (hp : M p = some (.lst xs)) (h : oV X e ((δ.map (Option.map OV.v)).set i (some (.r xs))) d) (hi : δ[i]? = some (some (.adr p)) := by rfl) : aV X e δ M d := h none M 0 δ M (rl_valsR hi hp)
theorem oT_aR {X : Cx} {e : Expr} {δ : DE} {b : Bool} {M : AHp} (i : Nat) {p : Addr} {xs : List D} (hp : M p = some (.lst xs)) (h : oT X e ((δ.map (Option.map OV.v)).set i (some (.r xs))) b) (hi : δ[i]? = some (some (.adr p)) := by rfl) : aTV X e δ M b := h none M 0 δ M (rl_valsR hi hp)
/-- what was told and shown then -/
def HeldOk (hs : List D) : Prop := ∀ d ∈ hs, ∃ xs : List D, d = .lst [.lst xs, .str (D.lst xs).py.shown] ∧ Shw 200000 (.lst xs)
section
variable {X : Cx} {a b e : Expr} {es : List Expr} {δ : DE} {M : AHp} {da db d : D} {pos p : Pos} {G : Gx} {N : List Str} {sc : Scope} {x : Str}
theorem atv_cmpV {op : CmpOp} {k : Bool} (c : CmpV X op (.v da) (.v db) k) (ha : aV X a δ M da) (hb : aV X b δ M db) (hm : behindInMarks op b = false := by first | exact nomark _ | rfl) : aTV X (.Compare a [op] [b] pos) δ M k := by
  obtain ⟨r, ho, hr⟩ := c.ex
  exact atv_cmp ho ha hb (hr M _ _ rfl rfl) hm
/-- repr(e) -/
theorem av_repr {k j : Nat} (g : XF X G N sc) (hr : Room j X.A) (hm : G.mg "repr" = none) (h : aV X e δ M d) (sh : Shw k d) (hk : k ≤ 10000000) (hg : sc.names.lookup ("repr" : Str) = some .globalImplicit := by rfl) (he : starEach (e :: []) X.env = (false, eval e X.env) :: starEach [] X.env := by rfl) (hpl : (backTo pos (starEach [] X.env)).any (·.1) = false := by rfl) : aV X (.Call (.Name "repr" p) [e] [] pos) δ M (.str d.py.shown) := av_callB g (call_repr hr g.gd) hm (by rfl) (aav_cons h aav_nil he) (c_repr sh hk) hg (by decide) (by decide) he hpl
theorem av_reprM {k j : Nat} {q : Addr} {xs : List D} (g : XF X G N sc) (hr : Room j X.A) (hm : G.mg "repr" = none) (h : aV X e δ M (.adr q)) (hq : M q = some (.lst xs)) (sh : Shw k (.lst xs)) (hk : k ≤ 10000000) (hg : sc.names.lookup ("repr" : Str) = some .globalImplicit := by rfl) (he : starEach (e :: []) X.env = (false, eval e X.env) :: starEach [] X.env := by rfl) (hpl : (backTo pos (starEach [] X.env)).any (·.1) = false := by rfl) : aV X (.Call (.Name "repr" p) [e] [] pos) δ M (.str (D.lst xs).py.shown) := av_callB g (call_repr hr g.gd) hm (by rfl) (aav_cons h aav_nil he) (c_reprM hq sh hk) hg (by decide) (by decide) he hpl
end
def spKeep2 : ASp := fun ds M Q _ => ∃ (p h : Addr) (n : Int) (hs : List D) (dt : D), ds = [.adr p, .adr h, dt] ∧ PurseAt M p n ∧ n + 1 < 18446744073709551616 ∧ M h = some (.lst hs) ∧ h ≠ p ∧ hs.length < 90000 ∧ HeldOk hs ∧
  (((∃ T : String, tyN dt = some T ∧ kitB T "list" = some false) ∧ Q .non M) ∨ ∃ (t : Addr) (xs : List D), dt = .adr t ∧ M t = some (.lst xs) ∧ t ≠ p ∧ t ≠ h ∧ xs.length < 1000 ∧ Shw 200000 (.lst xs) ∧ ∀ M' hs' n', n' ≤ n + 1 → PurseAt M' p n' → M' h = some (.lst hs') → HeldOk hs' → hs'.length ≤ hs.length + 1 → (∀ a o, a ≠ p → a ≠ h → a ≠ t → M a = some o → M' a = some o) → Q .non M')
theorem up_keep2 : Up spKeep2 := ⟨fun f _ ⟨p, h, n, hs, dt, h0, h1, h2, h3, h4, h5, h6, q⟩ => ⟨p, h, n, hs, dt, h0, h1, h2, h3, h4, h5, h6, q.imp (fun ⟨e, z⟩ => ⟨e, f _ _ z⟩) fun ⟨t, xs, e, a1, a2, a3, a4, a5, z⟩ => ⟨t, xs, e, a1, a2, a3, a4, a5, fun M' hs' n' b1 b2 b3 b4 b5 b6 => f _ _ (z M' hs' n' b1 b2 b3 b4 b5 b6)⟩⟩⟩
theorem ok_keepS {G : Gx} {f : Addr} {fd : FuncData} (F : L2.Fun G.K "_law_keep" "_law_keep" s_law_keep f fd) (T : Txt G) (FC : Fn G 1 "_law_coin" (spDraw 1 SCoin)) : FnG G CX0 2 f fd ["purse", "held", "told"] (toSp spKeep2) := by
  refine aok F sc_law_keep (fun ds M Q E h => ?_) (fun X g hr ds M Q E h => ?_)
  · obtain ⟨p, h, n, hs, dt, rfl, _⟩ := h; rfl
  · obtain ⟨p, h, n, hs, dt, rfl, hp, hn, hh, hne, hl, ho, q⟩ := h
    have gf := g.toXF
    rcases q with ⟨⟨T0, hT, hk⟩, q⟩ | ⟨t, xs, rfl, ht, tp, th, xl, sh, q⟩
    · show aSs X _ _ [some (.adr p), some (.adr h), some dt] M
      refine as_one (as_ifV (k := false) (aWV.t (awv_and (k := false) (l := false) (oT.a (ot_val (ov_is1 (u := .v dt) gf T.isinstance "list" (by exists "x") (ov_ty gf T.list) (T := T0) (j := false) hT hk))) fun z => by cases z)) (fun z => by cases z) (fun _ => ?_))
      exact as_one (as_ifV (k := false) (oT.a (ot_val (ov_is1 (u := .v dt) gf T.isinstance "list" (by exists "x") (ov_ty gf T.list) (T := T0) (j := false) hT hk))) (fun z => by cases z) (fun _ => as_nil q))
    · show aSs X _ _ [some (.adr p), some (.adr h), some (.adr t)] M
      refine as_one (as_if (aW.t (aw_and ((oT_aR 2 ht (ot_val (ov_is1 gf T.isinstance "list" (ox_u gf 2 .r) (ov_ty gf T.list) (T := "list") (j := true) rfl (by decide +kernel)))) _ ⟨fun _ => aw_and1 (at_cmp op_eq (ae_coin (m := 2) gf FC hr (av_name gf 0) av_int hp (by decide) (by omega) fun c M1 c0 c1 hp1 of1 => ev av_int (p_eq.aR ⟨_, rfl, fun _ => ?_, fun _ => ?_⟩))), fun z => by cases z⟩))))
      · have ht1 := of1 _ _ tp ht
        have hh1 := of1 _ _ hne hh
        refine as_freeze 2 rfl ht1 ?_
        have hh2 : delM M1 t h = some (.lst hs) := by rw [delM_ne th.symm]; exact hh1
        refine as_one (as_expr (ae_append (ev (av_name gf 1) ⟨h, _, rfl, hh2, ev (av_lst (ds := [.lst xs, .str (D.lst xs).py.shown]) (aav_cons (av_name gf 2) (aav_cons (av_repr gf hr T.repr (d := .lst xs) (av_name gf 2) sh (by decide)) aav_nil))) ⟨_, hh2, by omega, ?_⟩⟩)))
        refine q _ (hs ++ [.lst [.lst xs, .str (D.lst xs).py.shown]]) (n + 1) (Int.le_refl _) ((hp1.del tp.symm).upd hne.symm) updM_same (fun d hd => ?_) (by rw [List.length_append]; exact Nat.le_refl _) fun a o h1 h2 h3 h4 => by rw [updM_ne h2, delM_ne h3]; exact of1 _ _ h1 h4
        rcases List.mem_append.mp hd with hd | hd
        · exact ho d hd
        · exact ⟨xs, List.mem_singleton.mp hd, sh⟩
      · have ht1 := of1 _ _ tp ht
        have hh1 := of1 _ _ hne hh
        refine as_one (as_ifV (k := true) (oT_aR 2 ht1 (ot_val (ov_is1 gf T.isinstance "list" (ox_u gf 2 .r) (ov_ty gf T.list) (T := "list") (j := true) rfl (by decide +kernel)))) (fun _ => ?_) (fun z => by cases z))
        refine as_cons (as_expr (ae_append (ev (av_name gf 2) ⟨t, _, rfl, ht1, ev av_str ⟨_, ht1, by omega, ?_⟩⟩)))
        refine as_cons (as_asg (ev av_str (ag_setL (ev (av_name gf 2) (ev av_int ⟨t, _, 0, 0, rfl, rfl, updM_same, ?_, ?_⟩)))))
        · unfold ixN
          rw [if_pos (by decide), if_pos (by rw [List.length_append]; show (0 : Int) < ((xs.length + 1 : Nat) : Int); omega)]
          rfl
        rw [updM_updM]
        refine as_one (as_expr (ae_append (ev (av_name gf 2) ⟨t, _, rfl, updM_same, ev av_str ⟨_, updM_same, by rw [List.length_set, List.length_append]; show xs.length + 1 < 100000; omega, ?_⟩⟩)))
        rw [updM_updM]
        exact q _ hs (n + 1) (Int.le_refl _) (hp1.upd tp.symm) (by rw [updM_ne th.symm]; exact hh1) ho (by omega) fun a o h1 h2 h3 h4 => by rw [updM_ne h3]; exact of1 _ _ h1 h4
def SHeldRight : List D → (D → Prop) → Prop := fun ds k => ∃ hs : List D, ds = [.lst hs] ∧ HeldOk hs ∧ hs.length < 100000 ∧ k (.bl true)
theorem mon_heldRight : MonS SHeldRight := ⟨fun f ⟨l, h, h1, h2, q⟩ => ⟨l, h, h1, h2, f _ q⟩⟩
theorem ok_heldRight {G : Gx} {f : Addr} {fd : FuncData} (F : L2.Fun G.K "_law_held_right" "_law_held_right" s_law_held_right f fd) (T : Txt G) : FnG G CX0 1 f fd ["held"] (toSp (spV SHeldRight)) := by
  refine ok_pure F sc_law_held_right (fun us kk h => by obtain ⟨l, rfl, _⟩ := h; rfl) fun X g hr us kk h => ?_
  obtain ⟨hs, rfl, ho, hl, q⟩ := h
  have gf := g.toXF
  refine os_one (os_retV (d := .bl true) (oV.to (ov_cmp (oX.of (d := .lst (([] : List Int).map D.int)) (oV.to (ov_lcF1 gf 1 (f := id) (l := hs) (pr := fun _ => false) (h := id) (os_x (by rw [List.map_id]; exists "x") .lst) (fun x hx X' gX eA => ?_) (fun x hx z X' gX eA => by cases z) hl) (by simp))) (oX.of (d := .lst (([] : List Int).map D.int)) (ov_lst ovs_nil)) (cv_eqN hr (en_list en_int) (x := ([] : List Int)) (y := []) .dat .dat)) (by simp)) ⟨_, rfl, q⟩)
  obtain ⟨xs, rfl, sh⟩ := ho x hx
  exact oT.to (ot_cmp (oX.of (ov_callB gX (call_repr (by rw [eA]; exact hr) gX.gd) T.repr (oxs_cons (oX.of (d := .lst xs) (ov_ixL (ds := [.lst xs, .str (D.lst xs).py.shown]) (by exists "x") .lst ov_int rfl)) oxs_nil) (cl_repr sh (by decide)))) (oX.of (d := .str (D.lst xs).py.shown) (ov_ixL (ds := [.lst xs, .str (D.lst xs).py.shown]) (by exists "x") .lst ov_int rfl)) cv_neS) (by simp)
def owedD (way : Int) (l m : List Ent) (spot : Int) : D := if way = 0 then dEs (srtE l) else if way = 1 then dEs (chgN l 403) else if way = 2 then dP (forceOn l spot) else if way = 3 then .bl (decide (apI l m 403 = none)) else if way = 4 then dP (apI l m 403) else if way = 5 then .int l.length else .bl (decide (srtE l = srtE m))
def SOwed : List D → (D → Prop) → Prop := fun ds k => ∃ (way : Int) (l m : List Ent) (spot : Int), ds = [.int way, dEs l, dEs m, .int spot] ∧ RowsOk 40 402 l ∧ RowsOk 40 402 m ∧ 0 ≤ spot ∧ k (owedD way l m spot)
theorem mon_owed : MonS SOwed := ⟨fun f ⟨w, l, m, d, h, h1, h2, h3, q⟩ => ⟨w, l, m, d, h, h1, h2, h3, f _ q⟩⟩
theorem ok_owed {G : Gx} {f : Addr} {fd : FuncData} (F : L2.Fun G.K "_law_owed" "_law_owed" s_law_owed f fd) (T : Txt G) (FCh : Fn G 2 "_law_changes" (spPure SChg)) (FTo : Fn G 1 "_law_told" (spV STold2)) (FFA : Fn G 2 "_law_first_apart" (spPure SFA)) : FnG G CX0 3 f fd ["way", "rows", "lines", "spot"] (toSp (spV SOwed)) := by
  refine ok_pure F sc_law_owed (fun us kk h => by obtain ⟨w, l, m, d, rfl, _⟩ := h; rfl) fun X g hr us kk h => ?_
  obtain ⟨way, l, m, spot, rfl, hl, hm, s0, q⟩ := h
  have gf := g.toXF
  have r1 := hr.mono (show 1 ≤ 2 by decide)
  have FCV : Fn G 2 "_law_changes" (spV fun ds k => SChg ds (fun _ => none) k) := Fn.wk FCh (up_V ⟨fun f h => mon_chg.mon f h⟩) fun ds M Q E h => h
  have FAV : Fn G 2 "_law_first_apart" (spV fun ds k => SFA ds (fun _ => none) k) := Fn.wk FFA (up_V ⟨fun f h => mon_fa.mon f h⟩) fun ds M Q E h => h
  have l0 : ∀ x ∈ l, 0 ≤ x.1 := fun x hx => (hl.day x hx).1
  unfold owedD at q
  refine os_cons (os_ifP (by exists "t") (fun h => ?_) (fun h0 => os_nil ?_))
  · rw [if_pos h] at q
    exact os_one (os_retV (ov_callB gf cr_sortKP T.sorted (oxs_cons (by exists "x") oxs_nil) (cl_sortedE .lst hl.inj)) ⟨_, rfl, q⟩)
  rw [if_neg h0] at q
  refine os_cons (os_ifP (by exists "t") (fun h => ?_) (fun h1 => os_nil ?_))
  · rw [if_pos h] at q
    exact os_one (os_retV (ov_call (ds := [dEs l, .int 402]) gf FCV hr (by exists "vs") fun Q hQ => ⟨l, 402, rfl, by decide, by decide, hl.nd, hQ⟩) ⟨_, rfl, q⟩)
  rw [if_neg h1] at q
  refine os_cons (os_ifP (by exists "t") (fun h => ?_) (fun h2 => os_nil ?_))
  · rw [if_pos h] at q
    exact os_one (os_retV (ov_call (ds := [dEs l, .int spot]) gf FTo r1 (by exists "vs") fun Q hQ => ⟨l, spot, rfl, hl.nd, l0, s0, hQ⟩) ⟨_, rfl, q⟩)
  rw [if_neg h2] at q
  refine os_cons (os_ifP (by exists "t") (fun h => ?_) (fun h3 => os_nil ?_))
  · rw [if_pos h] at q
    exact os_one (os_retV (oV.to (ov_cmp (oX.of (ov_call (ds := [dEs l, dEs m, .int 402]) gf FAV hr (by exists "vs") fun Q hQ => ⟨l, m, 402, rfl, by decide, by decide, hl.nd, hm.nd, hQ⟩)) (oX.of ov_non) cv_isN) (by rw [isNon_dP]; rfl)) ⟨_, rfl, q⟩)
  rw [if_neg h3] at q
  refine os_cons (os_ifP (by exists "t") (fun h => ?_) (fun h4 => os_nil ?_))
  · rw [if_pos h] at q
    exact os_one (os_retV (ov_call (ds := [dEs l, dEs m, .int 402]) gf FAV hr (by exists "vs") fun Q hQ => ⟨l, m, 402, rfl, by decide, by decide, hl.nd, hm.nd, hQ⟩) ⟨_, rfl, q⟩)
  rw [if_neg h4] at q
  refine os_cons (os_ifP (by exists "t") (fun h => ?_) (fun h5 => os_nil ?_))
  · rw [if_pos h] at q
    exact os_one (os_retV (oV.to (ov_callB gf call_len_seq T.len (oxs_cons (by exists "x") oxs_nil) (cl_len .lst)) (by rw [List.length_map])) ⟨_, rfl, q⟩)
  rw [if_neg h5] at q
  exact os_one (os_retV (ov_cmp (oX.of (ov_callB gf cr_sortKP T.sorted (oxs_cons (by exists "x") oxs_nil) (cl_sortedE .lst hl.inj))) (oX.of (ov_callB gf cr_sortKP T.sorted (oxs_cons (by exists "x") oxs_nil) (cl_sortedE .lst hm.inj))) (cv_eqN hr (en_list en_entry) (x := srtE l) (y := srtE m) .dat .dat)) ⟨_, rfl, q⟩)
theorem av_cmpV {X : Cx} {a b : Expr} {δ : DE} {M : AHp} {da db : D} {pos : Pos} {op : CmpOp} {k : Bool} (c : CmpV X op (.v da) (.v db) k) (ha : aV X a δ M da) (hb : aV X b δ M db) (hm : behindInMarks op b = false := by first | exact nomark _ | rfl) : aV X (.Compare a [op] [b] pos) δ M (.bl k) := by
  obtain ⟨r, ho, hr⟩ := c.ex
  exact av_cmp ho ha hb (hr M _ _ rfl rfl) hm
def ansD (way : Int) (s t : List Ent) (spot : Int) : D := if way = 2 then dP (toldL s spot none) else if way = 3 then .bl (decide (chgL none s = chgL none t)) else if way = 4 then dP (unlikeI s t) else if way = 5 then .int s.length else .bl (decide (s = t))
def spAnswer (C : Addr) : ASp := fun ds M Q _ => ∃ (way : Int) (s t : List Ent) (spot : Int), ds = [.int way, dPL C s, dPL C t, .int spot] ∧ s.length ≤ 100 ∧ t.length ≤ 100 ∧ 0 ≤ spot ∧ (way = 0 → ∀ q, M q = none → Q (.adr q) (updM M q (.lst (s.map dE)))) ∧ (way = 1 → ∀ q, M q = none → Q (.adr q) (updM M q (.lst ((chgL none s).map dE)))) ∧ (way ≠ 0 → way ≠ 1 → Q (ansD way s t spot) M)
theorem up_answer {C : Addr} : Up (spAnswer C) := ⟨fun f _ ⟨w, s, t, d, h, h1, h2, h3, q0, q1, q2⟩ => ⟨w, s, t, d, h, h1, h2, h3, fun e q hq => f _ _ (q0 e q hq), fun e q hq => f _ _ (q1 e q hq), fun a b => f _ _ (q2 a b)⟩⟩
theorem ok_answerK {G : Gx} {f C : Addr} {fd : FuncData} (F : L2.Fun G.K "_law_answer" "_law_answer" s_law_answer f fd) (T : Txt G) (FE : Pr G 1 C "entries" (spPLentries C)) (FM : Mt G 1 C "changes" (spPLchanges C)) (FG : Gi G 2 C (spPure (SPLget C))) (FAl : Mt G 2 C "alike" (spPure (SPLalike C))) (FUn : Mt G 2 C "first_unlike" (spPure (SPLun C))) (FL : Mt G 1 C "__len__" (spPure (SPLlen C))) (FEe : EqC G 2 C (SPLeqD G C)) (IL : IsK G C) : FnG G CX0 4 f fd ["way", "one_list", "two_list", "spot"] (toSp (spAnswer C)) := by
  refine aok F sc_law_answer (fun ds M Q E h => ?_) (fun X g hr ds M Q E h => ?_)
  · obtain ⟨w, s, t, d, rfl, _⟩ := h; rfl
  · obtain ⟨way, s, t, spot, rfl, ls, lt, s0, q0, q1, q⟩ := h
    have gf := g.toXF
    have r1 := hr.mono (show 1 ≤ 3 by decide)
    have r2 := hr.mono (show 2 ≤ 3 by decide)
    show aSs X _ _ [some (.int way), some (dPL C s), some (dPL C t), some (.int spot)] M
    refine as_cons (as_ifP (atv_cmp op_eq (av_name gf 0) av_int p_eq) (fun h => ?_) (fun h0 => as_nil ?_))
    · exact as_one (as_ret (ae_prop gf FE r2 (ev (av_name gf 1) ⟨_, .obj, s, rfl, fun p hp => q0 h p hp⟩)))
    refine as_cons (as_ifP (atv_cmp op_eq (av_name gf 0) av_int p_eq) (fun h => ?_) (fun h1 => as_nil ?_))
    · exact as_one (as_ret (ae_meth0 gf FM r1 (ev (av_name gf 1) ⟨_, .obj, rfl, s, rfl, by omega, fun p hp => q1 h p hp⟩)))
    have q := q h0 h1
    unfold ansD at q
    refine as_cons (as_ifP (atv_cmp op_eq (av_name gf 0) av_int p_eq) (fun h => ?_) (fun h2 => as_nil ?_))
    · rw [if_pos h] at q
      exact as_one (as_ret (ae_getitem gf FG hr (ev (av_name gf 1) (ev (av_name gf 3) ⟨_, .obj, s, spot, rfl, s0, q⟩))))
    rw [if_neg h2] at q
    refine as_cons (as_ifP (atv_cmp op_eq (av_name gf 0) av_int p_eq) (fun h => ?_) (fun h3 => as_nil ?_))
    · rw [if_pos h] at q
      exact as_one (as_ret (ae_meth gf FAl r2 (ev (av_name gf 1) ⟨_, .obj, rfl, ea (aav_cons (av_name gf 2) aav_nil) ⟨s, t, rfl, by omega, by omega, q⟩⟩)))
    rw [if_neg h3] at q
    refine as_cons (as_ifP (atv_cmp op_eq (av_name gf 0) av_int p_eq) (fun h => ?_) (fun h4 => as_nil ?_))
    · rw [if_pos h] at q
      exact as_one (as_ret (ae_meth gf FUn r2 (ev (av_name gf 1) ⟨_, .obj, rfl, ea (aav_cons (av_name gf 2) aav_nil) ⟨s, t, rfl, by omega, q⟩⟩)))
    rw [if_neg h4] at q
    refine as_cons (as_ifP (atv_cmp op_eq (av_name gf 0) av_int p_eq) (fun h => ?_) (fun h5 => as_nil ?_))
    · rw [if_pos h] at q
      exact as_one (as_ret (ae_lenOwn gf FL r2 T.len (ev (av_name gf 1) ⟨_, .obj, s, rfl, _, rfl, by omega, by omega, q⟩)))
    rw [if_neg h5] at q
    exact as_one (as_ret (ev (av_cmpV (cv_PLeq (l := s) (m := t) gf FEe r2 IL) (av_name gf 1) (av_name gf 2)) q))
/-- what was told and what is owed -/
def ToldK (M0 M : AHp) (p hd : Addr) (dt dw : D) : Prop := ((∃ T : String, tyN dt = some T ∧ kitB T "list" = some false) ∧ dt = dw ∧ Shw 200000 dw) ∨ ∃ (q : Addr) (xs : List D), dt = .adr q ∧ dw = .lst xs ∧ M q = some (.lst xs) ∧ xs.length < 1000 ∧ Shw 200000 (.lst xs) ∧ M0 q = none ∧ q ≠ p ∧ q ≠ hd
theorem tyP (p : Option Int) : ∃ T : String, tyN (dP p) = some T ∧ kitB T "list" = some false := by
  cases p with
  | none => exact ⟨"NoneType", rfl, by decide +kernel⟩
  | some i => exact ⟨"int", rfl, by decide +kernel⟩
theorem tyBl (b : Bool) : ∃ T : String, tyN (.bl b) = some T ∧ kitB T "list" = some false := ⟨"bool", rfl, by decide +kernel⟩
theorem rows_srt {l : List Ent} (h : RowsOk 40 402 l) : RowsOk 40 402 (srtE l) := ⟨by rw [(srtE_perm l).length_eq]; exact h.len, fun x hx => h.day x ((srtE_perm l).mem_iff.mp hx), ((srtE_perm l).map _).nodup_iff.mpr h.nd, fun x hx => h.pr x ((srtE_perm l).mem_iff.mp hx)⟩
theorem ans_owed {l m : List Ent} {way spot : Int} (hl : RowsOk 40 402 l) (hm : RowsOk 40 402 m) (s0 : 0 ≤ spot) (h0 : way ≠ 0) (h1 : way ≠ 1) : ansD way (srtE l) (srtE m) spot = owedD way l m spot ∧ Shw 200000 (owedD way l m spot) ∧ ∃ T : String, tyN (owedD way l m spot) = some T ∧ kitB T "list" = some false := by
  have dl : ∀ x ∈ l, 0 ≤ x.1 ∧ x.1 < ((403 : Nat) : Int) := fun x hx => by have := hl.day x hx; omega
  have dm : ∀ x ∈ m, 0 ≤ x.1 ∧ x.1 < ((403 : Nat) : Int) := fun x hx => by have := hm.day x hx; omega
  have ol := hl.len
  unfold ansD owedD
  rw [if_neg h0, if_neg h1]
  by_cases h2 : way = 2
  · rw [if_pos h2, if_pos h2]
    have e := force_told hl.nd (fun x hx => (dl x hx).1) s0
    refine ⟨by rw [e], (shw_price ?_).mono (by decide), tyP _⟩
    unfold forceOn
    exact (heldN_ok hl.pr _).small
  rw [if_neg h2, if_neg h2]
  by_cases h3 : way = 3
  · rw [if_pos h3, if_pos h3]
    refine ⟨?_, (shw_bl _).mono (by decide), tyBl _⟩
    congr 1
    exact decide_eq_decide.mpr (alike_eq hl.nd hm.nd dl dm)
  rw [if_neg h3, if_neg h3]
  by_cases h4 : way = 4
  · rw [if_pos h4, if_pos h4]
    refine ⟨by rw [unlike_eq hl.nd hm.nd dl dm], (shw_price ?_).mono (by decide), tyP _⟩
    cases e : apI l m 403 with
    | none => trivial
    | some d =>
      have := apI_lt e
      show d.natAbs < 2 ^ 64
      omega
  rw [if_neg h4, if_neg h4]
  by_cases h5 : way = 5
  · rw [if_pos h5, if_pos h5]
    exact ⟨by rw [(srtE_perm l).length_eq], (shw_int (by omega)).mono (by decide), "int", rfl, by decide +kernel⟩
  rw [if_neg h5, if_neg h5]
  exact ⟨rfl, (shw_bl _).mono (by decide), tyBl _⟩
theorem chg_rows {l : List Ent} (h : RowsOk 40 402 l) : chgL none (srtE l) = chgN l 403 ∧ (chgN l 403).length ≤ 40 ∧ Shw 200000 (dEs (chgN l 403)) := by
  have e : chgL none (srtE l) = chgN l 403 := chg_srt h.nd (fun x hx => (h.day x hx).1) fun x hx => by have := h.day x hx; omega
  have hs := rows_srt h
  have len := chgL_len none (srtE l)
  have ol := hs.len
  refine ⟨e, by rw [← e]; omega, by rw [← e]; exact shw_rows (m := 40) (n := 402) ⟨by omega, fun x hx => hs.day x (chgL_mem hx), hs.nd.sublist ((chgL_sub none (srtE l)).map _), fun x hx => hs.pr x (chgL_mem hx)⟩ (by decide) (by decide)⟩
theorem pick3 {α : Type} {f : α → D} {x y z : α} {c : Int} (h0 : 0 ≤ c) (h1 : c < 3) {P : α → Prop} (px : P x) (py : P y) (pz : P z) (g : α → D) : ∃ a, P a ∧ atI [f x, f y, f z] c = some (f a) ∧ atI [g x, g y, g z] c = some (g a) := by
  rcases (by omega : c = 0 ∨ c = 1 ∨ c = 2) with rfl | rfl | rfl
  · exact ⟨x, px, rfl, rfl⟩
  · exact ⟨y, py, rfl, rfl⟩
  · exact ⟨z, pz, rfl, rfl⟩
theorem ok_right {G : Gx} {f C : Addr} {fd : FuncData} (F : L2.Fun G.K "_law_right" "_law_right" s_law_right f fd) (T : Txt G) (FC : Fn G 1 "_law_coin" (spDraw 1 SCoin)) (FA : Fn G 4 "_law_any_rows" spAnyN) (FN : Fn G 4 "_law_near" spNear1N) (FI : Cn G 1 "PriceList" C (spPLinit C)) (FAn : Fn G 4 "_law_answer" (spAnswer C)) (FOw : Fn G 3 "_law_owed" (spV SOwed)) (FKp : Fn G 2 "_law_keep" spKeep2) (FHR : Fn G 1 "_law_held_right" (spV SHeldRight)) : FnG G CX0 5 f fd ["purse"] (toSp (spRight 400)) := by
  refine aok F sc_law_right (fun ds M Q E h => ?_) (fun X g hr ds M0 Q E h => ?_)
  · obtain ⟨p, n, r, rfl, _, _, rfl, _⟩ := h; rfl
  · obtain ⟨p, n, r, rfl, hp, hn, rfl, q⟩ := h
    have gf := g.toXF
    have r1 := hr.mono (show 1 ≤ 4 by decide)
    have r2 := hr.mono (show 2 ≤ 4 by decide)
    have r3 := hr.mono (show 3 ≤ 4 by decide)
    show aSs X _ _ [some (.adr p), none, none, none, none, none, none, none, none, none, none, none] M0
    refine as_cons (as_set g 1 (ae_call gf FA hr (aa_cons (ev (av_name gf 0) (aa_nil ⟨p, n, rfl, hp, by omega, fun l1 M1 r1_ ok1 hp1 of1 f1 hr1 => ?_⟩)))))
    have rp : r1_ ≠ p := (hp.ne f1).symm
    show aSs X _ _ [some (.adr p), some (.adr r1_), none, none, none, none, none, none, none, none, none, none] M1
    refine as_cons (as_set g 2 (ae_lst (aa_cons (ev (av_name gf 1) (aa_cons (ae_call gf FN hr (aa_cons (ev (av_name gf 0) (aa_cons (ev (av_name gf 1) (aa_nil ⟨p, r1_, _, l1, rfl, hp1, by omega, hr1, rp, ok1, fun l2 ok2 M2 hp2 of2 => ?_⟩)))))))))))
    refine aa_cons (ae_call gf FA hr (aa_cons (ev (av_name gf 0) (aa_nil ⟨p, _, rfl, hp2, by omega, fun l3 M3 r3_ ok3 hp3 of3 f3 hr3 => aa_nil ⟨by show 3 ≤ 10000; decide, ?_⟩⟩))))
    have hr13 : M3 r1_ = some (.lst (l1.map dE)) := of3 _ _ rp (of2 _ _ rp hr1)
    have of03 := (of1.trans of2).trans of3
    show aSs X _ _ [some (.adr p), some (.adr r1_), some (.lst [.adr r1_, dEs l2, .adr r3_]), none, none, none, none, none, none, none, none, none] M3
    let L : List (D × List Ent) := [(.adr r1_, l1), (dEs l2, l2), (.adr r3_, l3)]
    have key : ∀ x ∈ L, RowsOk 40 402 x.2 ∧ ∀ M', Ge M3 M' → ItemsD M' x.1 (x.2.map dE) := fun x hx => by
      simp only [L, List.mem_cons, List.not_mem_nil, or_false] at hx
      rcases hx with rfl | rfl | rfl
      · exact ⟨ok1, fun M' ge => .adr (ge _ _ hr13)⟩
      · exact ⟨ok2, fun M' ge => .lst⟩
      · exact ⟨ok3, fun M' ge => .adr (ge _ _ hr3)⟩
    refine as_cons (as_par g 3 4 (aa_cons (ev (av_lc (own := [(("plan" : Str), 5)]) gf (·.1) (fun x => dPL C (srtE x.2)) L (fun x => [some (.adr p), some (.adr r1_), some (.lst [.adr r1_, dEs l2, .adr r3_]), none, none, some x.1, none, none, none, none, none, none]) (tg_name gf 5) (Ab.src_list (av_name gf 2)) (by show 3 < 100000; decide) (fun _ _ => agt_name) (fun x hx M' ge X' gX eA => fun Q2 q2 => ae_PL gX FI (by rw [eA]; exact r2) (av_name gX 5) ((key x hx).2 M' ge) (key x hx).1.nd (fun y hy => ((key x hx).1.day y hy).1) (by have := (key x hx).1.len; omega) q2)) (aa_cons (ae_lstM (ea aav_nil ⟨by decide, fun hd hhd => aa_nil ⟨_, _, rfl, ?_⟩⟩))))))
    have hd0 : M0 hd = none := of03.free hhd hp3
    have hdp : hd ≠ p := (hp3.ne hhd).symm
    have hp4 := hp3.new (o := .lst []) hhd
    have of4 := of03.add (o := .lst []) hhd
    have hh4 : updM M3 hd (.lst []) hd = some (.lst []) := updM_same
    have ge4 : Ge M3 (updM M3 hd (.lst [])) := fun a o h => by rw [updM_ne (neM h hhd)]; exact h
    have r1h : r1_ ≠ hd := neM hr13 hhd
    show aSs X _ _ [some (.adr p), some (.adr r1_), some (.lst [.adr r1_, dEs l2, .adr r3_]), some (.lst [dPL C (srtE l1), dPL C (srtE l2), dPL C (srtE l3)]), some (.adr hd), none, none, none, none, none, none, none] _
    refine as_cons (as_lc (own := [(("plan" : Str), 5)]) g 2 (·.1) (fun x => dEs x.2) L (fun x => [some (.adr p), some (.adr r1_), some (.lst [.adr r1_, dEs l2, .adr r3_]), some (.lst [dPL C (srtE l1), dPL C (srtE l2), dPL C (srtE l3)]), some (.adr hd), some x.1, none, none, none, none, none, none]) (tg_name gf 5) (Ab.src_list (av_name gf 2)) (by show 3 < 100000; decide) (fun _ _ => agt_name) (fun x hx M' ge X' gX eA => av_callTy gX call_list_of T.list (by rfl) (aav_cons (av_name gX 5) aav_nil) (c_list ((key x hx).2 M' fun a o h => ge a o (ge4 a o h)))) ?_)
    show aSs X _ _ [some (.adr p), some (.adr r1_), some (.lst [dEs l1, dEs l2, dEs l3]), some (.lst [dPL C (srtE l1), dPL C (srtE l2), dPL C (srtE l3)]), some (.adr hd), none, none, none, none, none, none, none] _
    have hr14 := ge4 _ _ hr13
    generalize updM M3 hd (.lst []) = M4 at hp4 of4 hh4 hr14 ⊢
    have ol1 := ok1.len
    refine as_cons (as_expr (ae_append (ev (av_name gf 1) ⟨r1_, _, rfl, hr14, ev (av_tup (aav_cons av_int (aav_cons av_int aav_nil))) ⟨_, hr14, by rw [List.length_map]; omega, ?_⟩⟩)))
    have hp5 := hp4.upd (o := .lst (l1.map dE ++ [.tup [.int 7, .int 7]])) rp.symm
    have of5 := of4.new (o := .lst (l1.map dE ++ [.tup [.int 7, .int 7]])) f1
    have hh5 : updM M4 r1_ (.lst (l1.map dE ++ [.tup [.int 7, .int 7]])) hd = some (.lst []) := by rw [updM_ne r1h.symm]; exact hh4
    show aSs X _ _ [some (.adr p), some (.adr r1_), some (.lst [dEs l1, dEs l2, dEs l3]), some (.lst [dPL C (srtE l1), dPL C (srtE l2), dPL C (srtE l3)]), some (.adr hd), none, none, none, none, none, none, none] (updM M4 r1_ (.lst (l1.map dE ++ [.tup [.int 7, .int 7]])))
    generalize updM M4 r1_ (.lst (l1.map dE ++ [.tup [.int 7, .int 7]])) = M5 at hp5 of5 hh5 ⊢
    clear hr14 hh4 of4 hp4 key ge4
    refine as_cons (as_forR gf T.range (ae_op op_add (ev av_int (ae_coin (m := 9) gf FC r1 (av_name gf 0) av_int hp5 (by decide) (by omega) fun t M6 t0 t1 hp6 of6 => p_add.aR ⟨4 + t, rfl, by omega, by omega, ?_⟩))))
    let J : List D → DE → AHp → Prop := fun ds δ' M' => ∃ (m : Nat) (hs : List D) (t5 t6 t7 t8 t9 t10 : Option D), δ' = [some (.adr p), some (.adr r1_), some (.lst [dEs l1, dEs l2, dEs l3]), some (.lst [dPL C (srtE l1), dPL C (srtE l2), dPL C (srtE l3)]), some (.adr hd), none, t5, t6, t7, t8, t9, t10] ∧ m + ds.length ≤ 12 ∧ PurseAt M' p (n + 300 + 5 * (m : Int)) ∧ M' hd = some (.lst hs) ∧ HeldOk hs ∧ hs.length ≤ m ∧ Off p M0 M'
    refine al_inv J (fun d ds δ' M' hJ => ?_) (fun δ' M' hJ => ?_) ⟨0, [], none, none, none, none, none, none, rfl, by rw [rgD_len]; omega, hp6.mono (by omega), of6 _ _ hdp hh5, fun d hd => (nomatch hd), Nat.le_refl _, of5.trans of6⟩
    · obtain ⟨m, hs, t5, t6, t7, t8, t9, t10, rfl, hm, hpm, hhm, ho, hlen, ofm⟩ := hJ
      rw [List.length_cons] at hm
      refine ag_name g 6 ?_
      show aSs X _ _ [some (.adr p), some (.adr r1_), some (.lst [dEs l1, dEs l2, dEs l3]), some (.lst [dPL C (srtE l1), dPL C (srtE l2), dPL C (srtE l3)]), some (.adr hd), none, some d, t6, t7, t8, t9, t10] M'
      refine as_cons (as_par g 7 8 (aa_cons (ae_coin (m := 7) gf FC r1 (av_name gf 0) av_int hpm (by decide) (by omega) fun way A1 w0 w1 hpa1 ofa1 => aa_cons (ae_coin (m := 403) gf FC r1 (av_name gf 0) av_int hpa1 (by decide) (by omega) fun spot A2 s0 s1 hpa2 ofa2 => aa_nil ⟨_, _, rfl, ?_⟩))))
      show aSs X _ _ [some (.adr p), some (.adr r1_), some (.lst [dEs l1, dEs l2, dEs l3]), some (.lst [dPL C (srtE l1), dPL C (srtE l2), dPL C (srtE l3)]), some (.adr hd), none, some d, some (.int way), some (.int spot), t8, t9, t10] A2
      refine as_cons (as_par g 9 10 (aa_cons (ae_coin (m := 3) gf FC r1 (av_name gf 0) av_int hpa2 (by decide) (by omega) fun at_ A3 a0 a1 hpa3 ofa3 => aa_cons (ae_coin (m := 3) gf FC r1 (av_name gf 0) av_int hpa3 (by decide) (by omega) fun to A4 b0 b1 hpa4 ofa4 => aa_nil ⟨_, _, rfl, ?_⟩))))
      show aSs X _ _ [some (.adr p), some (.adr r1_), some (.lst [dEs l1, dEs l2, dEs l3]), some (.lst [dPL C (srtE l1), dPL C (srtE l2), dPL C (srtE l3)]), some (.adr hd), none, some d, some (.int way), some (.int spot), some (.int at_), some (.int to), t10] A4
      have ofA : Off p M' A4 := ((ofa1.trans ofa2).trans ofa3).trans ofa4
      have of04 := ofm.trans ofA
      have hh4 := ofA _ _ hdp hhm
      clear ofa1 ofa2 ofa3 ofa4 hpa1 hpa2 hpa3
      obtain ⟨la, oka, eA1, eA2⟩ := pick3 (f := dEs) (x := l1) (y := l2) (z := l3) a0 a1 (P := RowsOk 40 402) ok1 ok2 ok3 (fun x => dPL C (srtE x))
      obtain ⟨lb, okb, eB1, eB2⟩ := pick3 (f := dEs) (x := l1) (y := l2) (z := l3) b0 b1 (P := RowsOk 40 402) ok1 ok2 ok3 (fun x => dPL C (srtE x))
      have sa := rows_srt oka
      have sb := rows_srt okb
      have sal := sa.len
      have sbl := sb.len
      obtain ⟨ce, cl, cs⟩ := chg_rows oka
      have se : Shw 200000 (dEs (srtE la)) := shw_rows (m := 40) (n := 402) sa (by decide) (by decide)
      have fresh : ∀ q, A4 q = none → M0 q = none ∧ q ≠ p ∧ q ≠ hd := fun q hq => ⟨of04.free hq hpa4, (hpa4.ne hq).symm, (neM hh4 hq).symm⟩
      refine as_seq (fun δ' M2 => ∃ dt, δ' = [some (.adr p), some (.adr r1_), some (.lst [dEs l1, dEs l2, dEs l3]), some (.lst [dPL C (srtE l1), dPL C (srtE l2), dPL C (srtE l3)]), some (.adr hd), none, some d, some (.int way), some (.int spot), some (.int at_), some (.int to), some dt] ∧ PurseAt M2 p (n + 300 + 5 * (m : Int) + 4) ∧ Off p A4 M2 ∧ ToldK M0 M2 p hd dt (owedD way la lb spot)) (as_set g 11 (ae_call gf FAn hr (ea (aav_cons (av_name gf 7) (aav_cons (av_ix ix_list (av_name gf 3) (av_name gf 9) (p_ixL eA2)) (aav_cons (av_ix ix_list (av_name gf 3) (av_name gf 10) (p_ixL eB2)) (aav_cons (av_name gf 8) aav_nil)))) ⟨way, srtE la, srtE lb, spot, rfl, by omega, by omega, s0, fun e q hq => ?_, fun e q hq => ?_, fun h0 h1 => ?_⟩))) (fun δ' M2 hP => ?_)
      · obtain ⟨f0, f1, f2⟩ := fresh q hq
        refine ⟨.adr q, rfl, (hpa4.new hq).mono (by omega), (Off.refl _ _).new hq, .inr ⟨q, (srtE la).map dE, rfl, ?_, updM_same, by rw [List.length_map]; omega, se, f0, f1, f2⟩⟩
        unfold owedD
        rw [if_pos e]
      · obtain ⟨f0, f1, f2⟩ := fresh q hq
        rw [ce]
        refine ⟨.adr q, rfl, (hpa4.new hq).mono (by omega), (Off.refl _ _).new hq, .inr ⟨q, (chgN la 403).map dE, rfl, ?_, updM_same, by rw [List.length_map]; omega, cs, f0, f1, f2⟩⟩
        unfold owedD
        rw [if_neg (by omega), if_pos e]
      · obtain ⟨e, sh, ty⟩ := ans_owed oka okb s0 h0 h1
        rw [e]
        exact ⟨_, rfl, hpa4.mono (by omega), Off.refl _ _, .inl ⟨ty, rfl, sh⟩⟩
      · obtain ⟨dt, rfl, hpb, ofb, tk⟩ := hP
        have of05 := of04.trans ofb
        have hh5 := ofb _ _ hdp hh4
        refine as_cons (as_ifV (k := false) ?_ (fun z => by cases z) (fun _ => as_nil ?_))
        · rcases tk with ⟨ty, rfl, sh⟩ | ⟨q, xs, rfl, e1, e2, e3, e4, e5⟩
          · exact aTV.to (atv_cmpV cv_neS (av_repr gf hr T.repr (av_name gf 11) sh (by decide)) (av_repr gf hr T.repr (oV.a (ov_call (ds := [.int way, dEs la, dEs lb, .int spot]) gf FOw r3 (ovs_cons (by exists "n") (ovs_cons (ov_ixL (by exists "x") .lst (by exists "n") eA1) (ovs_cons (ov_ixL (by exists "x") .lst (by exists "n") eB1) (ovs_cons (by exists "n") ovs_nil)))) fun Q hQ => ⟨way, la, lb, spot, rfl, oka, okb, s0, hQ⟩)) sh (by decide))) (by simp)
          · refine aTV.to (atv_cmpV cv_neS (av_reprM gf hr T.repr (av_name gf 11) e2 e4 (by decide)) (av_repr gf hr T.repr (oV.a (ov_call (ds := [.int way, dEs la, dEs lb, .int spot]) gf FOw r3 (ovs_cons (by exists "n") (ovs_cons (ov_ixL (by exists "x") .lst (by exists "n") eA1) (ovs_cons (ov_ixL (by exists "x") .lst (by exists "n") eB1) (ovs_cons (by exists "n") ovs_nil)))) fun Q hQ => ⟨way, la, lb, spot, rfl, oka, okb, s0, by rw [e1]; exact hQ⟩)) e4 (by decide))) (by simp)
        · refine as_one (as_expr (ae_call gf FKp r2 (ea (aav_cons (av_name gf 0) (aav_cons (av_name gf 4) (aav_cons (av_name gf 11) aav_nil))) ?_)))
          rcases tk with ⟨ty, rfl, sh⟩ | ⟨q, xs, rfl, e1, e2, e3, e4, e5, e6, e7⟩
          · exact ⟨p, hd, _, hs, _, rfl, hpb, by omega, hh5, hdp, by omega, ho, .inl ⟨ty, m + 1, hs, _, _, _, _, _, _, rfl, by omega, hpb.mono (by omega), hh5, ho, by omega, of05⟩⟩
          · exact ⟨p, hd, _, hs, _, rfl, hpb, by omega, hh5, hdp, by omega, ho, .inr ⟨q, xs, rfl, e2, e6, e7, e3, e4, fun M6 hs' n' c1 c2 c3 c4 c5 c6 => ⟨m + 1, hs', _, _, _, _, _, _, rfl, by omega, c2.mono (by omega), c3, c4, by omega, fun a o h1 h2 => c6 a o h1 (fun z => by rw [z, hd0] at h2; cases h2) (fun z => by rw [z, e5] at h2; cases h2) (of05 a o h1 h2)⟩⟩⟩
    · obtain ⟨m, hs, t5, t6, t7, t8, t9, t10, rfl, hm, hpm, hhm, ho, hlen, ofm⟩ := hJ
      rw [List.length_nil] at hm
      refine as_freeze 4 rfl hhm ?_
      show aSs X _ _ [some (.adr p), some (.adr r1_), some (.lst [dEs l1, dEs l2, dEs l3]), some (.lst [dPL C (srtE l1), dPL C (srtE l2), dPL C (srtE l3)]), some (.lst hs), none, t5, t6, t7, t8, t9, t10] _
      exact as_one (as_ret (ev (oV.a (ov_call (ds := [.lst hs]) (d := .bl true) gf FHR r1 (by exists "vs") fun Q hQ => ⟨hs, rfl, ho, by omega, hQ⟩)) (q _ ((hpm.del hdp.symm).mono (by omega)) (ofm.del hd0))))
theorem ok_law {G : Gx} {f : Addr} {fd : FuncData} {W : Int} {k : Nat} (F : L2.Fun G.K "law" "law" s_law f fd) (T : Txt G) (FU : Fn G 1 "_law_purse" (spPurse G.K)) (FR : Fn G (k + 1) "_law_right" (spRight W)) (hW : W < 1000000000000) : FnG G CX0 (k + 2) f fd ["script"] (toSp (spLaw G.K 63)) := by
  refine aok F sc_law (fun ds M Q E h => ?_) (fun X g hr ds M Q E h => ?_)
  · obtain ⟨a, ns, rfl, _⟩ := h; rfl
  · obtain ⟨a, ns, rfl, hs, hl, q⟩ := h
    have gf := g.toXF
    have hs' := hs
    rw [← gf.K] at hs'
    show aSs X _ _ [some (.adr a), none, none] M
    refine as_cons (as_forR gf T.range (ev (av_callB gf (call_max2 g.calm) T.max (by rfl) (aav_cons av_int (aav_cons (av_callB gf (call_min2 g.calm) T.min (by rfl) (aav_cons av_int (aav_cons (av_callB gf call_len_seq T.len (by rfl) (aav_cons (av_name gf 0) aav_nil) (c_lenS hs')) aav_nil)) c_min2) aav_nil)) c_max2) ⟨_, rfl, ?_, ?_, ?_⟩))
    · split <;> omega
    · split
      · split <;> omega
      · omega
    · refine al_inv (fun ds δ' M' => ∃ (i : Int) (t1 t2 : Option D), 0 ≤ i ∧ i + ds.length < 100000 ∧ ds = rgD i ds.length ∧ δ' = [some (.adr a), t1, t2] ∧ ScrAt G.K M' a ns) (fun d ds δ' M1 hJ => ?_) (fun δ' M1 hJ => ?_) ⟨0, none, none, by decide, ?_, by rw [rgD_len], rfl, hs⟩
      · obtain ⟨i, t1, t2, hi, hi2, hds, rfl, hs1⟩ := hJ
        rw [List.length_cons] at hi2 hds
        rw [rgD_succ] at hds
        obtain ⟨rfl, e2⟩ := List.cons.inj hds
        refine ag_name g 1 ?_
        show aSs X _ _ [some (.adr a), some (.int i), t2] M1
        refine as_cons (as_set g 2 (ae_call gf FU (hr.mono (by omega)) (ea (aav_cons (av_name gf 0) (aav_cons (av_name gf 1) aav_nil)) ⟨a, ns, i, rfl, hs1, by omega, hi, by omega, fun p M2 hp hp2 of2 => ?_⟩)))
        show aSs X _ _ [some (.adr a), some (.int i), some (.adr p)] M2
        have hs2 : ScrAt G.K M2 a ns := hs1.off of2 (fun o z => by rw [hp] at z; cases z)
        refine as_one (as_if (at_not (at_val (ae_call gf FR hr (aa_cons (ev (av_name gf 2) (aa_nil ⟨p, _, _, rfl, hp2, by omega, rfl, fun M3 hp3 of3 => ⟨_, rfl, fun z => (nomatch z), fun _ => as_nil ⟨i + 1, _, _, by omega, by omega, e2, rfl, hs2.off of3 hp2.nraw⟩⟩⟩)))))))
      · exact as_one (as_ret (ev av_bl (q M1)))
      · rw [rgD_len]
        split
        · split <;> omega
        · omega
theorem all_mk {l : PySem.W.OpenLaw} {w : World} {K : PySem.W.Frag} {h : Heap} {mg : Str → Option Value} {fa : Addr} (X : K.In h) (G : h.Ns mainGlobals mg) (hfa : mg "law" = some (.ref fa))
    {fas_law_coin : Addr} {ods_law_coin ans_law_coin : Option Addr} {sls_law_coin : Array (Option Value)} {ocs_law_coin kVs_law_coin dcs_law_coin pms_law_coin cds_law_coin cts_law_coin : Value}
    {fas_law_purse : Addr} {ods_law_purse ans_law_purse : Option Addr} {sls_law_purse : Array (Option Value)} {ocs_law_purse kVs_law_purse dcs_law_purse pms_law_purse cds_law_purse cts_law_purse : Value}
    {fas_law_price_drawn : Addr} {ods_law_price_drawn ans_law_price_drawn : Option Addr} {sls_law_price_drawn : Array (Option Value)} {ocs_law_price_drawn kVs_law_price_drawn dcs_law_price_drawn pms_law_price_drawn cds_law_price_drawn cts_law_price_drawn : Value}
    {fas_law_rows_drawn : Addr} {ods_law_rows_drawn ans_law_rows_drawn : Option Addr} {sls_law_rows_drawn : Array (Option Value)} {ocs_law_rows_drawn kVs_law_rows_drawn dcs_law_rows_drawn pms_law_rows_drawn cds_law_rows_drawn cts_law_rows_drawn : Value}
    {fas_law_any_rows : Addr} {ods_law_any_rows ans_law_any_rows : Option Addr} {sls_law_any_rows : Array (Option Value)} {ocs_law_any_rows kVs_law_any_rows dcs_law_any_rows pms_law_any_rows cds_law_any_rows cts_law_any_rows : Value}
    {fas_law_sweep : Addr} {ods_law_sweep ans_law_sweep : Option Addr} {sls_law_sweep : Array (Option Value)} {ocs_law_sweep kVs_law_sweep dcs_law_sweep pms_law_sweep cds_law_sweep cts_law_sweep : Value}
    {fas_law_near_rows : Addr} {ods_law_near_rows ans_law_near_rows : Option Addr} {sls_law_near_rows : Array (Option Value)} {ocs_law_near_rows kVs_law_near_rows dcs_law_near_rows pms_law_near_rows cds_law_near_rows cts_law_near_rows : Value}
    {fas_law_last : Addr} {ods_law_last ans_law_last : Option Addr} {sls_law_last : Array (Option Value)} {ocs_law_last kVs_law_last dcs_law_last pms_law_last cds_law_last cts_law_last : Value}
    {fas_law_near : Addr} {ods_law_near ans_law_near : Option Addr} {sls_law_near : Array (Option Value)} {ocs_law_near kVs_law_near dcs_law_near pms_law_near cds_law_near cts_law_near : Value}
    {fas_told_on : Addr} {ods_told_on ans_told_on : Option Addr} {sls_told_on : Array (Option Value)} {ocs_told_on kVs_told_on dcs_told_on pms_told_on cds_told_on cts_told_on : Value}
    {C_PriceList : Addr}
    {fas_PriceList___init__ : Addr} {ods_PriceList___init__ ans_PriceList___init__ : Option Addr} {sls_PriceList___init__ : Array (Option Value)} {ocs_PriceList___init__ kVs_PriceList___init__ dcs_PriceList___init__ pms_PriceList___init__ cds_PriceList___init__ cts_PriceList___init__ : Value}
    {fas_PriceList_entries : Addr} {ods_PriceList_entries ans_PriceList_entries : Option Addr} {sls_PriceList_entries : Array (Option Value)} {ocs_PriceList_entries kVs_PriceList_entries dcs_PriceList_entries pms_PriceList_entries cds_PriceList_entries cts_PriceList_entries : Value}
    {pps_PriceList_entries : Addr} {res_PriceList_entries : List Value}
    {fas_PriceList___getitem__ : Addr} {ods_PriceList___getitem__ ans_PriceList___getitem__ : Option Addr} {sls_PriceList___getitem__ : Array (Option Value)} {ocs_PriceList___getitem__ kVs_PriceList___getitem__ dcs_PriceList___getitem__ pms_PriceList___getitem__ cds_PriceList___getitem__ cts_PriceList___getitem__ : Value}
    {fas_PriceList___len__ : Addr} {ods_PriceList___len__ ans_PriceList___len__ : Option Addr} {sls_PriceList___len__ : Array (Option Value)} {ocs_PriceList___len__ kVs_PriceList___len__ dcs_PriceList___len__ pms_PriceList___len__ cds_PriceList___len__ cts_PriceList___len__ : Value}
    {fas_PriceList_changes : Addr} {ods_PriceList_changes ans_PriceList_changes : Option Addr} {sls_PriceList_changes : Array (Option Value)} {ocs_PriceList_changes kVs_PriceList_changes dcs_PriceList_changes pms_PriceList_changes cds_PriceList_changes cts_PriceList_changes : Value}
    {fas_PriceList_alike : Addr} {ods_PriceList_alike ans_PriceList_alike : Option Addr} {sls_PriceList_alike : Array (Option Value)} {ocs_PriceList_alike kVs_PriceList_alike dcs_PriceList_alike pms_PriceList_alike cds_PriceList_alike cts_PriceList_alike : Value}
    {fas_PriceList_first_unlike : Addr} {ods_PriceList_first_unlike ans_PriceList_first_unlike : Option Addr} {sls_PriceList_first_unlike : Array (Option Value)} {ocs_PriceList_first_unlike kVs_PriceList_first_unlike dcs_PriceList_first_unlike pms_PriceList_first_unlike cds_PriceList_first_unlike cts_PriceList_first_unlike : Value}
    {fas_PriceList___eq__ : Addr} {ods_PriceList___eq__ ans_PriceList___eq__ : Option Addr} {sls_PriceList___eq__ : Array (Option Value)} {ocs_PriceList___eq__ kVs_PriceList___eq__ dcs_PriceList___eq__ pms_PriceList___eq__ cds_PriceList___eq__ cts_PriceList___eq__ : Value}
    {fas_law_changes : Addr} {ods_law_changes ans_law_changes : Option Addr} {sls_law_changes : Array (Option Value)} {ocs_law_changes kVs_law_changes dcs_law_changes pms_law_changes cds_law_changes cts_law_changes : Value}
    {fas_law_first_apart : Addr} {ods_law_first_apart ans_law_first_apart : Option Addr} {sls_law_first_apart : Array (Option Value)} {ocs_law_first_apart kVs_law_first_apart dcs_law_first_apart pms_law_first_apart cds_law_first_apart cts_law_first_apart : Value}
    {fas_law_told : Addr} {ods_law_told ans_law_told : Option Addr} {sls_law_told : Array (Option Value)} {ocs_law_told kVs_law_told dcs_law_told pms_law_told cds_law_told cts_law_told : Value}
    {fas_law_keep : Addr} {ods_law_keep ans_law_keep : Option Addr} {sls_law_keep : Array (Option Value)} {ocs_law_keep kVs_law_keep dcs_law_keep pms_law_keep cds_law_keep cts_law_keep : Value}
    {fas_law_held_right : Addr} {ods_law_held_right ans_law_held_right : Option Addr} {sls_law_held_right : Array (Option Value)} {ocs_law_held_right kVs_law_held_right dcs_law_held_right pms_law_held_right cds_law_held_right cts_law_held_right : Value}
    {fas_law_owed : Addr} {ods_law_owed ans_law_owed : Option Addr} {sls_law_owed : Array (Option Value)} {ocs_law_owed kVs_law_owed dcs_law_owed pms_law_owed cds_law_owed cts_law_owed : Value}
    {fas_law_answer : Addr} {ods_law_answer ans_law_answer : Option Addr} {sls_law_answer : Array (Option Value)} {ocs_law_answer kVs_law_answer dcs_law_answer pms_law_answer cds_law_answer cts_law_answer : Value}
    {fas_law_right : Addr} {ods_law_right ans_law_right : Option Addr} {sls_law_right : Array (Option Value)} {ocs_law_right kVs_law_right dcs_law_right pms_law_right cds_law_right cts_law_right : Value}
    {fas_law : Addr} {ods_law ans_law : Option Addr} {sls_law : Array (Option Value)} {ocs_law kVs_law dcs_law pms_law cds_law cts_law : Value}
    (as_law_coin : PySem.W.nsIn K mainGlobals "_law_coin" = some (some (.ref fas_law_coin)))
    (ls_law_coin : K.lookup fas_law_coin = some ⟨ocs_law_coin, ods_law_coin, .func (PySem.W.fnOf "_law_coin" "_law_coin" (defArgs s_law_coin) (defBody s_law_coin) (defScope s_law_coin) .none kVs_law_coin dcs_law_coin pms_law_coin ans_law_coin cds_law_coin cts_law_coin), sls_law_coin⟩)
    (cs_law_coin : PySem.W.codeIn K cds_law_coin "_law_coin" = true)
    (ks_law_coin : PySem.W.keepIn K (.ref fas_law_coin) = true)
    (as_law_purse : PySem.W.nsIn K mainGlobals "_law_purse" = some (some (.ref fas_law_purse)))
    (ls_law_purse : K.lookup fas_law_purse = some ⟨ocs_law_purse, ods_law_purse, .func (PySem.W.fnOf "_law_purse" "_law_purse" (defArgs s_law_purse) (defBody s_law_purse) (defScope s_law_purse) .none kVs_law_purse dcs_law_purse pms_law_purse ans_law_purse cds_law_purse cts_law_purse), sls_law_purse⟩)
    (cs_law_purse : PySem.W.codeIn K cds_law_purse "_law_purse" = true)
    (ks_law_purse : PySem.W.keepIn K (.ref fas_law_purse) = true)
    (as_law_price_drawn : PySem.W.nsIn K mainGlobals "_law_price_drawn" = some (some (.ref fas_law_price_drawn)))
    (ls_law_price_drawn : K.lookup fas_law_price_drawn = some ⟨ocs_law_price_drawn, ods_law_price_drawn, .func (PySem.W.fnOf "_law_price_drawn" "_law_price_drawn" (defArgs s_law_price_drawn) (defBody s_law_price_drawn) (defScope s_law_price_drawn) .none kVs_law_price_drawn dcs_law_price_drawn pms_law_price_drawn ans_law_price_drawn cds_law_price_drawn cts_law_price_drawn), sls_law_price_drawn⟩)
    (cs_law_price_drawn : PySem.W.codeIn K cds_law_price_drawn "_law_price_drawn" = true)
    (ks_law_price_drawn : PySem.W.keepIn K (.ref fas_law_price_drawn) = true)
    (as_law_rows_drawn : PySem.W.nsIn K mainGlobals "_law_rows_drawn" = some (some (.ref fas_law_rows_drawn)))
    (ls_law_rows_drawn : K.lookup fas_law_rows_drawn = some ⟨ocs_law_rows_drawn, ods_law_rows_drawn, .func (PySem.W.fnOf "_law_rows_drawn" "_law_rows_drawn" (defArgs s_law_rows_drawn) (defBody s_law_rows_drawn) (defScope s_law_rows_drawn) .none kVs_law_rows_drawn dcs_law_rows_drawn pms_law_rows_drawn ans_law_rows_drawn cds_law_rows_drawn cts_law_rows_drawn), sls_law_rows_drawn⟩)
    (cs_law_rows_drawn : PySem.W.codeIn K cds_law_rows_drawn "_law_rows_drawn" = true)
    (ks_law_rows_drawn : PySem.W.keepIn K (.ref fas_law_rows_drawn) = true)
    (as_law_any_rows : PySem.W.nsIn K mainGlobals "_law_any_rows" = some (some (.ref fas_law_any_rows)))
    (ls_law_any_rows : K.lookup fas_law_any_rows = some ⟨ocs_law_any_rows, ods_law_any_rows, .func (PySem.W.fnOf "_law_any_rows" "_law_any_rows" (defArgs s_law_any_rows) (defBody s_law_any_rows) (defScope s_law_any_rows) .none kVs_law_any_rows dcs_law_any_rows pms_law_any_rows ans_law_any_rows cds_law_any_rows cts_law_any_rows), sls_law_any_rows⟩)
    (cs_law_any_rows : PySem.W.codeIn K cds_law_any_rows "_law_any_rows" = true)
    (ks_law_any_rows : PySem.W.keepIn K (.ref fas_law_any_rows) = true)
    (as_law_sweep : PySem.W.nsIn K mainGlobals "_law_sweep" = some (some (.ref fas_law_sweep)))
    (ls_law_sweep : K.lookup fas_law_sweep = some ⟨ocs_law_sweep, ods_law_sweep, .func (PySem.W.fnOf "_law_sweep" "_law_sweep" (defArgs s_law_sweep) (defBody s_law_sweep) (defScope s_law_sweep) .none kVs_law_sweep dcs_law_sweep pms_law_sweep ans_law_sweep cds_law_sweep cts_law_sweep), sls_law_sweep⟩)
    (cs_law_sweep : PySem.W.codeIn K cds_law_sweep "_law_sweep" = true)
    (ks_law_sweep : PySem.W.keepIn K (.ref fas_law_sweep) = true)
    (as_law_near_rows : PySem.W.nsIn K mainGlobals "_law_near_rows" = some (some (.ref fas_law_near_rows)))
    (ls_law_near_rows : K.lookup fas_law_near_rows = some ⟨ocs_law_near_rows, ods_law_near_rows, .func (PySem.W.fnOf "_law_near_rows" "_law_near_rows" (defArgs s_law_near_rows) (defBody s_law_near_rows) (defScope s_law_near_rows) .none kVs_law_near_rows dcs_law_near_rows pms_law_near_rows ans_law_near_rows cds_law_near_rows cts_law_near_rows), sls_law_near_rows⟩)
    (cs_law_near_rows : PySem.W.codeIn K cds_law_near_rows "_law_near_rows" = true)
    (ks_law_near_rows : PySem.W.keepIn K (.ref fas_law_near_rows) = true)
    (as_law_last : PySem.W.nsIn K mainGlobals "_law_last" = some (some (.ref fas_law_last)))
    (ls_law_last : K.lookup fas_law_last = some ⟨ocs_law_last, ods_law_last, .func (PySem.W.fnOf "_law_last" "_law_last" (defArgs s_law_last) (defBody s_law_last) (defScope s_law_last) .none kVs_law_last dcs_law_last pms_law_last ans_law_last cds_law_last cts_law_last), sls_law_last⟩)
    (cs_law_last : PySem.W.codeIn K cds_law_last "_law_last" = true)
    (ks_law_last : PySem.W.keepIn K (.ref fas_law_last) = true)
    (as_law_near : PySem.W.nsIn K mainGlobals "_law_near" = some (some (.ref fas_law_near)))
    (ls_law_near : K.lookup fas_law_near = some ⟨ocs_law_near, ods_law_near, .func (PySem.W.fnOf "_law_near" "_law_near" (defArgs s_law_near) (defBody s_law_near) (defScope s_law_near) .none kVs_law_near dcs_law_near pms_law_near ans_law_near cds_law_near cts_law_near), sls_law_near⟩)
    (cs_law_near : PySem.W.codeIn K cds_law_near "_law_near" = true)
    (ks_law_near : PySem.W.keepIn K (.ref fas_law_near) = true)
    (as_told_on : PySem.W.nsIn K mainGlobals "told_on" = some (some (.ref fas_told_on)))
    (ls_told_on : K.lookup fas_told_on = some ⟨ocs_told_on, ods_told_on, .func (PySem.W.fnOf "told_on" "told_on" (defArgs s_told_on) (defBody s_told_on) (defScope s_told_on) .none kVs_told_on dcs_told_on pms_told_on ans_told_on cds_told_on cts_told_on), sls_told_on⟩)
    (cs_told_on : PySem.W.codeIn K cds_told_on "told_on" = true)
    (ks_told_on : PySem.W.keepIn K (.ref fas_told_on) = true)
    (aCPriceList : PySem.W.nsIn K mainGlobals "PriceList" = some (some (.ref C_PriceList)))
    (pgPriceList : PySem.W.plainGet K C_PriceList Str.empty = true)
    (hdPriceList : PySem.W.hasDictIn K C_PriceList = true)
    (poPriceList : PySem.W.plainOver K C_PriceList = true)
    (saPriceList : PySem.W.findIn K (.ref C_PriceList) "__setattr__" = some (some (.builtin "object.__setattr__")))
    (mkPriceList : PySem.W.makesIn K C_PriceList = true)
    (kcPriceList : PySem.W.keepIn K (.ref C_PriceList) = true)
    (nPriceListkept_entries : PySem.W.findIn K (.ref C_PriceList) "kept_entries" = some none)
    (as_PriceList___init__ : PySem.W.findIn K (.ref C_PriceList) "__init__" = some (some (.ref fas_PriceList___init__)))
    (is_PriceList___init__ : PySem.W.isFn K (.ref fas_PriceList___init__) = true)
    (ls_PriceList___init__ : K.lookup fas_PriceList___init__ = some ⟨ocs_PriceList___init__, ods_PriceList___init__, .func (PySem.W.fnOf "__init__" "PriceList.__init__" (defArgs s_PriceList___init__) (defBody s_PriceList___init__) (defScope s_PriceList___init__) .none kVs_PriceList___init__ dcs_PriceList___init__ pms_PriceList___init__ ans_PriceList___init__ cds_PriceList___init__ cts_PriceList___init__), sls_PriceList___init__⟩)
    (cs_PriceList___init__ : PySem.W.codeIn K cds_PriceList___init__ "PriceList.__init__" = true)
    (ks_PriceList___init__ : PySem.W.keepIn K (.ref fas_PriceList___init__) = true)
    (as_PriceList_entries : PySem.W.findIn K (.ref C_PriceList) "entries" = some (some (.ref pps_PriceList_entries)))
    (gs_PriceList_entries : PySem.W.specialIn K (.ref pps_PriceList_entries) "__get__" = some (some (.builtin "property.__get__")))
    (ts_PriceList_entries : PySem.W.takesIn K (.ref pps_PriceList_entries) = some true)
    (rs_PriceList_entries : PySem.W.recIn K pps_PriceList_entries "property" = some (.ref fas_PriceList_entries :: res_PriceList_entries))
    (ls_PriceList_entries : K.lookup fas_PriceList_entries = some ⟨ocs_PriceList_entries, ods_PriceList_entries, .func (PySem.W.fnOf "entries" "PriceList.entries" (defArgs s_PriceList_entries) (defBody s_PriceList_entries) (defScope s_PriceList_entries) .none kVs_PriceList_entries dcs_PriceList_entries pms_PriceList_entries ans_PriceList_entries cds_PriceList_entries cts_PriceList_entries), sls_PriceList_entries⟩)
    (cs_PriceList_entries : PySem.W.codeIn K cds_PriceList_entries "PriceList.entries" = true)
    (ks_PriceList_entries : PySem.W.keepIn K (.ref fas_PriceList_entries) = true)
    (as_PriceList___getitem__ : PySem.W.findIn K (.ref C_PriceList) "__getitem__" = some (some (.ref fas_PriceList___getitem__)))
    (is_PriceList___getitem__ : PySem.W.isFn K (.ref fas_PriceList___getitem__) = true)
    (ls_PriceList___getitem__ : K.lookup fas_PriceList___getitem__ = some ⟨ocs_PriceList___getitem__, ods_PriceList___getitem__, .func (PySem.W.fnOf "__getitem__" "PriceList.__getitem__" (defArgs s_PriceList___getitem__) (defBody s_PriceList___getitem__) (defScope s_PriceList___getitem__) .none kVs_PriceList___getitem__ dcs_PriceList___getitem__ pms_PriceList___getitem__ ans_PriceList___getitem__ cds_PriceList___getitem__ cts_PriceList___getitem__), sls_PriceList___getitem__⟩)
    (cs_PriceList___getitem__ : PySem.W.codeIn K cds_PriceList___getitem__ "PriceList.__getitem__" = true)
    (ks_PriceList___getitem__ : PySem.W.keepIn K (.ref fas_PriceList___getitem__) = true)
    (xs_PriceList___getitem__ : PySem.W.fnIn K fas_PriceList___getitem__ = true)
    (as_PriceList___len__ : PySem.W.findIn K (.ref C_PriceList) "__len__" = some (some (.ref fas_PriceList___len__)))
    (is_PriceList___len__ : PySem.W.isFn K (.ref fas_PriceList___len__) = true)
    (ls_PriceList___len__ : K.lookup fas_PriceList___len__ = some ⟨ocs_PriceList___len__, ods_PriceList___len__, .func (PySem.W.fnOf "__len__" "PriceList.__len__" (defArgs s_PriceList___len__) (defBody s_PriceList___len__) (defScope s_PriceList___len__) .none kVs_PriceList___len__ dcs_PriceList___len__ pms_PriceList___len__ ans_PriceList___len__ cds_PriceList___len__ cts_PriceList___len__), sls_PriceList___len__⟩)
    (cs_PriceList___len__ : PySem.W.codeIn K cds_PriceList___len__ "PriceList.__len__" = true)
    (ks_PriceList___len__ : PySem.W.keepIn K (.ref fas_PriceList___len__) = true)
    (as_PriceList_changes : PySem.W.findIn K (.ref C_PriceList) "changes" = some (some (.ref fas_PriceList_changes)))
    (is_PriceList_changes : PySem.W.isFn K (.ref fas_PriceList_changes) = true)
    (ls_PriceList_changes : K.lookup fas_PriceList_changes = some ⟨ocs_PriceList_changes, ods_PriceList_changes, .func (PySem.W.fnOf "changes" "PriceList.changes" (defArgs s_PriceList_changes) (defBody s_PriceList_changes) (defScope s_PriceList_changes) .none kVs_PriceList_changes dcs_PriceList_changes pms_PriceList_changes ans_PriceList_changes cds_PriceList_changes cts_PriceList_changes), sls_PriceList_changes⟩)
    (cs_PriceList_changes : PySem.W.codeIn K cds_PriceList_changes "PriceList.changes" = true)
    (ks_PriceList_changes : PySem.W.keepIn K (.ref fas_PriceList_changes) = true)
    (as_PriceList_alike : PySem.W.findIn K (.ref C_PriceList) "alike" = some (some (.ref fas_PriceList_alike)))
    (is_PriceList_alike : PySem.W.isFn K (.ref fas_PriceList_alike) = true)
    (ls_PriceList_alike : K.lookup fas_PriceList_alike = some ⟨ocs_PriceList_alike, ods_PriceList_alike, .func (PySem.W.fnOf "alike" "PriceList.alike" (defArgs s_PriceList_alike) (defBody s_PriceList_alike) (defScope s_PriceList_alike) .none kVs_PriceList_alike dcs_PriceList_alike pms_PriceList_alike ans_PriceList_alike cds_PriceList_alike cts_PriceList_alike), sls_PriceList_alike⟩)
    (cs_PriceList_alike : PySem.W.codeIn K cds_PriceList_alike "PriceList.alike" = true)
    (ks_PriceList_alike : PySem.W.keepIn K (.ref fas_PriceList_alike) = true)
    (as_PriceList_first_unlike : PySem.W.findIn K (.ref C_PriceList) "first_unlike" = some (some (.ref fas_PriceList_first_unlike)))
    (is_PriceList_first_unlike : PySem.W.isFn K (.ref fas_PriceList_first_unlike) = true)
    (ls_PriceList_first_unlike : K.lookup fas_PriceList_first_unlike = some ⟨ocs_PriceList_first_unlike, ods_PriceList_first_unlike, .func (PySem.W.fnOf "first_unlike" "PriceList.first_unlike" (defArgs s_PriceList_first_unlike) (defBody s_PriceList_first_unlike) (defScope s_PriceList_first_unlike) .none kVs_PriceList_first_unlike dcs_PriceList_first_unlike pms_PriceList_first_unlike ans_PriceList_first_unlike cds_PriceList_first_unlike cts_PriceList_first_unlike), sls_PriceList_first_unlike⟩)
    (cs_PriceList_first_unlike : PySem.W.codeIn K cds_PriceList_first_unlike "PriceList.first_unlike" = true)
    (ks_PriceList_first_unlike : PySem.W.keepIn K (.ref fas_PriceList_first_unlike) = true)
    (as_PriceList___eq__ : PySem.W.findIn K (.ref C_PriceList) "__eq__" = some (some (.ref fas_PriceList___eq__)))
    (is_PriceList___eq__ : PySem.W.isFn K (.ref fas_PriceList___eq__) = true)
    (ls_PriceList___eq__ : K.lookup fas_PriceList___eq__ = some ⟨ocs_PriceList___eq__, ods_PriceList___eq__, .func (PySem.W.fnOf "__eq__" "PriceList.__eq__" (defArgs s_PriceList___eq__) (defBody s_PriceList___eq__) (defScope s_PriceList___eq__) .none kVs_PriceList___eq__ dcs_PriceList___eq__ pms_PriceList___eq__ ans_PriceList___eq__ cds_PriceList___eq__ cts_PriceList___eq__), sls_PriceList___eq__⟩)
    (cs_PriceList___eq__ : PySem.W.codeIn K cds_PriceList___eq__ "PriceList.__eq__" = true)
    (ks_PriceList___eq__ : PySem.W.keepIn K (.ref fas_PriceList___eq__) = true)
    (as_law_changes : PySem.W.nsIn K mainGlobals "_law_changes" = some (some (.ref fas_law_changes)))
    (ls_law_changes : K.lookup fas_law_changes = some ⟨ocs_law_changes, ods_law_changes, .func (PySem.W.fnOf "_law_changes" "_law_changes" (defArgs s_law_changes) (defBody s_law_changes) (defScope s_law_changes) .none kVs_law_changes dcs_law_changes pms_law_changes ans_law_changes cds_law_changes cts_law_changes), sls_law_changes⟩)
    (cs_law_changes : PySem.W.codeIn K cds_law_changes "_law_changes" = true)
    (ks_law_changes : PySem.W.keepIn K (.ref fas_law_changes) = true)
    (as_law_first_apart : PySem.W.nsIn K mainGlobals "_law_first_apart" = some (some (.ref fas_law_first_apart)))
    (ls_law_first_apart : K.lookup fas_law_first_apart = some ⟨ocs_law_first_apart, ods_law_first_apart, .func (PySem.W.fnOf "_law_first_apart" "_law_first_apart" (defArgs s_law_first_apart) (defBody s_law_first_apart) (defScope s_law_first_apart) .none kVs_law_first_apart dcs_law_first_apart pms_law_first_apart ans_law_first_apart cds_law_first_apart cts_law_first_apart), sls_law_first_apart⟩)
    (cs_law_first_apart : PySem.W.codeIn K cds_law_first_apart "_law_first_apart" = true)
    (ks_law_first_apart : PySem.W.keepIn K (.ref fas_law_first_apart) = true)
    (as_law_told : PySem.W.nsIn K mainGlobals "_law_told" = some (some (.ref fas_law_told)))
    (ls_law_told : K.lookup fas_law_told = some ⟨ocs_law_told, ods_law_told, .func (PySem.W.fnOf "_law_told" "_law_told" (defArgs s_law_told) (defBody s_law_told) (defScope s_law_told) .none kVs_law_told dcs_law_told pms_law_told ans_law_told cds_law_told cts_law_told), sls_law_told⟩)
    (cs_law_told : PySem.W.codeIn K cds_law_told "_law_told" = true)
    (ks_law_told : PySem.W.keepIn K (.ref fas_law_told) = true)
    (as_law_keep : PySem.W.nsIn K mainGlobals "_law_keep" = some (some (.ref fas_law_keep)))
    (ls_law_keep : K.lookup fas_law_keep = some ⟨ocs_law_keep, ods_law_keep, .func (PySem.W.fnOf "_law_keep" "_law_keep" (defArgs s_law_keep) (defBody s_law_keep) (defScope s_law_keep) .none kVs_law_keep dcs_law_keep pms_law_keep ans_law_keep cds_law_keep cts_law_keep), sls_law_keep⟩)
    (cs_law_keep : PySem.W.codeIn K cds_law_keep "_law_keep" = true)
    (ks_law_keep : PySem.W.keepIn K (.ref fas_law_keep) = true)
    (as_law_held_right : PySem.W.nsIn K mainGlobals "_law_held_right" = some (some (.ref fas_law_held_right)))
    (ls_law_held_right : K.lookup fas_law_held_right = some ⟨ocs_law_held_right, ods_law_held_right, .func (PySem.W.fnOf "_law_held_right" "_law_held_right" (defArgs s_law_held_right) (defBody s_law_held_right) (defScope s_law_held_right) .none kVs_law_held_right dcs_law_held_right pms_law_held_right ans_law_held_right cds_law_held_right cts_law_held_right), sls_law_held_right⟩)
    (cs_law_held_right : PySem.W.codeIn K cds_law_held_right "_law_held_right" = true)
    (ks_law_held_right : PySem.W.keepIn K (.ref fas_law_held_right) = true)
    (as_law_owed : PySem.W.nsIn K mainGlobals "_law_owed" = some (some (.ref fas_law_owed)))
    (ls_law_owed : K.lookup fas_law_owed = some ⟨ocs_law_owed, ods_law_owed, .func (PySem.W.fnOf "_law_owed" "_law_owed" (defArgs s_law_owed) (defBody s_law_owed) (defScope s_law_owed) .none kVs_law_owed dcs_law_owed pms_law_owed ans_law_owed cds_law_owed cts_law_owed), sls_law_owed⟩)
    (cs_law_owed : PySem.W.codeIn K cds_law_owed "_law_owed" = true)
    (ks_law_owed : PySem.W.keepIn K (.ref fas_law_owed) = true)
    (as_law_answer : PySem.W.nsIn K mainGlobals "_law_answer" = some (some (.ref fas_law_answer)))
    (ls_law_answer : K.lookup fas_law_answer = some ⟨ocs_law_answer, ods_law_answer, .func (PySem.W.fnOf "_law_answer" "_law_answer" (defArgs s_law_answer) (defBody s_law_answer) (defScope s_law_answer) .none kVs_law_answer dcs_law_answer pms_law_answer ans_law_answer cds_law_answer cts_law_answer), sls_law_answer⟩)
    (cs_law_answer : PySem.W.codeIn K cds_law_answer "_law_answer" = true)
    (ks_law_answer : PySem.W.keepIn K (.ref fas_law_answer) = true)
    (as_law_right : PySem.W.nsIn K mainGlobals "_law_right" = some (some (.ref fas_law_right)))
    (ls_law_right : K.lookup fas_law_right = some ⟨ocs_law_right, ods_law_right, .func (PySem.W.fnOf "_law_right" "_law_right" (defArgs s_law_right) (defBody s_law_right) (defScope s_law_right) .none kVs_law_right dcs_law_right pms_law_right ans_law_right cds_law_right cts_law_right), sls_law_right⟩)
    (cs_law_right : PySem.W.codeIn K cds_law_right "_law_right" = true)
    (ks_law_right : PySem.W.keepIn K (.ref fas_law_right) = true)
    (as_law : PySem.W.nsIn K mainGlobals "law" = some (some (.ref fas_law)))
    (ls_law : K.lookup fas_law = some ⟨ocs_law, ods_law, .func (PySem.W.fnOf "law" "law" (defArgs s_law) (defBody s_law) (defScope s_law) .none kVs_law dcs_law pms_law ans_law cds_law cts_law), sls_law⟩)
    (cs_law : PySem.W.codeIn K cds_law "law" = true)
    (ks_law : PySem.W.keepIn K (.ref fas_law) = true)
    (hnE : PySem.W.specialIn K (.builtin "object.__class__") "__get__" = some (some (.builtin "getset_descriptor.__get__")))
    (htE : PySem.W.takesIn K (.builtin "object.__class__") = some true)
    (iclPriceList : PySem.W.findIn K (.ref C_PriceList) "__class__" = some (some (.builtin "object.__class__")))
    (imoPriceList : PySem.W.mroIn K C_PriceList (.type "object") = some true)
    (ikiPriceList : PySem.W.kitOne K (.ref C_PriceList) (.ref C_PriceList) = some true)
    (nePriceList : PySem.W.findIn K (.ref C_PriceList) "__ne__" = some (some (.builtin "object.__ne__")))
    (zTypeError : PySem.W.nsIn K mainGlobals "TypeError" = some none)
    (zValueError : PySem.W.nsIn K mainGlobals "ValueError" = some none)
    (zabs : PySem.W.nsIn K mainGlobals "abs" = some none)
    (zdict : PySem.W.nsIn K mainGlobals "dict" = some none)
    (zint : PySem.W.nsIn K mainGlobals "int" = some none)
    (zisinstance : PySem.W.nsIn K mainGlobals "isinstance" = some none)
    (zlen : PySem.W.nsIn K mainGlobals "len" = some none)
    (zlist : PySem.W.nsIn K mainGlobals "list" = some none)
    (zmax : PySem.W.nsIn K mainGlobals "max" = some none)
    (zmin : PySem.W.nsIn K mainGlobals "min" = some none)
    (zproperty : PySem.W.nsIn K mainGlobals "property" = some none)
    (zrange : PySem.W.nsIn K mainGlobals "range" = some none)
    (zrepr : PySem.W.nsIn K mainGlobals "repr" = some none)
    (zsorted : PySem.W.nsIn K mainGlobals "sorted" = some none)
    (ztuple : PySem.W.nsIn K mainGlobals "tuple" = some none)
    : ∃ fd : FuncData, (∀ (s : Shared) (v : Value), BindsTo s fd ⟨[v], []⟩ [("script", v)]) ∧ ∀ base : Heap, K.In base → base.Ns mainGlobals mg → FnG ⟨l.prog, w, K, mg, base⟩ CX0 6 fa fd ["script"] (toSp (spLaw K 63)) := by
  have e := hfa.symm.trans (PySem.W.mg_of X G as_law)
  cases e
  have Fs_law_coin := fun_mk (st := s_law_coin) ls_law_coin cs_law_coin ks_law_coin
  have Fs_law_purse := fun_mk (st := s_law_purse) ls_law_purse cs_law_purse ks_law_purse
  have Fs_law_price_drawn := fun_mk (st := s_law_price_drawn) ls_law_price_drawn cs_law_price_drawn ks_law_price_drawn
  have Fs_law_rows_drawn := fun_mk (st := s_law_rows_drawn) ls_law_rows_drawn cs_law_rows_drawn ks_law_rows_drawn
  have Fs_law_any_rows := fun_mk (st := s_law_any_rows) ls_law_any_rows cs_law_any_rows ks_law_any_rows
  have Fs_law_sweep := fun_mk (st := s_law_sweep) ls_law_sweep cs_law_sweep ks_law_sweep
  have Fs_law_near_rows := fun_mk (st := s_law_near_rows) ls_law_near_rows cs_law_near_rows ks_law_near_rows
  have Fs_law_last := fun_mk (st := s_law_last) ls_law_last cs_law_last ks_law_last
  have Fs_law_near := fun_mk (st := s_law_near) ls_law_near cs_law_near ks_law_near
  have Fs_told_on := fun_mk (st := s_told_on) ls_told_on cs_told_on ks_told_on
  have Fs_PriceList___init__ := fun_mk (st := s_PriceList___init__) ls_PriceList___init__ cs_PriceList___init__ ks_PriceList___init__
  have Fs_PriceList_entries := fun_mk (st := s_PriceList_entries) ls_PriceList_entries cs_PriceList_entries ks_PriceList_entries
  have Fs_PriceList___getitem__ := fun_mk (st := s_PriceList___getitem__) ls_PriceList___getitem__ cs_PriceList___getitem__ ks_PriceList___getitem__
  have Fs_PriceList___len__ := fun_mk (st := s_PriceList___len__) ls_PriceList___len__ cs_PriceList___len__ ks_PriceList___len__
  have Fs_PriceList_changes := fun_mk (st := s_PriceList_changes) ls_PriceList_changes cs_PriceList_changes ks_PriceList_changes
  have Fs_PriceList_alike := fun_mk (st := s_PriceList_alike) ls_PriceList_alike cs_PriceList_alike ks_PriceList_alike
  have Fs_PriceList_first_unlike := fun_mk (st := s_PriceList_first_unlike) ls_PriceList_first_unlike cs_PriceList_first_unlike ks_PriceList_first_unlike
  have Fs_PriceList___eq__ := fun_mk (st := s_PriceList___eq__) ls_PriceList___eq__ cs_PriceList___eq__ ks_PriceList___eq__
  have Fs_law_changes := fun_mk (st := s_law_changes) ls_law_changes cs_law_changes ks_law_changes
  have Fs_law_first_apart := fun_mk (st := s_law_first_apart) ls_law_first_apart cs_law_first_apart ks_law_first_apart
  have Fs_law_told := fun_mk (st := s_law_told) ls_law_told cs_law_told ks_law_told
  have Fs_law_keep := fun_mk (st := s_law_keep) ls_law_keep cs_law_keep ks_law_keep
  have Fs_law_held_right := fun_mk (st := s_law_held_right) ls_law_held_right cs_law_held_right ks_law_held_right
  have Fs_law_owed := fun_mk (st := s_law_owed) ls_law_owed cs_law_owed ks_law_owed
  have Fs_law_answer := fun_mk (st := s_law_answer) ls_law_answer cs_law_answer ks_law_answer
  have Fs_law_right := fun_mk (st := s_law_right) ls_law_right cs_law_right ks_law_right
  have Fs_law := fun_mk (st := s_law) ls_law cs_law ks_law
  refine ⟨PySem.W.fnOf "law" "law" (defArgs s_law) (defBody s_law) (defScope s_law) .none kVs_law dcs_law pms_law ans_law cds_law cts_law, fun s v => .of_eq rfl, fun base _ _ => ?_⟩
  have T : Txt ⟨l.prog, w, K, mg, base⟩ := ⟨PySem.W.mg_none_of X G zTypeError, PySem.W.mg_none_of X G zValueError, PySem.W.mg_none_of X G zabs, PySem.W.mg_none_of X G zdict, PySem.W.mg_none_of X G zint, PySem.W.mg_none_of X G zisinstance, PySem.W.mg_none_of X G zlen, PySem.W.mg_none_of X G zlist, PySem.W.mg_none_of X G zmax, PySem.W.mg_none_of X G zmin, PySem.W.mg_none_of X G zproperty, PySem.W.mg_none_of X G zrange, PySem.W.mg_none_of X G zrepr, PySem.W.mg_none_of X G zsorted, PySem.W.mg_none_of X G ztuple⟩
  have FC : Fn ⟨l.prog, w, K, mg, base⟩ 1 "_law_coin" (spDraw 1 SCoin) := ⟨⟨_, _, _, ok_coin Fs_law_coin T, PySem.W.mg_of X G as_law_coin, Fs_law_coin.kp, Fs_law_coin.binds (ps := ["purse", "many"]) fun _ _ _ _ _ _ us hl => match us, hl with | [_, _], _ => rfl⟩, up_draw mon_coin⟩
  have FU : Fn ⟨l.prog, w, K, mg, base⟩ 1 "_law_purse" (spPurse K) := ⟨⟨_, _, _, ok_purse Fs_law_purse T, PySem.W.mg_of X G as_law_purse, Fs_law_purse.kp, Fs_law_purse.binds (ps := ["script", "place"]) fun _ _ _ _ _ _ us hl => match us, hl with | [_, _], _ => rfl⟩, up_purse⟩
  have FP : Fn ⟨l.prog, w, K, mg, base⟩ 2 "_law_price_drawn" (spDraw 2 SPriceB) := ⟨⟨_, _, _, ok_priceB Fs_law_price_drawn T FC, PySem.W.mg_of X G as_law_price_drawn, Fs_law_price_drawn.kp, Fs_law_price_drawn.binds (ps := ["purse"]) fun _ _ _ _ _ _ us hl => match us, hl with | [_], _ => rfl⟩, up_draw mon_priceB⟩
  have FR : Fn ⟨l.prog, w, K, mg, base⟩ 3 "_law_rows_drawn" (spRowsN) := ⟨⟨_, _, _, ok_rowsN Fs_law_rows_drawn T FC FP, PySem.W.mg_of X G as_law_rows_drawn, Fs_law_rows_drawn.kp, Fs_law_rows_drawn.binds (ps := ["purse", "most", "last"]) fun _ _ _ _ _ _ us hl => match us, hl with | [_, _, _], _ => rfl⟩, up_rowsN⟩
  have FA : Fn ⟨l.prog, w, K, mg, base⟩ 4 "_law_any_rows" (spAnyN) := ⟨⟨_, _, _, ok_anyN Fs_law_any_rows T FC FP FR, PySem.W.mg_of X G as_law_any_rows, Fs_law_any_rows.kp, Fs_law_any_rows.binds (ps := ["purse"]) fun _ _ _ _ _ _ us hl => match us, hl with | [_], _ => rfl⟩, up_anyN⟩
  have FS : Fn ⟨l.prog, w, K, mg, base⟩ 1 "_law_sweep" (spPure SSweep) := ⟨⟨_, _, _, ok_sweep Fs_law_sweep T, PySem.W.mg_of X G as_law_sweep, Fs_law_sweep.kp, Fs_law_sweep.binds (ps := ["rows", "last"]) fun _ _ _ _ _ _ us hl => match us, hl with | [_, _], _ => rfl⟩, up_pure mon_sweep⟩
  have FSN : Fn ⟨l.prog, w, K, mg, base⟩ 1 "_law_sweep" (spSweepN) := ⟨⟨_, _, _, ok_sweepN Fs_law_sweep T, PySem.W.mg_of X G as_law_sweep, Fs_law_sweep.kp, Fs_law_sweep.binds (ps := ["rows", "last"]) fun _ _ _ _ _ _ us hl => match us, hl with | [_, _], _ => rfl⟩, up_sweepN⟩
  have FNN : Fn ⟨l.prog, w, K, mg, base⟩ 3 "_law_near_rows" (spNearN) := ⟨⟨_, _, _, ok_near_rowsN Fs_law_near_rows T FC FP FSN, PySem.W.mg_of X G as_law_near_rows, Fs_law_near_rows.kp, Fs_law_near_rows.binds (ps := ["purse", "rows", "last"]) fun _ _ _ _ _ _ us hl => match us, hl with | [_, _, _], _ => rfl⟩, up_nearN⟩
  have FLaN : Fn ⟨l.prog, w, K, mg, base⟩ 1 "_law_last" (spLastN) := ⟨⟨_, _, _, ok_lastN Fs_law_last T, PySem.W.mg_of X G as_law_last, Fs_law_last.kp, Fs_law_last.binds (ps := ["rows"]) fun _ _ _ _ _ _ us hl => match us, hl with | [_], _ => rfl⟩, up_lastN⟩
  have FNe : Fn ⟨l.prog, w, K, mg, base⟩ 4 "_law_near" (spNear1N) := ⟨⟨_, _, _, ok_nearN Fs_law_near T FC FNN FLaN, PySem.W.mg_of X G as_law_near, Fs_law_near.kp, Fs_law_near.binds (ps := ["purse", "rows"]) fun _ _ _ _ _ _ us hl => match us, hl with | [_, _], _ => rfl⟩, up_near1N⟩
  have FT : Fn ⟨l.prog, w, K, mg, base⟩ 1 "told_on" (spPure STold) := ⟨⟨_, _, _, ok_told Fs_told_on T, PySem.W.mg_of X G as_told_on, Fs_told_on.kp, Fs_told_on.binds (ps := ["kept", "day"]) fun _ _ _ _ _ _ us hl => match us, hl with | [_, _], _ => rfl⟩, up_pure mon_told⟩
  have c_PriceList : ClPL ⟨l.prog, w, K, mg, base⟩ C_PriceList := ⟨⟨pgPriceList, hdPriceList, poPriceList, saPriceList⟩, nPriceListkept_entries⟩
  have ik_PriceList : IsK ⟨l.prog, w, K, mg, base⟩ C_PriceList := ⟨c_PriceList.cl, iclPriceList, hnE, htE, imoPriceList⟩
  have FI : Cn ⟨l.prog, w, K, mg, base⟩ 1 "PriceList" C_PriceList (spPLinit C_PriceList) := ⟨⟨_, _, _, ok_PL_init Fs_PriceList___init__ T c_PriceList, ⟨mkPriceList, as_PriceList___init__, is_PriceList___init__, kcPriceList⟩, Fs_PriceList___init__.binds (ps := ["self", "entries"]) fun _ _ _ _ _ _ us hl => match us, hl with | [_, _], _ => rfl⟩, PySem.W.mg_of X G aCPriceList, up_PLinit⟩
  have FE : Pr ⟨l.prog, w, K, mg, base⟩ 1 C_PriceList "entries" (spPLentries C_PriceList) := ⟨⟨_, _, _, _, ok_PL_entries Fs_PriceList_entries T c_PriceList, ⟨as_PriceList_entries, gs_PriceList_entries, ts_PriceList_entries, _, rs_PriceList_entries⟩, Fs_PriceList_entries.binds (ps := ["self"]) fun _ _ _ _ _ _ us hl => match us, hl with | [_], _ => rfl⟩, c_PriceList.cl, up_PLentries⟩
  have FG : Gi ⟨l.prog, w, K, mg, base⟩ 2 C_PriceList (spPure (SPLget C_PriceList)) := ⟨⟨_, _, _, ok_PL_getitem Fs_PriceList___getitem__ T c_PriceList FT, ⟨as_PriceList___getitem__, is_PriceList___getitem__, ks_PriceList___getitem__⟩, Fs_PriceList___getitem__.binds (ps := ["self", "at"]) fun _ _ _ _ _ _ us hl => match us, hl with | [_, _], _ => rfl, xs_PriceList___getitem__⟩, up_pure mon_PLget⟩
  have FL : Mt ⟨l.prog, w, K, mg, base⟩ 1 C_PriceList "__len__" (spPure (SPLlen C_PriceList)) := ⟨⟨_, _, _, ok_PL_len Fs_PriceList___len__ T c_PriceList, ⟨as_PriceList___len__, is_PriceList___len__, ks_PriceList___len__⟩, Fs_PriceList___len__.binds (ps := ["self"]) fun _ _ _ _ _ _ us hl => match us, hl with | [_], _ => rfl⟩, c_PriceList.cl, up_pure mon_PLlen⟩
  have FM : Mt ⟨l.prog, w, K, mg, base⟩ 1 C_PriceList "changes" (spPLchanges C_PriceList) := ⟨⟨_, _, _, ok_PL_changes Fs_PriceList_changes T c_PriceList, ⟨as_PriceList_changes, is_PriceList_changes, ks_PriceList_changes⟩, Fs_PriceList_changes.binds (ps := ["self"]) fun _ _ _ _ _ _ us hl => match us, hl with | [_], _ => rfl⟩, c_PriceList.cl, up_PLchanges⟩
  have FAl : Mt ⟨l.prog, w, K, mg, base⟩ 2 C_PriceList "alike" (spPure (SPLalike C_PriceList)) := ⟨⟨_, _, _, ok_PL_alike Fs_PriceList_alike T FM, ⟨as_PriceList_alike, is_PriceList_alike, ks_PriceList_alike⟩, Fs_PriceList_alike.binds (ps := ["self", "other"]) fun _ _ _ _ _ _ us hl => match us, hl with | [_, _], _ => rfl⟩, c_PriceList.cl, up_pure mon_PLalike⟩
  have FUn : Mt ⟨l.prog, w, K, mg, base⟩ 2 C_PriceList "first_unlike" (spPure (SPLun C_PriceList)) := ⟨⟨_, _, _, ok_PL_unlike Fs_PriceList_first_unlike T c_PriceList FT, ⟨as_PriceList_first_unlike, is_PriceList_first_unlike, ks_PriceList_first_unlike⟩, Fs_PriceList_first_unlike.binds (ps := ["self", "other"]) fun _ _ _ _ _ _ us hl => match us, hl with | [_, _], _ => rfl⟩, c_PriceList.cl, up_pure mon_PLun⟩
  have FEe : EqC ⟨l.prog, w, K, mg, base⟩ 2 C_PriceList (SPLeqD ⟨l.prog, w, K, mg, base⟩ C_PriceList) := ⟨⟨_, _, _, ok_PL_eqD Fs_PriceList___eq__ T c_PriceList ik_PriceList (PySem.W.mg_of X G aCPriceList) ikiPriceList, Fs_PriceList___eq__.binds (ps := ["self", "other"]) fun _ _ _ _ _ _ us hl => match us, hl with | [_, _], _ => rfl, ⟨nePriceList, imoPriceList, as_PriceList___eq__, is_PriceList___eq__⟩⟩, up_V mon_PLeqD⟩
  have FCh : Fn ⟨l.prog, w, K, mg, base⟩ 2 "_law_changes" (spPure SChg) := ⟨⟨_, _, _, ok_changes Fs_law_changes T FS, PySem.W.mg_of X G as_law_changes, Fs_law_changes.kp, Fs_law_changes.binds (ps := ["rows", "last"]) fun _ _ _ _ _ _ us hl => match us, hl with | [_, _], _ => rfl⟩, up_pure mon_chg⟩
  have FF : Fn ⟨l.prog, w, K, mg, base⟩ 2 "_law_first_apart" (spPure SFA) := ⟨⟨_, _, _, ok_apart Fs_law_first_apart T FS, PySem.W.mg_of X G as_law_first_apart, Fs_law_first_apart.kp, Fs_law_first_apart.binds (ps := ["rows", "lines", "last"]) fun _ _ _ _ _ _ us hl => match us, hl with | [_, _, _], _ => rfl⟩, up_pure mon_fa⟩
  have FTl2 : Fn ⟨l.prog, w, K, mg, base⟩ 1 "_law_told" (spV STold2) := ⟨⟨_, _, _, ok_told2 Fs_law_told T, PySem.W.mg_of X G as_law_told, Fs_law_told.kp, Fs_law_told.binds (ps := ["rows", "spot"]) fun _ _ _ _ _ _ us hl => match us, hl with | [_, _], _ => rfl⟩, up_V mon_told2⟩
  have FKp2 : Fn ⟨l.prog, w, K, mg, base⟩ 2 "_law_keep" (spKeep2) := ⟨⟨_, _, _, ok_keepS Fs_law_keep T FC, PySem.W.mg_of X G as_law_keep, Fs_law_keep.kp, Fs_law_keep.binds (ps := ["purse", "held", "told"]) fun _ _ _ _ _ _ us hl => match us, hl with | [_, _, _], _ => rfl⟩, up_keep2⟩
  have FHr2 : Fn ⟨l.prog, w, K, mg, base⟩ 1 "_law_held_right" (spV SHeldRight) := ⟨⟨_, _, _, ok_heldRight Fs_law_held_right T, PySem.W.mg_of X G as_law_held_right, Fs_law_held_right.kp, Fs_law_held_right.binds (ps := ["held"]) fun _ _ _ _ _ _ us hl => match us, hl with | [_], _ => rfl⟩, up_V mon_heldRight⟩
  have FOw : Fn ⟨l.prog, w, K, mg, base⟩ 3 "_law_owed" (spV SOwed) := ⟨⟨_, _, _, ok_owed Fs_law_owed T FCh FTl2 FF, PySem.W.mg_of X G as_law_owed, Fs_law_owed.kp, Fs_law_owed.binds (ps := ["way", "rows", "lines", "spot"]) fun _ _ _ _ _ _ us hl => match us, hl with | [_, _, _, _], _ => rfl⟩, up_V mon_owed⟩
  have FAn2 : Fn ⟨l.prog, w, K, mg, base⟩ 4 "_law_answer" (spAnswer C_PriceList) := ⟨⟨_, _, _, ok_answerK Fs_law_answer T FE FM FG FAl FUn FL FEe ik_PriceList, PySem.W.mg_of X G as_law_answer, Fs_law_answer.kp, Fs_law_answer.binds (ps := ["way", "one_list", "two_list", "spot"]) fun _ _ _ _ _ _ us hl => match us, hl with | [_, _, _, _], _ => rfl⟩, up_answer⟩
  have FRi : Fn ⟨l.prog, w, K, mg, base⟩ 5 "_law_right" (spRight 400) := ⟨⟨_, _, _, ok_right Fs_law_right T FC FA FNe FI FAn2 FOw FKp2 FHr2, PySem.W.mg_of X G as_law_right, Fs_law_right.kp, Fs_law_right.binds (ps := ["purse"]) fun _ _ _ _ _ _ us hl => match us, hl with | [_], _ => rfl⟩, up_right⟩
  exact ok_law (k := 4) Fs_law T FU FRi (by decide)
end Pf
open PySem PySem.W PyProof.Rows in
set_option maxHeartbeats 0 in
theorem PySem.Challenge.cw_inforce_k07_lists_asked_by_turns_holds : PySem.Challenge.rw_inforce_k07_lists_asked_by_turns.Holds := by
  w_on; o_law; k_head; (case hw => w_witness2)
  k_fill
  refine Ab.walkG (l := PySem.Challenge.rw_inforce_k07_lists_asked_by_turns) (n := 63) (k := 6) (x := "script") rfl rfl (fun w h Y => PySem.W.kIn_of Y) (by decide) ⟨rfl, by decide, by decide⟩ ?F
  case F =>
    intro w mg fa h KX G hmg
    refine' Pf.all_mk KX G hmg ?as_law_coin ?ls_law_coin ?cs_law_coin ?ks_law_coin ?as_law_purse ?ls_law_purse ?cs_law_purse ?ks_law_purse ?as_law_price_drawn ?ls_law_price_drawn ?cs_law_price_drawn ?ks_law_price_drawn ?as_law_rows_drawn ?ls_law_rows_drawn ?cs_law_rows_drawn ?ks_law_rows_drawn ?as_law_any_rows ?ls_law_any_rows ?cs_law_any_rows ?ks_law_any_rows ?as_law_sweep ?ls_law_sweep ?cs_law_sweep ?ks_law_sweep ?as_law_near_rows ?ls_law_near_rows ?cs_law_near_rows ?ks_law_near_rows ?as_law_last ?ls_law_last ?cs_law_last ?ks_law_last ?as_law_near ?ls_law_near ?cs_law_near ?ks_law_near ?as_told_on ?ls_told_on ?cs_told_on ?ks_told_on ?aCPriceList ?pgPriceList ?hdPriceList ?poPriceList ?saPriceList ?mkPriceList ?kcPriceList ?nPriceListkept_entries ?as_PriceList___init__ ?is_PriceList___init__ ?ls_PriceList___init__ ?cs_PriceList___init__ ?ks_PriceList___init__ ?as_PriceList_entries ?gs_PriceList_entries ?ts_PriceList_entries ?rs_PriceList_entries ?ls_PriceList_entries ?cs_PriceList_entries ?ks_PriceList_entries ?as_PriceList___getitem__ ?is_PriceList___getitem__ ?ls_PriceList___getitem__ ?cs_PriceList___getitem__ ?ks_PriceList___getitem__ ?xs_PriceList___getitem__ ?as_PriceList___len__ ?is_PriceList___len__ ?ls_PriceList___len__ ?cs_PriceList___len__ ?ks_PriceList___len__ ?as_PriceList_changes ?is_PriceList_changes ?ls_PriceList_changes ?cs_PriceList_changes ?ks_PriceList_changes ?as_PriceList_alike ?is_PriceList_alike ?ls_PriceList_alike ?cs_PriceList_alike ?ks_PriceList_alike ?as_PriceList_first_unlike ?is_PriceList_first_unlike ?ls_PriceList_first_unlike ?cs_PriceList_first_unlike ?ks_PriceList_first_unlike ?as_PriceList___eq__ ?is_PriceList___eq__ ?ls_PriceList___eq__ ?cs_PriceList___eq__ ?ks_PriceList___eq__ ?as_law_changes ?ls_law_changes ?cs_law_changes ?ks_law_changes ?as_law_first_apart ?ls_law_first_apart ?cs_law_first_apart ?ks_law_first_apart ?as_law_told ?ls_law_told ?cs_law_told ?ks_law_told ?as_law_keep ?ls_law_keep ?cs_law_keep ?ks_law_keep ?as_law_held_right ?ls_law_held_right ?cs_law_held_right ?ks_law_held_right ?as_law_owed ?ls_law_owed ?cs_law_owed ?ks_law_owed ?as_law_answer ?ls_law_answer ?cs_law_answer ?ks_law_answer ?as_law_right ?ls_law_right ?cs_law_right ?ks_law_right ?as_law ?ls_law ?cs_law ?ks_law ?hnE ?htE ?iclPriceList ?imoPriceList ?ikiPriceList ?nePriceList ?zTypeError ?zValueError ?zabs ?zdict ?zint ?zisinstance ?zlen ?zlist ?zmax ?zmin ?zproperty ?zrange ?zrepr ?zsorted ?ztuple
    (case as_law_coin => k_is)
    (case ls_law_coin => k_is)
    (case cs_law_coin => k_is)
    (case ks_law_coin => k_is)
    (case as_law_purse => k_is)
    (case ls_law_purse => k_is)
    (case cs_law_purse => k_is)
    (case ks_law_purse => k_is)
    (case as_law_price_drawn => k_is)
    (case ls_law_price_drawn => k_is)
    (case cs_law_price_drawn => k_is)
    (case ks_law_price_drawn => k_is)
    (case as_law_rows_drawn => k_is)
    (case ls_law_rows_drawn => k_is)
    (case cs_law_rows_drawn => k_is)
    (case ks_law_rows_drawn => k_is)
    (case as_law_any_rows => k_is)
    (case ls_law_any_rows => k_is)
    (case cs_law_any_rows => k_is)
    (case ks_law_any_rows => k_is)
    (case as_law_sweep => k_is)
    (case ls_law_sweep => k_is)
    (case cs_law_sweep => k_is)
    (case ks_law_sweep => k_is)
    (case as_law_near_rows => k_is)
    (case ls_law_near_rows => k_is)
    (case cs_law_near_rows => k_is)
    (case ks_law_near_rows => k_is)
    (case as_law_last => k_is)
    (case ls_law_last => k_is)
    (case cs_law_last => k_is)
    (case ks_law_last => k_is)
    (case as_law_near => k_is)
    (case ls_law_near => k_is)
    (case cs_law_near => k_is)
    (case ks_law_near => k_is)
    (case as_told_on => k_is)
    (case ls_told_on => k_is)
    (case cs_told_on => k_is)
    (case ks_told_on => k_is)
    (case aCPriceList => k_is)
    (case pgPriceList => k_is)
    (case hdPriceList => k_is)
    (case poPriceList => k_is)
    (case saPriceList => k_is)
    (case mkPriceList => k_is)
    (case kcPriceList => k_is)
    (case nPriceListkept_entries => k_is)
    (case as_PriceList___init__ => k_is)
    (case is_PriceList___init__ => k_is)
    (case ls_PriceList___init__ => k_is)
    (case cs_PriceList___init__ => k_is)
    (case ks_PriceList___init__ => k_is)
    (case as_PriceList_entries => k_is)
    (case gs_PriceList_entries => k_is)
    (case ts_PriceList_entries => k_is)
    (case rs_PriceList_entries => k_is)
    (case ls_PriceList_entries => k_is)
    (case cs_PriceList_entries => k_is)
    (case ks_PriceList_entries => k_is)
    (case as_PriceList___getitem__ => k_is)
    (case is_PriceList___getitem__ => k_is)
    (case ls_PriceList___getitem__ => k_is)
    (case cs_PriceList___getitem__ => k_is)
    (case ks_PriceList___getitem__ => k_is)
    (case xs_PriceList___getitem__ => k_is)
    (case as_PriceList___len__ => k_is)
    (case is_PriceList___len__ => k_is)
    (case ls_PriceList___len__ => k_is)
    (case cs_PriceList___len__ => k_is)
    (case ks_PriceList___len__ => k_is)
    (case as_PriceList_changes => k_is)
    (case is_PriceList_changes => k_is)
    (case ls_PriceList_changes => k_is)
    (case cs_PriceList_changes => k_is)
    (case ks_PriceList_changes => k_is)
    (case as_PriceList_alike => k_is)
    (case is_PriceList_alike => k_is)
    (case ls_PriceList_alike => k_is)
    (case cs_PriceList_alike => k_is)
    (case ks_PriceList_alike => k_is)
    (case as_PriceList_first_unlike => k_is)
    (case is_PriceList_first_unlike => k_is)
    (case ls_PriceList_first_unlike => k_is)
    (case cs_PriceList_first_unlike => k_is)
    (case ks_PriceList_first_unlike => k_is)
    (case as_PriceList___eq__ => k_is)
    (case is_PriceList___eq__ => k_is)
    (case ls_PriceList___eq__ => k_is)
    (case cs_PriceList___eq__ => k_is)
    (case ks_PriceList___eq__ => k_is)
    (case as_law_changes => k_is)
    (case ls_law_changes => k_is)
    (case cs_law_changes => k_is)
    (case ks_law_changes => k_is)
    (case as_law_first_apart => k_is)
    (case ls_law_first_apart => k_is)
    (case cs_law_first_apart => k_is)
    (case ks_law_first_apart => k_is)
    (case as_law_told => k_is)
    (case ls_law_told => k_is)
    (case cs_law_told => k_is)
    (case ks_law_told => k_is)
    (case as_law_keep => k_is)
    (case ls_law_keep => k_is)
    (case cs_law_keep => k_is)
    (case ks_law_keep => k_is)
    (case as_law_held_right => k_is)
    (case ls_law_held_right => k_is)
    (case cs_law_held_right => k_is)
    (case ks_law_held_right => k_is)
    (case as_law_owed => k_is)
    (case ls_law_owed => k_is)
    (case cs_law_owed => k_is)
    (case ks_law_owed => k_is)
    (case as_law_answer => k_is)
    (case ls_law_answer => k_is)
    (case cs_law_answer => k_is)
    (case ks_law_answer => k_is)
    (case as_law_right => k_is)
    (case ls_law_right => k_is)
    (case cs_law_right => k_is)
    (case ks_law_right => k_is)
    (case as_law => k_is)
    (case ls_law => k_is)
    (case cs_law => k_is)
    (case ks_law => k_is)
    (case hnE => k_is)
    (case htE => k_is)
    (case iclPriceList => k_is)
    (case imoPriceList => k_is)
    (case ikiPriceList => kit_is)
    (case nePriceList => k_is)
    (case zTypeError => k_is)
    (case zValueError => k_is)
    (case zabs => k_is)
    (case zdict => k_is)
    (case zint => k_is)
    (case zisinstance => k_is)
    (case zlen => k_is)
    (case zlist => k_is)
    (case zmax => k_is)
    (case zmin => k_is)
    (case zproperty => k_is)
    (case zrange => k_is)
    (case zrepr => k_is)
    (case zsorted => k_is)
    (case ztuple => k_is)
