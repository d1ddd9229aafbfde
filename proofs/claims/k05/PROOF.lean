import PyProof.Rows.All
import Wide.All
import OpenK.AllK
import Wide.FinOn
import HandS.ForMost
import HandS.Style
import HandS.TupAny
import HandS.IsInst
import HandS.Wide
import HandS.TupMul
import HandS.Zip
import HandS.Rev
import HandS.SetFor
import HandS.Strs
import HandS.DictTup
import HandS.SortInts
import HandS.Conv
import KE.DatumOrd
import KE.GoesEnum
import HandS.Defaults
import HandS.DictComp
import HandS.Iter
import HandS.SortRule
import PyProof.TupleOfSeq
import PySem.Challenge.RW_shadehours_k05_whole_yards_go_together
set_option Elab.async false
set_option linter.all false
set_option maxRecDepth 100000
namespace Sh
open PySem L2

/-! ### values of the evaluator -/
/-- what an expression yields: data that stands still; a thing of the store; the script -/
inductive Rv where
  | d (x : PyData)
  | m (k : Nat)
  | s (ns : List Int)
/-- a thing of the store, which may change -/
inductive Mo where
  | lst (xs : List PyData)
  | dT (es : List (PyData × PyData))
  | dK (kvs : List (Int × Int))
  | dead
abbrev Mu := List Mo
abbrev Ro := List (Option Rv)

mutual
inductive Rp (F : Hp) : V → PyData → Prop
  | non : Rp F .non .none
  | bl (b : Bool) : Rp F (.bl b) (.bool b)
  | int (i : Int) : Rp F (.int i) (.int i)
  | str (z : Str) : Rp F (.str z) (.str z)
  | lst {a : Addr} {xs : List V} {ds : List PyData} : F a = some (.lst xs) → RpAll F xs ds → Rp F (.ref a) (.list ds)
  | tup {a : Addr} {xs : List V} {ds : List PyData} : F a = some (.tup xs) → RpAll F xs ds → Rp F (.ref a) (.tuple ds)
  | dct {a : Addr} {ws : List (List Key × V)} {es : List (PyData × PyData)} : Rd F a (.dT ws) → RpKV F ws es → Rp F (.ref a) (.dict es)
inductive RpAll (F : Hp) : List V → List PyData → Prop
  | nil : RpAll F [] []
  | cons {v : V} {vs : List V} {d : PyData} {ds : List PyData} : Rp F v d → RpAll F vs ds → RpAll F (v :: vs) (d :: ds)
inductive RpKV (F : Hp) : List (List Key × V) → List (PyData × PyData) → Prop
  | nil : RpKV F [] []
  | cons {k : List Int} {v : V} {ws : List (List Key × V)} {e : PyData} {es : List (PyData × PyData)} : Rp F v e → RpKV F ws es →
      RpKV F ((k.map Sum.inl, v) :: ws) ((.tuple (k.map .int), e) :: es)
end

/-- what is read of still things stays -/
structure LeR (F F' : Hp) : Prop where
  lst : ∀ a xs, F a = some (.lst xs) → F' a = some (.lst xs)
  tup : ∀ a xs, F a = some (.tup xs) → F' a = some (.tup xs)
  rdl : ∀ a xs, Rd F a (.lst xs) → Rd F' a (.lst xs)
  rdt : ∀ a ws, Rd F a (.dT ws) → Rd F' a (.dT ws)
theorem LeR.refl (F : Hp) : LeR F F := ⟨fun _ _ h => h, fun _ _ h => h, fun _ _ h => h, fun _ _ h => h⟩
theorem LeR.trans {F G J : Hp} (x : LeR F G) (y : LeR G J) : LeR F J :=
  ⟨fun a u h => y.lst a u (x.lst a u h), fun a u h => y.tup a u (x.tup a u h), fun a u h => y.rdl a u (x.rdl a u h), fun a u h => y.rdt a u (x.rdt a u h)⟩
theorem LeR.of_same {F F' : Hp} (h : ∀ a u, F a = some u → F' a = some u) : LeR F F' :=
  ⟨fun a _ e => h a _ e, fun a _ e => h a _ e, fun a _ e => e.elim (fun e => .inl (h a _ e)) fun ⟨o, e⟩ => .inr ⟨o, h a _ e⟩,
   fun a _ e => e.elim (fun e => .inl (h a _ e)) fun ⟨o, e⟩ => .inr ⟨o, h a _ e⟩⟩

section
variable {F F' : Hp} (hl : LeR F F')
mutual
theorem Rp.mono {F F' : Hp} (hl : LeR F F') : ∀ (d : PyData) (v : V), Rp F v d → Rp F' v d
  | .none, _, h => by cases h; exact .non
  | .bool _, _, h => by cases h; exact .bl _
  | .int _, _, h => by cases h; exact .int _
  | .str _, _, h => by cases h; exact .str _
  | .list ds, _, h => by
    cases h with
    | lst e r => exact .lst (hl.lst _ _ e) (RpAll.mono hl ds _ r)
  | .tuple ds, _, h => by
    cases h with
    | tup e r => exact .tup (hl.tup _ _ e) (RpAll.mono hl ds _ r)
  | .dict es, _, h => by
    cases h with
    | dct e r => exact .dct (hl.rdt _ _ e) (RpKV.mono hl es _ r)
theorem RpAll.mono {F F' : Hp} (hl : LeR F F') : ∀ (ds : List PyData) (vs : List V), RpAll F vs ds → RpAll F' vs ds
  | [], _, h => by cases h; exact .nil
  | d :: ds, _, h => by
    cases h with
    | cons h1 h2 => exact .cons (Rp.mono hl d _ h1) (RpAll.mono hl ds _ h2)
theorem RpKV.mono {F F' : Hp} (hl : LeR F F') : ∀ (es : List (PyData × PyData)) (ws : List (List Key × V)), RpKV F ws es → RpKV F' ws es
  | [], _, h => by cases h; exact .nil
  | (_, e) :: es, _, h => by
    cases h with
    | cons h1 h2 => exact .cons (Rp.mono hl e _ h1) (RpKV.mono hl es _ h2)
end
end

theorem RpAll.length {F : Hp} : ∀ {vs : List V} {ds : List PyData}, RpAll F vs ds → vs.length = ds.length
  | _, _, .nil => rfl
  | _, _, .cons _ t => congrArg (· + 1) t.length
theorem RpAll.get {F : Hp} : ∀ {vs : List V} {ds : List PyData} {i : Nat} {d : PyData}, RpAll F vs ds → ds[i]? = some d → ∃ v, vs[i]? = some v ∧ Rp F v d
  | _, _, _, _, .nil, e => by simp at e
  | _, _, 0, _, .cons r _, e => by simp at e; subst e; exact ⟨_, rfl, r⟩
  | _, _, i + 1, _, .cons _ t, e => by
    obtain ⟨v, h1, h2⟩ := RpAll.get (i := i) t (by simpa using e)
    exact ⟨v, by simpa using h1, h2⟩
theorem RpAll.getV {F : Hp} {vs : List V} {ds : List PyData} {i : Nat} {v : V} (r : RpAll F vs ds) (e : vs[i]? = some v) : ∃ d, ds[i]? = some d ∧ Rp F v d := by
  have hlt : i < ds.length := by rw [← r.length]; exact (List.getElem?_eq_some_iff.mp e).1
  obtain ⟨v', h1, h2⟩ := r.get (List.getElem?_eq_getElem hlt)
  rw [e] at h1; cases h1
  exact ⟨_, List.getElem?_eq_getElem hlt, h2⟩
theorem RpAll.append {F : Hp} : ∀ {vs : List V} {ds : List PyData} {us : List V} {es : List PyData}, RpAll F vs ds → RpAll F us es → RpAll F (vs ++ us) (ds ++ es)
  | _, _, _, _, .nil, h => h
  | _, _, _, _, .cons r t, h => .cons r (t.append h)
theorem RpAll.one {F : Hp} {v : V} {d : PyData} (h : Rp F v d) : RpAll F [v] [d] := .cons h .nil
theorem RpAll.set {F : Hp} {v : V} {d : PyData} (h : Rp F v d) : ∀ {vs : List V} {ds : List PyData} (i : Nat), RpAll F vs ds → RpAll F (vs.set i v) (ds.set i d)
  | _, _, _, .nil => .nil
  | _, _, 0, .cons _ t => .cons h t
  | _, _, i + 1, .cons r t => .cons r (RpAll.set h i t)
theorem RpAll.take {F : Hp} : ∀ {vs : List V} {ds : List PyData} (n : Nat), RpAll F vs ds → RpAll F (vs.take n) (ds.take n)
  | _, _, 0, _ => .nil
  | _, _, _ + 1, .nil => .nil
  | _, _, n + 1, .cons r t => .cons r (t.take n)
theorem RpAll.drop {F : Hp} : ∀ {vs : List V} {ds : List PyData} (n : Nat), RpAll F vs ds → RpAll F (vs.drop n) (ds.drop n)
  | _, _, 0, r => r
  | _, _, _ + 1, .nil => .nil
  | _, _, n + 1, .cons _ t => t.drop n
theorem RpAll.eraseIdx {F : Hp} : ∀ {vs : List V} {ds : List PyData} (n : Nat), RpAll F vs ds → RpAll F (vs.eraseIdx n) (ds.eraseIdx n)
  | _, _, _, .nil => .nil
  | _, _, 0, .cons _ t => t
  | _, _, n + 1, .cons r t => .cons r (t.eraseIdx n)
theorem RpAll.reverse {F : Hp} : ∀ {vs : List V} {ds : List PyData}, RpAll F vs ds → RpAll F vs.reverse ds.reverse
  | _, _, .nil => .nil
  | _, _, .cons r t => by rw [List.reverse_cons, List.reverse_cons]; exact t.reverse.append (.one r)
theorem RpAll.dropLast {F : Hp} {vs : List V} {ds : List PyData} (h : RpAll F vs ds) : RpAll F vs.dropLast ds.dropLast := by
  rw [List.dropLast_eq_take, List.dropLast_eq_take, h.length]; exact h.take _
theorem RpAll.rep {F : Hp} {vs : List V} {ds : List PyData} (h : RpAll F vs ds) : ∀ k : Nat, RpAll F (List.replicate k vs).flatten (List.replicate k ds).flatten
  | 0 => .nil
  | k + 1 => by rw [List.replicate_succ, List.replicate_succ, List.flatten_cons, List.flatten_cons]; exact h.append (h.rep k)
theorem RpAll.ints {F : Hp} : ∀ {ns : List Int} {vs : List V}, RpAll F vs (ns.map .int) → vs = ns.map V.int
  | [], _, h => by cases h; rfl
  | n :: ns, _, h => by
    cases h with
    | cons h1 h2 => cases h1; rw [RpAll.ints h2]; rfl
theorem RpAll.ofInts {F : Hp} : ∀ ns : List Int, RpAll F (ns.map V.int) (ns.map .int)
  | [] => .nil
  | n :: ns => .cons (.int n) (RpAll.ofInts ns)
theorem RpAll.bools {F : Hp} : ∀ {bs : List Bool} {vs : List V}, RpAll F vs (bs.map .bool) → vs = bs.map V.bl
  | [], _, h => by cases h; rfl
  | n :: ns, _, h => by
    cases h with
    | cons h1 h2 => cases h1; rw [RpAll.bools h2]; rfl

/-! ### worlds: the store, its places, the abstract heap -/
structure Wd where
  μ : Mu
  A : List Addr
  H : Hp
def Wd.live (w : Wd) (a : Addr) : Prop := ∃ (k : Nat) (o : Mo), w.μ[k]? = some o ∧ o ≠ Mo.dead ∧ w.A[k]? = some a
open Classical in
/-- the heap but for what may change -/
noncomputable def Wd.F (w : Wd) : Hp := fun a => if w.live a then none else w.H a
theorem Wd.F_live {w : Wd} {a : Addr} (h : w.live a) : w.F a = none := by unfold Wd.F; rw [if_pos h]
theorem Wd.F_not {w : Wd} {a : Addr} (h : ¬ w.live a) : w.F a = w.H a := by unfold Wd.F; rw [if_neg h]
theorem Wd.F_some {w : Wd} {a : Addr} {o : HO} (h : w.F a = some o) : w.H a = some o ∧ ¬ w.live a := by
  by_cases hl : w.live a
  · rw [Wd.F_live hl] at h; cases h
  · rw [Wd.F_not hl] at h; exact ⟨h, hl⟩
theorem Wd.toH (w : Wd) : LeR w.F w.H := LeR.of_same fun _ _ h => (Wd.F_some h).1

def MoOk (F H : Hp) (a : Addr) : Mo → Prop
  | .lst ds => ∃ xs, H a = some (.lst xs) ∧ RpAll F xs ds
  | .dT es => ∃ ws, H a = some (.dT ws) ∧ RpKV F ws es
  | .dK kvs => H a = some (.dK (kvs.map fun p => (Sum.inl p.1, V.int p.2)))
  | .dead => True
structure Wd.Ok (w : Wd) : Prop where
  len : w.A.length = w.μ.length
  inj : ∀ (i j : Nat) (o u : Mo) (a : Addr), w.μ[i]? = some o → w.μ[j]? = some u → o ≠ Mo.dead → u ≠ Mo.dead → w.A[i]? = some a → w.A[j]? = some a → i = j
  ok : ∀ (k : Nat) (o : Mo) (a : Addr), w.μ[k]? = some o → w.A[k]? = some a → MoOk w.F w.H a o

structure Wd.le (w u : Wd) : Prop where
  pre : w.A <+: u.A
  le : LeR w.F u.F
  frz : ∀ a o z, w.F a = some (.frz o z) → u.F a = some (.frz o z)
theorem Wd.le.refl (w : Wd) : w.le w := ⟨List.prefix_rfl, LeR.refl _, fun _ _ _ h => h⟩
theorem Wd.le.trans {w u z : Wd} (x : w.le u) (y : u.le z) : w.le z := ⟨x.pre.trans y.pre, x.le.trans y.le, fun a o q h => y.frz a o q (x.frz a o q h)⟩
theorem Wd.le.at {w u : Wd} (x : w.le u) {k : Nat} {a : Addr} (h : w.A[k]? = some a) : u.A[k]? = some a := by
  obtain ⟨t, e⟩ := x.pre
  rw [← e, List.getElem?_append_left (List.getElem?_eq_some_iff.mp h).1]; exact h

theorem Wd.Ok.lives {w : Wd} (h : w.Ok) {a : Addr} (hl : w.live a) : ∃ o, w.H a = some o := by
  obtain ⟨k, o, e1, e2, e3⟩ := hl
  have := h.ok k o a e1 e3
  cases o with
  | lst ds => obtain ⟨xs, e, _⟩ := this; exact ⟨_, e⟩
  | dT es => obtain ⟨ws, e, _⟩ := this; exact ⟨_, e⟩
  | dK kvs => exact ⟨_, this⟩
  | dead => exact absurd rfl e2
theorem Wd.Ok.free {w : Wd} (h : w.Ok) {p : Addr} (hp : w.H p = none) : ¬ w.live p := fun hl => by
  obtain ⟨o, e⟩ := h.lives hl
  rw [hp] at e; cases e
theorem Wd.Ok.addr {w : Wd} (h : w.Ok) {k : Nat} {o : Mo} (e : w.μ[k]? = some o) : ∃ a, w.A[k]? = some a := by
  have hk : k < w.A.length := by rw [h.len]; exact (List.getElem?_eq_some_iff.mp e).1
  exact ⟨_, List.getElem?_eq_getElem hk⟩
theorem MoOk.mono {F F' H H' : Hp} {a : Addr} {o : Mo} (h : MoOk F H a o) (hl : LeR F F') (e : o ≠ Mo.dead → H' a = H a) : MoOk F' H' a o := by
  cases o with
  | lst ds => obtain ⟨xs, e1, r⟩ := h; exact ⟨xs, (e (by intro z; cases z)).trans e1, RpAll.mono hl _ _ r⟩
  | dT es => obtain ⟨xs, e1, r⟩ := h; exact ⟨xs, (e (by intro z; cases z)).trans e1, RpKV.mono hl _ _ r⟩
  | dK kvs => exact (e (by intro z; cases z)).trans h
  | dead => trivial

/-- a new thing that stands still -/
def Wd.put (w : Wd) (p : Addr) (o : HO) : Wd := { w with H := upd w.H p o }
theorem Wd.put_F {w : Wd} (h : w.Ok) {p : Addr} {o : HO} (hp : w.H p = none) : (w.put p o).F = upd w.F p o := by
  funext a
  have hl : (w.put p o).live a ↔ w.live a := Iff.rfl
  by_cases ha : a = p
  · subst ha
    rw [upd_same, Wd.F_not (fun z => h.free hp (hl.mp z))]
    exact upd_same
  · rw [upd_ne ha]
    by_cases hv : w.live a
    · rw [Wd.F_live (hl.mpr hv), Wd.F_live hv]
    · rw [Wd.F_not (fun z => hv (hl.mp z)), Wd.F_not hv]
      exact upd_ne ha
theorem Wd.put_le {w : Wd} (h : w.Ok) {p : Addr} {o : HO} (hp : w.H p = none) : w.le (w.put p o) := by
  have hs : ∀ a u, w.F a = some u → (w.put p o).F a = some u := fun a u e => by
    rw [Wd.put_F h hp, upd_ne (ne_of_none (Wd.F_some e).1 hp)]; exact e
  exact ⟨List.prefix_rfl, LeR.of_same hs, fun a _ _ e => hs a _ e⟩
theorem Wd.put_ok {w : Wd} (h : w.Ok) {p : Addr} {o : HO} (hp : w.H p = none) : (w.put p o).Ok := by
  refine ⟨h.len, h.inj, fun k m a e1 e2 => (h.ok k m a e1 e2).mono (Wd.put_le h hp).le fun hd => ?_⟩
  have hl : w.live a := ⟨k, m, e1, hd, e2⟩
  obtain ⟨u, e⟩ := h.lives hl
  exact upd_ne (ne_of_none e hp)
theorem Wd.put_at {w : Wd} (h : w.Ok) {p : Addr} {o : HO} (hp : w.H p = none) : (w.put p o).F p = some o := by rw [Wd.put_F h hp, upd_same]

/-- a new thing that may change -/
def Wd.new (w : Wd) (p : Addr) (m : Mo) (o : HO) : Wd := ⟨w.μ ++ [m], w.A ++ [p], upd w.H p o⟩
theorem get_snoc {α : Type} (l : List α) (x : α) (k : Nat) (y : α) : (l ++ [x])[k]? = some y ↔ l[k]? = some y ∨ (k = l.length ∧ x = y) := by
  rcases Nat.lt_trichotomy k l.length with h | h | h
  · rw [List.getElem?_append_left h]
    constructor
    · exact .inl
    · rintro (e | ⟨e, _⟩)
      · exact e
      · omega
  · subst h
    rw [List.getElem?_append_right (Nat.le_refl _), Nat.sub_self, List.getElem?_eq_none (Nat.le_refl l.length)]
    constructor
    · intro e; exact .inr ⟨rfl, by simpa using e⟩
    · rintro (e | ⟨_, e⟩)
      · cases e
      · simpa using e
  · rw [List.getElem?_eq_none (by rw [List.length_append, List.length_singleton]; omega), List.getElem?_eq_none (by omega)]
    constructor
    · intro e; cases e
    · rintro (e | ⟨e, _⟩)
      · cases e
      · omega
theorem Wd.new_live {w : Wd} (h : w.Ok) {p : Addr} {m : Mo} {o : HO} (hd : m ≠ Mo.dead) (a : Addr) : (w.new p m o).live a ↔ w.live a ∨ a = p := by
  constructor
  · rintro ⟨k, u, e1, e2, e3⟩
    rcases (get_snoc _ _ _ _).mp e1 with e1 | ⟨e1, rfl⟩
    · rcases (get_snoc _ _ _ _).mp e3 with e3 | ⟨e3, e4⟩
      · exact .inl ⟨k, u, e1, e2, e3⟩
      · exact .inr e4.symm
    · rcases (get_snoc _ _ _ _).mp e3 with e3 | ⟨e3, e4⟩
      · have := (List.getElem?_eq_some_iff.mp e3).1
        rw [h.len] at this; omega
      · exact .inr e4.symm
  · rintro (⟨k, u, e1, e2, e3⟩ | rfl)
    · exact ⟨k, u, (get_snoc _ _ _ _).mpr (.inl e1), e2, (get_snoc _ _ _ _).mpr (.inl e3)⟩
    · exact ⟨w.μ.length, m, (get_snoc _ _ _ _).mpr (.inr ⟨rfl, rfl⟩), hd, (get_snoc _ _ _ _).mpr (.inr ⟨h.len.symm, rfl⟩)⟩
theorem Wd.new_same {w : Wd} (h : w.Ok) {p : Addr} {m : Mo} {o : HO} (hd : m ≠ Mo.dead) (hp : w.H p = none) : ∀ a u, w.F a = some u → (w.new p m o).F a = some u := fun a u e => by
  obtain ⟨e1, e2⟩ := Wd.F_some e
  have ne := ne_of_none e1 hp
  rw [Wd.F_not (fun z => ((Wd.new_live h hd a).mp z).elim e2 ne)]
  exact (upd_ne ne).trans e1
theorem Wd.new_le {w : Wd} (h : w.Ok) {p : Addr} {m : Mo} {o : HO} (hd : m ≠ Mo.dead) (hp : w.H p = none) : w.le (w.new p m o) :=
  ⟨List.prefix_append _ _, LeR.of_same (Wd.new_same h hd hp), fun a _ _ e => Wd.new_same h hd hp a _ e⟩
theorem Wd.new_at {w : Wd} (h : w.Ok) {p : Addr} {m : Mo} {o : HO} {k : Nat} {x : Mo} {a : Addr} (e1 : (w.new p m o).μ[k]? = some x) (e2 : (w.new p m o).A[k]? = some a) :
    (w.μ[k]? = some x ∧ w.A[k]? = some a) ∨ (k = w.μ.length ∧ x = m ∧ a = p) := by
  rcases (get_snoc _ _ _ _).mp e1 with e1 | ⟨e1, e3⟩
  · rcases (get_snoc _ _ _ _).mp e2 with e2 | ⟨e2, _⟩
    · exact .inl ⟨e1, e2⟩
    · have := (List.getElem?_eq_some_iff.mp e1).1
      rw [← h.len, ← e2] at this
      exact absurd this (Nat.lt_irrefl _)
  · rcases (get_snoc _ _ _ _).mp e2 with e2 | ⟨_, e4⟩
    · have := (List.getElem?_eq_some_iff.mp e2).1
      rw [h.len, ← e1] at this
      exact absurd this (Nat.lt_irrefl _)
    · exact .inr ⟨e1, e3.symm, e4.symm⟩
theorem Wd.new_ok {w : Wd} (h : w.Ok) {p : Addr} {m : Mo} {o : HO} (hd : m ≠ Mo.dead) (hp : w.H p = none) (hm : MoOk w.F (upd w.H p o) p m) : (w.new p m o).Ok := by
  refine ⟨by show (w.A ++ [p]).length = (w.μ ++ [m]).length; rw [List.length_append, List.length_append, h.len]; rfl, ?_, ?_⟩
  · intro i j x y a e1 e2 d1 d2 f1 f2
    have nA : ∀ (k : Nat) (x : Mo), w.μ[k]? = some x → x ≠ Mo.dead → w.A[k]? = some p → False := fun k x q1 q2 q3 => h.free hp ⟨k, x, q1, q2, q3⟩
    rcases Wd.new_at h e1 f1 with ⟨g1, h1⟩ | ⟨g1, r1, s1⟩ <;> rcases Wd.new_at h e2 f2 with ⟨g2, h2⟩ | ⟨g2, r2, s2⟩
    · exact h.inj i j x y a g1 g2 d1 d2 h1 h2
    · rw [s2] at h1; exact (nA _ _ g1 d1 h1).elim
    · rw [s1] at h2; exact (nA _ _ g2 d2 h2).elim
    · rw [g1, g2]
  · intro k x a e1 e2
    rcases Wd.new_at h e1 e2 with ⟨e1, e2⟩ | ⟨e1, rfl, rfl⟩
    · refine (h.ok k x a e1 e2).mono (Wd.new_le h hd hp).le fun hx => ?_
      obtain ⟨u, e⟩ := h.lives ⟨k, x, e1, hx, e2⟩
      exact upd_ne (ne_of_none e hp)
    · exact hm.mono (Wd.new_le h hd hp).le fun _ => rfl

/-- a thing of the store changed -/
def Wd.chg (w : Wd) (k : Nat) (a : Addr) (m : Mo) (o : HO) : Wd := ⟨w.μ.set k m, w.A, upd w.H a o⟩
theorem get_set {α : Type} {l : List α} {k j : Nat} {x y : α} (h : (l.set k x)[j]? = some y) : (j = k ∧ x = y ∧ k < l.length) ∨ (j ≠ k ∧ l[j]? = some y) := by
  by_cases e : k = j
  · subst e
    have hk : k < l.length := by have := (List.getElem?_eq_some_iff.mp h).1; rwa [List.length_set] at this
    rw [List.getElem?_set_self hk] at h
    exact .inl ⟨rfl, by simpa using h, hk⟩
  · rw [List.getElem?_set_ne e] at h
    exact .inr ⟨fun z => e z.symm, h⟩
section
variable {w : Wd} {k : Nat} {a : Addr} {m m' : Mo} {o : HO}
theorem Wd.chg_live (h : w.Ok) (hk : w.μ[k]? = some m) (hd : m ≠ Mo.dead) (hd' : m' ≠ Mo.dead) (ha : w.A[k]? = some a) (b : Addr) : (w.chg k a m' o).live b ↔ w.live b := by
  constructor
  · rintro ⟨j, u, e1, e2, e3⟩
    rcases get_set e1 with ⟨rfl, rfl, _⟩ | ⟨_, e1⟩
    · exact ⟨_, m, hk, hd, e3⟩
    · exact ⟨j, u, e1, e2, e3⟩
  · rintro ⟨j, u, e1, e2, e3⟩
    by_cases e : k = j
    · subst e
      exact ⟨k, m', by show (w.μ.set k m')[k]? = _; rw [List.getElem?_set_self (List.getElem?_eq_some_iff.mp e1).1], hd', e3⟩
    · exact ⟨j, u, by show (w.μ.set k m')[j]? = _; rw [List.getElem?_set_ne e]; exact e1, e2, e3⟩
theorem Wd.chg_F (h : w.Ok) (hk : w.μ[k]? = some m) (hd : m ≠ Mo.dead) (hd' : m' ≠ Mo.dead) (ha : w.A[k]? = some a) : (w.chg k a m' o).F = w.F := by
  funext b
  by_cases hb : w.live b
  · rw [Wd.F_live hb, Wd.F_live ((Wd.chg_live h hk hd hd' ha b).mpr hb)]
  · rw [Wd.F_not hb, Wd.F_not (fun z => hb ((Wd.chg_live h hk hd hd' ha b).mp z))]
    refine upd_ne fun e => hb ?_
    subst e; exact ⟨k, m, hk, hd, ha⟩
theorem Wd.chg_le (h : w.Ok) (hk : w.μ[k]? = some m) (hd : m ≠ Mo.dead) (hd' : m' ≠ Mo.dead) (ha : w.A[k]? = some a) : w.le (w.chg k a m' o) :=
  ⟨List.prefix_rfl, by rw [Wd.chg_F h hk hd hd' ha]; exact LeR.refl _, fun b _ _ e => by rw [Wd.chg_F h hk hd hd' ha]; exact e⟩
theorem Wd.chg_ok (h : w.Ok) (hk : w.μ[k]? = some m) (hd : m ≠ Mo.dead) (hd' : m' ≠ Mo.dead) (ha : w.A[k]? = some a) (hm : MoOk w.F (upd w.H a o) a m') : (w.chg k a m' o).Ok := by
  have hF := Wd.chg_F (o := o) h hk hd hd' ha
  refine ⟨by show w.A.length = (w.μ.set k m').length; rw [List.length_set]; exact h.len, ?_, ?_⟩
  · intro i j x y b e1 e2 d1 d2 f1 f2
    rcases get_set e1 with ⟨r1, _, _⟩ | ⟨n1, g1⟩ <;> rcases get_set e2 with ⟨r2, _, _⟩ | ⟨n2, g2⟩
    · rw [r1, r2]
    · exact h.inj _ _ _ _ _ (by rw [r1]; exact hk) g2 hd d2 f1 f2
    · exact h.inj _ _ _ _ _ g1 (by rw [r2]; exact hk) d1 hd f1 f2
    · exact h.inj _ _ _ _ _ g1 g2 d1 d2 f1 f2
  · intro j x b e1 e2
    rw [hF]
    rcases get_set e1 with ⟨rfl, rfl, _⟩ | ⟨n1, g1⟩
    · have e2 : w.A[j]? = some b := e2
      rw [ha] at e2; cases e2; exact hm
    · refine (h.ok j x b g1 e2).mono (LeR.refl _) fun hx => upd_ne fun e => n1 ?_
      exact h.inj _ _ _ _ _ g1 hk hx hd (by rw [← e]; exact e2) ha
end

/-- a thing of the store is let stand still -/
def Wd.stop (w : Wd) (k : Nat) : Wd := { w with μ := w.μ.set k .dead }
section
variable {w : Wd} {k : Nat} {a : Addr} {m : Mo}
theorem Wd.stop_live (h : w.Ok) (hk : w.μ[k]? = some m) (hd : m ≠ Mo.dead) (ha : w.A[k]? = some a) (b : Addr) : (w.stop k).live b ↔ w.live b ∧ b ≠ a := by
  constructor
  · rintro ⟨j, u, e1, e2, e3⟩
    rcases get_set e1 with ⟨rfl, rfl, _⟩ | ⟨n, e1⟩
    · exact absurd rfl e2
    · refine ⟨⟨j, u, e1, e2, e3⟩, fun e => ?_⟩
      subst e
      exact n (h.inj _ _ _ _ _ e1 hk e2 hd e3 ha)
  · rintro ⟨⟨j, u, e1, e2, e3⟩, n⟩
    have hj : k ≠ j := fun e => n (by subst e; rw [ha] at e3; exact (Option.some.inj e3).symm)
    exact ⟨j, u, by show (w.μ.set k .dead)[j]? = _; rw [List.getElem?_set_ne hj]; exact e1, e2, e3⟩
theorem Wd.stop_same (h : w.Ok) (hk : w.μ[k]? = some m) (hd : m ≠ Mo.dead) (ha : w.A[k]? = some a) : ∀ b u, w.F b = some u → (w.stop k).F b = some u := fun b u e => by
  obtain ⟨e1, e2⟩ := Wd.F_some e
  rw [Wd.F_not (fun z => e2 ((Wd.stop_live h hk hd ha b).mp z).1)]; exact e1
theorem Wd.stop_le (h : w.Ok) (hk : w.μ[k]? = some m) (hd : m ≠ Mo.dead) (ha : w.A[k]? = some a) : w.le (w.stop k) :=
  ⟨List.prefix_rfl, LeR.of_same (Wd.stop_same h hk hd ha), fun b _ _ e => Wd.stop_same h hk hd ha b _ e⟩
theorem Wd.stop_ok (h : w.Ok) (hk : w.μ[k]? = some m) (hd : m ≠ Mo.dead) (ha : w.A[k]? = some a) : (w.stop k).Ok := by
  refine ⟨by show w.A.length = (w.μ.set k .dead).length; rw [List.length_set]; exact h.len, ?_, ?_⟩
  · intro i j x y b e1 e2 d1 d2 f1 f2
    rcases get_set e1 with ⟨_, rfl, _⟩ | ⟨_, e1⟩
    · exact absurd rfl d1
    rcases get_set e2 with ⟨_, rfl, _⟩ | ⟨_, e2⟩
    · exact absurd rfl d2
    exact h.inj _ _ _ _ _ e1 e2 d1 d2 f1 f2
  · intro j x b e1 e2
    rcases get_set e1 with ⟨_, rfl, _⟩ | ⟨_, e1⟩
    · trivial
    · exact (h.ok j x b e1 e2).mono (Wd.stop_le h hk hd ha).le fun _ => rfl
theorem Wd.stop_at (h : w.Ok) (hk : w.μ[k]? = some m) (hd : m ≠ Mo.dead) (ha : w.A[k]? = some a) : (w.stop k).F a = w.H a := by
  rw [Wd.F_not (fun z => ((Wd.stop_live h hk hd ha a).mp z).2 rfl)]; rfl
end

/-- the store is cut behind its first n things -/
def Wd.cut (w : Wd) (n : Nat) : Wd := ⟨w.μ.take n, w.A.take n, w.H⟩
theorem get_take {α : Type} {l : List α} {n k : Nat} {x : α} : (l.take n)[k]? = some x ↔ k < n ∧ l[k]? = some x := by
  rw [List.getElem?_take]
  by_cases h : k < n
  · rw [if_pos h]; exact Iff.intro (fun e => And.intro h e) (fun e => e.2)
  · rw [if_neg h]; exact Iff.intro (fun e => nomatch e) (fun e => absurd e.1 h)
section
variable {w : Wd}
theorem Wd.cut_live (n : Nat) (b : Addr) : (w.cut n).live b → w.live b := by
  rintro ⟨k, o, e1, e2, e3⟩
  exact ⟨k, o, (get_take.mp e1).2, e2, (get_take.mp e3).2⟩
theorem Wd.cut_same (n : Nat) : ∀ b u, w.F b = some u → (w.cut n).F b = some u := fun b u e => by
  obtain ⟨e1, e2⟩ := Wd.F_some e
  rw [Wd.F_not (fun z => e2 (Wd.cut_live n b z))]; exact e1
theorem Wd.cut_leR (n : Nat) : LeR w.F (w.cut n).F := LeR.of_same (Wd.cut_same n)
theorem Wd.cut_ok (h : w.Ok) (n : Nat) : (w.cut n).Ok := by
  refine ⟨by show (w.A.take n).length = (w.μ.take n).length; rw [List.length_take, List.length_take, h.len], ?_, ?_⟩
  · intro i j x y b e1 e2 d1 d2 f1 f2
    exact h.inj _ _ _ _ _ (get_take.mp e1).2 (get_take.mp e2).2 d1 d2 (get_take.mp f1).2 (get_take.mp f2).2
  · intro k o a e1 e2
    exact (h.ok k o a (get_take.mp e1).2 (get_take.mp e2).2).mono (Wd.cut_leR n) fun _ => rfl
/-- behind a block that began at u -/
theorem Wd.cut_le {u : Wd} (hu : u.Ok) (h : u.le w) : u.le (w.cut u.μ.length) := by
  refine ⟨?_, h.le.trans (Wd.cut_leR _), fun a o z e => Wd.cut_same _ a _ (h.frz a o z e)⟩
  obtain ⟨t, e⟩ := h.pre
  show u.A <+: w.A.take u.μ.length
  rw [← e, ← hu.len, List.take_left]
  exact List.prefix_rfl
theorem Wd.cut_A {u : Wd} (hu : u.Ok) (h : u.le w) : (w.cut u.μ.length).A = u.A := by
  obtain ⟨t, e⟩ := h.pre
  show w.A.take u.μ.length = u.A
  rw [← e, ← hu.len, List.take_left]
end

/-! ### what a value of the evaluator is in a world -/
def RpR (K : PySem.W.Frag) (w : Wd) : Rv → V → Prop
  | .d x, v => Rp w.F v x
  | .m k, v => ∃ a, w.A[k]? = some a ∧ v = .ref a
  | .s ns, v => ∃ a, v = .ref a ∧ SqL K w.F a (ns.map V.int)
theorem SqL.monoR {K : PySem.W.Frag} {F F' : Hp} {a : Addr} {xs : List V} (hl : LeR F F') (h : SqL K F a xs) : SqL K F' a xs := by
  rcases h with h | h
  · exact .inl (hl.rdl _ _ h)
  · exact .inr h
theorem RpR.mono {K : PySem.W.Frag} {w u : Wd} (h : w.le u) : ∀ {r : Rv} {v : V}, RpR K w r v → RpR K u r v
  | .d x, v, r => Rp.mono h.le x v r
  | .m k, v, ⟨a, e, r⟩ => ⟨a, h.at e, r⟩
  | .s ns, v, ⟨a, e, r⟩ => ⟨a, e, SqL.monoR h.le r⟩
/-- the names' values -/
structure Slots (K : PySem.W.Frag) (ρ : Ro) (w : Wd) (σ : L2.St) : Prop where
  len : ρ.length = σ.length
  get : ∀ (i : Nat) (r : Rv), ρ[i]? = some (some r) → ∃ v, σ[i]? = some (some v) ∧ RpR K w r v
theorem Slots.mono {K : PySem.W.Frag} {ρ : Ro} {w u : Wd} {σ : L2.St} (h : w.le u) (s : Slots K ρ w σ) : Slots K ρ u σ :=
  ⟨s.len, fun i r e => let ⟨v, e1, e2⟩ := s.get i r e; ⟨v, e1, e2.mono h⟩⟩
theorem Slots.set {K : PySem.W.Frag} {ρ : Ro} {w : Wd} {σ : L2.St} (s : Slots K ρ w σ) {r : Rv} {v : V} (h : RpR K w r v) (i : Nat) : Slots K (ρ.set i (some r)) w (σ.set i (some v)) := by
  refine ⟨by rw [List.length_set, List.length_set, s.len], fun j q e => ?_⟩
  rcases get_set e with ⟨rfl, e, hj⟩ | ⟨n, e⟩
  · cases e
    exact ⟨v, by rw [List.getElem?_set_self (by rw [← s.len]; exact hj)], h⟩
  · obtain ⟨u, e1, e2⟩ := s.get j q e
    exact ⟨u, by rw [List.getElem?_set_ne (Ne.symm n)]; exact e1, e2⟩
/-- names of things behind n are forgotten -/
@[simp] def cutR (n : Nat) (ρ : Ro) : Ro := ρ.map fun o => match o with
  | some (.m k) => if k < n then some (.m k) else none
  | o => o
theorem Slots.cut {K : PySem.W.Frag} {ρ : Ro} {w : Wd} {σ : L2.St} (s : Slots K ρ w σ) (n : Nat) : Slots K (cutR n ρ) (w.cut n) σ := by
  refine ⟨by unfold cutR; rw [List.length_map]; exact s.len, fun i r e => ?_⟩
  unfold cutR at e
  rw [List.getElem?_map] at e
  cases q : ρ[i]? with
  | none => rw [q] at e; cases e
  | some o =>
    rw [q] at e
    simp only [Option.map_some, Option.some.injEq] at e
    cases o with
    | none => cases e
    | some x =>
      obtain ⟨v, e1, e2⟩ := s.get i x q
      cases x with
      | d x =>
        simp only [Option.some.injEq] at e; subst e
        exact ⟨v, e1, Rp.mono (Wd.cut_leR n) _ _ e2⟩
      | m k =>
        simp only at e
        split at e
        · rename_i hk
          simp only [Option.some.injEq] at e; subst e
          obtain ⟨a, e3, e4⟩ := e2
          exact ⟨v, e1, a, get_take.mpr ⟨hk, e3⟩, e4⟩
        · cases e
      | s ns =>
        simp only [Option.some.injEq] at e; subst e
        obtain ⟨a, e3, e4⟩ := e2
        exact ⟨v, e1, a, e3, SqL.monoR (Wd.cut_leR n) e4⟩
theorem Slots.wipe {K : PySem.W.Frag} {ρ : Ro} {w : Wd} {σ : L2.St} (s : Slots K ρ w σ) : ∀ vs : List Nat, ∃ ρ', ρ' = vs.foldr (fun i ρ => ρ.set i none) ρ ∧ Slots K ρ' w (L2.wipe σ vs)
  | [] => ⟨_, rfl, s⟩
  | i :: vs => by
    obtain ⟨ρ', e, h⟩ := Slots.wipe s vs
    refine ⟨_, rfl, ?_⟩
    rw [List.foldr_cons, ← e]
    show Slots K (ρ'.set i none) w ((L2.wipe σ vs).set i none)
    refine ⟨by rw [List.length_set, List.length_set, h.len], fun j q e => ?_⟩
    rcases get_set e with ⟨rfl, e, _⟩ | ⟨n, e⟩
    · cases e
    · obtain ⟨u, e1, e2⟩ := h.get j q e
      exact ⟨u, by rw [List.getElem?_set_ne (Ne.symm n)]; exact e1, e2⟩

/-! ### reading -/
/-- the data that stands there now -/
@[simp] def rd (μ : Mu) : Rv → Option PyData
  | .d x => some x
  | .m k => match μ[k]? with
    | some (.lst ds) => some (.list ds)
    | some (.dT es) => some (.dict es)
    | _ => none
  | .s _ => none
/-- a datum whose top may be read now, its parts standing still -/
def RpT (F H : Hp) (v : V) : PyData → Prop
  | .list ds => ∃ a xs, v = .ref a ∧ H a = some (.lst xs) ∧ RpAll F xs ds
  | .tuple ds => ∃ a xs, v = .ref a ∧ H a = some (.tup xs) ∧ RpAll F xs ds
  | .dict es => ∃ a ws, v = .ref a ∧ Rd H a (.dT ws) ∧ RpKV F ws es
  | .int i => v = .int i
  | .bool b => v = .bl b
  | .str z => v = .str z
  | .none => v = .non
theorem Wd.rdH {w : Wd} {a : Addr} {u : HO} (h : Rd w.F a u) : Rd w.H a u := h.elim (fun e => .inl (Wd.F_some e).1) fun ⟨o, e⟩ => .inr ⟨o, (Wd.F_some e).1⟩
theorem Rp.top {w : Wd} {v : V} : ∀ {d : PyData}, Rp w.F v d → RpT w.F w.H v d
  | .list ds, h => by cases h with | lst e r => exact ⟨_, _, rfl, (Wd.F_some e).1, r⟩
  | .tuple ds, h => by cases h with | tup e r => exact ⟨_, _, rfl, (Wd.F_some e).1, r⟩
  | .dict es, h => by cases h with | dct e r => exact ⟨_, _, rfl, Wd.rdH e, r⟩
  | .int i, h => by cases h; rfl
  | .bool b, h => by cases h; rfl
  | .str z, h => by cases h; rfl
  | .none, h => by cases h; rfl
theorem RpR.rd {K : PySem.W.Frag} {w : Wd} (hw : w.Ok) : ∀ {r : Rv} {v : V} {x : PyData}, RpR K w r v → rd w.μ r = some x → RpT w.F w.H v x
  | .d y, v, x, h, e => by
    have e : some y = some x := e
    cases e
    exact Rp.top h
  | .m k, v, x, ⟨a, ha, hv⟩, e => by
    have e : (match w.μ[k]? with | some (.lst ds) => some (.list ds) | some (.dT es) => some (.dict es) | _ => none) = some x := e
    cases q : w.μ[k]? with
    | none => rw [q] at e; cases e
    | some o =>
      have hm := hw.ok k o a q ha
      rw [q] at e
      cases o with
      | lst ds =>
        obtain ⟨xs, e1, e2⟩ := hm
        cases e
        exact ⟨a, xs, hv, e1, e2⟩
      | dT es =>
        obtain ⟨xs, e1, e2⟩ := hm
        cases e
        exact ⟨a, xs, hv, .inl e1, e2⟩
      | dK kvs => cases e
      | dead => cases e
  | .s ns, v, x, h, e => by cases e
theorem RpT.full {w : Wd} {v : V} : ∀ {d : PyData}, RpT w.F w.H v d → Rp w.H v d
  | .list ds, ⟨a, xs, e1, e2, e3⟩ => by subst e1; exact .lst e2 (RpAll.mono w.toH _ _ e3)
  | .tuple ds, ⟨a, xs, e1, e2, e3⟩ => by subst e1; exact .tup e2 (RpAll.mono w.toH _ _ e3)
  | .dict ds, ⟨a, xs, e1, e2, e3⟩ => by subst e1; exact .dct e2 (RpKV.mono w.toH _ _ e3)
  | .int i, h => by cases h; exact .int i
  | .bool i, h => by cases h; exact .bl i
  | .str i, h => by cases h; exact .str i
  | .none, h => by cases h; exact .non
end Sh
set_option Elab.async false
set_option linter.all false
set_option maxRecDepth 100000
namespace Sh
open PySem L2

/-! ### the judgements' readings -/
abbrev Sm := Ro → Mu → Option (Rv × Mu)
abbrev Sb := Ro → Mu → Option (Bool × Mu)
abbrev Sa := Ro → Mu → Option (List Rv × Mu)
abbrev RpRs (K : PySem.W.Frag) (w : Wd) : List Rv → List V → Prop := Paired (RpR K w)
def tE (K : PySem.W.Frag) (m : Sm) : TE := fun σ H Q => ∃ (ρ : Ro) (w : Wd) (r : Rv) (μ' : Mu), w.H = H ∧ m ρ w.μ = some (r, μ') ∧ w.Ok ∧ Slots K ρ w σ ∧
  ∀ (u : Wd) (v : V), u.μ = μ' → u.Ok → w.le u → RpR K u r v → Q v u.H
def tB (K : PySem.W.Frag) (m : Sb) : TT := fun σ H Q => ∃ (ρ : Ro) (w : Wd) (b : Bool) (μ' : Mu), w.H = H ∧ m ρ w.μ = some (b, μ') ∧ w.Ok ∧ Slots K ρ w σ ∧
  ∀ (u : Wd), u.μ = μ' → u.Ok → w.le u → Q b u.H
def tAs (K : PySem.W.Frag) (m : Sa) : TA := fun σ H Q => ∃ (ρ : Ro) (w : Wd) (rs : List Rv) (μ' : Mu), w.H = H ∧ m ρ w.μ = some (rs, μ') ∧ w.Ok ∧ Slots K ρ w σ ∧
  ∀ (u : Wd) (vs : List V), u.μ = μ' → u.Ok → w.le u → RpRs K u rs vs → Q vs u.H
theorem RpRs.mono {K : PySem.W.Frag} {w u : Wd} (h : w.le u) : ∀ {rs : List Rv} {vs : List V}, RpRs K w rs vs → RpRs K u rs vs
  | _, _, .nil => .nil
  | _, _, .cons r t => .cons (r.mono h) (RpRs.mono h t)
theorem pe_of {X : Cx} {e : Expr} {t t' : TE} (h : PE X e t) (i : ∀ σ H Q, t' σ H Q → t σ H Q) : PE X e t' := ⟨fun pins s σ H Q I hw => h.run pins s σ H Q I (i _ _ _ hw)⟩
theorem pt_of {X : Cx} {e : Expr} {t t' : TT} (h : PT X e t) (i : ∀ σ H Q, t' σ H Q → t σ H Q) : PT X e t' := ⟨fun pins s σ H Q I hw => h.run pins s σ H Q I (i _ _ _ hw)⟩
theorem pw_of {X : Cx} {e : Expr} {t t' : TT} (h : PW X e t) (i : ∀ σ H Q, t' σ H Q → t σ H Q) : PW X e t' := ⟨fun whole pins s σ H Q I hw => h.run whole pins s σ H Q I (i _ _ _ hw)⟩
theorem pa_of {X : Cx} {es : List Expr} {t t' : TA} (h : PA X es t) (i : ∀ σ H Q, t' σ H Q → t σ H Q) : PA X es t' := ⟨fun pos pins s σ H Q I hw => h.run pos pins s σ H Q I (i _ _ _ hw)⟩
theorem ps_of {X : Cx} {st : Stmt} {t t' : TS} (h : PS X st t) (i : ∀ D σ H, t' D σ H → t D σ H) : PS X st t' := ⟨fun pins s σ H D I hw => h.run pins s σ H D I (i _ _ _ hw)⟩
theorem pss_of {X : Cx} {st : List Stmt} {t t' : TS} (h : PSs X st t) (i : ∀ D σ H, t' D σ H → t D σ H) : PSs X st t' := ⟨fun pins s σ H D I hw => h.run pins s σ H D I (i _ _ _ hw)⟩

/-! ### names, constants -/
@[simp] def sVar (i : Nat) : Sm := fun ρ μ => match ρ[i]? with
  | some (some r) => some (r, μ)
  | _ => none
@[simp] def sC (x : PyData) : Sm := fun _ μ => some (.d x, μ)
section
variable {X : Cx} {e a b c : Expr} {pos : Pos}
theorem pE_var {i : Nat} (h : PE X e (tVar i)) : PE X e (tE X.K (sVar i)) := by
  refine pe_of h fun σ H Q q => ?_
  obtain ⟨ρ, w, r, μ', e1, e2, ok, s, k⟩ := q
  unfold sVar at e2
  split at e2
  · rename_i r' er
    cases e2
    obtain ⟨v, h1, h2⟩ := s.get i _ er
    exact ⟨v, h1, e1 ▸ k w v rfl ok (.refl w) h2⟩
  · cases e2
theorem pE_con {x : PyData} {v : V} (h : PE X e (tC v)) (hx : ∀ F, Rp F v x) : PE X e (tE X.K (sC x)) := by
  refine pe_of h fun σ H Q q => ?_
  obtain ⟨ρ, w, r, μ', e1, e2, ok, s, k⟩ := q
  cases e2
  exact e1 ▸ k w v rfl ok (.refl w) (hx _)
theorem pE_int {i : Int} {j pos} : PE X (.Constant (.int i) j pos) (tE X.K (sC (.int i))) := pE_con pe_int fun _ => .int i
theorem pE_bl {i : Bool} {j pos} : PE X (.Constant (.bool i) j pos) (tE X.K (sC (.bool i))) := pE_con pe_bl fun _ => .bl i
theorem pE_str {i : Str} {j pos} : PE X (.Constant (.str i) j pos) (tE X.K (sC (.str i))) := pE_con pe_str fun _ => .str i
theorem pE_non {j pos} : PE X (.Constant .none j pos) (tE X.K (sC .none)) := pE_con pe_non fun _ => .non
/-- a whole number of the module -/
theorem pE_globI {x : Str} {i : Int} {t : Tok} (hg : Gl X x) (hm : X.mg x = some (.int i t)) (hd : (x == ("__debug__" : Str)) = false := by decide) : PE X (.Name x pos) (tE X.K (sC (.int i))) :=
  pE_con (pe_glob hg hm (v := V.int i) ⟨t, rfl⟩ hd) fun _ => .int i

/-! ### operations on values -/
abbrev F1 := Mu → Rv → Option (Rv × Mu)
abbrev F2 := Mu → Rv → Rv → Option (Rv × Mu)
abbrev FA := Mu → List Rv → Option (Rv × Mu)
@[simp] def s1 (f : F1) (a : Sm) : Sm := fun ρ μ => (a ρ μ).bind fun p => f p.2 p.1
@[simp] def s2 (f : F2) (a b : Sm) : Sm := fun ρ μ => (a ρ μ).bind fun p => (b ρ p.2).bind fun q => f q.2 p.1 q.1
@[simp] def sA (f : FA) (a : Sa) : Sm := fun ρ μ => (a ρ μ).bind fun p => f p.2 p.1
/-- what is wanted of a world behind an operation -/
abbrev Wish (K : PySem.W.Frag) (w : Wd) (r : Rv) (μ' : Mu) (Q : VK) : Prop := ∀ (u : Wd) (v : V), u.μ = μ' → u.Ok → w.le u → RpR K u r v → Q v u.H
def Op1 (K : PySem.W.Frag) (f : F1) (t : V → Hp → VK → Prop) : Prop := ∀ (w : Wd) (x : Rv) (v : V) (r : Rv) (μ' : Mu) (Q : VK), f w.μ x = some (r, μ') → w.Ok → RpR K w x v → Wish K w r μ' Q → t v w.H Q
def Op2 (K : PySem.W.Frag) (f : F2) (t : R2) : Prop := ∀ (w : Wd) (x y : Rv) (v z : V) (r : Rv) (μ' : Mu) (Q : VK), f w.μ x y = some (r, μ') → w.Ok → RpR K w x v → RpR K w y z → Wish K w r μ' Q → t v z w.H Q
def OpA (K : PySem.W.Frag) (f : FA) (t : List V → Hp → VK → Prop) : Prop := ∀ (w : Wd) (xs : List Rv) (vs : List V) (r : Rv) (μ' : Mu) (Q : VK), f w.μ xs = some (r, μ') → w.Ok → RpRs K w xs vs → Wish K w r μ' Q → t vs w.H Q
theorem Wish.to {K : PySem.W.Frag} {w u : Wd} {r : Rv} {μ' : Mu} {Q : VK} (k : Wish K w r μ' Q) (h : w.le u) : Wish K u r μ' Q := fun z v e ok le rp => k z v e ok (h.trans le) rp
/-- where the world is as it was -/
theorem Wish.here {K : PySem.W.Frag} {w : Wd} {r : Rv} {Q : VK} (k : Wish K w r w.μ Q) (ok : w.Ok) {v : V} (h : RpR K w r v) : Q v w.H := k w v rfl ok (.refl w) h

theorem one_run {m : Sm} {f : F1} {K : PySem.W.Frag} {t : V → Hp → VK → Prop} (h : Op1 K f t) {σ : L2.St} {H : Hp} {Q : VK} (q : tE K (s1 f m) σ H Q) : tE K m σ H fun v H1 => t v H1 Q := by
  obtain ⟨ρ, w, r, μ', e1, e2, ok, s, k⟩ := q
  obtain ⟨⟨p1, p2⟩, ea, e2⟩ := Option.bind_eq_some_iff.mp e2
  refine ⟨ρ, w, p1, p2, e1, ea, ok, s, fun u v eu oku le rp => ?_⟩
  subst eu
  exact h u p1 v r μ' Q e2 oku rp (Wish.to k le)
theorem two_run {ma mb : Sm} {f : F2} {K : PySem.W.Frag} {t : R2} (h : Op2 K f t) {σ : L2.St} {H : Hp} {Q : VK} (q : tE K (s2 f ma mb) σ H Q) :
    tE K ma σ H fun v H1 => tE K mb σ H1 fun z H2 => t v z H2 Q := by
  obtain ⟨ρ, w, r, μ', e1, e2, ok, s, k⟩ := q
  obtain ⟨⟨p1, p2⟩, ea, e2⟩ := Option.bind_eq_some_iff.mp e2
  obtain ⟨⟨q1, q2⟩, eb, e2⟩ := Option.bind_eq_some_iff.mp e2
  refine ⟨ρ, w, p1, p2, e1, ea, ok, s, fun u v eu oku le rp => ?_⟩
  subst eu
  refine ⟨ρ, u, q1, q2, rfl, eb, oku, s.mono le, fun u2 z eu2 oku2 le2 rp2 => ?_⟩
  subst eu2
  exact h u2 p1 q1 v z r μ' Q e2 oku2 (rp.mono le2) rp2 (Wish.to k (le.trans le2))
theorem args_run {ma : Sa} {f : FA} {K : PySem.W.Frag} {t : List V → Hp → VK → Prop} (h : OpA K f t) {σ : L2.St} {H : Hp} {Q : VK} (q : tE K (sA f ma) σ H Q) : tAs K ma σ H fun vs H1 => t vs H1 Q := by
  obtain ⟨ρ, w, r, μ', e1, e2, ok, s, k⟩ := q
  obtain ⟨⟨p1, p2⟩, ea, e2⟩ := Option.bind_eq_some_iff.mp e2
  refine ⟨ρ, w, p1, p2, e1, ea, ok, s, fun u v eu oku le rp => ?_⟩
  subst eu
  exact h u p1 v r μ' Q e2 oku rp (Wish.to k le)
theorem pE_op {op : Operator} {f : F2} {t : R2} {ma mb : Sm} (ho : OpR X (binaryOp op) t) (hf : Op2 X.K f t) (ha : PE X a (tE X.K ma)) (hb : PE X b (tE X.K mb)) : PE X (.BinOp a op b pos) (tE X.K (s2 f ma mb)) :=
  pe_of (pe_op ho ha hb) fun _ _ _ q => two_run hf q
theorem pE_un {op : UnaryOp} {f : F1} {t : V → Hp → VK → Prop} {ma : Sm} (ho : UnR X (unaryOp op) t) (hf : Op1 X.K f t) (ha : PE X a (tE X.K ma)) : PE X (.UnaryOp op a pos) (tE X.K (s1 f ma)) :=
  pe_of (pe_un ho ha) fun _ _ _ q => one_run hf q
theorem pE_cmp {op : CmpOp} {f : F2} {t : R2} {ma mb : Sm} (ho : OpR X (compareOp op) t) (hf : Op2 X.K f t) (ha : PE X a (tE X.K ma)) (hb : PE X b (tE X.K mb)) (hm : behindInMarks op b = false) : PE X (.Compare a [op] [b] pos) (tE X.K (s2 f ma mb)) :=
  pe_of (pe_cmpR ho ha hb hm) fun _ _ _ q => two_run hf q
theorem pE_ix {f : F2} {t : R2} {ma mb : Sm} (ho : IxR X t) (hf : Op2 X.K f t) (ha : PE X a (tE X.K ma)) (hb : PE X b (tE X.K mb)) (hs : PlainIx b := by exact fun _ _ => rfl) : PE X (.Subscript a b pos) (tE X.K (s2 f ma mb)) :=
  pe_of (pe_ix ho ha hb hs) fun _ _ _ q => two_run hf q
/-- a built-in function, a built-in class, called -/
theorem pE_callB {x : Str} {id : String} {es : List Expr} {p : Pos} {f : FA} {t : List V → Hp → VK → Prop} {ma : Sa} (ho : CallR X (.builtin id) t) (hf : OpA X.K f t) (hg : Gl X x) (hm : X.mg x = none) (hv : bootBuiltins x = some (.builtin id)) (ha : PA X (e :: es) (tAs X.K ma))
    (hn : x ≠ "__name__" := by decide) (hdb : (x == ("__debug__" : Str)) = false := by decide) (hs : starEach (e :: es) X.env = (false, eval e X.env) :: starEach es X.env := by rfl) (hpl : (backTo pos (starEach es X.env)).any (·.1) = false := by rfl) : PE X (.Call (.Name x p) (e :: es) [] pos) (tE X.K (sA f ma)) :=
  pe_of (pe_callB ho hg hm hv ha hn hdb hs hpl) fun _ _ _ q => args_run hf q
theorem pE_callTy {x : Str} {T : String} {es : List Expr} {p : Pos} {f : FA} {t : List V → Hp → VK → Prop} {ma : Sa} (ho : CallR X (.type T) t) (hf : OpA X.K f t) (hg : Gl X x) (hm : X.mg x = none) (hv : bootBuiltins x = some (.type T)) (ha : PA X (e :: es) (tAs X.K ma))
    (hn : x ≠ "__name__" := by decide) (hdb : (x == ("__debug__" : Str)) = false := by decide) (hs : starEach (e :: es) X.env = (false, eval e X.env) :: starEach es X.env := by rfl) (hpl : (backTo pos (starEach es X.env)).any (·.1) = false := by rfl) : PE X (.Call (.Name x p) (e :: es) [] pos) (tE X.K (sA f ma)) :=
  pe_of (pe_callTy ho hg hm hv ha hn hdb hs hpl) fun _ _ _ q => args_run hf q
/-! ### lists of expressions -/
@[simp] def sNil : Sa := fun _ μ => some ([], μ)
@[simp] def sCons (a : Sm) (r : Sa) : Sa := fun ρ μ => (a ρ μ).bind fun p => (r ρ p.2).bind fun q => some (p.1 :: q.1, q.2)
theorem pA_nil : PA X [] (tAs X.K sNil) := pa_of pa_nil fun σ H Q q => by
  obtain ⟨ρ, w, r, μ', e1, e2, ok, s, k⟩ := q
  cases e2
  exact e1 ▸ k w [] rfl ok (.refl w) .nil
theorem pA_cons {es : List Expr} {ma : Sm} {mr : Sa} (ha : PE X e (tE X.K ma)) (hr : PA X es (tAs X.K mr)) (hs : starEach (e :: es) X.env = (false, eval e X.env) :: starEach es X.env := by rfl) : PA X (e :: es) (tAs X.K (sCons ma mr)) := by
  refine pa_of (pa_cons ha hr hs) fun σ H Q q => ?_
  obtain ⟨ρ, w, r, μ', e1, e2, ok, s, k⟩ := q
  obtain ⟨⟨p1, p2⟩, ea, e2⟩ := Option.bind_eq_some_iff.mp e2
  obtain ⟨⟨q1, q2⟩, eb, e2⟩ := Option.bind_eq_some_iff.mp e2
  cases e2
  refine ⟨ρ, w, p1, p2, e1, ea, ok, s, fun u v eu oku le rp => ?_⟩
  subst eu
  refine ⟨ρ, u, q1, q2, rfl, eb, oku, s.mono le, fun u2 zs eu2 oku2 le2 rp2 => ?_⟩
  exact k u2 (v :: zs) eu2 oku2 (le.trans le2) (.cons (rp.mono le2) rp2)
end

/-! ### what is made -/
/-- the data, where all stand still -/
@[simp] def stills : List Rv → Option (List PyData)
  | [] => some []
  | .d x :: r => (stills r).map (x :: ·)
  | _ :: _ => none
theorem stills_ok {K : PySem.W.Frag} {w : Wd} : ∀ {rs : List Rv} {vs : List V} {ds : List PyData}, RpRs K w rs vs → stills rs = some ds → RpAll w.F vs ds
  | _, _, _, .nil, e => by cases e; exact .nil
  | .d x :: _, _, ds, .cons r t, e => by
    unfold stills at e
    cases q : stills _ with
    | none => rw [q] at e; cases e
    | some es =>
      rw [q] at e
      cases e
      exact .cons r (stills_ok t q)
  | .m k :: _, _, _, .cons r t, e => by cases e
  | .s k :: _, _, _, .cons r t, e => by cases e
/-- a new list: still, or a thing of the store -/
@[simp] def mkL (b : Bool) (xs : List PyData) (μ : Mu) : Rv × Mu := if b then (.m μ.length, μ ++ [.lst xs]) else (.d (.list xs), μ)
theorem mkL_ok {K : PySem.W.Frag} {w : Wd} (ok : w.Ok) {b : Bool} {xs : List PyData} {vs : List V} {p : Addr} (hp : w.H p = none) (hv : RpAll w.F vs xs) {Q : VK} {r : Rv} {μ' : Mu} (e : mkL b xs w.μ = (r, μ')) (k : Wish K w r μ' Q) :
    Q (.ref p) (upd w.H p (.lst vs)) := by
  cases b with
  | false =>
    cases e
    exact k (w.put p (.lst vs)) (.ref p) rfl (Wd.put_ok ok hp) (Wd.put_le ok hp) (.lst (Wd.put_at ok hp) (RpAll.mono (Wd.put_le ok hp).le _ _ hv))
  | true =>
    cases e
    have hd : Mo.lst xs ≠ Mo.dead := by intro z; cases z
    refine k (w.new p (.lst xs) (.lst vs)) (.ref p) rfl (Wd.new_ok ok hd hp ⟨vs, upd_same, hv⟩) (Wd.new_le ok hd hp) ⟨p, ?_, rfl⟩
    exact (get_snoc _ _ _ _).mpr (.inr ⟨ok.len.symm, rfl⟩)
theorem mkT_ok {K : PySem.W.Frag} {w : Wd} (ok : w.Ok) {xs : List PyData} {vs : List V} {p : Addr} (hp : w.H p = none) (hv : RpAll w.F vs xs) {Q : VK} (k : Wish K w (.d (.tuple xs)) w.μ Q) : Q (.ref p) (upd w.H p (.tup vs)) :=
  k (w.put p (.tup vs)) (.ref p) rfl (Wd.put_ok ok hp) (Wd.put_le ok hp) (.tup (Wd.put_at ok hp) (RpAll.mono (Wd.put_le ok hp).le _ _ hv))
@[simp] def fTup : FA := fun μ rs => (stills rs).bind fun ds => if ds.length ≤ 4096 then some (.d (.tuple ds), μ) else none
@[simp] def fLst (b : Bool) : FA := fun μ rs => (stills rs).bind fun ds => if ds.length ≤ 4096 then some (mkL b ds μ) else none
theorem line4096 {n : Nat} (h : n ≤ 4096) : n ≤ sizeLine := Nat.le_trans h (by decide)
theorem opA_tup {K : PySem.W.Frag} : OpA K fTup (fun xs H Q => xs.length ≤ sizeLine ∧ ∀ p, H p = none → Q (.ref p) (upd H p (.tup xs))) := by
  intro w rs vs r μ' Q e ok rp k
  unfold fTup at e
  cases es : stills rs with
  | none => rw [es] at e; cases e
  | some ds =>
    rw [es] at e
    simp only [Option.bind_some] at e
    split at e
    · rename_i hl
      cases e
      have hv := stills_ok rp es
      exact ⟨by rw [hv.length]; exact line4096 hl, fun p hp => mkT_ok ok hp hv k⟩
    · cases e
theorem opA_lst {K : PySem.W.Frag} {b : Bool} : OpA K (fLst b) (fun xs H Q => xs.length ≤ sizeLine ∧ ∀ p, H p = none → Q (.ref p) (upd H p (.lst xs))) := by
  intro w rs vs r μ' Q e ok rp k
  unfold fLst at e
  cases es : stills rs with
  | none => rw [es] at e; cases e
  | some ds =>
    rw [es] at e
    simp only [Option.bind_some] at e
    split at e
    · rename_i hl
      have hv := stills_ok rp es
      exact ⟨by rw [hv.length]; exact line4096 hl, fun p hp => mkL_ok ok hp hv (by simpa using e) k⟩
    · cases e
section
variable {X : Cx} {es : List Expr} {pos : Pos}
theorem pE_tup {x1} {ma : Sa} (h : PA X es (tAs X.K ma)) : PE X (.Tuple es x1 pos) (tE X.K (sA fTup ma)) := pe_of (pe_tup h) fun _ _ _ q => args_run opA_tup q
theorem pE_lst {b : Bool} {ma : Sa} (h : PA X es (tAs X.K ma)) : PE X (.List es pos) (tE X.K (sA (fLst b) ma)) := pe_of (pe_lst h) fun _ _ _ q => args_run opA_lst q
end
/-- a thing of the store is let stand still -/
@[simp] def sFz (a : Sm) : Sm := fun ρ μ => (a ρ μ).bind fun p => match p.1 with
  | .d x => some (.d x, p.2)
  | .m k => (rd p.2 (.m k)).bind fun x => some (.d x, p.2.set k .dead)
  | .s _ => none
theorem frz_ok {K : PySem.W.Frag} {w : Wd} (ok : w.Ok) {k : Nat} {v : V} {x : PyData} (h : RpR K w (.m k) v) (e : rd w.μ (.m k) = some x) : (w.stop k).Ok ∧ w.le (w.stop k) ∧ RpR K (w.stop k) (.d x) v := by
  obtain ⟨a, ha, hv⟩ := id h
  have e' : (match w.μ[k]? with | some (.lst ds) => some (PyData.list ds) | some (.dT es) => some (.dict es) | _ => none) = some x := e
  cases q : w.μ[k]? with
  | none => rw [q] at e'; cases e'
  | some o =>
    have hm := ok.ok k o a q ha
    rw [q] at e'
    cases o with
    | lst ds =>
      have hd : Mo.lst ds ≠ Mo.dead := by intro z; cases z
      obtain ⟨xs, e1, e2⟩ := hm
      cases e'
      refine ⟨Wd.stop_ok ok q hd ha, Wd.stop_le ok q hd ha, ?_⟩
      subst hv
      exact .lst ((Wd.stop_at ok q hd ha).trans e1) (RpAll.mono (Wd.stop_le ok q hd ha).le _ _ e2)
    | dT es =>
      have hd : Mo.dT es ≠ Mo.dead := by intro z; cases z
      obtain ⟨xs, e1, e2⟩ := hm
      cases e'
      refine ⟨Wd.stop_ok ok q hd ha, Wd.stop_le ok q hd ha, ?_⟩
      subst hv
      exact .dct (.inl ((Wd.stop_at ok q hd ha).trans e1)) (RpKV.mono (Wd.stop_le ok q hd ha).le _ _ e2)
    | dK kvs => cases e'
    | dead => cases e'
theorem pE_fz {X : Cx} {e : Expr} {m : Sm} (h : PE X e (tE X.K m)) : PE X e (tE X.K (sFz m)) := by
  refine pe_of h fun σ H Q q => ?_
  obtain ⟨ρ, w, r, μ', e1, e2, ok, s, k⟩ := q
  obtain ⟨⟨p1, p2⟩, ea, e2⟩ := Option.bind_eq_some_iff.mp e2
  refine ⟨ρ, w, p1, p2, e1, ea, ok, s, fun u v eu oku le rp => ?_⟩
  subst eu
  cases p1 with
  | d x =>
    cases e2
    exact k u v rfl oku le rp
  | s ns => cases e2
  | m j =>
    obtain ⟨x, ex, e2⟩ := Option.bind_eq_some_iff.mp e2
    cases e2
    obtain ⟨h1, h2, h3⟩ := frz_ok oku rp ex
    exact k (u.stop j) v rfl h1 (le.trans h2) h3
end Sh
set_option Elab.async false
set_option linter.all false
set_option maxRecDepth 100000
namespace Sh
open PySem L2

theorem OpR.or3 {X : Cx} {f : Value → Value → Sem Value} {a b c : R2} (h1 : OpR X f a) (h2 : OpR X f b) (h3 : OpR X f c) : OpR X f (fun x y H Q => a x y H Q ∨ b x y H Q ∨ c x y H Q) := OpR.or h1 (OpR.or h2 h3)
theorem SqL.ofF {K : PySem.W.Frag} {w : Wd} {a : Addr} {xs : List V} (h : w.H a = some (.lst xs)) : SqL K w.H a xs := .inl (.inl h)
theorem SqT.ofF {K : PySem.W.Frag} {w : Wd} {a : Addr} {xs : List V} (h : w.H a = some (.tup xs)) : SqT K w.H a xs := .inl (.inl h)
theorem RpAll.nil_iff {F : Hp} {vs : List V} {ds : List PyData} (h : RpAll F vs ds) : vs = [] ↔ ds = [] := by
  rw [← List.length_eq_zero_iff, ← List.length_eq_zero_iff, h.length]

/-! ### + -/
@[simp] def fAdd (b : Bool) : F2 := fun μ x y => match rd μ x, rd μ y with
  | some (.int i), some (.int j) => some (.d (.int (i + j)), μ)
  | some (.list xs), some (.list ys) => if xs.length + ys.length ≤ 4096 then some (mkL b (xs ++ ys) μ) else none
  | some (.tuple xs), some (.tuple ys) => match x, y with
    | .d _, .d _ => if xs.length + ys.length ≤ 4096 then some (.d (.tuple (xs ++ ys)), μ) else none
    | _, _ => none
  | _, _ => none
def rAddU (K : PySem.W.Frag) : R2 := fun x y H Q => rI0 (fun i j => .int (i + j)) x y H Q ∨ rCat x y H Q ∨ rCatA K x y H Q
theorem op_addU {X : Cx} : OpR X (binaryOp .Add) (rAddU X.K) := OpR.or3 op_add op_cat op_catA
theorem o2_add {K : PySem.W.Frag} {b : Bool} : Op2 K (fAdd b) (rAddU K) := by
  intro w x y v z r μ' Q e ok rx ry k
  unfold fAdd at e
  split at e
  · rename_i i j ex ey
    cases e
    have h1 : v = V.int i := RpR.rd ok rx ex
    have h2 : z = V.int j := RpR.rd ok ry ey
    exact .inl ⟨i, j, h1, h2, Wish.here k ok (.int _)⟩
  · rename_i xs ys ex ey
    split at e
    · rename_i hl
      obtain ⟨a, vs, h1, h2, h3⟩ := RpR.rd ok rx ex
      obtain ⟨a', vs', h1', h2', h3'⟩ := RpR.rd ok ry ey
      refine .inr (.inl ⟨a, a', vs, vs', h1, h1', h2, h2', ?_, fun p hp => mkL_ok ok hp (h3.append h3') (by simpa using e) k⟩)
      rw [h3.length, h3'.length]
      exact line4096 hl
    · cases e
  · rename_i xs ys ex ey
    split at e
    · rename_i dx dy
      split at e
      · rename_i hl
        have ex : some dx = some (PyData.tuple xs) := ex
        have ey : some dy = some (PyData.tuple ys) := ey
        cases ex
        cases ey
        cases e
        obtain ⟨a, vs, h1, h2, h3⟩ := Rp.top rx
        obtain ⟨a', vs', h1', h2', h3'⟩ := Rp.top ry
        subst h1 h1'
        refine .inr (.inr ⟨a, a', vs, vs', rfl, rfl, SqT.ofF h2, SqT.ofF h2', ?_, fun en => ?_, fun _ en => ?_, fun _ _ p hp => mkT_ok ok hp (h3.append h3') k⟩)
        · rw [h3.length, h3'.length]
          exact line4096 hl
        · have := h3.nil_iff.mp en
          subst this
          exact Wish.here k ok ry
        · have := h3'.nil_iff.mp en
          subst this
          rw [List.append_nil] at k
          exact Wish.here k ok rx
      · cases e
    · cases e
  · cases e

/-! ### arithmetic -/
@[simp] def fI2 (g : Int → Int → Option Int) : F2 := fun μ x y => match rd μ x, rd μ y with
  | some (.int i), some (.int j) => (g i j).map fun n => (.d (.int n), μ)
  | _, _ => none
theorem o2_int {K : PySem.W.Frag} {g : Int → Int → Option Int} {t : R2} (h : ∀ i j n H Q, g i j = some n → Q (V.int n) H → t (.int i) (.int j) H Q) : Op2 K (fI2 g) t := by
  intro w x y v z r μ' Q e ok rx ry k
  unfold fI2 at e
  split at e
  · rename_i i j ex ey
    have h1 : v = V.int i := RpR.rd ok rx ex
    have h2 : z = V.int j := RpR.rd ok ry ey
    subst h1 h2
    cases eg : g i j with
    | none => rw [eg] at e; cases e
    | some n =>
      rw [eg] at e
      cases e
      exact h i j n _ _ eg (Wish.here k ok (.int _))
  · cases e
@[simp] def fSub : F2 := fI2 fun i j => some (i - j)
theorem o2_sub {K : PySem.W.Frag} : Op2 K fSub (rI0 fun i j => .int (i - j)) := o2_int fun i j n H Q e q => by cases e; exact ⟨i, j, rfl, rfl, q⟩
/-- within 64 bits -/
def b64 (i : Int) : Bool := decide (-(2 ^ 64) < i) && decide (i < 2 ^ 64)
@[simp] def fMul : F2 := fun μ x y => match rd μ x, rd μ y with
  | some (.int i), some (.int j) => if b64 i || b64 j then some (.d (.int (i * j)), μ) else none
  | some (.tuple xs), some (.int k) => match x with
    | .d _ => if xs.length ≤ 100 ∧ xs ≠ [] ∧ 2 ≤ k ∧ k ≤ 20 then some (.d (.tuple (List.replicate k.toNat xs).flatten), μ) else none
    | _ => none
  | _, _ => none
def rMulU (K : PySem.W.Frag) : R2 := fun x y H Q => rI CMul (fun i j => .int (i * j)) x y H Q ∨ rRepT K x y H Q
theorem op_mulU {X : Cx} : OpR X (binaryOp .Mult) (rMulU X.K) := OpR.or op_mul op_repT
theorem b64_ok {i : Int} (h : b64 i = true) : -(2 ^ 64) < i ∧ i < 2 ^ 64 := by
  unfold b64 at h
  rw [Bool.and_eq_true] at h
  exact ⟨of_decide_eq_true h.1, of_decide_eq_true h.2⟩
theorem o2_mul {K : PySem.W.Frag} : Op2 K fMul (rMulU K) := by
  intro w x y v z r μ' Q e ok rx ry k
  unfold fMul at e
  split at e
  · rename_i i j ex ey
    have h1 : v = V.int i := RpR.rd ok rx ex
    have h2 : z = V.int j := RpR.rd ok ry ey
    subst h1 h2
    split at e
    · rename_i hb
      cases e
      rw [Bool.or_eq_true] at hb
      exact .inl ⟨i, j, rfl, rfl, hb.elim (fun h => .inl (b64_ok h)) (fun h => .inr (b64_ok h)), Wish.here k ok (.int _)⟩
    · cases e
  · rename_i xs j ex ey
    have h2 : z = V.int j := RpR.rd ok ry ey
    subst h2
    split at e
    · rename_i dx
      split at e
      · rename_i hb
        have ex : some dx = some (PyData.tuple xs) := ex
        cases ex
        cases e
        obtain ⟨hb1, hb2, hb3, hb4⟩ := hb
        obtain ⟨a, vs, h1, h2, h3⟩ := Rp.top rx
        subst h1
        refine .inr ⟨a, j, vs, rfl, rfl, SqT.ofF h2, fun en => hb2 (h3.nil_iff.mp en), hb3, by omega, by rw [h3.length]; omega, fun p hp => mkT_ok ok hp (h3.rep _) k⟩
      · cases e
    · cases e
  · cases e
@[simp] def fDiv : F2 := fI2 fun i j => if 0 < j ∧ j < 1073741824 then some (i / j) else none
theorem o2_div {K : PySem.W.Frag} : Op2 K fDiv (rI CDiv fun i j => .int (i / j)) := o2_int fun i j n H Q e q => by
  split at e
  · rename_i h
    cases e; exact ⟨i, j, rfl, rfl, h, q⟩
  · cases e
@[simp] def fMod : F2 := fI2 fun i j => if 0 < j then some (i % j) else none
theorem o2_mod {K : PySem.W.Frag} : Op2 K fMod (rI (fun _ j => 0 < j) fun i j => .int (i % j)) := o2_int fun i j n H Q e q => by
  split at e
  · rename_i h
    cases e; exact ⟨i, j, rfl, rfl, h, q⟩
  · cases e
@[simp] def fPow : F2 := fI2 fun i j => if 0 ≤ j ∧ j ≤ 1000 ∧ i.natAbs < 2 ^ 64 then some (i ^ j.toNat) else none
theorem o2_pow {K : PySem.W.Frag} : Op2 K fPow (rI CPow fun i j => .int (i ^ j.toNat)) := o2_int fun i j n H Q e q => by
  split at e
  · rename_i h
    cases e; exact ⟨i, j, rfl, rfl, ⟨h.1, by omega, h.2.2⟩, q⟩
  · cases e
@[simp] def fNeg : F1 := fun μ x => match rd μ x with
  | some (.int i) => some (.d (.int (-i)), μ)
  | _ => none
theorem o1_neg {K : PySem.W.Frag} : Op1 K fNeg (rU fun i => .int (-i)) := by
  intro w x v r μ' Q e ok rx k
  unfold fNeg at e
  split at e
  · rename_i i ex
    cases e
    have h1 : v = V.int i := RpR.rd ok rx ex
    exact ⟨i, h1, Wish.here k ok (.int _)⟩
  · cases e

/-! ### comparisons -/
mutual
/-- data without dicts, no deeper than n -/
def pl : Nat → PyData → Bool
  | _, .none => true
  | _, .bool _ => true
  | _, .int _ => true
  | _, .str z => PyData.strOk z
  | 0, .list _ => false
  | 0, .tuple _ => false
  | n + 1, .list ds => plAll n ds
  | n + 1, .tuple ds => plAll n ds
  | _, .dict _ => false
def plAll : Nat → List PyData → Bool
  | _, [] => true
  | n, d :: ds => pl n d && plAll n ds
end
mutual
theorem pl_ok : ∀ (n : Nat) (d : PyData), pl n d = true → d.canLay0 = true ∧ d.depth ≤ n
  | n, .none, _ => ⟨rfl, Nat.zero_le _⟩
  | n, .bool _, _ => ⟨rfl, Nat.zero_le _⟩
  | n, .int _, _ => ⟨rfl, Nat.zero_le _⟩
  | n, .str z, h => by
    refine ⟨?_, Nat.zero_le _⟩
    show PyData.strOk z = true
    cases n <;> exact h
  | 0, .list _, h => by cases h
  | 0, .tuple _, h => by cases h
  | n + 1, .list ds, h => let ⟨a, b⟩ := plAll_ok n ds h; ⟨a, Nat.succ_le_succ b⟩
  | n + 1, .tuple ds, h => let ⟨a, b⟩ := plAll_ok n ds h; ⟨a, Nat.succ_le_succ b⟩
  | 0, .dict _, h => by cases h
  | n + 1, .dict _, h => by cases h
theorem plAll_ok : ∀ (n : Nat) (ds : List PyData), plAll n ds = true → PyData.canLayAll0 ds = true ∧ PyData.depthAll ds ≤ n
  | n, [], _ => ⟨rfl, Nat.zero_le _⟩
  | n, d :: ds, h => by
    have h : (pl n d && plAll n ds) = true := h
    rw [Bool.and_eq_true] at h
    obtain ⟨a, b⟩ := pl_ok n d h.1
    obtain ⟨a', b'⟩ := plAll_ok n ds h.2
    refine ⟨?_, Nat.max_le.mpr ⟨b, b'⟩⟩
    show (d.canLay0 && PyData.canLayAll0 ds) = true
    rw [a, a']; rfl
end
mutual
theorem Rp.dp {K : PySem.W.Frag} {F : Hp} : ∀ (d : PyData) (v : V), d.canLay0 = true → Rp F v d → Dp K F v d
  | .none, _, _, h => by cases h; exact .non
  | .bool _, _, _, h => by cases h; exact .bl _
  | .int _, _, _, h => by cases h; exact .int _
  | .str _, _, _, h => by cases h; exact .str _
  | .list ds, _, c, h => by cases h with | lst e r => exact .lst (.inl (.inl e)) (RpAll.dp ds _ c r)
  | .tuple ds, _, c, h => by cases h with | tup e r => exact .tup (.inl (.inl e)) (RpAll.dp ds _ c r)
  | .dict es, _, c, h => by cases c
theorem RpAll.dp {K : PySem.W.Frag} {F : Hp} : ∀ (ds : List PyData) (vs : List V), PyData.canLayAll0 ds = true → RpAll F vs ds → DpAll K F vs ds
  | [], _, _, h => by cases h; exact .nil
  | d :: ds, _, c, h => by
    have c : (d.canLay0 && PyData.canLayAll0 ds) = true := c
    rw [Bool.and_eq_true] at c
    cases h with
    | cons h1 h2 => exact .cons (Rp.dp d _ c.1 h1) (RpAll.dp ds _ c.2 h2)
end
@[simp] def fEq (neg : Bool) : F2 := fun μ x y => match rd μ x, rd μ y with
  | some a, some b => if pl 9 a && pl 9 b then some (.d (.bool (if neg then !PyData.eqv a b else PyData.eqv a b)), μ) else none
  | _, _ => none
theorem eq_prem {K : PySem.W.Frag} {w : Wd} {v : V} {a : PyData} (h : RpT w.F w.H v a) (p : pl 9 a = true) : Dp K w.H v a ∧ SeqAt.shaped a = true := by
  obtain ⟨c, d⟩ := pl_ok 9 a p
  refine ⟨Rp.dp a v c (RpT.full h), ?_⟩
  show (a.canLay0 && decide (a.depth ≤ 64)) = true
  rw [c, decide_eq_true (show a.depth ≤ 64 by omega)]; rfl
theorem o2_eq {K : PySem.W.Frag} : Op2 K (fEq false) (rEqD K) := by
  intro w x y v z r μ' Q e ok rx ry k
  unfold fEq at e
  split at e
  · rename_i a b ex ey
    split at e
    · rename_i hp
      rw [Bool.and_eq_true] at hp
      cases e
      obtain ⟨d1, s1⟩ := eq_prem (K := K) (RpR.rd ok rx ex) hp.1
      obtain ⟨d2, s2⟩ := eq_prem (K := K) (RpR.rd ok ry ey) hp.2
      exact ⟨a, b, d1, d2, s1, s2, Wish.here k ok (.bl _)⟩
    · cases e
  · cases e
theorem o2_ne {K : PySem.W.Frag} : Op2 K (fEq true) (rNeD K) := by
  intro w x y v z r μ' Q e ok rx ry k
  unfold fEq at e
  split at e
  · rename_i a b ex ey
    split at e
    · rename_i hp
      rw [Bool.and_eq_true] at hp
      cases e
      obtain ⟨d1, s1⟩ := eq_prem (K := K) (RpR.rd ok rx ex) hp.1
      obtain ⟨d2, s2⟩ := eq_prem (K := K) (RpR.rd ok ry ey) hp.2
      exact ⟨a, b, d1, d2, s1, s2, Wish.here k ok (.bl _)⟩
    · cases e
  · cases e
@[simp] def fB2 (g : Int → Int → Bool) : F2 := fun μ x y => match rd μ x, rd μ y with
  | some (.int i), some (.int j) => some (.d (.bool (g i j)), μ)
  | _, _ => none
theorem o2_cmp {K : PySem.W.Frag} {g : Int → Int → Bool} : Op2 K (fB2 g) (rI0 fun i j => .bl (g i j)) := by
  intro w x y v z r μ' Q e ok rx ry k
  unfold fB2 at e
  split at e
  · rename_i i j ex ey
    cases e
    have h1 : v = V.int i := RpR.rd ok rx ex
    have h2 : z = V.int j := RpR.rd ok ry ey
    exact ⟨i, j, h1, h2, Wish.here k ok (.bl _)⟩
  · cases e
abbrev fLt : F2 := fB2 fun i j => decide (i < j)
abbrev fLe : F2 := fB2 fun i j => decide (i ≤ j)
abbrev fGt : F2 := fB2 fun i j => decide (j < i)
abbrev fGe : F2 := fB2 fun i j => decide (j ≤ i)
/-- is: None, truths -/
@[simp] def isN : PyData → Bool
  | .none => true
  | _ => false
@[simp] def fIs (neg : Bool) : F2 := fun μ x y => match y with
  | .d .none => match x with
    | .d a => some (.d (.bool (if neg then !isN a else isN a)), μ)
    | .m k => if k < μ.length then some (.d (.bool neg), μ) else none
    | .s _ => some (.d (.bool neg), μ)
  | .d (.bool b) => match x with
    | .d (.bool a) => some (.d (.bool (if neg then !(a == b) else a == b)), μ)
    | _ => none
  | _ => none
def rIsU : R2 := fun x y H Q => (y = .non ∧ Q (.bl (decide (x = .non))) H) ∨ rIsB x y H Q
def rNotU : R2 := fun x y H Q => (y = .non ∧ Q (.bl (!decide (x = .non))) H) ∨ rNotB x y H Q
theorem op_isU {X : Cx} : OpR X (compareOp .Is) rIsU := OpR.or op_isN op_isBl
theorem op_notU {X : Cx} : OpR X (compareOp .IsNot) rNotU := OpR.or op_notN op_notBl
theorem isN_ok {F : Hp} {v : V} {a : PyData} (h : Rp F v a) : decide (v = .non) = isN a := by cases h <;> rfl
theorem is_prem {K : PySem.W.Frag} {neg : Bool} {w : Wd} {x y : Rv} {v z : V} {r : Rv} {μ' : Mu} {Q : VK} (e : fIs neg w.μ x y = some (r, μ')) (ok : w.Ok) (rx : RpR K w x v) (ry : RpR K w y z) (k : Wish K w r μ' Q) :
    (z = .non ∧ Q (.bl (if neg then !decide (v = .non) else decide (v = .non))) w.H) ∨ ∃ a b : Bool, v = .bl a ∧ z = .bl b ∧ Q (.bl (if neg then !decide (a = b) else decide (a = b))) w.H := by
  unfold fIs at e
  split at e
  · have hz : z = .non := by cases ry; rfl
    refine .inl ⟨hz, ?_⟩
    split at e
    · cases e
      rw [isN_ok rx]
      exact Wish.here k ok (.bl _)
    · split at e
      · cases e
        obtain ⟨a, _, hv⟩ := rx
        subst hv
        have := Wish.here k ok (v := .bl neg) (.bl _)
        cases neg <;> exact this
      · cases e
    · cases e
      obtain ⟨a, hv, _⟩ := rx
      subst hv
      have := Wish.here k ok (v := .bl neg) (.bl _)
      cases neg <;> exact this
  · split at e
    · rename_i b _ a
      cases e
      cases rx
      cases ry
      refine .inr ⟨_, _, rfl, rfl, ?_⟩
      rw [show (a == b) = decide (a = b) from Bool.beq_eq_decide_eq a b] at k
      exact Wish.here k ok (.bl _)
    · cases e
  · cases e
theorem o2_is {K : PySem.W.Frag} : Op2 K (fIs false) rIsU := by
  intro w x y v z r μ' Q e ok rx ry k
  exact is_prem e ok rx ry k
theorem o2_isnot {K : PySem.W.Frag} : Op2 K (fIs true) rNotU := by
  intro w x y v z r μ' Q e ok rx ry k
  exact is_prem e ok rx ry k
/-- in: flat things in a list or tuple -/
@[simp] def flatD : PyData → Bool
  | .none => true
  | .bool _ => true
  | .int _ => true
  | .str _ => true
  | _ => false
@[simp] def itemsD : PyData → Option (List PyData)
  | .list ds => some ds
  | .tuple ds => some ds
  | _ => none
@[simp] def fIn (neg : Bool) : F2 := fun μ x y => match rd μ x, (rd μ y).bind itemsD with
  | some a, some ds => if flatD a && ds.all flatD then some (.d (.bool (if neg then !ds.any fun z => PyData.eqv z a else ds.any fun z => PyData.eqv z a)), μ) else none
  | _, _ => none
theorem flat_ok {F : Hp} {v : V} {a : PyData} (h : Rp F v a) : flatV v = flatD a := by cases h <;> rfl
theorem flat_all {F : Hp} : ∀ {vs : List V} {ds : List PyData}, RpAll F vs ds → vs.all flatV = ds.all flatD
  | _, _, .nil => rfl
  | _, _, .cons r t => by rw [List.all_cons, List.all_cons, flat_ok r, flat_all t]
theorem eqV_ok {F G : Hp} {v z : V} {a b : PyData} (h : Rp F v a) (h' : Rp G z b) (fa : flatD a = true) (fb : flatD b = true) : eqV v z = PyData.eqv a b := by
  cases h <;> cases h' <;> first | rfl | (cases fa) | (cases fb)
theorem inV_ok {F G : Hp} {v : V} {a : PyData} (h : Rp G v a) (fa : flatD a = true) : ∀ {vs : List V} {ds : List PyData}, RpAll F vs ds → ds.all flatD = true → inV v vs = ds.any fun z => PyData.eqv z a
  | _, _, .nil, _ => rfl
  | _, _, .cons r t, hf => by
    rw [List.all_cons, Bool.and_eq_true] at hf
    have := inV_ok h fa t hf.2
    unfold inV at this ⊢
    rw [List.any_cons, List.any_cons, this, eqV_ok r h hf.1 fa]
theorem in_prem {K : PySem.W.Frag} {neg : Bool} {w : Wd} {x y : Rv} {v z : V} {r : Rv} {μ' : Mu} {Q : VK} (e : fIn neg w.μ x y = some (r, μ')) (ok : w.Ok) (rx : RpR K w x v) (ry : RpR K w y z) (k : Wish K w r μ' Q) : rIn K neg v z w.H Q := by
  unfold fIn at e
  split at e
  · rename_i a ds ex ey
    split at e
    · rename_i hf
      rw [Bool.and_eq_true] at hf
      cases e
      obtain ⟨d, ed, ei⟩ := Option.bind_eq_some_iff.mp ey
      have hv := RpT.full (RpR.rd ok rx ex)
      have hz := RpR.rd ok ry ed
      cases d with
      | list es =>
        cases ei
        obtain ⟨p, xs, h1, h2, h3⟩ := hz
        refine ⟨p, xs, h1, .inl (SqL.ofF h2), by rw [flat_ok hv]; exact hf.1, by rw [flat_all h3]; exact hf.2, ?_⟩
        rw [inV_ok hv hf.1 h3 hf.2]
        exact Wish.here k ok (.bl _)
      | tuple es =>
        cases ei
        obtain ⟨p, xs, h1, h2, h3⟩ := hz
        refine ⟨p, xs, h1, .inr (SqT.ofF h2), by rw [flat_ok hv]; exact hf.1, by rw [flat_all h3]; exact hf.2, ?_⟩
        rw [inV_ok hv hf.1 h3 hf.2]
        exact Wish.here k ok (.bl _)
      | _ => cases ei
    · cases e
  · cases e
theorem o2_in {K : PySem.W.Frag} : Op2 K (fIn false) (rIn K false) := fun w x y v z r μ' Q e ok rx ry k => in_prem e ok rx ry k
theorem o2_notin {K : PySem.W.Frag} : Op2 K (fIn true) (rIn K true) := fun w x y v z r μ' Q e ok rx ry k => in_prem e ok rx ry k

/-! ### items, lengths -/
theorem atI_all {F : Hp} {vs : List V} {ds : List PyData} {i : Int} {d : PyData} (h : RpAll F vs ds) (e : atI ds i = some d) : ∃ v, atI vs i = some v ∧ Rp F v d := by
  unfold atI at e ⊢
  obtain ⟨j, e1, e2⟩ := Option.bind_eq_some_iff.mp e
  obtain ⟨v, h1, h2⟩ := h.get e2
  exact ⟨v, Option.bind_eq_some_iff.mpr ⟨j, by rw [h.length]; exact e1, h1⟩, h2⟩
@[simp] def fIx : F2 := fun μ x y => match rd μ y with
  | some (.int i) => match x with
    | .s ns => (atI ns i).map fun n => (.d (.int n), μ)
    | x => match rd μ x with
      | some (.list ds) => (atI ds i).map fun d => (.d d, μ)
      | some (.tuple ds) => (atI ds i).map fun d => (.d d, μ)
      | some (.str z) => if z.length ≤ 4096 then (atI z.cps.toList i).map fun c => (.d (.str ⟨#[c]⟩), μ) else none
      | _ => none
  | _ => none
theorem atI_map {α β : Type} (f : α → β) {xs : List α} {i : Int} {x : α} (h : atI xs i = some x) : atI (xs.map f) i = some (f x) := by
  unfold atI at h ⊢
  obtain ⟨j, e1, e2⟩ := Option.bind_eq_some_iff.mp h
  exact Option.bind_eq_some_iff.mpr ⟨j, by rw [List.length_map]; exact e1, by rw [List.getElem?_map, e2]; rfl⟩
theorem o2_ix {K : PySem.W.Frag} : Op2 K fIx (rIx K) := by
  intro w x y v z r μ' Q e ok rx ry k
  unfold fIx at e
  split at e
  · rename_i i ey
    have hz : z = V.int i := RpR.rd ok ry ey
    subst hz
    split at e
    · rename_i ns
      obtain ⟨n, en, e⟩ := Option.map_eq_some_iff.mp e
      cases e
      obtain ⟨a, hv, hs⟩ := rx
      subst hv
      exact .inl ⟨a, ns.map V.int, i, .int n, rfl, rfl, SqL.monoR w.toH hs, atI_map _ en, Wish.here k ok (.int _)⟩
    · split at e
      · rename_i ds ex
        obtain ⟨d, en, e⟩ := Option.map_eq_some_iff.mp e
        cases e
        obtain ⟨a, xs, h1, h2, h3⟩ := RpR.rd ok rx ex
        obtain ⟨u, h4, h5⟩ := atI_all h3 en
        exact .inl ⟨a, xs, i, u, h1, rfl, SqL.ofF h2, h4, Wish.here k ok h5⟩
      · rename_i ds ex
        obtain ⟨d, en, e⟩ := Option.map_eq_some_iff.mp e
        cases e
        obtain ⟨a, xs, h1, h2, h3⟩ := RpR.rd ok rx ex
        obtain ⟨u, h4, h5⟩ := atI_all h3 en
        exact .inr (.inl ⟨a, xs, i, u, h1, rfl, SqT.ofF h2, h4, Wish.here k ok h5⟩)
      · rename_i zz ex
        split at e
        · rename_i hl
          obtain ⟨c, en, e⟩ := Option.map_eq_some_iff.mp e
          cases e
          have h1 : v = V.str zz := RpR.rd ok rx ex
          exact .inr (.inr ⟨zz, i, c, h1, rfl, line4096 hl, en, Wish.here k ok (.str _)⟩)
        · cases e
      · cases e
  · cases e
@[simp] def fLen : FA := fun μ xs => match xs with
  | [.s ns] => some (.d (.int ns.length), μ)
  | [x] => match rd μ x with
    | some (.list ds) => some (.d (.int ds.length), μ)
    | some (.tuple ds) => some (.d (.int ds.length), μ)
    | some (.str z) => if z.length ≤ 4096 then some (.d (.int z.length), μ) else none
    | _ => none
  | _ => none
theorem Paired.one {α β : Type} {F : α → β → Prop} {a : α} {ys : List β} (h : Paired F [a] ys) : ∃ b, ys = [b] ∧ F a b := by
  cases h with
  | cons r t => cases t; exact ⟨_, rfl, r⟩
theorem Paired.two {α β : Type} {F : α → β → Prop} {a a' : α} {ys : List β} (h : Paired F [a, a'] ys) : ∃ b b', ys = [b, b'] ∧ F a b ∧ F a' b' := by
  cases h with
  | cons r t =>
    obtain ⟨b', e, r'⟩ := Paired.one t
    subst e
    exact ⟨_, _, rfl, r, r'⟩
theorem opA_len {K : PySem.W.Frag} : OpA K fLen (fun xs H Q => ∃ x n, xs = [x] ∧ LenV K x H n ∧ Q (.int n) H) := by
  intro w rs vs r μ' Q e ok rp k
  unfold fLen at e
  split at e
  · rename_i ns
    obtain ⟨v, rfl, rv⟩ := Paired.one rp
    cases e
    obtain ⟨a, hv, hs⟩ := rv
    subst hv
    exact ⟨_, _, rfl, .inl ⟨_, SqL.monoR w.toH hs, (List.length_map _).symm⟩, Wish.here k ok (.int _)⟩
  · rename_i x _
    obtain ⟨v, rfl, rv⟩ := Paired.one rp
    split at e
    · rename_i ds ex
      cases e
      obtain ⟨a, xs, h1, h2, h3⟩ := RpR.rd ok rv ex
      subst h1
      exact ⟨_, ds.length, rfl, .inl ⟨_, SqL.ofF h2, h3.length.symm⟩, Wish.here k ok (.int _)⟩
    · rename_i ds ex
      cases e
      obtain ⟨a, xs, h1, h2, h3⟩ := RpR.rd ok rv ex
      subst h1
      exact ⟨_, ds.length, rfl, .inr ⟨_, SqT.ofF h2, h3.length.symm⟩, Wish.here k ok (.int _)⟩
    · rename_i zz ex
      split at e
      · rename_i hl
        cases e
        have h1 : v = V.str zz := RpR.rd ok rv ex
        subst h1
        exact ⟨_, zz.length, rfl, ⟨line4096 hl, rfl⟩, Wish.here k ok (.int _)⟩
      · cases e
    · cases e
  · cases e
end Sh
set_option Elab.async false
set_option linter.all false
set_option maxRecDepth 100000
namespace Sh
open PySem L2
section
variable {X : Cx} {e a b c o : Expr} {pos : Pos}
/-! ### tests -/
@[simp] def sTst (m : Sm) : Sb := fun ρ μ => (m ρ μ).bind fun p => match p.1 with
  | .d (.bool k) => some (k, p.2)
  | _ => none
/-- truth of what is no bool alone -/
@[simp] def truD : PyData → Option Bool
  | .none => some false
  | .bool b => some b
  | .int i => some (i != 0)
  | .list ds => some (!ds.isEmpty)
  | .tuple ds => some (!ds.isEmpty)
  | _ => none
@[simp] def sTru (m : Sm) : Sb := fun ρ μ => (m ρ μ).bind fun p => (rd p.2 p.1).bind fun x => (truD x).map fun k => (k, p.2)
theorem tst_run {K : PySem.W.Frag} {m : Sm} {σ : L2.St} {H : Hp} {Q : Bool → Hp → Prop} (q : tB K (sTst m) σ H Q) : tE K m σ H fun x H1 => ∃ k, x = .bl k ∧ Q k H1 := by
  obtain ⟨ρ, w, r, μ', e1, e2, ok, s, k⟩ := q
  obtain ⟨⟨p1, p2⟩, ea, e2⟩ := Option.bind_eq_some_iff.mp e2
  refine ⟨ρ, w, p1, p2, e1, ea, ok, s, fun u v eu oku le rp => ?_⟩
  split at e2
  · rename_i kk ep
    have ep : p1 = .d (.bool kk) := ep
    subst ep
    cases e2
    cases rp
    exact ⟨_, rfl, k u eu oku le⟩
  · cases e2
theorem isEmpty_eq {α β : Type} {xs : List α} {ys : List β} (h : xs.length = ys.length) : xs.isEmpty = ys.isEmpty := by
  cases xs <;> cases ys <;> first | rfl | (cases h)
theorem tru_run {K : PySem.W.Frag} {m : Sm} {σ : L2.St} {H : Hp} {Q : Bool → Hp → Prop} (q : tB K (sTru m) σ H Q) : tE K m σ H fun x H1 => ∃ k, TruV K x H1 k ∧ Q k H1 := by
  obtain ⟨ρ, w, r, μ', e1, e2, ok, s, k⟩ := q
  obtain ⟨⟨p1, p2⟩, ea, e2⟩ := Option.bind_eq_some_iff.mp e2
  obtain ⟨x, ex, e2⟩ := Option.bind_eq_some_iff.mp e2
  obtain ⟨kk, ek, e2⟩ := Option.map_eq_some_iff.mp e2
  cases e2
  refine ⟨ρ, w, p1, p2, e1, ea, ok, s, fun u v eu oku le rp => ?_⟩
  subst eu
  have h := RpR.rd oku rp ex
  refine ⟨r, ?_, k u rfl oku le⟩
  cases x with
  | none => cases ek; cases h; rfl
  | bool b => cases ek; cases h; rfl
  | int i => cases ek; cases h; rfl
  | list ds =>
    cases ek
    obtain ⟨a, xs, h1, h2, h3⟩ := h
    subst h1
    exact .inl ⟨xs, SqL.ofF h2, by rw [isEmpty_eq h3.length]⟩
  | tuple ds =>
    cases ek
    obtain ⟨a, xs, h1, h2, h3⟩ := h
    subst h1
    exact .inr (.inl ⟨xs, SqT.ofF h2, by rw [isEmpty_eq h3.length]⟩)
  | str z => cases ek
  | dict es => cases ek
theorem pT_tru {m : Sm} (h : PE X e (tE X.K m)) (he : ∀ whole, isTrue e X.env whole = (do let v ← whole; standAt e.pos; holding [v] (truthy v)) := by intro _; rfl) : PT X e (tB X.K (sTru m)) :=
  pt_of (pt_truth h he) fun _ _ _ q => tru_run q
theorem pT_tst {m : Sm} (h : PE X e (tE X.K m)) (he : ∀ whole, isTrue e X.env whole = (do let v ← whole; standAt e.pos; holding [v] (truthy v)) := by intro _; rfl) : PT X e (tB X.K (sTst m)) :=
  pt_of (pt_val h he) fun _ _ _ q => tst_run q
theorem pT_cmp {op : CmpOp} {f : F2} {t : R2} {ma mb : Sm} (ho : OpR X (compareOp op) t) (hf : Op2 X.K f t) (ha : PE X a (tE X.K ma)) (hb : PE X b (tE X.K mb)) (hm : behindInMarks op b = false) : PT X (.Compare a [op] [b] pos) (tB X.K (sTst (s2 f ma mb))) :=
  pt_of (pt_cmpR ho ha hb hm) fun _ _ _ q => two_run hf (tst_run q)
/-! chains: a op b op' c -/
@[simp] def sChain (f f' : F2) (ma mb mc : Sm) : Sm := fun ρ μ => (ma ρ μ).bind fun p => (mb ρ p.2).bind fun q => (f q.2 p.1 q.1).bind fun z => match z.1 with
  | .d (.bool true) => (mc ρ z.2).bind fun y => f' y.2 q.1 y.1
  | .d (.bool false) => some (.d (.bool false), z.2)
  | _ => none
theorem chain_run {K : PySem.W.Frag} {f f' : F2} {t t' : R2} {ma mb mc : Sm} (h : Op2 K f t) (h' : Op2 K f' t') {σ : L2.St} {H : Hp} {Q : VK} (q : tE K (sChain f f' ma mb mc) σ H Q) : tChain t t' (tE K ma) (tE K mb) (tE K mc) σ H Q := by
  obtain ⟨ρ, w, r, μ', e1, e2, ok, s, k⟩ := q
  obtain ⟨⟨p1, p2⟩, ea, e2⟩ := Option.bind_eq_some_iff.mp e2
  obtain ⟨⟨q1, q2⟩, eb, e2⟩ := Option.bind_eq_some_iff.mp e2
  obtain ⟨⟨z1, z2⟩, ez, e2⟩ := Option.bind_eq_some_iff.mp e2
  refine ⟨ρ, w, p1, p2, e1, ea, ok, s, fun u v eu oku le rp => ?_⟩
  subst eu
  refine ⟨ρ, u, q1, q2, rfl, eb, oku, s.mono le, fun u2 z eu2 oku2 le2 rp2 => ?_⟩
  subst eu2
  refine h u2 p1 q1 v z z1 z2 _ ez oku2 (rp.mono le2) rp2 fun u3 vz eu3 oku3 le3 rp3 => ?_
  subst eu3
  split at e2
  · rename_i ee
    have ee : z1 = .d (.bool true) := ee
    subst ee
    cases rp3
    obtain ⟨⟨y1, y2⟩, ec, e2⟩ := Option.bind_eq_some_iff.mp e2
    refine ⟨true, rfl, ?_⟩
    rw [if_pos rfl]
    refine ⟨ρ, u3, y1, y2, rfl, ec, oku3, s.mono (le.trans (le2.trans le3)), fun u4 vy eu4 oku4 le4 rp4 => ?_⟩
    subst eu4
    exact h' u4 q1 y1 z vy r μ' Q e2 oku4 (rp2.mono (le3.trans le4)) rp4 (Wish.to k (le.trans (le2.trans (le3.trans le4))))
  · rename_i ee
    have ee : z1 = .d (.bool false) := ee
    subst ee
    cases rp3
    cases e2
    refine ⟨false, rfl, ?_⟩
    rw [if_neg Bool.false_ne_true]
    exact k u3 _ rfl oku3 (le.trans (le2.trans le3)) (.bl _)
  · cases e2
theorem pE_chain {op op' : CmpOp} {f f' : F2} {t t' : R2} {ma mb mc : Sm} (ho : OpR X (compareOp op) t) (ho' : OpR X (compareOp op') t') (hf : Op2 X.K f t) (hf' : Op2 X.K f' t') (ha : PE X a (tE X.K ma)) (hb : PE X b (tE X.K mb)) (hc : PE X c (tE X.K mc))
    (hm : lastMarks [op, op'] [b, c] = false := by with_unfolding_all rfl) : PE X (.Compare a [op, op'] [b, c] pos) (tE X.K (sChain f f' ma mb mc)) :=
  pe_of (pe_chain ho ho' ha hb hc hm) fun _ _ _ q => chain_run hf hf' q
theorem pT_chain {op op' : CmpOp} {f f' : F2} {t t' : R2} {ma mb mc : Sm} (ho : OpR X (compareOp op) t) (ho' : OpR X (compareOp op') t') (hf : Op2 X.K f t) (hf' : Op2 X.K f' t') (ha : PE X a (tE X.K ma)) (hb : PE X b (tE X.K mb)) (hc : PE X c (tE X.K mc))
    (hm : lastMarks [op, op'] [b, c] = false := by with_unfolding_all rfl) : PT X (.Compare a [op, op'] [b, c] pos) (tB X.K (sTst (sChain f f' ma mb mc))) :=
  pt_of (pt_chain ho ho' ha hb hc hm) fun _ _ _ q => chain_run hf hf' (tst_run q)

/-! and, or, not as tests -/
@[simp] def sAnd (x y : Sb) : Sb := fun ρ μ => (x ρ μ).bind fun p => if p.1 then y ρ p.2 else some (false, p.2)
@[simp] def sOr (x y : Sb) : Sb := fun ρ μ => (x ρ μ).bind fun p => if p.1 then some (true, p.2) else y ρ p.2
@[simp] def sNot (x : Sb) : Sb := fun ρ μ => (x ρ μ).map fun p => (!p.1, p.2)
theorem pT_and {rest : List Expr} {x y : Sb} (ha : PT X a (tB X.K x)) (hb : PW X (.BoolOp .And (b :: rest) pos) (tB X.K y)) : PW X (.BoolOp .And (a :: b :: rest) pos) (tB X.K (sAnd x y)) :=
  pw_of (pw_and ha hb) fun σ H Q q => by
    obtain ⟨ρ, w, r, μ', e1, e2, ok, s, k⟩ := q
    obtain ⟨⟨p1, p2⟩, ea, e2⟩ := Option.bind_eq_some_iff.mp e2
    refine ⟨ρ, w, p1, p2, e1, ea, ok, s, fun u eu oku le => ?_⟩
    subst eu
    cases p1 with
    | true =>
      rw [if_pos rfl]
      exact ⟨ρ, u, r, μ', rfl, e2, oku, s.mono le, fun z ez okz lez => k z ez okz (le.trans lez)⟩
    | false =>
      rw [if_neg Bool.false_ne_true]
      cases e2
      exact k u rfl oku le
theorem pT_or {rest : List Expr} {x y : Sb} (ha : PT X a (tB X.K x)) (hb : PW X (.BoolOp .Or (b :: rest) pos) (tB X.K y)) : PW X (.BoolOp .Or (a :: b :: rest) pos) (tB X.K (sOr x y)) :=
  pw_of (pw_or ha hb) fun σ H Q q => by
    obtain ⟨ρ, w, r, μ', e1, e2, ok, s, k⟩ := q
    obtain ⟨⟨p1, p2⟩, ea, e2⟩ := Option.bind_eq_some_iff.mp e2
    refine ⟨ρ, w, p1, p2, e1, ea, ok, s, fun u eu oku le => ?_⟩
    subst eu
    cases p1 with
    | false =>
      rw [if_neg Bool.false_ne_true]
      exact ⟨ρ, u, r, μ', rfl, e2, oku, s.mono le, fun z ez okz lez => k z ez okz (le.trans lez)⟩
    | true =>
      rw [if_pos rfl]
      cases e2
      exact k u rfl oku le
theorem pT_not {x : Sb} (ha : PT X a (tB X.K x)) : PT X (.UnaryOp .Not a pos) (tB X.K (sNot x)) :=
  pt_of (pt_not ha) fun σ H Q q => by
    obtain ⟨ρ, w, r, μ', e1, e2, ok, s, k⟩ := q
    obtain ⟨⟨p1, p2⟩, ea, e2⟩ := Option.map_eq_some_iff.mp e2
    cases e2
    exact ⟨ρ, w, p1, p2, e1, ea, ok, s, fun u eu oku le => k u eu oku le⟩
/-! .. as values -/
@[simp] def sAndV (x y : Sm) : Sm := fun ρ μ => (x ρ μ).bind fun p => match p.1 with
  | .d (.bool true) => y ρ p.2
  | .d (.bool false) => some (.d (.bool false), p.2)
  | _ => none
@[simp] def sOrV (x y : Sm) : Sm := fun ρ μ => (x ρ μ).bind fun p => match p.1 with
  | .d (.bool false) => y ρ p.2
  | .d (.bool true) => some (.d (.bool true), p.2)
  | _ => none
@[simp] def sNotV (x : Sb) : Sm := fun ρ μ => (x ρ μ).map fun p => (.d (.bool (!p.1)), p.2)
theorem pE_and {rest : List Expr} {x y : Sm} (ha : PE X a (tE X.K x)) (hb : PE X (.BoolOp .And (b :: rest) pos) (tE X.K y)) : PE X (.BoolOp .And (a :: b :: rest) pos) (tE X.K (sAndV x y)) :=
  pe_of (pe_and ha hb) fun σ H Q q => by
    obtain ⟨ρ, w, r, μ', e1, e2, ok, s, k⟩ := q
    obtain ⟨⟨p1, p2⟩, ea, e2⟩ := Option.bind_eq_some_iff.mp e2
    refine ⟨ρ, w, p1, p2, e1, ea, ok, s, fun u v eu oku le rp => ?_⟩
    subst eu
    split at e2
    · rename_i ee
      have ee : p1 = .d (.bool true) := ee
      subst ee
      cases rp
      refine ⟨true, rfl, ?_⟩
      rw [if_pos rfl]
      exact ⟨ρ, u, r, μ', rfl, e2, oku, s.mono le, Wish.to k le⟩
    · rename_i ee
      have ee : p1 = .d (.bool false) := ee
      subst ee
      cases rp
      cases e2
      refine ⟨false, rfl, ?_⟩
      rw [if_neg Bool.false_ne_true]
      exact k u _ rfl oku le (.bl _)
    · cases e2
theorem pE_or {rest : List Expr} {x y : Sm} (ha : PE X a (tE X.K x)) (hb : PE X (.BoolOp .Or (b :: rest) pos) (tE X.K y)) : PE X (.BoolOp .Or (a :: b :: rest) pos) (tE X.K (sOrV x y)) :=
  pe_of (pe_or ha hb) fun σ H Q q => by
    obtain ⟨ρ, w, r, μ', e1, e2, ok, s, k⟩ := q
    obtain ⟨⟨p1, p2⟩, ea, e2⟩ := Option.bind_eq_some_iff.mp e2
    refine ⟨ρ, w, p1, p2, e1, ea, ok, s, fun u v eu oku le rp => ?_⟩
    subst eu
    split at e2
    · rename_i ee
      have ee : p1 = .d (.bool false) := ee
      subst ee
      cases rp
      refine ⟨false, rfl, ?_⟩
      rw [if_neg Bool.false_ne_true]
      exact ⟨ρ, u, r, μ', rfl, e2, oku, s.mono le, Wish.to k le⟩
    · rename_i ee
      have ee : p1 = .d (.bool true) := ee
      subst ee
      cases rp
      cases e2
      refine ⟨true, rfl, ?_⟩
      rw [if_pos rfl]
      exact k u _ rfl oku le (.bl _)
    · cases e2
/-- not a, as a value, of a bool -/
@[simp] def sNotB (x : Sm) : Sm := fun ρ μ => (x ρ μ).bind fun p => match p.1 with
  | .d (.bool k) => some (.d (.bool (!k)), p.2)
  | _ => none
theorem pE_not {x : Sm} (ha : PE X a (tE X.K x)) : PE X (.UnaryOp .Not a pos) (tE X.K (sNotB x)) :=
  pe_of (pe_not ha) fun σ H Q q => by
    obtain ⟨ρ, w, r, μ', e1, e2, ok, s, k⟩ := q
    obtain ⟨⟨p1, p2⟩, ea, e2⟩ := Option.bind_eq_some_iff.mp e2
    refine ⟨ρ, w, p1, p2, e1, ea, ok, s, fun u v eu oku le rp => ?_⟩
    split at e2
    · rename_i kk ee
      have ee : p1 = .d (.bool kk) := ee
      subst ee
      cases rp
      cases e2
      exact ⟨_, rfl, k u _ eu oku le (.bl _)⟩
    · cases e2
@[simp] def sIfE (t : Sb) (x y : Sm) : Sm := fun ρ μ => (t ρ μ).bind fun p => if p.1 then x ρ p.2 else y ρ p.2
theorem pE_ifE {t : Sb} {x y : Sm} (hc : PT X c (tB X.K t)) (ha : PE X a (tE X.K x)) (hb : PE X b (tE X.K y)) : PE X (.IfExp c a b pos) (tE X.K (sIfE t x y)) :=
  pe_of (pe_ifExp hc ha hb) fun σ H Q q => by
    obtain ⟨ρ, w, r, μ', e1, e2, ok, s, k⟩ := q
    obtain ⟨⟨p1, p2⟩, ea, e2⟩ := Option.bind_eq_some_iff.mp e2
    refine ⟨ρ, w, p1, p2, e1, ea, ok, s, fun u eu oku le => ?_⟩
    subst eu
    cases p1 with
    | true =>
      rw [if_pos rfl]
      exact ⟨ρ, u, r, μ', rfl, e2, oku, s.mono le, Wish.to k le⟩
    | false =>
      rw [if_neg Bool.false_ne_true]
      exact ⟨ρ, u, r, μ', rfl, e2, oku, s.mono le, Wish.to k le⟩

/-! ### isinstance -/
inductive Tn where | int | bool | tuple | str
def Tn.nm : Tn → String
  | .int => "int" | .bool => "bool" | .tuple => "tuple" | .str => "str"
@[simp] def isT : PyData → Tn → Option Bool
  | .none, _ => some false
  | .bool _, .int => some true
  | .bool _, .bool => some true
  | .bool _, _ => some false
  | .int _, .int => some true
  | .int _, _ => some false
  | .str _, .str => some true
  | .str _, _ => some false
  | .list _, _ => some false
  | .tuple _, .tuple => some true
  | .tuple _, _ => some false
  | .dict _, _ => none
@[simp] def fIsi (T : Tn) : F1 := fun μ x => (rd μ x).bind fun d => (isT d T).map fun b => (.d (.bool b), μ)
theorem isi_prem {K : PySem.W.Frag} {w : Wd} {v : V} {d : PyData} {T : Tn} {b : Bool} (h : RpT w.F w.H v d) (e : isT d T = some b) : ∃ t, TyX K w.H v t ∧ PySem.W.kitOne K t (.type T.nm) = some b := by
  cases d with
  | none => cases h; cases e; exact ⟨_, .base .non, kit_ty (by cases T <;> decide +kernel)⟩
  | bool k => cases h; refine ⟨_, .base (.bl _), kit_ty ?_⟩; cases T <;> cases e <;> decide +kernel
  | int k => cases h; refine ⟨_, .base (.int _), kit_ty ?_⟩; cases T <;> cases e <;> decide +kernel
  | str k => cases h; refine ⟨_, .base (.str _), kit_ty ?_⟩; cases T <;> cases e <;> decide +kernel
  | list ds =>
    obtain ⟨a, xs, h1, h2, h3⟩ := h
    subst h1
    cases e
    exact ⟨_, .base (.lst h2), kit_ty (by cases T <;> decide +kernel)⟩
  | tuple ds =>
    obtain ⟨a, xs, h1, h2, h3⟩ := h
    subst h1
    refine ⟨_, .base (.tup h2), kit_ty ?_⟩
    cases T <;> cases e <;> decide +kernel
  | dict es => cases e
theorem pE_isi {T : Tn} {m : Sm} {tn : Str} {p p2 : Pos} (ha : PE X a (tE X.K m)) (hg : Gl X "isinstance") (hm : X.mg "isinstance" = none) (hg2 : Gl X tn) (hm2 : X.mg tn = none) (hb : bootBuiltins tn = some (.type T.nm))
    (hn : tn ≠ "__name__" := by decide) (hd : (tn == ("__debug__" : Str)) = false := by decide)
    (he : starEach [a, .Name tn p2] X.env = (false, eval a X.env) :: starEach [.Name tn p2] X.env := by rfl) (he2 : starEach [.Name tn p2] X.env = (false, eval (.Name tn p2) X.env) :: starEach [] X.env := by rfl)
    (hpl : (backTo pos (starEach [.Name tn p2] X.env)).any (·.1) = false := by rfl) : PE X (.Call (.Name "isinstance" p) [a, .Name tn p2] [] pos) (tE X.K (s1 (fIsi T) m)) := by
  have hT : PE X (.Name tn p2) (tC (.ty T.nm)) := pe_bltn hg2 hm2 hb (v := V.ty T.nm) rfl hn hd
  refine pe_of (pe_callB call_isi hg hm (by decide +kernel) (pa_cons ha (pa_cons hT pa_nil he2) he) (by decide) (by decide) he hpl) fun σ H Q q => ?_
  have := one_run (K := X.K) (t := fun v H1 Q1 => rIsi X.K [v, .ty T.nm] H1 Q1) ?_ q
  · exact this
  · intro w x v r μ' Q e ok rx k
    obtain ⟨d, ed, e⟩ := Option.bind_eq_some_iff.mp e
    obtain ⟨b, eb, e⟩ := Option.map_eq_some_iff.mp e
    cases e
    obtain ⟨t, h1, h2⟩ := isi_prem (K := X.K) (RpR.rd ok rx ed) eb
    exact ⟨v, .ty T.nm, t, .type T.nm, b, rfl, .ty _, h1, h2, Wish.here k ok (.bl _)⟩

/-! ### slices -/
abbrev So := Ro → Mu → Option (Option Int × Mu)
def tOp' (K : PySem.W.Frag) (m : So) : TO := fun σ H Q => ∃ (ρ : Ro) (w : Wd) (r : Option Int) (μ' : Mu), w.H = H ∧ m ρ w.μ = some (r, μ') ∧ w.Ok ∧ Slots K ρ w σ ∧ ∀ (u : Wd), u.μ = μ' → u.Ok → w.le u → Q r u.H
@[simp] def sNoP : So := fun _ μ => some (none, μ)
@[simp] def sPart (m : Sm) : So := fun ρ μ => (m ρ μ).bind fun p => match p.1 with
  | .d (.int i) => some (some i, p.2)
  | _ => none
theorem po_of {oe : Option Expr} {t t' : TO} (h : PO X oe t) (i : ∀ σ H Q, t' σ H Q → t σ H Q) : PO X oe t' := ⟨fun pins s σ H Q I hw => h.run pins s σ H Q I (i _ _ _ hw)⟩
theorem pO_none : PO X none (tOp' X.K sNoP) := po_of po_none fun σ H Q q => by
  obtain ⟨ρ, w, r, μ', e1, e2, ok, s, k⟩ := q
  cases e2
  exact e1 ▸ k w rfl ok (.refl w)
theorem pO_some {m : Sm} (h : PE X e (tE X.K m)) : PO X (some e) (tOp' X.K (sPart m)) := po_of (po_some h) fun σ H Q q => by
  obtain ⟨ρ, w, r, μ', e1, e2, ok, s, k⟩ := q
  obtain ⟨⟨p1, p2⟩, ea, e2⟩ := Option.bind_eq_some_iff.mp e2
  refine ⟨ρ, w, p1, p2, e1, ea, ok, s, fun u v eu oku le rp => ?_⟩
  split at e2
  · rename_i i ee
    have ee : p1 = .d (.int i) := ee
    subst ee
    cases rp
    cases e2
    exact ⟨_, rfl, k u eu oku le⟩
  · cases e2
/-- the items of xs[lo:hi] -/
def cutG {α : Type} (xs : List α) (lo hi : Option Int) : List α := (xs.drop (HT.sIx xs.length 0 lo)).take (HT.sIx xs.length xs.length hi - HT.sIx xs.length 0 lo)
theorem RpAll.cut {F : Hp} {vs : List V} {ds : List PyData} (h : RpAll F vs ds) (lo hi : Option Int) : RpAll F (cutV vs lo hi) (cutG ds lo hi) := by
  unfold cutV cutG
  rw [h.length]
  exact (h.drop _).take _
@[simp] def fSl (b : Bool) (μ : Mu) (x : Rv) (lo hi : Option Int) : Option (Rv × Mu) := match rd μ x with
  | some (.list ds) => some (mkL b (cutG ds lo hi) μ)
  | some (.tuple ds) => match x with
    | .d _ => some (.d (.tuple (cutG ds lo hi)), μ)
    | _ => none
  | _ => none
@[simp] def sSl (b : Bool) (m : Sm) (lo hi : So) : Sm := fun ρ μ => (m ρ μ).bind fun p => (lo ρ p.2).bind fun q => (hi ρ q.2).bind fun z => fSl b z.2 p.1 q.1 z.1
theorem cut_whole {α : Type} {xs : List α} {lo hi : Option Int} (h : HT.sIx xs.length 0 lo = 0 ∧ HT.sIx xs.length xs.length hi = xs.length) : cutG xs lo hi = xs := by
  unfold cutG
  rw [h.1, h.2, Nat.sub_zero, List.drop_zero, List.take_length]
theorem pE_sl {fl : Bool} {m : Sm} {lo hi : So} {elo ehi : Option Expr} {p2 : Pos} (he : PE X e (tE X.K m)) (hl : PO X elo (tOp' X.K lo)) (hh : PO X ehi (tOp' X.K hi)) : PE X (.Subscript e (.Slice elo ehi none p2) pos) (tE X.K (sSl fl m lo hi)) := by
  refine pe_of (pe_slice (SlR.or sl_list sl_tupA) he hl hh) fun σ H Q q => ?_
  obtain ⟨ρ, w, r, μ', e1, e2, ok, s, k⟩ := q
  obtain ⟨⟨p1, pm⟩, ea, e2⟩ := Option.bind_eq_some_iff.mp e2
  obtain ⟨⟨q1, qm⟩, eb, e2⟩ := Option.bind_eq_some_iff.mp e2
  obtain ⟨⟨z1, zm⟩, ec, e2⟩ := Option.bind_eq_some_iff.mp e2
  refine ⟨ρ, w, p1, pm, e1, ea, ok, s, fun u v eu oku le rp => ?_⟩
  subst eu
  refine ⟨ρ, u, q1, qm, rfl, eb, oku, s.mono le, fun u2 eu2 oku2 le2 => ?_⟩
  subst eu2
  refine ⟨ρ, u2, z1, zm, rfl, ec, oku2, s.mono (le.trans le2), fun u3 eu3 oku3 le3 => ?_⟩
  subst eu3
  have rp3 := rp.mono (le2.trans le3)
  have k3 := Wish.to k (le.trans (le2.trans le3))
  have e3 : fSl fl u3.μ p1 q1 z1 = some (r, μ') := e2
  clear e2
  unfold fSl at e3
  split at e3
  · rename_i ds ex
    obtain ⟨a, xs, h1, h2, h3⟩ := RpR.rd oku3 rp3 ex
    exact .inl ⟨a, xs, h1, SqL.ofF h2, fun p hp => mkL_ok oku3 hp (h3.cut q1 z1) (by simpa using e3) k3⟩
  · rename_i ds ex
    split at e3
    · have ex := Option.some.inj (show some _ = some (PyData.tuple ds) from ex)
      subst ex
      cases e3
      obtain ⟨a, xs, h1, h2, h3⟩ := Rp.top rp3
      subst h1
      refine .inr ⟨a, xs, rfl, SqT.ofF h2, fun hw => ?_, fun _ p hp => mkT_ok oku3 hp (h3.cut q1 z1) k3⟩
      rw [h3.length] at hw
      rw [cut_whole hw] at k3
      exact Wish.here k3 oku3 rp3
    · cases e3
  · cases e3
/-- xs[::-1] of a list -/
@[simp] def fRevL (b : Bool) : F1 := fun μ x => match rd μ x with
  | some (.list ds) => some (mkL b ds.reverse μ)
  | _ => none
theorem pE_revL {fl : Bool} {m : Sm} {kk : Nat} {p1 p2 p3 : Pos} (he : PE X e (tE X.K m)) : PE X (.Subscript e (.Slice none none (some (.UnaryOp .USub (.Constant (.int 1) kk p1) p2)) p3) pos) (tE X.K (s1 (fRevL fl) m)) :=
  pe_of (pe_revL he) fun σ H Q q => one_run (t := fun x H1 Q => ∃ a xs, x = .ref a ∧ SqL X.K H1 a xs ∧ ∀ p, H1 p = none → Q (.ref p) (upd H1 p (.lst xs.reverse))) (by
    intro w x v r μ' Q e ok rx k
    unfold fRevL at e
    split at e
    · rename_i ds ex
      obtain ⟨a, xs, h1, h2, h3⟩ := RpR.rd ok rx ex
      exact ⟨a, xs, h1, SqL.ofF h2, fun p hp => mkL_ok ok hp h3.reverse (by simpa using e) k⟩
    · cases e) q
end

/-! ### built-in functions -/
def boolsOf : List PyData → Option (List Bool)
  | [] => some []
  | .bool b :: r => (boolsOf r).map (b :: ·)
  | _ :: _ => none
def intsOf : List PyData → Option (List Int)
  | [] => some []
  | .int b :: r => (intsOf r).map (b :: ·)
  | _ :: _ => none
theorem boolsOf_ok : ∀ {ds : List PyData} {bs : List Bool}, boolsOf ds = some bs → ds = bs.map .bool
  | [], _, e => by cases e; rfl
  | d :: r, bs, e => by
    unfold boolsOf at e
    split at e
    · rename_i h; cases h
    · rename_i b r' h
      cases h
      obtain ⟨cs, h1, h2⟩ := Option.map_eq_some_iff.mp e
      cases h2
      rw [boolsOf_ok h1]; rfl
    · cases e
theorem intsOf_ok : ∀ {ds : List PyData} {bs : List Int}, intsOf ds = some bs → ds = bs.map .int
  | [], _, e => by cases e; rfl
  | d :: r, bs, e => by
    unfold intsOf at e
    split at e
    · rename_i h; cases h
    · rename_i b r' h
      cases h
      obtain ⟨cs, h1, h2⟩ := Option.map_eq_some_iff.mp e
      cases h2
      rw [intsOf_ok h1]; rfl
    · cases e
@[simp] theorem boolsOf_map (bs : List Bool) : boolsOf (bs.map .bool) = some bs := by
  induction bs with
  | nil => rfl
  | cons b r ih => show (boolsOf (r.map .bool)).map (b :: ·) = _; rw [ih]; rfl
@[simp] theorem intsOf_map (bs : List Int) : intsOf (bs.map .int) = some bs := by
  induction bs with
  | nil => rfl
  | cons b r ih => show (intsOf (r.map .int)).map (b :: ·) = _; rw [ih]; rfl
/-- one list as the argument -/
@[simp] def listOf (μ : Mu) : List Rv → Option (List PyData)
  | [x] => match rd μ x with
    | some (.list ds) => some ds
    | _ => none
  | _ => none
theorem listOf_ok {K : PySem.W.Frag} {w : Wd} (ok : w.Ok) {rs : List Rv} {vs : List V} {ds : List PyData} (h : RpRs K w rs vs) (e : listOf w.μ rs = some ds) : ∃ a xs, vs = [.ref a] ∧ w.H a = some (.lst xs) ∧ RpAll w.F xs ds := by
  unfold listOf at e
  split at e
  · rename_i x
    obtain ⟨v, rfl, rv⟩ := Paired.one h
    split at e
    · rename_i es ex
      cases e
      obtain ⟨a, xs, h1, h2, h3⟩ := RpR.rd ok rv ex
      subst h1
      exact ⟨a, xs, rfl, h2, h3⟩
    · cases e
  · cases e
@[simp] def fAll : FA := fun μ rs => (listOf μ rs).bind fun ds => (boolsOf ds).map fun bs => (.d (.bool (bs.all id)), μ)
theorem opA_all {K : PySem.W.Frag} : OpA K fAll (rAll K) := by
  intro w rs vs r μ' Q e ok rp k
  obtain ⟨ds, e1, e⟩ := Option.bind_eq_some_iff.mp e
  obtain ⟨bs, e2, e⟩ := Option.map_eq_some_iff.mp e
  cases e
  obtain ⟨a, xs, h1, h2, h3⟩ := listOf_ok ok rp e1
  rw [boolsOf_ok e2] at h3
  rw [h3.bools] at h2
  exact ⟨a, bs, h1, SqL.ofF h2, Wish.here k ok (.bl _)⟩
@[simp] def fSum : FA := fun μ rs => (listOf μ rs).bind fun ds => (intsOf ds).map fun bs => (.d (.int bs.sum), μ)
theorem opA_sum {K : PySem.W.Frag} : OpA K fSum (rSum K) := by
  intro w rs vs r μ' Q e ok rp k
  obtain ⟨ds, e1, e⟩ := Option.bind_eq_some_iff.mp e
  obtain ⟨bs, e2, e⟩ := Option.map_eq_some_iff.mp e
  cases e
  obtain ⟨a, xs, h1, h2, h3⟩ := listOf_ok ok rp e1
  rw [intsOf_ok e2] at h3
  rw [h3.ints] at h2
  exact ⟨a, bs, h1, SqL.ofF h2, Wish.here k ok (.int _)⟩
/-- the least, the greatest -/
def minI : List Int → Option Int
  | [] => none
  | x :: r => some (r.foldl min x)
def maxI : List Int → Option Int
  | [] => none
  | x :: r => some (r.foldl max x)
theorem foldl_min (r : List Int) : ∀ x : Int, (r.foldl min x ∈ x :: r) ∧ ∀ y ∈ x :: r, r.foldl min x ≤ y := by
  induction r with
  | nil => intro x; simp
  | cons z r ih =>
    intro x
    obtain ⟨h1, h2⟩ := ih (min x z)
    rw [List.foldl_cons]
    refine ⟨?_, fun y hy => ?_⟩
    · rcases List.mem_cons.mp h1 with e | h
      · rw [e]
        rcases Int.le_total x z with h | h
        · rw [Int.min_eq_left h]; simp
        · rw [Int.min_eq_right h]; simp
      · exact List.mem_cons_of_mem _ (List.mem_cons_of_mem _ h)
    · have h3 := h2 (min x z) (by simp)
      rcases List.mem_cons.mp hy with e | h
      · subst e; exact Int.le_trans h3 (Int.min_le_left _ _)
      · rcases List.mem_cons.mp h with e | h
        · subst e; exact Int.le_trans h3 (Int.min_le_right _ _)
        · exact h2 y (List.mem_cons_of_mem _ h)
theorem foldl_max (r : List Int) : ∀ x : Int, (r.foldl max x ∈ x :: r) ∧ ∀ y ∈ x :: r, y ≤ r.foldl max x := by
  induction r with
  | nil => intro x; simp
  | cons z r ih =>
    intro x
    obtain ⟨h1, h2⟩ := ih (max x z)
    rw [List.foldl_cons]
    refine ⟨?_, fun y hy => ?_⟩
    · rcases List.mem_cons.mp h1 with e | h
      · rw [e]
        rcases Int.le_total x z with h | h
        · rw [Int.max_eq_right h]; simp
        · rw [Int.max_eq_left h]; simp
      · exact List.mem_cons_of_mem _ (List.mem_cons_of_mem _ h)
    · have h3 := h2 (max x z) (by simp)
      rcases List.mem_cons.mp hy with e | h
      · subst e; exact Int.le_trans (Int.le_max_left _ _) h3
      · rcases List.mem_cons.mp h with e | h
        · subst e; exact Int.le_trans (Int.le_max_right _ _) h3
        · exact h2 y (List.mem_cons_of_mem _ h)
theorem minI_ok {ns : List Int} {n : Int} (h : minI ns = some n) : n ∈ ns ∧ ∀ y ∈ ns, n ≤ y := by
  cases ns with
  | nil => cases h
  | cons x r => cases h; exact foldl_min r x
theorem maxI_ok {ns : List Int} {n : Int} (h : maxI ns = some n) : n ∈ ns ∧ ∀ y ∈ ns, y ≤ n := by
  cases ns with
  | nil => cases h
  | cons x r => cases h; exact foldl_max r x
@[simp] def fMin : FA := fun μ rs => match rs with
  | [.d (.int i), .d (.int j)] => some (.d (.int (if j < i then j else i)), μ)
  | rs => (listOf μ rs).bind fun ds => (intsOf ds).bind fun bs => (minI bs).map fun n => (.d (.int n), μ)
@[simp] def fMax : FA := fun μ rs => match rs with
  | [.d (.int i), .d (.int j)] => some (.d (.int (if j > i then j else i)), μ)
  | rs => (listOf μ rs).bind fun ds => (intsOf ds).bind fun bs => (maxI bs).map fun n => (.d (.int n), μ)
theorem opA_min {K : PySem.W.Frag} : OpA K fMin (fun xs H Q => (∃ i j, xs = [.int i, .int j] ∧ Q (.int (if j < i then j else i)) H) ∨ rMin K xs H Q) := by
  intro w rs vs r μ' Q e ok rp k
  unfold fMin at e
  split at e
  · rename_i i j
    obtain ⟨v, z, rfl, r1, r2⟩ := Paired.two rp
    cases e
    cases r1
    cases r2
    exact .inl ⟨_, _, rfl, Wish.here k ok (.int _)⟩
  · obtain ⟨ds, e1, e⟩ := Option.bind_eq_some_iff.mp e
    obtain ⟨bs, e2, e⟩ := Option.bind_eq_some_iff.mp e
    obtain ⟨n, e3, e⟩ := Option.map_eq_some_iff.mp e
    cases e
    obtain ⟨a, xs, h1, h2, h3⟩ := listOf_ok ok rp e1
    rw [intsOf_ok e2] at h3
    rw [h3.ints] at h2
    obtain ⟨m1, m2⟩ := minI_ok e3
    refine .inr ⟨a, bs, h1, SqL.ofF h2, List.length_pos_of_mem m1, fun m hm hall => ?_⟩
    have : m = n := Int.le_antisymm (hall n m1) (m2 m hm)
    subst this
    exact Wish.here k ok (.int _)
theorem opA_max {K : PySem.W.Frag} : OpA K fMax (fun xs H Q => (∃ i j, xs = [.int i, .int j] ∧ Q (.int (if j > i then j else i)) H) ∨ rMax K xs H Q) := by
  intro w rs vs r μ' Q e ok rp k
  unfold fMax at e
  split at e
  · rename_i i j
    obtain ⟨v, z, rfl, r1, r2⟩ := Paired.two rp
    cases e
    cases r1
    cases r2
    exact .inl ⟨_, _, rfl, Wish.here k ok (.int _)⟩
  · obtain ⟨ds, e1, e⟩ := Option.bind_eq_some_iff.mp e
    obtain ⟨bs, e2, e⟩ := Option.bind_eq_some_iff.mp e
    obtain ⟨n, e3, e⟩ := Option.map_eq_some_iff.mp e
    cases e
    obtain ⟨a, xs, h1, h2, h3⟩ := listOf_ok ok rp e1
    rw [intsOf_ok e2] at h3
    rw [h3.ints] at h2
    obtain ⟨m1, m2⟩ := maxI_ok e3
    refine .inr ⟨a, bs, h1, SqL.ofF h2, List.length_pos_of_mem m1, fun m hm hall => ?_⟩
    have : m = n := Int.le_antisymm (m2 m hm) (hall n m1)
    subst this
    exact Wish.here k ok (.int _)
theorem call_minU {X : Cx} (hc : X.calm = true) : CallR X (.builtin "min") (fun xs H Q => (∃ i j, xs = [.int i, .int j] ∧ Q (.int (if j < i then j else i)) H) ∨ rMin X.K xs H Q) := CallR.or (call_min2 hc) (cr_min hc)
theorem call_maxU {X : Cx} (hc : X.calm = true) : CallR X (.builtin "max") (fun xs H Q => (∃ i j, xs = [.int i, .int j] ∧ Q (.int (if j > i then j else i)) H) ∨ rMax X.K xs H Q) := CallR.or (call_max2 hc) (cr_max hc)
/-- tuple(x), list(x) of a list or tuple -/
@[simp] def fTupOf : FA := fun μ rs => match rs with
  | [x] => match rd μ x with
    | some (.list ds) => some (.d (.tuple ds), μ)
    | some (.tuple ds) => match x with
      | .d _ => some (.d (.tuple ds), μ)
      | _ => none
    | _ => none
  | _ => none
theorem opA_tupOf {K : PySem.W.Frag} : OpA K fTupOf (fun xs H Q => ∃ p ys, xs = [.ref p] ∧ ((SqL K H p ys ∧ ∀ l, H l = none → Q (.ref l) (upd H l (.tup ys))) ∨ (SqT K H p ys ∧ Q (.ref p) H))) := by
  intro w rs vs r μ' Q e ok rp k
  unfold fTupOf at e
  split at e
  · rename_i x
    obtain ⟨v, rfl, rv⟩ := Paired.one rp
    split at e
    · rename_i ds ex
      cases e
      obtain ⟨a, xs, h1, h2, h3⟩ := RpR.rd ok rv ex
      subst h1
      exact ⟨a, xs, rfl, .inl ⟨SqL.ofF h2, fun p hp => mkT_ok ok hp h3 k⟩⟩
    · rename_i ds ex
      split at e
      · rename_i dx
        have ex : some dx = some (PyData.tuple ds) := ex
        cases ex
        cases e
        obtain ⟨a, xs, h1, h2, h3⟩ := Rp.top rv
        subst h1
        exact ⟨a, xs, rfl, .inr ⟨SqT.ofF h2, Wish.here k ok rv⟩⟩
      · cases e
    · cases e
  · cases e
@[simp] def fLstOf (b : Bool) : FA := fun μ rs => match rs with
  | [x] => match (rd μ x).bind itemsD with
    | some ds => some (mkL b ds μ)
    | _ => none
  | _ => none
theorem opA_lstOf {K : PySem.W.Frag} {b : Bool} : OpA K (fLstOf b) (fun xs H Q => ∃ p ys, xs = [.ref p] ∧ (SqL K H p ys ∨ SqT K H p ys) ∧ ∀ l, H l = none → Q (.ref l) (upd H l (.lst ys))) := by
  intro w rs vs r μ' Q e ok rp k
  unfold fLstOf at e
  split at e
  · rename_i x
    obtain ⟨v, rfl, rv⟩ := Paired.one rp
    split at e
    · rename_i ds ex
      obtain ⟨d, ed, ei⟩ := Option.bind_eq_some_iff.mp ex
      have hz := RpR.rd ok rv ed
      cases d with
      | list es =>
        cases ei
        obtain ⟨p, xs, h1, h2, h3⟩ := hz
        subst h1
        exact ⟨p, xs, rfl, .inl (SqL.ofF h2), fun l hl => mkL_ok ok hl h3 (by simpa using e) k⟩
      | tuple es =>
        cases ei
        obtain ⟨p, xs, h1, h2, h3⟩ := hz
        subst h1
        exact ⟨p, xs, rfl, .inr (SqT.ofF h2), fun l hl => mkL_ok ok hl h3 (by simpa using e) k⟩
      | _ => cases ei
    · cases e
  · cases e
/-- int(x) of an int, a bool -/
@[simp] def fInt : FA := fun μ rs => match rs with
  | [.d (.int i)] => some (.d (.int i), μ)
  | [.d (.bool k)] => some (.d (.int (if k then 1 else 0)), μ)
  | _ => none
theorem opA_int {K : PySem.W.Frag} : OpA K fInt (fun xs H Q => (∃ i, xs = [.int i] ∧ Q (.int i) H) ∨ ∃ k, xs = [.bl k] ∧ Q (.int (if k then 1 else 0)) H) := by
  intro w rs vs r μ' Q e ok rp k
  unfold fInt at e
  split at e
  · obtain ⟨v, rfl, rv⟩ := Paired.one rp
    cases rv
    cases e
    exact .inl ⟨_, rfl, Wish.here k ok (.int _)⟩
  · obtain ⟨v, rfl, rv⟩ := Paired.one rp
    cases rv
    cases e
    exact .inr ⟨_, rfl, Wish.here k ok (.int _)⟩
  · cases e
end Sh
set_option Elab.async false
set_option linter.all false
set_option maxRecDepth 100000
namespace Sh
open PySem L2

/-! ### statements -/
inductive Fl where
  | nx | bk | ct
  | rt (r : Rv)
abbrev Ss := Ro → Mu → Option (Fl × Ro × Mu)
def FlEnd (K : PySem.W.Frag) (D : Ends) (u : Wd) (σ : L2.St) : Fl → Prop
  | .nx => D.nx σ u.H
  | .bk => D.bk σ u.H
  | .ct => D.ct σ u.H
  | .rt r => ∀ v, RpR K u r v → D.rt v u.H
def tS (K : PySem.W.Frag) (m : Ss) : TS := fun D σ H => ∃ (ρ : Ro) (w : Wd) (f : Fl) (ρ' : Ro) (μ' : Mu), w.H = H ∧ m ρ w.μ = some (f, ρ', μ') ∧ w.Ok ∧ Slots K ρ w σ ∧
  ∀ (u : Wd) (σ' : L2.St), u.μ = μ' → u.Ok → w.le u → Slots K ρ' u σ' → FlEnd K D u σ' f
section
variable {X : Cx} {pos : Pos}
@[simp] def sSkip : Ss := fun ρ μ => some (.nx, ρ, μ)
@[simp] def sSeq (a b : Ss) : Ss := fun ρ μ => (a ρ μ).bind fun p => match p.1 with
  | .nx => b p.2.1 p.2.2
  | f => some (f, p.2.1, p.2.2)
theorem skip_run {K : PySem.W.Frag} {D : Ends} {σ : L2.St} {H : Hp} (q : tS K sSkip D σ H) : D.nx σ H := by
  obtain ⟨ρ, w, f, ρ', μ', e1, e2, ok, s, k⟩ := q
  cases e2
  exact e1 ▸ k w σ rfl ok (.refl w) s
theorem pSs_nil : PSs X [] (tS X.K sSkip) := pss_of pss_nil fun D σ H q => skip_run q
theorem pSs_cons {st : Stmt} {rest : List Stmt} {a b : Ss} (h1 : PS X st (tS X.K a)) (h2 : PSs X rest (tS X.K b)) : PSs X (st :: rest) (tS X.K (sSeq a b)) := by
  refine pss_of (pss_cons h1 h2) fun D σ H q => ?_
  obtain ⟨ρ, w, f, ρ', μ', e1, e2, ok, s, k⟩ := q
  obtain ⟨⟨p1, p2, p3⟩, ea, e2⟩ := Option.bind_eq_some_iff.mp e2
  refine ⟨ρ, w, p1, p2, p3, e1, ea, ok, s, fun u σ' eu oku le su => ?_⟩
  subst eu
  cases p1 with
  | nx => exact ⟨p2, u, f, ρ', μ', rfl, e2, oku, su, fun z σ2 ez okz lez sz => k z σ2 ez okz (le.trans lez) sz⟩
  | bk => cases e2; exact k u σ' rfl oku le su
  | ct => cases e2; exact k u σ' rfl oku le su
  | rt r => cases e2; exact k u σ' rfl oku le su
theorem pSs_one {st : Stmt} {a : Ss} (h1 : PS X st (tS X.K a)) : PSs X [st] (tS X.K a) := pss_of (pss_one h1) fun D σ H q => q
theorem pS_pass : PS X (.Pass pos) (tS X.K sSkip) := ps_of ps_pass fun D σ H q => skip_run q
@[simp] def sBrk : Ss := fun ρ μ => some (.bk, ρ, μ)
@[simp] def sCnt : Ss := fun ρ μ => some (.ct, ρ, μ)
theorem pS_brk : PS X (.Break pos) (tS X.K sBrk) := ps_of ps_break fun D σ H q => by
  obtain ⟨ρ, w, f, ρ', μ', e1, e2, ok, s, k⟩ := q
  cases e2
  exact e1 ▸ k w σ rfl ok (.refl w) s
theorem pS_cnt : PS X (.Continue pos) (tS X.K sCnt) := ps_of ps_continue fun D σ H q => by
  obtain ⟨ρ, w, f, ρ', μ', e1, e2, ok, s, k⟩ := q
  cases e2
  exact e1 ▸ k w σ rfl ok (.refl w) s
@[simp] def sExpr (m : Sm) : Ss := fun ρ μ => (m ρ μ).map fun p => (.nx, ρ, p.2)
theorem pS_expr {e : Expr} {m : Sm} (he : PE X e (tE X.K m)) (hs : swapsWith e none pos.line X.env = pure false := by rfl) : PS X (.Expr e pos) (tS X.K (sExpr m)) :=
  ps_of (ps_expr he hs) fun D σ H q => by
    obtain ⟨ρ, w, f, ρ', μ', e1, e2, ok, s, k⟩ := q
    obtain ⟨⟨p1, p2⟩, ea, e2⟩ := Option.map_eq_some_iff.mp e2
    cases e2
    exact ⟨ρ, w, p1, p2, e1, ea, ok, s, fun u v eu oku le rp => k u σ eu oku le (s.mono le)⟩
@[simp] def sRet (m : Sm) : Ss := fun ρ μ => (m ρ μ).map fun p => (.rt p.1, ρ, p.2)
theorem pS_ret {e : Expr} {m : Sm} (he : PE X e (tE X.K m)) : PS X (.Return (some e) pos) (tS X.K (sRet m)) :=
  ps_of (ps_ret he) fun D σ H q => by
    obtain ⟨ρ, w, f, ρ', μ', e1, e2, ok, s, k⟩ := q
    obtain ⟨⟨p1, p2⟩, ea, e2⟩ := Option.map_eq_some_iff.mp e2
    cases e2
    exact ⟨ρ, w, p1, p2, e1, ea, ok, s, fun u v eu oku le rp => k u σ eu oku le (s.mono le) v rp⟩
@[simp] def sRetN : Ss := fun ρ μ => some (.rt (.d .none), ρ, μ)
theorem pS_retN : PS X (.Return none pos) (tS X.K sRetN) := ps_of ps_retN fun D σ H q => by
  obtain ⟨ρ, w, f, ρ', μ', e1, e2, ok, s, k⟩ := q
  cases e2
  exact e1 ▸ k w σ rfl ok (.refl w) s _ .non
@[simp] def sIf (t : Sb) (a b : Ss) : Ss := fun ρ μ => (t ρ μ).bind fun p => if p.1 then a ρ p.2 else b ρ p.2
theorem pS_if {c : Expr} {xs ys : List Stmt} {t : Sb} {a b : Ss} (hc : PT X c (tB X.K t)) (ha : PSs X xs (tS X.K a)) (hb : PSs X ys (tS X.K b)) : PS X (.If c xs ys pos) (tS X.K (sIf t a b)) :=
  ps_of (ps_if hc ha hb) fun D σ H q => by
    obtain ⟨ρ, w, f, ρ', μ', e1, e2, ok, s, k⟩ := q
    obtain ⟨⟨p1, p2⟩, ea, e2⟩ := Option.bind_eq_some_iff.mp e2
    refine ⟨ρ, w, p1, p2, e1, ea, ok, s, fun u eu oku le => ?_⟩
    subst eu
    have k' : ∀ (z : Wd) (σ' : L2.St), z.μ = μ' → z.Ok → u.le z → Slots X.K ρ' z σ' → FlEnd X.K D z σ' f := fun z σ2 ez okz lez sz => k z σ2 ez okz (le.trans lez) sz
    cases p1 with
    | true =>
      rw [if_pos rfl]
      exact ⟨ρ, u, f, ρ', μ', rfl, e2, oku, s.mono le, k'⟩
    | false =>
      rw [if_neg Bool.false_ne_true]
      exact ⟨ρ, u, f, ρ', μ', rfl, e2, oku, s.mono le, k'⟩

/-! ### targets -/
inductive Tg where
  | nm (i : Nat)
  | tp (is : List Nat)
@[simp] def sets {α : Type} : List (Option α) → List Nat → List α → List (Option α)
  | ρ, i :: is, x :: xs => sets (ρ.set i (some x)) is xs
  | ρ, _, _ => ρ
@[simp] def Tg.put (t : Tg) (d : PyData) (ρ : Ro) : Option Ro := match t with
  | .nm i => some (ρ.set i (some (.d d)))
  | .tp is => match d with
    | .tuple ds => if ds.length = is.length then some (sets ρ is (ds.map .d)) else none
    | _ => none
def gNames : List Nat → TGs
  | [] => gNil
  | i :: is => gCons (gName i) (gNames is)
def gT (K : PySem.W.Frag) : Tg → TG
  | .nm i => gName i
  | .tp is => gTup K is.length (gNames is)
theorem gNames_run : ∀ (is : List Nat) (xs : List V) (σ : L2.St) (H : Hp) (Q : L2.St → Hp → Prop), xs.length = is.length → Q (sets σ is xs) H → gNames is xs σ H Q
  | [], [], _, _, _, _, q => ⟨rfl, q⟩
  | i :: is, x :: xs, σ, H, Q, h, q => ⟨x, xs, rfl, gNames_run is xs _ H Q (by simpa using h) q⟩
theorem Slots.sets {K : PySem.W.Frag} {w : Wd} : ∀ (is : List Nat) (ds : List PyData) (xs : List V) {ρ : Ro} {σ : L2.St}, Slots K ρ w σ → RpAll w.F xs ds → Slots K (Sh.sets ρ is (ds.map .d)) w (Sh.sets σ is xs)
  | [], _, _, _, _, s, _ => by unfold Sh.sets; exact s
  | i :: is, _, _, _, _, s, .nil => by unfold Sh.sets; exact s
  | i :: is, _ :: ds, _ :: xs, ρ, σ, s, .cons r t => Slots.sets is ds xs (s.set (r := .d _) r i) t
def Tg.slots : Tg → List Nat
  | .nm i => [i]
  | .tp is => is
theorem gT_run {K : PySem.W.Frag} {t : Tg} {d : PyData} {v : V} {w : Wd} {ρ ρ' : Ro} {σ : L2.St} {Q : L2.St → Hp → Prop} (e : t.put d ρ = some ρ') (r : Rp w.F v d) (s : Slots K ρ w σ) (k : ∀ xs, Slots K ρ' w (sets σ t.slots xs) → Q (sets σ t.slots xs) w.H) : gT K t v σ w.H Q := by
  cases t with
  | nm i =>
    cases e
    exact k [v] (s.set (r := .d d) r i)
  | tp is =>
    cases d with
    | tuple ds =>
      have e : (if ds.length = is.length then some (sets ρ is (ds.map .d)) else none) = some ρ' := e
      split at e
      · rename_i hl
        cases e
        obtain ⟨a, xs, h1, h2, h3⟩ := Rp.top r
        exact ⟨a, xs, h1, SqT.ofF h2, h3.length.trans hl, gNames_run is xs σ w.H Q (h3.length.trans hl) (k xs (s.sets is ds xs h3))⟩
      · cases e
    | _ => cases e
/-- name, .. = e -/
@[simp] def sAsg (m : Sm) (t : Tg) : Ss := fun ρ μ => (m ρ μ).bind fun p => match t, p.1 with
  | .nm i, r => some (.nx, ρ.set i (some r), p.2)
  | .tp is, .d d => (Tg.put (.tp is) d ρ).map fun ρ' => (.nx, ρ', p.2)
  | _, _ => none
theorem asg_run {K : PySem.W.Frag} {m : Sm} {t : Tg} {D : Ends} {σ : L2.St} {H : Hp} (q : tS K (sAsg m t) D σ H) : tAsg (tE K m) (gT K t) D σ H := by
  obtain ⟨ρ, w, f, ρ', μ', e1, e2, ok, s, k⟩ := q
  obtain ⟨⟨p1, p2⟩, ea, e2⟩ := Option.bind_eq_some_iff.mp e2
  refine ⟨ρ, w, p1, p2, e1, ea, ok, s, fun u v eu oku le rp => ?_⟩
  subst eu
  cases t with
  | nm i =>
    cases e2
    exact k u _ rfl oku le ((s.mono le).set rp i)
  | tp is =>
    cases p1 with
    | d x =>
      obtain ⟨ρ2, e3, e2⟩ := Option.map_eq_some_iff.mp e2
      cases e2
      exact gT_run e3 rp (s.mono le) fun xs sx => k u _ rfl oku le sx
    | _ => cases e2
theorem pS_set {i : Nat} {x : Str} {e : Expr} {m : Sm} {pos' : Pos} (hN : X.N.Nodup) (hi : X.N[i]? = some x) (hx : Loc X.env.scope x) (he : PE X e (tE X.K m)) (hs : swapsWith e (some (.Name x pos')) pos.line X.env = pure false := by rfl) (hf : X.fn x = true ∨ X.env.scope.names.lookup x = some .local := by first | exact .inl rfl | exact .inr rfl | assumption) :
    PS X (.Assign [.Name x pos'] e pos) (tS X.K (sAsg m (.nm i))) := ps_of (ps_set hN hi hx he hs hf) fun D σ H q => asg_run q
theorem pS_asg {tg e : Expr} {m : Sm} {t : Tg} (he : PE X e (tE X.K m)) (hg : PG X tg (gT X.K t)) (hs : swapsWithSole [tg] e pos.line X.env = pure false := by rfl) (hw : swappedStores [tg] e X.env = pure none := by rfl)
    (h1 : (assignEach [tg] X.env).map (·.2) = [assign tg X.env] := by rfl) : PS X (.Assign [tg] e pos) (tS X.K (sAsg m t)) := ps_of (ps_asg he hg hs hw h1) fun D σ H q => asg_run q
/-- a, b = x, y -/
@[simp] def sPar (is : List Nat) (m : Sa) : Ss := fun ρ μ => (m ρ μ).bind fun p => if p.1.length = is.length then some (.nx, sets ρ is p.1, p.2) else none
theorem pS_par {i j : Nat} {x y : Str} {a b : Expr} {m : Sa} {px py pt : Pos} {kt k2 pt2} (hc : X.calm = true) (hN : X.N.Nodup) (hi : X.N[i]? = some x) (hj : X.N[j]? = some y) (hij : i ≠ j)
    (hx : X.env.scope.names.lookup x = some .local) (hy : X.env.scope.names.lookup y = some .local) (ha : PA X [a, b] (tAs X.K m))
    (hw : swappedStores [.Tuple [.Name x px, .Name y py] kt pt] (.Tuple [a, b] k2 pt2) X.env = pure (some [x, y]))
    (hs : swapsWithSole [.Tuple [.Name x px, .Name y py] kt pt] (.Tuple [a, b] k2 pt2) pos.line X.env = pure false := by rfl) :
    PS X (.Assign [.Tuple [.Name x px, .Name y py] kt pt] (.Tuple [a, b] k2 pt2) pos) (tS X.K (sPar [i, j] m)) :=
  ps_of (ps_par hc hN hi hj hij hx hy ha hw hs) fun D σ H q => by
    obtain ⟨ρ, w, f, ρ', μ', e1, e2, ok, s, k⟩ := q
    obtain ⟨⟨p1, p2⟩, ea, e2⟩ := Option.bind_eq_some_iff.mp e2
    refine ⟨ρ, w, p1, p2, e1, ea, ok, s, fun u vs eu oku le rp => ?_⟩
    subst eu
    simp only at e2
    split at e2
    · rename_i hl
      cases e2
      match p1, vs, rp with
      | [r1, r2], [v1, v2], .cons h1 (.cons h2 .nil) => exact ⟨v1, v2, rfl, k u _ rfl oku le (((s.mono le).set h1 i).set h2 j)⟩
    · cases e2
theorem pS_par3 {i j l : Nat} {x y z : Str} {a b c : Expr} {m : Sa} {px py pz pt : Pos} {kt k2 pt2} (hc : X.calm = true) (hN : X.N.Nodup) (hi : X.N[i]? = some x) (hj : X.N[j]? = some y) (hl : X.N[l]? = some z) (hij : i ≠ j) (hil : i ≠ l) (hjl : j ≠ l)
    (hx : X.env.scope.names.lookup x = some .local) (hy : X.env.scope.names.lookup y = some .local) (hz : X.env.scope.names.lookup z = some .local) (ha : PA X [a, b, c] (tAs X.K m))
    (hw : swappedStores [.Tuple [.Name x px, .Name y py, .Name z pz] kt pt] (.Tuple [a, b, c] k2 pt2) X.env = pure (some [x, y, z]))
    (hs : swapsWithSole [.Tuple [.Name x px, .Name y py, .Name z pz] kt pt] (.Tuple [a, b, c] k2 pt2) pos.line X.env = pure false := by rfl) :
    PS X (.Assign [.Tuple [.Name x px, .Name y py, .Name z pz] kt pt] (.Tuple [a, b, c] k2 pt2) pos) (tS X.K (sPar [i, j, l] m)) :=
  ps_of (ps_par3 hc hN hi hj hl hij hil hjl hx hy hz ha hw hs) fun D σ H q => by
    obtain ⟨ρ, w, f, ρ', μ', e1, e2, ok, s, k⟩ := q
    obtain ⟨⟨p1, p2⟩, ea, e2⟩ := Option.bind_eq_some_iff.mp e2
    refine ⟨ρ, w, p1, p2, e1, ea, ok, s, fun u vs eu oku le rp => ?_⟩
    subst eu
    simp only at e2
    split at e2
    · rename_i hl
      cases e2
      match p1, vs, rp with
      | [r1, r2, r3], [v1, v2, v3], .cons h1 (.cons h2 (.cons h3 .nil)) => exact ⟨v1, v2, v3, rfl, k u _ rfl oku le ((((s.mono le).set h1 i).set h2 j).set h3 l)⟩
    · cases e2

/-! ### stores -/
/-- xs[i] = e of a list of the store: e first -/
@[simp] def fSetL (μ : Mu) (o i x : Rv) : Option Mu := match o, i, x with
  | .m k, .d (.int j), .d d => match μ[k]? with
    | some (.lst ds) => (ixN ds.length j).map fun n => μ.set k (.lst (ds.set n d))
    | _ => none
  | _, _, _ => none
theorem setL_ok {K : PySem.W.Frag} {w : Wd} {o i x : Rv} {vo vi v : V} {μ' : Mu} (e : fSetL w.μ o i x = some μ') (ok : w.Ok) (ro : RpR K w o vo) (ri : RpR K w i vi) (rx : RpR K w x v) {Q : Hp → Prop} (k : ∀ u : Wd, u.μ = μ' → u.Ok → w.le u → Q u.H) : rSetL vo vi v w.H Q := by
  unfold fSetL at e
  split at e
  · rename_i kk j d
    split at e
    · rename_i ds ek
      obtain ⟨n, en, e4⟩ := Option.map_eq_some_iff.mp e
      cases e4
      obtain ⟨a, ha, hv⟩ := ro
      obtain ⟨xs, hx1, hx2⟩ := ok.ok _ _ a ek ha
      cases ri
      have hd : Mo.lst ds ≠ Mo.dead := by intro z; cases z
      have hd' : Mo.lst (ds.set n d) ≠ Mo.dead := by intro z; cases z
      refine ⟨a, xs, _, n, hv, rfl, hx1, by rw [hx2.length]; exact en, ?_⟩
      exact k (w.chg kk a (.lst (ds.set n d)) (.lst (xs.set n v))) rfl (Wd.chg_ok ok ek hd hd' ha ⟨_, upd_same, RpAll.set rx n hx2⟩) (Wd.chg_le (o := .lst (xs.set n v)) ok ek hd hd' ha)
    · cases e
  · cases e
@[simp] def sStL (o i m : Sm) : Ss := fun ρ μ => (m ρ μ).bind fun p => (o ρ p.2).bind fun q => (i ρ q.2).bind fun z => (fSetL z.2 q.1 z.1 p.1).map fun μ' => (.nx, ρ, μ')
theorem pS_stL {oe ie e : Expr} {o i m : Sm} {pos' : Pos} (he : PE X e (tE X.K m)) (ho : PE X oe (tE X.K o)) (hi : PE X ie (tE X.K i))
    (ha : ∀ v, assign (.Subscript oe ie pos') X.env v = (do
      let ov ← holding [v] (eval oe X.env)
      let iv ← holding [v, ov] (eval ie X.env)
      standAt pos'
      holding [v, ov, iv] (setItem ov iv v)
      release [v, ov, iv] []) := by intro _; rfl)
    (hs : swapsWithSole [.Subscript oe ie pos'] e pos.line X.env = pure false := by rfl) (hw : swappedStores [.Subscript oe ie pos'] e X.env = pure none := by rfl)
    (h1 : (assignEach [.Subscript oe ie pos'] X.env).map (·.2) = [assign (.Subscript oe ie pos') X.env] := by rfl) : PS X (.Assign [.Subscript oe ie pos'] e pos) (tS X.K (sStL o i m)) :=
  ps_of (ps_asg he (pg_sub ho hi set_list ha) hs hw h1) fun D σ H q => by
    obtain ⟨ρ, w, f, ρ', μ', e1, e2, ok, s, k⟩ := q
    obtain ⟨⟨p1, pm⟩, ea, e2⟩ := Option.bind_eq_some_iff.mp e2
    obtain ⟨⟨q1, qm⟩, eb, e2⟩ := Option.bind_eq_some_iff.mp e2
    obtain ⟨⟨z1, zm⟩, ec, e2⟩ := Option.bind_eq_some_iff.mp e2
    obtain ⟨μ2, ed, e2⟩ := Option.map_eq_some_iff.mp e2
    cases e2
    refine ⟨ρ, w, p1, pm, e1, ea, ok, s, fun u v eu oku le rp => ?_⟩
    subst eu
    refine ⟨ρ, u, q1, qm, rfl, eb, oku, s.mono le, fun u2 vo eu2 oku2 le2 rpo => ?_⟩
    subst eu2
    refine ⟨ρ, u2, z1, zm, rfl, ec, oku2, s.mono (le.trans le2), fun u3 vi eu3 oku3 le3 rpi => ?_⟩
    subst eu3
    exact setL_ok (K := X.K) ed oku3 (rpo.mono le3) rpi (rp.mono (le2.trans le3)) fun z ez okz lez => k z σ ez okz (le.trans (le2.trans (le3.trans lez))) (s.mono (le.trans (le2.trans (le3.trans lez))))
/-- x += e: ints; a list of the store, in place -/
@[simp] def fAug : F2 := fun μ x y => match x with
  | .m k => match μ[k]?, rd μ y with
    | some (.lst ds), some (.list es) => if ds.length + es.length ≤ 4096 then some (.m k, μ.set k (.lst (ds ++ es))) else none
    | _, _ => none
  | .d (.int i) => match rd μ y with
    | some (.int j) => some (.d (.int (i + j)), μ)
    | _ => none
  | _ => none
theorem o2_aug {K : PySem.W.Frag} : Op2 K fAug (fun x y H Q => rI0 (fun i j => .int (i + j)) x y H Q ∨ rExt2 x y H Q) := by
  intro w x y v z r μ' Q e ok rx ry k
  unfold fAug at e
  split at e
  · rename_i kk
    split at e
    · rename_i ds es ek ey
      split at e
      · rename_i hl
        cases e
        obtain ⟨a, ha, hv⟩ := id rx
        obtain ⟨xs, hx1, hx2⟩ := ok.ok kk _ a ek ha
        obtain ⟨b, ys, hy1, hy2, hy3⟩ := RpR.rd ok ry ey
        have hd : Mo.lst ds ≠ Mo.dead := by intro z; cases z
        have hd' : Mo.lst (ds ++ es) ≠ Mo.dead := by intro z; cases z
        refine .inr ⟨a, b, xs, ys, hv, hy1, hx1, hy2, by rw [hx2.length, hy3.length]; exact line4096 hl, ?_⟩
        have hle := Wd.chg_le (o := .lst (xs ++ ys)) ok ek hd hd' ha
        exact k (w.chg kk a (.lst (ds ++ es)) (.lst (xs ++ ys))) _ rfl (Wd.chg_ok ok ek hd hd' ha ⟨_, upd_same, hx2.append hy3⟩) hle ⟨a, ha, rfl⟩
      · cases e
    · cases e
  · rename_i i
    split at e
    · rename_i j ey
      cases e
      cases rx
      have h2 : z = V.int j := RpR.rd ok ry ey
      exact .inl ⟨_, j, rfl, h2, Wish.here k ok (.int _)⟩
    · cases e
  · cases e
def fAugS : F2 := fI2 fun i j => some (i - j)
@[simp] def sAug (i : Nat) (f : F2) (m : Sm) : Ss := fun ρ μ => match ρ[i]? with
  | some (some x) => (m ρ μ).bind fun p => (f p.2 x p.1).map fun q => (.nx, ρ.set i (some q.1), q.2)
  | _ => none
theorem pS_aug {i : Nat} {x : Str} {e : Expr} {m : Sm} {f : F2} {t : R2} {op : Operator} {pos' : Pos} (hN : X.N.Nodup) (hi : X.N[i]? = some x) (hx : Loc X.env.scope x) (he : PE X e (tE X.K m)) (ho : OpR X (inplaceOp op) t) (hf2 : Op2 X.K f t) (hf : X.fn x = true ∨ X.env.scope.names.lookup x = some .local := by first | exact .inl rfl | exact .inr rfl | assumption) :
    PS X (.AugAssign (.Name x pos') op e pos) (tS X.K (sAug i f m)) :=
  ps_of (ps_aug hN hi hx he (show PIp X op t from ho) hf) fun D σ H q => by
    obtain ⟨ρ, w, fl, ρ', μ', e1, e2, ok, s, k⟩ := q
    unfold sAug at e2
    split at e2
    · rename_i r er
      obtain ⟨⟨p1, p2⟩, ea, e2⟩ := Option.bind_eq_some_iff.mp e2
      obtain ⟨⟨q1, q2⟩, eb, e2⟩ := Option.map_eq_some_iff.mp e2
      cases e2
      obtain ⟨v, hv, rv⟩ := s.get i r er
      refine ⟨v, hv, ρ, w, p1, p2, e1, ea, ok, s, fun u z eu oku le rp => ?_⟩
      subst eu
      exact hf2 u r p1 v z q1 _ _ eb oku (rv.mono le) rp fun u2 v2 eu2 oku2 le2 rp2 => k u2 _ eu2 oku2 (le.trans le2) ((s.mono (le.trans le2)).set rp2 i)
    · cases e2
theorem op_augU : OpR X (inplaceOp .Add) (fun x y H Q => rI0 (fun i j => .int (i + j)) x y H Q ∨ rExt2 x y H Q) := OpR.or iop_add iop_ext
end

/-! ### methods of lists -/
abbrev FM := Mu → Rv → List Rv → Option (Rv × Mu)
@[simp] def isLst (μ : Mu) : Rv → Bool
  | .m k => match μ[k]? with
    | some (.lst _) => true
    | _ => false
  | _ => false
@[simp] def sMet (f : FM) (o : Sm) (a : Sa) : Sm := fun ρ μ => (o ρ μ).bind fun p => if isLst p.2 p.1 then (a ρ p.2).bind fun q => f q.2 p.1 q.1 else none
def OpM (K : PySem.W.Frag) (f : FM) (t : V → List V → Hp → VK → Prop) : Prop := ∀ (w : Wd) (x : Rv) (v : V) (rs : List Rv) (vs : List V) (r : Rv) (μ' : Mu) (Q : VK), f w.μ x rs = some (r, μ') → w.Ok → RpR K w x v → RpRs K w rs vs → Wish K w r μ' Q → t v vs w.H Q
theorem isLst_ok {K : PySem.W.Frag} {w : Wd} (ok : w.Ok) {r : Rv} {v : V} (h : RpR K w r v) (e : isLst w.μ r = true) : tyV K "list" v w.H := by
  unfold isLst at e
  split at e
  · rename_i k
    split at e
    · rename_i ds ek
      obtain ⟨a, ha, hv⟩ := h
      obtain ⟨xs, h1, h2⟩ := ok.ok k _ a ek ha
      subst hv
      exact .inl ⟨rfl, xs, SqL.ofF h1⟩
    · cases e
  · cases e
theorem met_run {K : PySem.W.Frag} {f : FM} {t : V → List V → Hp → VK → Prop} {o : Sm} {a : Sa} (hf : OpM K f t) {σ : L2.St} {H : Hp} {Q : VK} (q : tE K (sMet f o a) σ H Q) :
    tE K o σ H fun x H1 => tyV K "list" x H1 ∧ tAs K a σ H1 fun xs H2 => t x xs H2 Q := by
  obtain ⟨ρ, w, r, μ', e1, e2, ok, s, k⟩ := q
  obtain ⟨⟨p1, p2⟩, ea, e2⟩ := Option.bind_eq_some_iff.mp e2
  refine ⟨ρ, w, p1, p2, e1, ea, ok, s, fun u v eu oku le rp => ?_⟩
  subst eu
  simp only at e2
  split at e2
  · rename_i hl
    obtain ⟨⟨q1, q2⟩, eb, e2⟩ := Option.bind_eq_some_iff.mp e2
    refine ⟨isLst_ok oku rp hl, ρ, u, q1, q2, rfl, eb, oku, s.mono le, fun u2 vs eu2 oku2 le2 rp2 => ?_⟩
    subst eu2
    exact hf u2 p1 v q1 vs r μ' Q e2 oku2 (rp.mono le2) rp2 (Wish.to k (le.trans le2))
  · cases e2
@[simp] def fApp : FM := fun μ x rs => match x, rs with
  | .m k, [.d d] => match μ[k]? with
    | some (.lst ds) => if ds.length < 4096 then some (.d .none, μ.set k (.lst (ds ++ [d]))) else none
    | _ => none
  | _, _ => none
theorem opM_app {K : PySem.W.Frag} : OpM K fApp rAppend := by
  intro w x v rs vs r μ' Q e ok rx rp k
  unfold fApp at e
  split at e
  · rename_i kk d
    obtain ⟨y, rfl, ry⟩ := Paired.one rp
    split at e
    · rename_i ds ek
      split at e
      · rename_i hl
        cases e
        obtain ⟨a, ha, hv⟩ := id rx
        obtain ⟨xs, hx1, hx2⟩ := ok.ok kk _ a ek ha
        have hd : Mo.lst ds ≠ Mo.dead := by intro z; cases z
        have hd' : Mo.lst (ds ++ [d]) ≠ Mo.dead := by intro z; cases z
        refine ⟨a, xs, y, hv, rfl, hx1, by rw [hx2.length]; exact Nat.lt_of_lt_of_le hl (by decide), ?_⟩
        have hle := Wd.chg_le (o := .lst (xs ++ [y])) ok ek hd hd' ha
        exact k (w.chg kk a (.lst (ds ++ [d])) (.lst (xs ++ [y]))) _ rfl (Wd.chg_ok ok ek hd hd' ha ⟨_, upd_same, hx2.append (.one ry)⟩) hle .non
      · cases e
    · cases e
  · cases e
theorem seqIx_nat {i : Int} {n k : Nat} (h : ixN n i = some k) : seqIndex? i n = some k := (ixN_seq h).1
/-- xs.pop(), xs.pop(i) -/
@[simp] def fPop : FM := fun μ x rs => match x with
  | .m k => match μ[k]? with
    | some (.lst ds) => match rs with
      | [.d (.int i)] => (ixN ds.length i).bind fun n => if -(2 ^ 63) ≤ i ∧ i < 2 ^ 63 then (ds[n]?).map fun d => (.d d, μ.set k (.lst (ds.eraseIdx n))) else none
      | _ => none
    | _ => none
  | _ => none
theorem opM_pop {K : PySem.W.Frag} : OpM K fPop rPopAt := by
  intro w x v rs vs r μ' Q e ok rx rp k
  unfold fPop at e
  split at e
  · rename_i kk
    split at e
    · rename_i ds ek
      split at e
      · rename_i i
        obtain ⟨y, rfl, ry⟩ := Paired.one rp
        cases ry
        obtain ⟨n, en, e⟩ := Option.bind_eq_some_iff.mp e
        split at e
        · rename_i hb
          obtain ⟨d, ed, e⟩ := Option.map_eq_some_iff.mp e
          cases e
          obtain ⟨a, ha, hv⟩ := id rx
          obtain ⟨xs, hx1, hx2⟩ := ok.ok kk _ a ek ha
          obtain ⟨z, hz1, hz2⟩ := hx2.get ed
          have hd : Mo.lst ds ≠ Mo.dead := by intro z; cases z
          have hd' : Mo.lst (ds.eraseIdx n) ≠ Mo.dead := by intro z; cases z
          refine ⟨a, xs, i, n, z, hv, rfl, hx1, hb.1, hb.2, by rw [hx2.length]; exact seqIx_nat en, hz1, ?_⟩
          have hle := Wd.chg_le (o := .lst (xs.eraseIdx n)) ok ek hd hd' ha
          exact k (w.chg kk a (.lst (ds.eraseIdx n)) (.lst (xs.eraseIdx n))) _ rfl (Wd.chg_ok ok ek hd hd' ha ⟨_, upd_same, hx2.eraseIdx n⟩) hle (Rp.mono hle.le _ _ hz2)
        · cases e
      · cases e
    · cases e
  · cases e
@[simp] def fPop0 : FM := fun μ x rs => match x, rs with
  | .m k, [] => match μ[k]? with
    | some (.lst ds) => (ds[ds.length - 1]?).map fun d => (.d d, μ.set k (.lst ds.dropLast))
    | _ => none
  | _, _ => none
theorem opM_pop0 {K : PySem.W.Frag} : OpM K fPop0 rPop := by
  intro w x v rs vs r μ' Q e ok rx rp k
  unfold fPop0 at e
  split at e
  · rename_i kk
    cases rp
    split at e
    · rename_i ds ek
      obtain ⟨d, ed, e⟩ := Option.map_eq_some_iff.mp e
      cases e
      obtain ⟨a, ha, hv⟩ := id rx
      obtain ⟨xs, hx1, hx2⟩ := ok.ok kk _ a ek ha
      obtain ⟨z, hz1, hz2⟩ := hx2.get ed
      have hd : Mo.lst ds ≠ Mo.dead := by intro z; cases z
      have hd' : Mo.lst ds.dropLast ≠ Mo.dead := by intro z; cases z
      refine ⟨a, xs, z, hv, rfl, hx1, by rw [hx2.length]; exact hz1, ?_⟩
      have hle := Wd.chg_le (o := .lst xs.dropLast) ok ek hd hd' ha
      exact k (w.chg kk a (.lst ds.dropLast) (.lst xs.dropLast)) _ rfl (Wd.chg_ok ok ek hd hd' ha ⟨_, upd_same, hx2.dropLast⟩) hle (Rp.mono hle.le _ _ hz2)
    · cases e
  · cases e
end Sh
set_option Elab.async false
set_option linter.all false
set_option maxRecDepth 100000
namespace Sh
open PySem L2 PyProof.Rows

/-! ### what is walked -/
structure Src where
  items : List PyData
  chk : Option (Nat × List PyData)
def Src.ok (s : Src) (μ : Mu) : Prop := ∀ k ds, s.chk = some (k, ds) → μ[k]? = some (.lst ds)
abbrev Si := Ro → Mu → Option (Src × Mu)
/-- the iterator yields the items in every world from u on in which the source stands -/
def Yld (J : It) (s : Src) (u : Wd) : Prop := ∀ w : Wd, u.le w → w.Ok → s.ok w.μ →
  (∀ (i : Nat) (d : PyData), s.items[i]? = some d → J.go i w.H ∧ ∀ x H', J.yld i w.H x H' → ∃ z : Wd, z.μ = w.μ ∧ z.H = H' ∧ z.Ok ∧ w.le z ∧ Rp z.F x d) ∧
  ∀ i : Nat, s.items.length ≤ i → J.stop i w.H
def tI (K : PySem.W.Frag) (m : Si) : TI := fun σ H R => ∃ (ρ : Ro) (w : Wd) (s : Src) (μ' : Mu), w.H = H ∧ m ρ w.μ = some (s, μ') ∧ w.Ok ∧ Slots K ρ w σ ∧
  ∀ (u : Wd) (J : It), u.μ = μ' → u.Ok → w.le u → s.ok u.μ → Yld J s u → R J u.H
theorem pi_of {X : Cx} {tg e : Expr} {t t' : TI} (h : PI X tg e t) (i : ∀ σ H Q, t' σ H Q → t σ H Q) : PI X tg e t' := ⟨fun pins s σ H Q I hw => h.run pins s σ H Q I (i _ _ _ hw)⟩
theorem pi_or {X : Cx} {tg e : Expr} {t t' : TI} (h : PI X tg e t) (h' : PI X tg e t') : PI X tg e (fun σ H R => t σ H R ∨ t' σ H R) :=
  ⟨fun pins s σ H Q I hw => hw.elim (h.run pins s σ H Q I) (h'.run pins s σ H Q I)⟩
theorem ok_none {ds : List PyData} (μ : Mu) : (Src.mk ds none).ok μ := fun _ _ e => nomatch e
theorem yld_list {K : PySem.W.Frag} {a : Addr} {xs : List V} {ds : List PyData} {u : Wd} (h : u.F a = some (.lst xs)) (r : RpAll u.F xs ds) : Yld (Itl K a) ⟨ds, none⟩ u := by
  intro w le ok _
  have hw := (Wd.F_some (le.le.lst _ _ h)).1
  have rw' := RpAll.mono le.le _ _ r
  refine ⟨fun i d e => ?_, fun i hl => ⟨xs, SqL.ofF hw, by rw [r.length]; exact hl⟩⟩
  obtain ⟨v, h1, h2⟩ := rw'.get e
  refine ⟨⟨xs, v, SqL.ofF hw, h1⟩, fun x H' hy => ?_⟩
  obtain ⟨rfl, hx⟩ := hy
  have := hx xs (SqL.ofF hw)
  rw [h1] at this
  cases this
  exact ⟨w, rfl, rfl, ok, .refl w, h2⟩
theorem yld_tup {K : PySem.W.Frag} {a : Addr} {xs : List V} {ds : List PyData} {u : Wd} (h : u.F a = some (.tup xs)) (r : RpAll u.F xs ds) : Yld (Itt K a) ⟨ds, none⟩ u := by
  intro w le ok _
  have hw := (Wd.F_some (le.le.tup _ _ h)).1
  have rw' := RpAll.mono le.le _ _ r
  refine ⟨fun i d e => ?_, fun i hl => ⟨xs, SqT.ofF hw, by rw [r.length]; exact hl⟩⟩
  obtain ⟨v, h1, h2⟩ := rw'.get e
  refine ⟨⟨xs, v, SqT.ofF hw, h1⟩, fun x H' hy => ?_⟩
  obtain ⟨rfl, hx⟩ := hy
  have := hx xs (SqT.ofF hw)
  rw [h1] at this
  cases this
  exact ⟨w, rfl, rfl, ok, .refl w, h2⟩
theorem yld_mut {K : PySem.W.Frag} {a : Addr} {k : Nat} {ds : List PyData} {u : Wd} (h : u.A[k]? = some a) : Yld (Itl K a) ⟨ds, some (k, ds)⟩ u := by
  intro w le ok hs
  obtain ⟨xs, hw, r⟩ := ok.ok k _ a (hs k ds rfl) (le.at h)
  refine ⟨fun i d e => ?_, fun i hl => ⟨xs, SqL.ofF hw, by rw [r.length]; exact hl⟩⟩
  obtain ⟨v, h1, h2⟩ := r.get e
  refine ⟨⟨xs, v, SqL.ofF hw, h1⟩, fun x H' hy => ?_⟩
  obtain ⟨rfl, hx⟩ := hy
  have := hx xs (SqL.ofF hw)
  rw [h1] at this
  cases this
  exact ⟨w, rfl, rfl, ok, .refl w, h2⟩
@[simp] def srcOf (μ : Mu) : Rv → Option Src
  | .d (.list ds) => some ⟨ds, none⟩
  | .d (.tuple ds) => some ⟨ds, none⟩
  | .m k => match μ[k]? with
    | some (.lst ds) => some ⟨ds, some (k, ds)⟩
    | _ => none
  | _ => none
@[simp] def sIt (m : Sm) : Si := fun ρ μ => (m ρ μ).bind fun p => (srcOf p.2 p.1).map fun s => (s, p.2)
section
variable {X : Cx} {tg e a b : Expr} {pos p : Pos}
theorem pI_it {m : Sm} (he : PE X e (tE X.K m)) : PI X tg e (tI X.K (sIt m)) := by
  refine pi_of (pi_or (pi_list he) (pi_tup he)) fun σ H R q => ?_
  obtain ⟨ρ, w, s, μ', e1, e2, ok, sl, k⟩ := q
  obtain ⟨⟨p1, p2⟩, ea, e2⟩ := Option.bind_eq_some_iff.mp e2
  obtain ⟨s', es, e2⟩ := Option.map_eq_some_iff.mp e2
  cases e2
  unfold srcOf at es
  simp only at es
  split at es
  · cases es
    refine .inl ⟨ρ, w, _, p2, e1, ea, ok, sl, fun u v eu oku le rp => ?_⟩
    cases rp with
    | lst h r => exact ⟨_, rfl, ⟨_, SqL.ofF (Wd.F_some h).1⟩, k u _ eu oku le (ok_none _) (yld_list h r)⟩
  · cases es
    refine .inr ⟨ρ, w, _, p2, e1, ea, ok, sl, fun u v eu oku le rp => ?_⟩
    cases rp with
    | tup h r => exact ⟨_, rfl, ⟨_, SqT.ofF (Wd.F_some h).1⟩, k u _ eu oku le (ok_none _) (yld_tup h r)⟩
  · split at es
    · rename_i ek
      cases es
      refine .inl ⟨ρ, w, _, p2, e1, ea, ok, sl, fun u v eu oku le rp => ?_⟩
      obtain ⟨a, ha, hv⟩ := rp
      rw [← eu] at ek
      obtain ⟨xs, h1, h2⟩ := oku.ok _ _ a ek ha
      refine ⟨a, hv, ⟨xs, SqL.ofF h1⟩, k u _ eu oku le (fun k' ds' e' => ?_) (yld_mut ha)⟩
      cases e'
      exact ek
    · cases es
  · cases es
/-- lo, lo + 1, .. -/
def rngD (lo : Int) (n : Nat) : List PyData := (List.range n).map fun (i : Nat) => .int (lo + (i : Int))
theorem yld_rng {lo : Int} {n : Nat} {u : Wd} : Yld (Itr lo n) ⟨rngD lo n, none⟩ u := by
  intro w le ok _
  refine ⟨fun i d e => ?_, fun i hl => ?_⟩
  · unfold rngD at e
    simp only at e
    rw [List.getElem?_map] at e
    obtain ⟨j, e1, e2⟩ := Option.map_eq_some_iff.mp e
    obtain ⟨h1, h2⟩ := List.getElem?_eq_some_iff.mp e1
    rw [List.getElem_range] at h2
    subst h2
    rw [List.length_range] at h1
    subst e2
    refine ⟨h1, fun x H' hy => ?_⟩
    obtain ⟨rfl, rfl⟩ := hy
    exact ⟨w, rfl, rfl, ok, .refl w, .int _⟩
  · have : (rngD lo n).length = n := by unfold rngD; rw [List.length_map, List.length_range]
    rw [show (Src.mk (rngD lo n) none).items.length = n from this] at hl
    exact hl
noncomputable def b62 (i : Int) : Bool := @decide (-(2 ^ 62) ≤ i ∧ i < 2 ^ 62) (Classical.propDecidable _)
theorem b62_ok {i : Int} (h : b62 i = true) : -(2 ^ 62) ≤ i ∧ i < 2 ^ 62 := @of_decide_eq_true _ (Classical.propDecidable _) h
@[simp] theorem b62_eq {i : Int} (h1 : -(2 ^ 62) ≤ i) (h2 : i < 2 ^ 62) : b62 i = true := @decide_eq_true _ (Classical.propDecidable _) ⟨h1, h2⟩
@[simp] noncomputable def sRng1 (m : Sa) : Si := fun ρ μ => (m ρ μ).bind fun p => match p.1 with
  | [.d (.int j)] => if b62 j then some (⟨rngD 0 j.toNat, none⟩, p.2) else none
  | _ => none
@[simp] noncomputable def sRng2 (m : Sa) : Si := fun ρ μ => (m ρ μ).bind fun p => match p.1 with
  | [.d (.int i), .d (.int j)] => if b62 i && b62 j then some (⟨rngD i (j - i).toNat, none⟩, p.2) else none
  | _ => none
theorem pI_rng1 {m : Sa} (hg : Gl X "range") (hm : X.mg "range" = none) (ha : PA X [a] (tAs X.K m)) (hs : starEach [a] X.env = [(false, eval a X.env)] := by rfl) : PI X tg (.Call (.Name "range" p) [a] [] pos) (tI X.K (sRng1 m)) := by
  refine pi_of (pi_range1 hg hm ha hs) fun σ H R q => ?_
  obtain ⟨ρ, w, s, μ', e1, e2, ok, sl, k⟩ := q
  obtain ⟨⟨p1, p2⟩, ea, e2⟩ := Option.bind_eq_some_iff.mp e2
  refine ⟨ρ, w, p1, p2, e1, ea, ok, sl, fun u vs eu oku le rp => ?_⟩
  simp only at e2
  split at e2
  · split at e2
    · rename_i hb
      cases e2
      obtain ⟨v, rfl, rv⟩ := Paired.one rp
      cases rv
      exact ⟨_, rfl, (b62_ok hb).1, (b62_ok hb).2, k u _ eu oku le (ok_none _) yld_rng⟩
    · cases e2
  · cases e2
theorem pI_rng2 {m : Sa} (hg : Gl X "range") (hm : X.mg "range" = none) (ha : PA X [a, b] (tAs X.K m)) (hs : starEach [a, b] X.env = [(false, eval a X.env), (false, eval b X.env)] := by rfl) (hs2 : starEach [b] X.env = [(false, eval b X.env)] := by rfl) :
    PI X tg (.Call (.Name "range" p) [a, b] [] pos) (tI X.K (sRng2 m)) := by
  refine pi_of (pi_range2 hg hm ha hs hs2) fun σ H R q => ?_
  obtain ⟨ρ, w, s, μ', e1, e2, ok, sl, k⟩ := q
  obtain ⟨⟨p1, p2⟩, ea, e2⟩ := Option.bind_eq_some_iff.mp e2
  refine ⟨ρ, w, p1, p2, e1, ea, ok, sl, fun u vs eu oku le rp => ?_⟩
  simp only at e2
  split at e2
  · split at e2
    · rename_i hb
      rw [Bool.and_eq_true] at hb
      cases e2
      obtain ⟨v, z, rfl, rv, rz⟩ := Paired.two rp
      cases rv
      cases rz
      exact ⟨_, _, rfl, ⟨(b62_ok hb.1).1, (b62_ok hb.1).2, (b62_ok hb.2).1, (b62_ok hb.2).2⟩, k u _ eu oku le (ok_none _) yld_rng⟩
    · cases e2
  · cases e2
/-- zip of two lists, of two tuples, that stand still -/
def zipD (xs ys : List PyData) : List PyData := List.zipWith (fun x y => .tuple [x, y]) xs ys
@[simp] def sZip (m : Sa) : Si := fun ρ μ => (m ρ μ).bind fun p => match p.1 with
  | [.d (.list xs), .d (.list ys)] => some (⟨zipD xs ys, none⟩, p.2)
  | [.d (.tuple xs), .d (.tuple ys)] => some (⟨zipD xs ys, none⟩, p.2)
  | _ => none
theorem zip_get {xs ys : List PyData} {i : Nat} {d : PyData} (e : (zipD xs ys)[i]? = some d) : ∃ x y, xs[i]? = some x ∧ ys[i]? = some y ∧ d = .tuple [x, y] := by
  unfold zipD at e
  rw [List.getElem?_zipWith] at e
  cases h1 : xs[i]? with
  | none => rw [h1] at e; cases e
  | some x =>
    cases h2 : ys[i]? with
    | none => rw [h1, h2] at e; cases e
    | some y =>
      rw [h1, h2] at e
      cases e
      exact ⟨x, y, rfl, rfl, rfl⟩
theorem zip_len {xs ys : List PyData} {i : Nat} (h : (zipD xs ys).length ≤ i) : xs.length ≤ i ∨ ys.length ≤ i := by
  unfold zipD at h
  rw [List.length_zipWith] at h
  omega
theorem pair_put {w : Wd} (ok : w.Ok) {T : Addr} {x y : V} {d e : PyData} (hT : w.H T = none) (h1 : Rp w.F x d) (h2 : Rp w.F y e) : ∃ z : Wd, z.μ = w.μ ∧ z.H = upd w.H T (.tup [x, y]) ∧ z.Ok ∧ w.le z ∧ Rp z.F (.ref T) (.tuple [d, e]) :=
  have le := (Wd.put_le ok hT).le
  ⟨w.put T (.tup [x, y]), rfl, rfl, Wd.put_ok ok hT, Wd.put_le ok hT, .tup (Wd.put_at ok hT) (.cons (Rp.mono le _ _ h1) (.cons (Rp.mono le _ _ h2) .nil))⟩
theorem yld_zipL {K : PySem.W.Frag} {a b : Addr} {xs ys : List V} {ds es : List PyData} {u : Wd} (h : u.F a = some (.lst xs)) (r : RpAll u.F xs ds) (h' : u.F b = some (.lst ys)) (r' : RpAll u.F ys es) : Yld (Itz K a b) ⟨zipD ds es, none⟩ u := by
  intro w le ok _
  have hw := (Wd.F_some (le.le.lst _ _ h)).1
  have hw' := (Wd.F_some (le.le.lst _ _ h')).1
  have q := RpAll.mono le.le _ _ r
  have q' := RpAll.mono le.le _ _ r'
  refine ⟨fun i d e => ?_, fun i hl => ⟨xs, ys, SqL.ofF hw, SqL.ofF hw', by rw [r.length, r'.length]; exact zip_len hl⟩⟩
  obtain ⟨d1, d2, e1, e2, rfl⟩ := zip_get e
  obtain ⟨v1, g1, k1⟩ := q.get e1
  obtain ⟨v2, g2, k2⟩ := q'.get e2
  refine ⟨⟨xs, ys, v1, v2, SqL.ofF hw, SqL.ofF hw', g1, g2⟩, fun x H' hy => ?_⟩
  obtain ⟨T, x1, x2, rfl, hT, rfl, f1, f2⟩ := hy
  have z1 := f1 xs (SqL.ofF hw)
  have z2 := f2 ys (SqL.ofF hw')
  rw [g1] at z1
  rw [g2] at z2
  cases z1
  cases z2
  exact pair_put ok hT k1 k2
theorem yld_zipT {K : PySem.W.Frag} {a b : Addr} {xs ys : List V} {ds es : List PyData} {u : Wd} (h : u.F a = some (.tup xs)) (r : RpAll u.F xs ds) (h' : u.F b = some (.tup ys)) (r' : RpAll u.F ys es) : Yld (RZ.ItzT K a b) ⟨zipD ds es, none⟩ u := by
  intro w le ok _
  have hw := (Wd.F_some (le.le.tup _ _ h)).1
  have hw' := (Wd.F_some (le.le.tup _ _ h')).1
  have q := RpAll.mono le.le _ _ r
  have q' := RpAll.mono le.le _ _ r'
  refine ⟨fun i d e => ?_, fun i hl => ⟨xs, ys, SqT.ofF hw, SqT.ofF hw', by rw [r.length, r'.length]; exact zip_len hl⟩⟩
  obtain ⟨d1, d2, e1, e2, rfl⟩ := zip_get e
  obtain ⟨v1, g1, k1⟩ := q.get e1
  obtain ⟨v2, g2, k2⟩ := q'.get e2
  refine ⟨⟨xs, ys, v1, v2, SqT.ofF hw, SqT.ofF hw', g1, g2⟩, fun x H' hy => ?_⟩
  obtain ⟨T, x1, x2, rfl, hT, rfl, f1, f2⟩ := hy
  have z1 := f1 xs (SqT.ofF hw)
  have z2 := f2 ys (SqT.ofF hw')
  rw [g1] at z1
  rw [g2] at z2
  cases z1
  cases z2
  exact pair_put ok hT k1 k2
theorem pI_zip {m : Sa} {tpos : Pos} {elts : List Expr} {kk : Nat} (hg : Gl X "zip") (hm : X.mg "zip" = none) (ha : PA X [a, b] (tAs X.K m))
    (hs : starEach [a, b] X.env = (false, eval a X.env) :: starEach [b] X.env := by rfl) (hpl : (backTo pos (starEach [b] X.env)).any (·.1) = false := by rfl) : PI X (.Tuple elts kk tpos) (.Call (.Name "zip" p) [a, b] [] pos) (tI X.K (sZip m)) := by
  refine pi_of (RZ.pi_zipA hg hm ha hs hpl) fun σ H R q => ?_
  obtain ⟨ρ, w, s, μ', e1, e2, ok, sl, k⟩ := q
  obtain ⟨⟨p1, p2⟩, ea, e2⟩ := Option.bind_eq_some_iff.mp e2
  refine ⟨ρ, w, p1, p2, e1, ea, ok, sl, fun u vs eu oku le rp => ?_⟩
  simp only at e2
  split at e2
  · cases e2
    obtain ⟨v, z, rfl, rv, rz⟩ := Paired.two rp
    cases rv with
    | lst h r =>
      cases rz with
      | lst h' r' => exact ⟨_, _, _, _, rfl, .inl ⟨SqL.ofF (Wd.F_some h).1, SqL.ofF (Wd.F_some h').1, k u _ eu oku le (ok_none _) (yld_zipL h r h' r')⟩⟩
  · cases e2
    obtain ⟨v, z, rfl, rv, rz⟩ := Paired.two rp
    cases rv with
    | tup h r =>
      cases rz with
      | tup h' r' => exact ⟨_, _, _, _, rfl, .inr ⟨SqT.ofF (Wd.F_some h).1, SqT.ofF (Wd.F_some h').1, k u _ eu oku le (ok_none _) (yld_zipT h r h' r')⟩⟩
  · cases e2
end

/-! ### loops -/
noncomputable def chkB (c : Option (Nat × List PyData)) (μ : Mu) : Bool := match c with
  | none => true
  | some (k, ds) => @decide (μ[k]? = some (.lst ds)) (Classical.propDecidable _)
theorem chkB_ok {s : Src} {μ : Mu} (h : chkB s.chk μ = true) : s.ok μ := fun k ds e => by
  unfold chkB at h
  rw [e] at h
  exact @of_decide_eq_true _ (Classical.propDecidable _) h
noncomputable def loop (t : Tg) (body : Ss) (c : Option (Nat × List PyData)) (n : Nat) : List PyData → Ro → Mu → Option (Fl × Ro × Mu)
  | [], ρ, μ => some (.nx, ρ, μ)
  | d :: ds, ρ, μ => (t.put d ρ).bind fun ρ1 => (body ρ1 μ).bind fun q => match q.1 with
    | .nx => if chkB c (q.2.2.take n) then loop t body c n ds (cutR n q.2.1) (q.2.2.take n) else none
    | .ct => if chkB c (q.2.2.take n) then loop t body c n ds (cutR n q.2.1) (q.2.2.take n) else none
    | .bk => some (.nx, cutR n q.2.1, q.2.2.take n)
    | .rt r => some (.rt r, q.2.1, q.2.2)
noncomputable def sFor (m : Si) (t : Tg) (body : Ss) : Ss := fun ρ μ => (m ρ μ).bind fun p => loop t body p.1.chk p.2.length p.1.items ρ p.2
theorem for_run {K : PySem.W.Frag} {m : Si} {t : Tg} {body : Ss} {D : Ends} {σ : L2.St} {H : Hp} (q : tS K (sFor m t body) D σ H) : tFor (tI K m) (gT K t) (tS K body) D σ H := by
  obtain ⟨ρ, w, f, ρ', μ', e1, e2, ok, s, k⟩ := q
  obtain ⟨⟨src, μ1⟩, ea, e2⟩ := Option.bind_eq_some_iff.mp e2
  refine ⟨ρ, w, src, μ1, e1, ea, ok, s, fun u J eu oku le hs hy => ?_⟩
  subst eu
  have e2 : loop t body src.chk u.μ.length src.items ρ u.μ = some (f, ρ', μ') := e2
  refine ⟨fun i n σ H => n = src.items.length - i ∧ i ≤ src.items.length ∧ ∃ (ρ : Ro) (z : Wd), z.H = H ∧ z.Ok ∧ u.le z ∧ Slots K ρ z σ ∧ src.ok z.μ ∧ loop t body src.chk u.μ.length (src.items.drop i) ρ z.μ = some (f, ρ', μ'),
    ⟨_, rfl, Nat.zero_le _, ρ, u, rfl, oku, .refl u, s.mono le, hs, by rw [List.drop_zero]; exact e2⟩, fun i n σ H hW => ?_⟩
  obtain ⟨en, hi, ρ1, z, rfl, okz, lez, sz, sok, el⟩ := hW
  obtain ⟨Y1, Y2⟩ := hy z lez okz sok
  by_cases hlt : i < src.items.length
  · rw [List.drop_eq_getElem_cons hlt] at el
    have hd : src.items[i]? = some src.items[i] := List.getElem?_eq_getElem hlt
    obtain ⟨hgo, hyl⟩ := Y1 i _ hd
    refine .inr ⟨hgo, fun σ' H' => ∃ (ρ : Ro) (z : Wd), z.H = H' ∧ z.Ok ∧ u.le z ∧ Slots K ρ z σ' ∧ src.ok z.μ ∧ loop t body src.chk u.μ.length (src.items.drop (i + 1)) ρ z.μ = some (f, ρ', μ'),
      fun σ' H' hN => ⟨_, by omega, rfl, hlt, hN⟩, fun x H' hx => ?_⟩
    obtain ⟨u2, em, rfl, ok2, le2, rp⟩ := hyl x H' hx
    have el : ((t.put src.items[i] ρ1).bind fun ρ1 => (body ρ1 z.μ).bind fun q => match q.1 with
      | .nx => if chkB src.chk (q.2.2.take u.μ.length) then loop t body src.chk u.μ.length (src.items.drop (i + 1)) (cutR u.μ.length q.2.1) (q.2.2.take u.μ.length) else none
      | .ct => if chkB src.chk (q.2.2.take u.μ.length) then loop t body src.chk u.μ.length (src.items.drop (i + 1)) (cutR u.μ.length q.2.1) (q.2.2.take u.μ.length) else none
      | .bk => some (.nx, cutR u.μ.length q.2.1, q.2.2.take u.μ.length)
      | .rt r => some (.rt r, q.2.1, q.2.2)) = some (f, ρ', μ') := el
    obtain ⟨ρ2, e3, el⟩ := Option.bind_eq_some_iff.mp el
    obtain ⟨⟨q1, q2, q3⟩, e4, el⟩ := Option.bind_eq_some_iff.mp el
    refine gT_run e3 rp (sz.mono le2) fun xs sx => ?_
    refine ⟨ρ2, u2, q1, q2, q3, rfl, by rw [em]; exact e4, ok2, sx, fun u3 σ3 eu3 ok3 le3 s3 => ?_⟩
    subst eu3
    have leu : u.le u3 := lez.trans (le2.trans le3)
    have hcut : u.le (u3.cut u.μ.length) := Wd.cut_le oku leu
    cases q1 with
    | nx =>
      simp only at el
      split at el
      · rename_i hc
        exact ⟨_, u3.cut u.μ.length, rfl, Wd.cut_ok ok3 _, hcut, s3.cut _, chkB_ok hc, el⟩
      · cases el
    | ct =>
      simp only at el
      split at el
      · rename_i hc
        exact ⟨_, u3.cut u.μ.length, rfl, Wd.cut_ok ok3 _, hcut, s3.cut _, chkB_ok hc, el⟩
      · cases el
    | bk =>
      cases el
      exact k (u3.cut u.μ.length) σ3 rfl (Wd.cut_ok ok3 _) (le.trans hcut) (s3.cut _)
    | rt r =>
      cases el
      exact k u3 σ3 rfl ok3 (le.trans leu) s3
  · refine .inl ⟨Y2 i (Nat.le_of_not_lt hlt), ?_⟩
    rw [List.drop_eq_nil_of_le (Nat.le_of_not_lt hlt)] at el
    cases el
    exact k z σ rfl okz (le.trans lez) sz
def wloop (n : Nat) (test : Sb) (body : Ss) : Nat → Ro → Mu → Option (Fl × Ro × Mu)
  | 0, _, _ => none
  | g + 1, ρ, μ => (test ρ μ).bind fun p => if p.1 then (body ρ p.2).bind fun q => match q.1 with
      | .nx => wloop n test body g (cutR n q.2.1) (q.2.2.take n)
      | .ct => wloop n test body g (cutR n q.2.1) (q.2.2.take n)
      | .bk => some (.nx, cutR n q.2.1, q.2.2.take n)
      | .rt r => some (.rt r, q.2.1, q.2.2)
    else some (.nx, ρ, p.2)
def sWhile (g : Nat) (test : Sb) (body : Ss) : Ss := fun ρ μ => wloop μ.length test body g ρ μ
theorem while_run {K : PySem.W.Frag} {g : Nat} {test : Sb} {body : Ss} {D : Ends} {σ : L2.St} {H : Hp} (q : tS K (sWhile g test body) D σ H) : tWhile (tB K test) (tS K body) D σ H := by
  obtain ⟨ρ, w, f, ρ', μ', e1, e2, ok, s, k⟩ := q
  have e2 : wloop w.μ.length test body g ρ w.μ = some (f, ρ', μ') := e2
  refine ⟨fun n σ H => ∃ (ρ : Ro) (z : Wd), z.H = H ∧ z.Ok ∧ w.le z ∧ Slots K ρ z σ ∧ wloop w.μ.length test body n ρ z.μ = some (f, ρ', μ'), ⟨g, ρ, w, e1, ok, .refl w, s, e2⟩, fun n σ H hW => ?_⟩
  obtain ⟨ρ1, z, rfl, okz, lez, sz, el⟩ := hW
  cases n with
  | zero => cases el
  | succ n =>
    have el : ((test ρ1 z.μ).bind fun p => if p.1 then (body ρ1 p.2).bind fun q => match q.1 with
      | .nx => wloop w.μ.length test body n (cutR w.μ.length q.2.1) (q.2.2.take w.μ.length)
      | .ct => wloop w.μ.length test body n (cutR w.μ.length q.2.1) (q.2.2.take w.μ.length)
      | .bk => some (.nx, cutR w.μ.length q.2.1, q.2.2.take w.μ.length)
      | .rt r => some (.rt r, q.2.1, q.2.2)
      else some (.nx, ρ1, p.2)) = some (f, ρ', μ') := el
    obtain ⟨⟨b, p2⟩, e3, el⟩ := Option.bind_eq_some_iff.mp el
    refine ⟨ρ1, z, b, p2, rfl, e3, okz, sz, fun u eu oku le => ?_⟩
    subst eu
    cases b with
    | false =>
      rw [if_neg Bool.false_ne_true]
      cases el
      exact k u σ rfl oku (lez.trans le) (sz.mono le)
    | true =>
      rw [if_pos rfl]
      obtain ⟨⟨q1, q2, q3⟩, e4, el⟩ := Option.bind_eq_some_iff.mp el
      refine ⟨fun σ' H' => ∃ (ρ : Ro) (z : Wd), z.H = H' ∧ z.Ok ∧ w.le z ∧ Slots K ρ z σ' ∧ wloop w.μ.length test body n ρ z.μ = some (f, ρ', μ'), fun σ' H' hN => ⟨n, Nat.lt_succ_self n, hN⟩, ?_⟩
      refine ⟨ρ1, u, q1, q2, q3, rfl, e4, oku, sz.mono le, fun u3 σ3 eu3 ok3 le3 s3 => ?_⟩
      subst eu3
      have leu : w.le u3 := lez.trans (le.trans le3)
      have hcut : w.le (u3.cut w.μ.length) := Wd.cut_le ok leu
      cases q1 with
      | nx => exact ⟨_, u3.cut w.μ.length, rfl, Wd.cut_ok ok3 _, hcut, s3.cut _, el⟩
      | ct => exact ⟨_, u3.cut w.μ.length, rfl, Wd.cut_ok ok3 _, hcut, s3.cut _, el⟩
      | bk =>
        cases el
        exact k (u3.cut w.μ.length) σ3 rfl (Wd.cut_ok ok3 _) hcut (s3.cut _)
      | rt r =>
        cases el
        exact k u3 σ3 rfl ok3 leu s3
section
variable {X : Cx} {pos : Pos}
theorem pS_for {tg iter : Expr} {xs : List Stmt} {m : Si} {t : Tg} {body : Ss} (hp : PassesOwn (model X.prog X.w) X.A X.env X.xe) (hc : X.calm = true) (hi : PI X tg iter (tI X.K m)) (hg : PG X tg (gT X.K t)) (hb : PSs X xs (tS X.K body))
    (hs : ∀ x, foldedSetIterable iter X.env x = pure x := by intro _; rfl) : PS X (.For tg iter xs [] pos) (tS X.K (sFor m t body)) := ps_of (ps_for hp hc hi hg hb hs) fun D σ H q => for_run q
theorem pS_while {c : Expr} {xs : List Stmt} {g : Nat} {t : Sb} {body : Ss} (hp : PassesOwn (model X.prog X.w) X.A X.env X.xe) (hc : PT X c (tB X.K t)) (hb : PSs X xs (tS X.K body)) : PS X (.While c xs [] pos) (tS X.K (sWhile g t body)) :=
  ps_of (ps_while hp hc hb) fun D σ H q => while_run q
end

/-! ### comprehensions -/
@[simp] def sYes : Sb := fun _ μ => some (true, μ)
@[simp] def wipeR (ρ : Ro) (vs : List Nat) : Ro := vs.foldr (fun i ρ => ρ.set i none) ρ
theorem wipeR_slots {K : PySem.W.Frag} {ρ : Ro} {w : Wd} {σ : L2.St} (s : Slots K ρ w σ) (vs : List Nat) : Slots K (wipeR ρ vs) w (L2.wipe σ vs) := by
  obtain ⟨ρ', e, h⟩ := s.wipe vs
  unfold wipeR
  rw [← e]; exact h
theorem wipe_get (σ : L2.St) (vs : List Nat) (i : Nat) : (L2.wipe σ vs)[i]? = if i ∈ vs then (if i < σ.length then some none else none) else σ[i]? := by
  induction vs with
  | nil => simp [L2.wipe]
  | cons v vs ih =>
    show ((L2.wipe σ vs).set v none)[i]? = _
    by_cases h : v = i
    · subst h
      rw [if_pos List.mem_cons_self]
      by_cases hv : v < σ.length
      · rw [if_pos hv, List.getElem?_set_self (by rw [L2.wipe_length]; exact hv)]
      · rw [if_neg hv, List.getElem?_eq_none (by rw [List.length_set, L2.wipe_length]; omega)]
    · rw [List.getElem?_set_ne h, ih]
      by_cases hi : i ∈ vs
      · rw [if_pos hi, if_pos (List.mem_cons_of_mem _ hi)]
      · rw [if_neg hi, if_neg (by simp only [List.mem_cons, not_or]; exact ⟨fun e => h e.symm, hi⟩)]
theorem wipe_set {σ : L2.St} {vs : List Nat} {i : Nat} (h : i ∈ vs) (x : Option V) : L2.wipe (σ.set i x) vs = L2.wipe σ vs := by
  apply List.ext_getElem?
  intro j
  rw [wipe_get, wipe_get, List.length_set]
  by_cases hj : j ∈ vs
  · rw [if_pos hj, if_pos hj]
  · rw [if_neg hj, if_neg hj, List.getElem?_set_ne (fun e => hj (by rw [← e]; exact h))]
theorem wipe_wipe (σ : L2.St) (vs : List Nat) : L2.wipe (L2.wipe σ vs) vs = L2.wipe σ vs := by
  apply List.ext_getElem?
  intro j
  rw [wipe_get, wipe_get, L2.wipe_length]
  split <;> rfl
theorem wipe_sets {vs : List Nat} : ∀ (is : List Nat) (xs : List V) (σ : L2.St), (∀ i ∈ is, i ∈ vs) → L2.wipe (sets σ is xs) vs = L2.wipe σ vs
  | [], _, _, _ => by unfold sets; rfl
  | i :: is, [], _, _ => by unfold sets; rfl
  | i :: is, x :: xs, σ, h => by
    show L2.wipe (sets (σ.set i (some x)) is xs) vs = _
    rw [wipe_sets is xs _ fun j hj => h j (List.mem_cons_of_mem _ hj), wipe_set (h i List.mem_cons_self)]
/-- the block's turns: the new list stands at place n of the store -/
noncomputable def cloop (t : Tg) (test : Sb) (elt : Sm) (c : Option (Nat × List PyData)) (n : Nat) (ρ : Ro) : List PyData → Mu → Option Mu
  | [], μ => some μ
  | d :: ds, μ => (t.put d ρ).bind fun ρ1 => (test ρ1 μ).bind fun q => if q.1 then
      (elt ρ1 q.2).bind fun z => match z.1, z.2[n]? with
        | .d y, some (.lst acc) => if acc.length < 4096 ∧ chkB c (z.2.take n) then cloop t test elt c n ρ ds (z.2.take n ++ [.lst (acc ++ [y])]) else none
        | _, _ => none
    else if chkB c (q.2.take (n + 1)) then cloop t test elt c n ρ ds (q.2.take (n + 1)) else none
noncomputable def sComp (fl : Bool) (m : Si) (t : Tg) (test : Sb) (elt : Sm) (vs : List Nat) : Sm := fun ρ μ => (m ρ μ).bind fun p =>
  (cloop t test elt p.1.chk p.2.length (wipeR ρ vs) p.1.items (p.2 ++ [.lst []])).bind fun μ2 => match μ2[p.2.length]? with
    | some (.lst ds) => if fl then some (.m p.2.length, μ2) else some (.d (.list ds), μ2.take p.2.length)
    | _ => none
theorem take_len {α : Type} (l : List α) (n : Nat) (h : n ≤ l.length) : (l.take n).length = n := by rw [List.length_take]; omega
theorem snoc_take {α : Type} {l : List α} {n : Nat} {x : α} (h : l[n]? = some x) : l.take n ++ [x] = l.take (n + 1) := by
  rw [List.take_succ, h]; rfl
theorem set_snoc {α : Type} {l : List α} {n : Nat} (h : n < l.length) (y : α) : (l.take (n + 1)).set n y = l.take n ++ [y] := by
  have h1 : (l.take n).length = n := take_len l n (by omega)
  rw [List.take_succ, List.getElem?_eq_getElem h]
  show (l.take n ++ [l[n]]).set n y = _
  rw [List.set_append_right _ _ (by omega), h1, Nat.sub_self]
  rfl
/-- what holds of the world between two turns -/
structure CInv (K : PySem.W.Frag) (u z : Wd) (D : Addr) : Prop where
  ok : z.Ok
  le : u.le z
  len : z.μ.length = u.μ.length + 1
  adr : z.A[u.μ.length]? = some D
/-- the turns of a comprehension: what stands behind the walk's beginning -/
def lcBody (J : It) (g : TG) (tt : TT) (te : TE) (vs : List Nat) (σ : L2.St) (H1 : Hp) (Q : VK) : Prop := ∀ D, H1 D = none → ∃ W : Nat → Nat → Hp → Prop, (∃ m, W 0 m (upd H1 D (.lst []))) ∧ ∀ i m H, W i m H →
  (J.stop i H ∧ Q (.ref D) H) ∨ (J.go i H ∧ ∃ Nx : Hp → Prop, (∀ H', Nx H' → ∃ m', m' < m ∧ W (i + 1) m' H') ∧ ∀ x H', J.yld i H x H' → g x (wipe σ vs) H' fun σ2 H2 => wipe σ2 vs = wipe σ vs ∧ tt σ2 H2 fun b H3 =>
    if b = true then te σ2 H3 fun y H4 => ∃ acc, H4 D = some (.lst acc) ∧ acc.length < sizeLine ∧ Nx (upd H4 D (.lst (acc ++ [y]))) else Nx H3)
theorem comp_core {K : PySem.W.Frag} {fl : Bool} {m : Si} {t : Tg} {test : Sb} {elt : Sm} {vs : List Nat} (hv : ∀ i ∈ t.slots, i ∈ vs) {σ : L2.St} {Q : VK} {ρ : Ro} {w : Wd} {r : Rv} {μ' : Mu} (e2 : sComp fl m t test elt vs ρ w.μ = some (r, μ')) (ok : w.Ok) (s : Slots K ρ w σ)
    (k : Wish K w r μ' Q) : ∃ (src : Src) (μ1 : Mu), m ρ w.μ = some (src, μ1) ∧ ∀ (u : Wd) (J : It), u.μ = μ1 → u.Ok → w.le u → src.ok u.μ → Yld J src u → lcBody J (gT K t) (tB K test) (tE K elt) vs σ u.H Q := by
  obtain ⟨⟨src, μ1⟩, ea, e2⟩ := Option.bind_eq_some_iff.mp e2
  refine ⟨src, μ1, ea, fun u J eu oku le hs hy => ?_⟩
  subst eu
  obtain ⟨μ2, el0, e2⟩ := Option.bind_eq_some_iff.mp e2
  have el0 : cloop t test elt src.chk u.μ.length (wipeR ρ vs) src.items (u.μ ++ [.lst []]) = some μ2 := el0
  intro D hD
  have hdl : ∀ xs : List PyData, Mo.lst xs ≠ Mo.dead := by intro xs z; cases z
  have okn : (u.new D (.lst []) (.lst [])).Ok := Wd.new_ok oku (hdl _) hD ⟨[], upd_same, .nil⟩
  have len : u.le (u.new D (.lst []) (.lst [])) := Wd.new_le oku (hdl _) hD
  have sw := wipeR_slots (s.mono le) vs
  -- the end: from a world behind the last turn
  have fin : ∀ z : Wd, CInv K u z D → z.μ = μ2 → Q (.ref D) z.H := by
    intro z ci ez
    subst ez
    simp only at e2
    split at e2
    · rename_i ds ed
      obtain ⟨xs, h1, h2⟩ := ci.ok.ok _ _ D ed ci.adr
      split at e2
      · cases e2
        exact k z _ rfl ci.ok (le.trans ci.le) ⟨D, ci.adr, rfl⟩
      · cases e2
        refine k (z.cut u.μ.length) _ rfl (Wd.cut_ok ci.ok _) (le.trans (Wd.cut_le oku ci.le)) (.lst ?_ (RpAll.mono (Wd.cut_leR _) _ _ h2))
        have nl : ¬ (z.cut u.μ.length).live D := by
          rintro ⟨j, o, g1, g2, g3⟩
          have hj := (get_take.mp g1).1
          have := ci.ok.inj j u.μ.length o _ D (get_take.mp g1).2 ed g2 (hdl _) (get_take.mp g3).2 ci.adr
          omega
        rw [Wd.F_not nl]; exact h1
    · cases e2
  refine ⟨fun i n H => n = src.items.length - i ∧ i ≤ src.items.length ∧ ∃ z : Wd, z.H = H ∧ CInv K u z D ∧ src.ok z.μ ∧ cloop t test elt src.chk u.μ.length (wipeR ρ vs) (src.items.drop i) z.μ = some μ2,
    ⟨_, rfl, Nat.zero_le _, u.new D (.lst []) (.lst []), rfl, ⟨okn, len, by show (u.μ ++ [Mo.lst []]).length = _; rw [List.length_append]; rfl, (get_snoc _ _ _ _).mpr (.inr ⟨oku.len.symm, rfl⟩)⟩, ?_, by rw [List.drop_zero]; exact el0⟩, fun i n H hW => ?_⟩
  · intro k' ds' e'
    exact (get_snoc _ _ _ _).mpr (.inl (hs k' ds' e'))
  obtain ⟨en, hi, z, rfl, ci, sok, el⟩ := hW
  obtain ⟨Y1, Y2⟩ := hy z ci.le ci.ok sok
  by_cases hlt : i < src.items.length
  · rw [List.drop_eq_getElem_cons hlt] at el
    obtain ⟨hgo, hyl⟩ := Y1 i _ (List.getElem?_eq_getElem hlt)
    refine .inr ⟨hgo, fun H' => ∃ z : Wd, z.H = H' ∧ CInv K u z D ∧ src.ok z.μ ∧ cloop t test elt src.chk u.μ.length (wipeR ρ vs) (src.items.drop (i + 1)) z.μ = some μ2, fun H' hN => ⟨_, by omega, rfl, hlt, hN⟩, fun x H' hx => ?_⟩
    obtain ⟨u2, em, rfl, ok2, le2, rp⟩ := hyl x H' hx
    have el : ((t.put src.items[i] (wipeR ρ vs)).bind fun ρ1 => (test ρ1 z.μ).bind fun q => if q.1 then
      (elt ρ1 q.2).bind fun z => match z.1, z.2[u.μ.length]? with
        | .d y, some (.lst acc) => if acc.length < 4096 ∧ chkB src.chk (z.2.take u.μ.length) then cloop t test elt src.chk u.μ.length (wipeR ρ vs) (src.items.drop (i + 1)) (z.2.take u.μ.length ++ [.lst (acc ++ [y])]) else none
        | _, _ => none
      else if chkB src.chk (q.2.take (u.μ.length + 1)) then cloop t test elt src.chk u.μ.length (wipeR ρ vs) (src.items.drop (i + 1)) (q.2.take (u.μ.length + 1)) else none) = some μ2 := el
    obtain ⟨ρ2, e3, el⟩ := Option.bind_eq_some_iff.mp el
    obtain ⟨⟨b, q2⟩, e4, el⟩ := Option.bind_eq_some_iff.mp el
    refine gT_run e3 rp ((sw.mono ci.le).mono le2) fun xs sx => ?_
    refine ⟨by rw [wipe_sets _ _ _ hv, wipe_wipe], ρ2, u2, b, q2, rfl, by rw [em]; exact e4, ok2, sx, fun u3 eu3 ok3 le3 => ?_⟩
    subst eu3
    have at3 : u3.A[u.μ.length]? = some D := (le2.trans le3).at ci.adr
    have n3 : u.μ.length < u3.μ.length := by rw [← ok3.len]; exact (List.getElem?_eq_some_iff.mp at3).1
    have le3' : u.le u3 := ci.le.trans (le2.trans le3)
    -- a world cut behind the new list
    have cutD : ∀ y : Wd, y.Ok → u.le y → y.A[u.μ.length]? = some D → CInv K u (y.cut (u.μ.length + 1)) D := by
      intro y oky ley aty
      refine ⟨Wd.cut_ok oky _, ⟨?_, ley.le.trans (Wd.cut_leR _), fun a o q e => Wd.cut_same _ a _ (ley.frz a o q e)⟩, ?_, get_take.mpr ⟨by omega, aty⟩⟩
      · obtain ⟨tl, et⟩ := ley.pre
        have : u.A.length ≤ u.μ.length + 1 := by rw [oku.len]; omega
        show u.A <+: y.A.take (u.μ.length + 1)
        rw [← et, List.take_append]
        rw [List.take_of_length_le this]
        exact List.prefix_append _ _
      · have : u.μ.length < y.A.length := (List.getElem?_eq_some_iff.mp aty).1
        rw [oky.len] at this
        exact take_len _ _ this
    cases b with
    | false =>
      rw [if_neg Bool.false_ne_true]
      simp only [Bool.false_eq_true, if_false] at el
      split at el
      · rename_i hc
        exact ⟨u3.cut (u.μ.length + 1), rfl, cutD u3 ok3 le3' at3, chkB_ok hc, el⟩
      · cases el
    | true =>
      rw [if_pos rfl]
      simp only [if_true] at el
      obtain ⟨⟨z1, z2⟩, e5, el⟩ := Option.bind_eq_some_iff.mp el
      refine ⟨ρ2, u3, z1, z2, rfl, e5, ok3, sx.mono le3, fun u4 v eu4 ok4 le4 rp4 => ?_⟩
      subst eu4
      have at4 : u4.A[u.μ.length]? = some D := le4.at at3
      have le4' : u.le u4 := le3'.trans le4
      simp only at el
      split at el
      · rename_i y acc eacc
        split at el
        · rename_i hc
          obtain ⟨ws, h1, h2⟩ := ok4.ok _ _ D eacc at4
          refine ⟨ws, h1, by rw [h2.length]; exact Nat.lt_of_lt_of_le hc.1 (by decide), ?_⟩
          have c5 := cutD u4 ok4 le4' at4
          have ek : (u4.cut (u.μ.length + 1)).μ[u.μ.length]? = some (.lst acc) := get_take.mpr ⟨by omega, eacc⟩
          have n4 : u.μ.length < u4.μ.length := (List.getElem?_eq_some_iff.mp eacc).1
          have hF := Wd.chg_F (o := .lst (ws ++ [v])) c5.ok ek (hdl acc) (hdl (acc ++ [y])) c5.adr
          have ok6 := Wd.chg_ok (o := .lst (ws ++ [v])) c5.ok ek (hdl acc) (hdl (acc ++ [y])) c5.adr ⟨_, upd_same, RpAll.append (RpAll.mono (Wd.cut_leR _) _ _ h2) (.one (Rp.mono (Wd.cut_leR _) _ _ rp4))⟩
          have le6 := Wd.chg_le (o := .lst (ws ++ [v])) c5.ok ek (hdl acc) (hdl (acc ++ [y])) c5.adr
          have em6 : ((u4.cut (u.μ.length + 1)).chg u.μ.length D (.lst (acc ++ [y])) (.lst (ws ++ [v]))).μ = u4.μ.take u.μ.length ++ [.lst (acc ++ [y])] := set_snoc n4 _
          refine ⟨(u4.cut (u.μ.length + 1)).chg u.μ.length D (.lst (acc ++ [y])) (.lst (ws ++ [v])), rfl, ⟨ok6, c5.le.trans le6, ?_, c5.adr⟩, ?_, by rw [em6]; exact el⟩
          · rw [em6, List.length_append, take_len _ _ (by omega)]; rfl
          · rw [em6]
            intro k' ds' e'
            exact (get_snoc _ _ _ _).mpr (.inl (chkB_ok hc.2 k' ds' e'))
        · cases el
      · cases el
  · refine .inl ⟨Y2 i (Nat.le_of_not_lt hlt), ?_⟩
    rw [List.drop_eq_nil_of_le (Nat.le_of_not_lt hlt)] at el
    cases el
    exact fin z ci rfl
theorem comp_run {K : PySem.W.Frag} {fl : Bool} {m : Si} {t : Tg} {test : Sb} {elt : Sm} {vs : List Nat} (hv : ∀ i ∈ t.slots, i ∈ vs) {σ : L2.St} {H : Hp} {Q : VK} (q : tE K (sComp fl m t test elt vs) σ H Q) :
    tLc (tI K m) (gT K t) (tB K test) (tE K elt) vs σ H Q := by
  obtain ⟨ρ, w, r, μ', e1, e2, ok, s, k⟩ := q
  obtain ⟨src, μ1, ea, h⟩ := comp_core hv e2 ok s k
  exact ⟨ρ, w, src, μ1, e1, ea, ok, s, h⟩
section
variable {X : Cx} {elt tg iter : Expr} {ifs : List Expr} {scope : Scope} {own : List (Str × Nat)} {pos : Pos} {m : Si} {t : Tg} {test : Sb} {el : Sm} {fl : Bool}
theorem pts_of {X : Cx} {es : List Expr} {t t' : TT} (h : PTs X es t) (i : ∀ σ H Q, t' σ H Q → t σ H Q) : PTs X es t' := ⟨fun pins s σ H Q I hw => h.run pins s σ H Q I (i _ _ _ hw)⟩
theorem pTs_nil : PTs X [] (tB X.K sYes) := pts_of pts_nil fun σ H Q q => by
  obtain ⟨ρ, w, b, μ', e1, e2, ok, s, k⟩ := q
  cases e2
  exact e1 ▸ k w rfl ok (.refl w)
theorem pTs_one {c : Expr} {b : Sb} (h : PT X c (tB X.K b)) : PTs X [c] (tB X.K b) := pts_one h
theorem pE_comp (hc : X.calm = true) (hN : X.N.Nodup) (hi : PI X tg iter (tI X.K m)) (ok : BlkOk X.N X.env.scope scope own)
    (hg : ∀ (s : Shared) (H : Hp) (C : Addr) (cl : List (Str × Addr)) (fp : List Addr), PG (X.blk s H scope (compEnvC scope cl C X.env) fp) tg (gT X.K t))
    (ht : ∀ (s : Shared) (H : Hp) (C : Addr) (cl : List (Str × Addr)) (fp : List Addr), PTs (X.blk s H scope (compEnvC scope cl C X.env) fp) ifs (tB X.K test))
    (he : ∀ (s : Shared) (H : Hp) (C : Addr) (cl : List (Str × Addr)) (fp : List Addr), PE (X.blk s H scope (compEnvC scope cl C X.env) fp) elt (tE X.K el))
    (hv : ∀ i ∈ t.slots, i ∈ own.map (·.2)) (hs : ∀ x, foldedSetIterable iter X.env x = pure x := by intro _; rfl) :
    PE X (.ListComp elt [⟨tg, iter, ifs, 0⟩] scope pos) (tE X.K (sComp fl m t test el (own.map (·.2)))) := pe_of (pe_lc hc hN hi ok hg ht he hs) fun σ H Q q => comp_run hv q
theorem pS_setComp {i : Nat} {y : Str} {py : Pos} {spos : Pos} (hc : X.calm = true) (hN : X.N.Nodup) (hy : X.N[i]? = some y) (hyl : X.env.scope.names.lookup y = some .local)
    (hsw : swapsWith (.ListComp elt [⟨tg, iter, ifs, 0⟩] scope pos) (some (.Name y py)) spos.line X.env = pure true) (hi : PI X tg iter (tI X.K m)) (ok : BlkOk X.N X.env.scope scope own)
    (hg : ∀ (s : Shared) (H : Hp) (C : Addr) (cl : List (Str × Addr)) (fp : List Addr), PG (X.blk s H scope (compEnvC scope cl C X.env) fp) tg (gT X.K t))
    (ht : ∀ (s : Shared) (H : Hp) (C : Addr) (cl : List (Str × Addr)) (fp : List Addr), PTs (X.blk s H scope (compEnvC scope cl C X.env) fp) ifs (tB X.K test))
    (he : ∀ (s : Shared) (H : Hp) (C : Addr) (cl : List (Str × Addr)) (fp : List Addr), PE (X.blk s H scope (compEnvC scope cl C X.env) fp) elt (tE X.K el))
    (hv : ∀ i ∈ t.slots, i ∈ own.map (·.2)) (hs : ∀ x, foldedSetIterable iter X.env x = pure x := by intro _; rfl) :
    PS X (.Assign [.Name y py] (.ListComp elt [⟨tg, iter, ifs, 0⟩] scope pos) spos) (tS X.K (sAsg (sComp fl m t test el (own.map (·.2))) (.nm i))) :=
  ps_of (ps_setLc hc hN hy hyl hsw hi ok hg ht he hs) fun D σ H q => by
    have h : tAsg (tE X.K (sComp fl m t test el (own.map (·.2)))) (gT X.K (.nm i)) D σ H := asg_run q
    exact comp_run hv h
end

/-! ### defs -/
abbrev Fn := List Rv → Mu → Option (Rv × Mu)
@[simp] def retv (n : Nat) (μ : Mu) : Rv → Option (Rv × Mu)
  | .d x => some (.d x, μ.take n)
  | .m k => if k < n then some (.m k, μ.take n) else (μ[k]?).map fun o => (.m n, μ.take n ++ [o])
  | .s _ => none
@[simp] def mkFn (n N : Nat) (body : Ss) : Fn := fun rs μ => if rs.length = n then (body (rs.map some ++ List.replicate (N - rs.length) none) μ).bind fun p => match p.1 with
    | .nx => some (.d .none, p.2.2.take μ.length)
    | .rt r => retv μ.length p.2.2 r
    | _ => none
  else none
def spF (K : PySem.W.Frag) (n : Nat) (g : Fn) : Sp := fun vs H Q _ => ∃ (w : Wd) (rs : List Rv) (r : Rv) (μ' : Mu), w.H = H ∧ vs.length = n ∧ g rs w.μ = some (r, μ') ∧ w.Ok ∧ RpRs K w rs vs ∧ Wish K w r μ' Q
/-- a world cut behind a def: what is handed back is kept -/
theorem ret_ok {K : PySem.W.Frag} {w u : Wd} (ok : w.Ok) (oku : u.Ok) (le : w.le u) {r q : Rv} {v : V} {μ' : Mu} (h : RpR K u r v) (e : retv w.μ.length u.μ r = some (q, μ')) {Q : VK} (k : Wish K w q μ' Q) : Q v u.H := by
  cases r with
  | d x =>
    cases e
    exact k (u.cut w.μ.length) v rfl (Wd.cut_ok oku _) (Wd.cut_le ok le) (Rp.mono (Wd.cut_leR _) _ _ h)
  | s ns => cases e
  | m j =>
    obtain ⟨a, ha, hv⟩ := h
    have e : (if j < w.μ.length then some (Rv.m j, u.μ.take w.μ.length) else (u.μ[j]?).map fun o => (Rv.m w.μ.length, u.μ.take w.μ.length ++ [o])) = some (q, μ') := e
    split at e
    · rename_i hj
      cases e
      exact k (u.cut w.μ.length) v rfl (Wd.cut_ok oku _) (Wd.cut_le ok le) ⟨a, get_take.mpr ⟨hj, ha⟩, hv⟩
    · rename_i hj
      obtain ⟨o, eo, e⟩ := Option.map_eq_some_iff.mp e
      cases e
      have hcut := Wd.cut_le ok le
      have hA : (u.cut w.μ.length).A = w.A := Wd.cut_A ok le
      have hn : w.μ.length ≤ u.μ.length := by
        have := (List.getElem?_eq_some_iff.mp eo).1
        omega
      have hlen : (u.μ.take w.μ.length).length = w.μ.length := take_len _ _ hn
      have hlenA : (u.A.take w.μ.length).length = w.μ.length := take_len _ _ (by rw [oku.len]; exact hn)
      -- the world with the list handed back as its last thing
      have lv : ∀ b, (Wd.mk (u.μ.take w.μ.length ++ [o]) (u.A.take w.μ.length ++ [a]) u.H).live b → u.live b := by
        rintro b ⟨i, x, e1, e2, e3⟩
        rcases (get_snoc _ _ _ _).mp e1 with g1 | ⟨g1, rfl⟩
        · rcases (get_snoc _ _ _ _).mp e3 with g3 | ⟨g3, _⟩
          · exact ⟨i, x, (get_take.mp g1).2, e2, (get_take.mp g3).2⟩
          · have := (get_take.mp g1).1
            rw [hlenA] at g3; omega
        · rcases (get_snoc _ _ _ _).mp e3 with g3 | ⟨_, rfl⟩
          · have := (get_take.mp g3).1
            rw [hlen] at g1; omega
          · exact ⟨j, o, eo, e2, ha⟩
      have same : ∀ b x, u.F b = some x → (Wd.mk (u.μ.take w.μ.length ++ [o]) (u.A.take w.μ.length ++ [a]) u.H).F b = some x := fun b x e => by
        obtain ⟨e1, e2⟩ := Wd.F_some e
        rw [Wd.F_not (fun z => e2 (lv b z))]; exact e1
      have get : ∀ {i : Nat} {x : Mo} {b : Addr}, (u.μ.take w.μ.length ++ [o])[i]? = some x → (u.A.take w.μ.length ++ [a])[i]? = some b → ∃ i', u.μ[i']? = some x ∧ u.A[i']? = some b ∧ (i < w.μ.length ∧ i' = i ∨ i = w.μ.length ∧ i' = j) := by
        intro i x b e1 e3
        rcases (get_snoc _ _ _ _).mp e1 with g1 | ⟨g1, rfl⟩
        · rcases (get_snoc _ _ _ _).mp e3 with g3 | ⟨g3, _⟩
          · exact ⟨i, (get_take.mp g1).2, (get_take.mp g3).2, .inl ⟨(get_take.mp g1).1, rfl⟩⟩
          · have := (get_take.mp g1).1
            rw [hlenA] at g3; omega
        · rcases (get_snoc _ _ _ _).mp e3 with g3 | ⟨_, rfl⟩
          · have := (get_take.mp g3).1
            rw [hlen] at g1; omega
          · exact ⟨j, eo, ha, .inr ⟨by rw [hlen] at g1; exact g1, rfl⟩⟩
      refine k ⟨u.μ.take w.μ.length ++ [o], u.A.take w.μ.length ++ [a], u.H⟩ v rfl ⟨?_, ?_, ?_⟩ ⟨?_, le.le.trans (LeR.of_same same), fun b x z e => same b _ (le.frz b x z e)⟩ ⟨a, (get_snoc _ _ _ _).mpr (.inr ⟨hlenA.symm, rfl⟩), hv⟩
      · rw [List.length_append, List.length_append, hlen, hlenA]; rfl
      · intro i i2 x y b e1 e2 d1 d2 f1 f2
        obtain ⟨i', g1, g2, g3⟩ := get e1 f1
        obtain ⟨i2', k1, k2, k3⟩ := get e2 f2
        have := oku.inj i' i2' x y b g1 k1 d1 d2 g2 k2
        omega
      · intro i x b e1 e2
        obtain ⟨i', g1, g2, g3⟩ := get e1 e2
        exact (oku.ok i' x b g1 g2).mono (LeR.of_same same) fun _ => rfl
      · obtain ⟨tl, et⟩ := hcut.pre
        have hA' : u.A.take w.μ.length = w.A := hA
        show w.A <+: u.A.take w.μ.length ++ [a]
        rw [hA']
        exact List.prefix_append _ _
section
variable {P : Program} {w : World} {K : PySem.W.Frag} {mg : Str → Option Value} {base : Heap}
theorem args_slots {K : PySem.W.Frag} {w : Wd} : ∀ {rs : List Rv} {vs : List V}, RpRs K w rs vs → ∀ n : Nat, Slots K (rs.map some ++ List.replicate n none) w (vs.map some ++ List.replicate n none)
  | _, _, .nil, n => ⟨by simp, fun i r e => by
      rw [List.map_nil, List.nil_append, List.getElem?_replicate] at e
      split at e <;> cases e⟩
  | _, _, .cons r t, n => by
    have h := args_slots t n
    refine ⟨by simpa using h.len, fun i q e => ?_⟩
    cases i with
    | zero =>
      cases e
      exact ⟨_, rfl, r⟩
    | succ i => exact h.get i q e
theorem RpRs.length {K : PySem.W.Frag} {w : Wd} {rs : List Rv} {vs : List V} (h : RpRs K w rs vs) : rs.length = vs.length := Paired.length h
/-- a def by its body -/
theorem fn_ok {x qual : Str} {st : Stmt} {f : Addr} {fd : FuncData} {N ps : List Str} {k : Nat} {body : Ss} (F : Fun K x qual st f fd) (S : FnScope N ps (defScope st))
    (hbody : ∀ (cdv : Value) (A : Around) (outer : List Env) (s : Shared) (H : Hp) (E : XK), Room k (A.deeper (envOfC qual (defScope st) s.heap.objs.size f cdv)) →
      PSs (cxOf CX0 P w K mg base N qual (defScope st) f cdv A outer s H E).nox (defBody st) (tS K body)) : FnOk P w K mg base CX0 (k + 1) f fd ps (spF K ps.length (mkFn ps.length N.length body)) := by
  refine F.ok S (fun vs H Q E h => ?_) (fun cdv A outer s H vs Q E hr h => ?_)
  · obtain ⟨_, _, _, _, _, h, _⟩ := h
    exact h
  · obtain ⟨w0, rs, r, μ', rfl, hl, e, ok, rp, wish⟩ := h
    refine ⟨_, hbody cdv A outer s w0.H E hr, ?_⟩
    unfold mkFn at e
    rw [if_pos (rp.length.trans hl)] at e
    obtain ⟨⟨fl, ρ', μ2⟩, e1, e2⟩ := Option.bind_eq_some_iff.mp e
    refine ⟨_, w0, fl, ρ', μ2, rfl, e1, ok, ?_, fun u σ' eu oku le su => ?_⟩
    · rw [rp.length]
      exact args_slots rp _
    · subst eu
      cases fl with
      | nx =>
        cases e2
        exact wish (u.cut w0.μ.length) _ rfl (Wd.cut_ok oku _) (Wd.cut_le ok le) .non
      | rt q => exact fun v hv => ret_ok ok oku le hv e2 wish
      | bk => cases e2
      | ct => cases e2
/-- what a caller knows of a def -/
structure Cal (P : Program) (w : World) (K : PySem.W.Frag) (mg : Str → Option Value) (base : Heap) (k : Nat) (x : Str) (n : Nat) (g : Fn) : Prop where
  ex : ∃ (f : Addr) (fd : FuncData) (ps : List Str), ps.length = n ∧ FnOk P w K mg base CX0 k f fd ps (spF K n g) ∧ mg x = some (.ref f) ∧ PySem.W.keepIn K (.ref f) = true ∧ Binds K fd ps []
theorem Cal.mono {k j : Nat} {x : Str} {n : Nat} {g : Fn} (c : Cal P w K mg base k x n g) (h : k ≤ j) : Cal P w K mg base j x n g :=
  let ⟨f, fd, ps, h0, h1, h2, h3, h4⟩ := c.ex
  ⟨f, fd, ps, h0, h1.mono h, h2, h3, h4⟩
end
@[simp] def sCall (n : Nat) (g : Fn) (a : Sa) : Sm := sA (fun μ rs => if rs.length = n then g rs μ else none) a
section
variable {X : Cx} {e : Expr} {es : List Expr} {pos p : Pos}
theorem pE_call {k n : Nat} {x : Str} {g : Fn} {ma : Sa} (c : Cal X.prog X.w X.K X.mg X.base k x n g) (hr : Room k X.A) (hg : Gl X x) (ha : PA X (e :: es) (tAs X.K ma)) (hdb : (x == ("__debug__" : Str)) = false := by decide)
    (he : starEach (e :: es) X.env = (false, eval e X.env) :: starEach es X.env := by rfl) (hpl : (backTo pos (starEach es X.env)).any (·.1) = false := by rfl) : PE X (.Call (.Name x p) (e :: es) [] pos) (tE X.K (sCall n g ma)) := by
  obtain ⟨f, fd, ps, h0, h1, h2, h3, h4⟩ := c.ex
  refine pe_of (pe_call h1 hr hg h2 h3 h4 .nil pass0 ha hdb he hpl) fun σ H Q q => ?_
  refine args_run (t := fun vs H1 Q1 => spF X.K n g (vs ++ []) H1 Q1 E0) (fun w rs vs r μ' Q1 e1 ok rp k1 => ?_) q
  split at e1
  · rename_i hl
    exact ⟨w, rs, r, μ', rfl, by rw [List.append_nil, ← rp.length]; exact hl, e1, ok, by rw [List.append_nil]; exact rp, k1⟩
  · cases e1
end
end Sh
set_option Elab.async false
set_option linter.all false
set_option maxRecDepth 100000
namespace Sh
open PySem L2 PyProof.Rows
section
variable {X : Cx} {o e i value : Expr} {pos apos pos' : Pos}
/-! ### append, pop -/
theorem pE_app {m : Sm} {a : Sa} (ho : PE X o (tE X.K m)) (ha : PA X [e] (tAs X.K a)) (hbase : attributeBase o "append" X.env (eval o X.env) = eval o X.env := by rfl)
    (hfew : ((backTo pos (starEach [e] X.env)).all (fun x => !x.1) && (backToKw pos (keywordEach [] X.env)).all (fun x => x.1.isSome)
      && decide ([e].length + ([] : List Keyword).length + (if ([] : List Keyword).isEmpty then 0 else 1) < 30)) = true := by rfl)
    (hline : (apos.endLine == pos.line) = true := by rfl) (hs : starEach [e] X.env = (false, eval e X.env) :: starEach [] X.env := by rfl) (hplain : (backTo pos (starEach [] X.env)).any (·.1) = false := by rfl) :
    PE X (.Call (.Attribute o "append" apos) [e] [] pos) (tE X.K (sMet fApp m a)) :=
  pe_of (pe_bm PySem.F.plainAttrs_list PySem.F.slot_list_append PySem.F.type_list_append mt_append ho ha hbase hfew hline hs hplain) fun _ _ _ q => met_run opM_app q
theorem pE_pop {m : Sm} {a : Sa} (ho : PE X o (tE X.K m)) (ha : PA X [e] (tAs X.K a)) (hbase : attributeBase o "pop" X.env (eval o X.env) = eval o X.env := by rfl)
    (hfew : ((backTo pos (starEach [e] X.env)).all (fun x => !x.1) && (backToKw pos (keywordEach [] X.env)).all (fun x => x.1.isSome)
      && decide ([e].length + ([] : List Keyword).length + (if ([] : List Keyword).isEmpty then 0 else 1) < 30)) = true := by rfl)
    (hline : (apos.endLine == pos.line) = true := by rfl) (hs : starEach [e] X.env = (false, eval e X.env) :: starEach [] X.env := by rfl) (hplain : (backTo pos (starEach [] X.env)).any (·.1) = false := by rfl) :
    PE X (.Call (.Attribute o "pop" apos) [e] [] pos) (tE X.K (sMet fPop m a)) :=
  pe_of (pe_bm PySem.F.plainAttrs_list PySem.F.slot_list_pop PySem.F.type_list_pop mt_popAt ho ha hbase hfew hline hs hplain) fun _ _ _ q => met_run opM_pop q
theorem pE_pop0 {m : Sm} (ho : PE X o (tE X.K m)) (hbase : attributeBase o "pop" X.env (eval o X.env) = eval o X.env := by rfl) (hline : (apos.endLine == pos.line) = true := by rfl) :
    PE X (.Call (.Attribute o "pop" apos) [] [] pos) (tE X.K (sMet fPop0 m sNil)) :=
  pe_of (pe_bm0 PySem.F.plainAttrs_list PySem.F.slot_list_pop PySem.F.type_list_pop mt_pop ho hbase hline) fun _ _ _ q => by
    have h := met_run opM_pop0 q
    obtain ⟨ρ, w, r, μ', e1, e2, ok, s, k⟩ := h
    refine ⟨ρ, w, r, μ', e1, e2, ok, s, fun u v eu oku le rp => ?_⟩
    obtain ⟨h1, ρ2, w2, rs, μ2, e3, e4, ok2, s2, k2⟩ := k u v eu oku le rp
    cases e4
    exact ⟨h1, by rw [← e3]; exact k2 w2 [] rfl ok2 (.refl w2) .nil⟩
end
end Sh
set_option Elab.async false
set_option linter.all false
set_option maxRecDepth 100000
set_option maxHeartbeats 4000000
namespace Sh
open PySem L2 PyProof.Rows

/-! ### t[::-1] of a tuple -/
section
variable {prog : Program} {w : World} {A : Around} {E : Value → Shared → Prop} {s : Shared}
theorem pickAll {α : Type} : ∀ l : List α, (List.range l.length).filterMap (fun k => l[k]?) = l
  | [] => rfl
  | x :: r => by
    rw [List.length_cons, List.range_succ_eq_map, List.filterMap_cons]
    show x :: (List.filterMap (fun k => (x :: r)[k]?) (List.map Nat.succ (List.range r.length))) = x :: r
    rw [List.filterMap_map]
    congr 1
    exact pickAll r
theorem fm_congr {α β : Type} {f g : α → Option β} : ∀ {l : List α}, (∀ x ∈ l, f x = g x) → l.filterMap f = l.filterMap g
  | [], _ => rfl
  | x :: r, h => by
    rw [List.filterMap_cons, List.filterMap_cons, h x List.mem_cons_self, fm_congr fun y hy => h y (List.mem_cons_of_mem _ hy)]
theorem pickRev (its : List Value) : ((List.range its.length).filterMap fun (k : Nat) => its.toArray[((((its.length : Int) - 1) + (k : Int) * (-1)).toNat)]?) = its.reverse := by
  have h := pickAll its.reverse
  rw [List.length_reverse] at h
  rw [← h]
  refine fm_congr fun k hk => ?_
  have hk' : k < its.length := List.mem_range.mp hk
  rw [List.getElem?_reverse hk', List.getElem?_toArray]
  congr 1
  omega
theorem sliceApplied_rev {sl : Addr} {vs : Value} {n : Nat} {Q : Int × Int × Nat → Shared → Prop} (hs : s.heap.IsSliceOf sl .none .none vs) (pk : IsPart vs (some (-1))) (h : Q ((n : Int) - 1, -1, n) s) :
    wpAny (model prog w) A (Builtin.Slice.sliceApplied (.ref sl) (pure (n : Int))) Q E s := by
  obtain ⟨osl, q1, q2, q3⟩ := id hs
  unfold Builtin.Slice.sliceApplied Builtin.Slice.sliceFields
  refine wpAny_bind (wpAny_bind (wpAny_field q1 q3 (x := .none) rfl (wpAny_bind (wpAny_field q1 q3 (x := .none) rfl (wpAny_bind (wpAny_field q1 q3 (x := vs) rfl (wpAny_pure ?_)))))))
  refine wpAny_bind (HT.slicePart_ pk ?_)
  show wpAny _ _ (if ((-1 : Int) == 0) = true then _ else _) _ _ s
  rw [if_neg (by decide)]
  refine wpAny_bind (slicePart_none (wpAny_bind (slicePart_none (wpAny_bind (wpAny_pure ?_)))))
  refine wpAny_pure ?_
  show Q ((n : Int) - 1, (-1 : Int), Builtin.Slice.slicePlaces ((n : Int) - 1) (-1) (-1)) s
  have e : Builtin.Slice.slicePlaces ((n : Int) - 1) (-1) (-1) = n := by
    unfold Builtin.Slice.slicePlaces
    rw [if_neg (by decide)]
    by_cases h0 : n = 0
    · rw [h0]; rfl
    · rw [if_pos (by omega)]
      have : ((n : Int) - 1 - -1 - 1) / -(-1) + 1 = (n : Int) := by
        have e : (-(-1) : Int) = 1 := rfl
        rw [e, Int.ediv_one]; omega
      rw [this]; exact Int.toNat_natCast _
  rw [e]; exact h
theorem getItem_revT {t sl : Addr} {its : List Value} {vs : Value} {Q : Value → Shared → Prop} (ht : IsTup s.heap t its.toArray) (hs : s.heap.IsSliceOf sl .none .none vs) (pk : IsPart vs (some (-1)))
    (h : Q (.ref s.heap.objs.size) { s with heap := s.heap.push { cls := .type "tuple", data := .seq its.reverse.toArray } }) (hz : its.length ≤ sizeLine) : wpAny (model prog w) A (getItem (.ref t) (.ref sl)) Q E s := by
  obtain ⟨osl, q1, q2, q3⟩ := id hs
  have tsl : s.TypeIs (.ref sl) "slice" := ⟨osl, q1, q2⟩
  have fits : sizeOk (.seq its.reverse.toArray) := by
    show its.reverse.toArray.size ≤ sizeLine
    rw [List.size_toArray, List.length_reverse]; exact hz
  unfold getItem
  try with_reducible refine wpAny_holding ?_
  first | refine wpAny_bind (wpAny_pure ?_) | skip
  refine wpAny_bind (wpAny_sequenceKey ht.typeIs (by decide) ?_)
  refine wpAny_bind (wpAny_callSpecial?_slot (name := Str.ofString "__getitem__") ht.typeIs slot_tuple_getitem (wpAny_call_entry slot_tuple_getitem ht.typeIs entry_tuple_getitem ?_ (args_tuple_getitem _ _)))
  show wpAny _ _ (Builtin.Tuple.tupleItemsOf (.ref t) >>= _) _ _ s
  refine wpAny_bind (tupleItemsOf_ ht ?_)
  refine wpAny_bind (wpAny_typeOf tsl ?_)
  rw [if_pos (by decide)]
  rw [List.size_toArray]
  refine wpAny_bind (sliceApplied_rev hs pk ?_)
  have hno : ¬ ((((its.length : Int) - 1 == 0) && ((-1 : Int) == 1) && (its.length == its.length)) = true) := by
    rw [Bool.and_eq_true, Bool.and_eq_true]
    rintro ⟨⟨_, z⟩, _⟩
    exact absurd z (by decide)
  show wpAny _ _ (if (((its.length : Int) - 1 == 0) && ((-1 : Int) == 1) && (its.length == its.length)) = true then _ else _) _ _ s
  rw [if_neg hno, pickRev]
  first
    | exact wpAny_bind (m := Builtin.Tuple.tupleExact _) (wpAny_newObj_type (wpAny_pure ⟨_, rfl, wpAny_pure h⟩) fits)
    | exact wpAny_bind (m := Builtin.Tuple.tupleExact _) (wpAny_newObj_type (wpAny_bind (wpAny_pure (wpAny_pure ⟨_, rfl, wpAny_pure h⟩))) fits)
    | exact wpAny_bind (wpAny_bind (m := Builtin.Tuple.tupleExact _) (wpAny_newObj_type (wpAny_pure (wpAny_pure ⟨_, rfl, wpAny_pure h⟩)) fits))
    | exact wpAny_bind (wpAny_bind (m := Builtin.Tuple.tupleExact _) (wpAny_newObj_type (wpAny_pure ⟨_, rfl, wpAny_pure h⟩) fits))
end
section
variable {X : Cx} {e : Expr} {pos : Pos}
def tRevT (K : PySem.W.Frag) (te : TE) : TE := fun σ H Q => te σ H fun x H1 => ∃ a xs, x = .ref a ∧ SqT K H1 a xs ∧ ∀ p, H1 p = none → Q (.ref p) (upd H1 p (.tup xs.reverse))
theorem pe_revT {te : TE} {k : Nat} {p1 p2 p3 : Pos} (he : PE X e te) : PE X (.Subscript e (.Slice none none (some (.UnaryOp .USub (.Constant (.int 1) k p1) p2)) p3) pos) (tRevT X.K te) := by
  refine ⟨fun pins s σ H Q I h => ?_⟩
  refine Subscript_ (thn (he.run pins s σ H _ I h) fun v s1 ⟨x, H1, I1, r1, q1⟩ => ?_)
  obtain ⟨a, xs, rfl, hx, q⟩ := q1
  cases r1
  have stp : PO X (some (.UnaryOp .USub (.Constant (.int 1) k p1) p2)) (tPart (tUn (rU fun i => .int (-i)) (tC (.int 1)))) := po_some (pe_un un_neg pe_int)
  refine wpAny_Slice (thn (po_none.run pins s1 σ H1 (fun o H2 => o = none ∧ H2 = H1) I1 ⟨rfl, rfl⟩) fun vl s2 ⟨l, H2, I2, pl, el, e2⟩ => ?_)
  subst el e2
  refine thn (po_none.run pins s2 σ H2 (fun o H3 => o = none ∧ H3 = H2) I2 ⟨rfl, rfl⟩) fun vu s3 ⟨u, H3, I3, pu, eu, e3⟩ => ?_
  subst eu e3
  refine thn (stp.run pins s3 σ H3 (fun o H4 => o = some (-1) ∧ H4 = H3) I3 ⟨1, rfl, -1, rfl, rfl, rfl⟩) fun vs s4 ⟨o, H4, I4, pk, eo, e4⟩ => ?_
  subst eo e4
  cases pl
  cases pu
  have J : Inv X pins σ H4 { s4 with heap := s4.heap.push { cls := .type "slice", data := .fields #[.none, .none, vs] } } := I4.kept (t' := s4.toks) fun b ob q => Heap.get?_push_of_some _ q
  obtain ⟨its, r, tt, hz⟩ := J.tuple hx
  refine tail_any (ops := [.ref a, .ref s4.heap.objs.size]) tt.typeIs slot_tuple_getitem.lookup ?_ (by with_unfolding_all rfl)
  refine getItem_revT tt (Heap.IsSliceOf.new _ .none .none vs) pk ?_ (by rw [← r.length]; exact hz)
  refine ⟨.ref _, _, J.laid (t' := s4.toks) (o := .tup xs.reverse) (fun b ob q => Heap.get?_push_of_some _ q) (Nat.le_refl _) ?_, rfl, q _ (J.hok.fresh (Nat.le_refl _))⟩
  exact ⟨by rw [List.length_reverse]; exact hz, _, r.reverse, _, Heap.get?_push_size _ rfl, rfl, 0, rfl⟩
@[simp] def fRevT : F1 := fun μ x => match x with
  | .d (.tuple ds) => some (.d (.tuple ds.reverse), μ)
  | _ => none
theorem pE_revT {m : Sm} {kk : Nat} {p1 p2 p3 : Pos} (he : PE X e (tE X.K m)) : PE X (.Subscript e (.Slice none none (some (.UnaryOp .USub (.Constant (.int 1) kk p1) p2)) p3) pos) (tE X.K (s1 fRevT m)) :=
  pe_of (pe_revT he) fun σ H Q q => one_run (t := fun x H1 Q => ∃ a xs, x = .ref a ∧ SqT X.K H1 a xs ∧ ∀ p, H1 p = none → Q (.ref p) (upd H1 p (.tup xs.reverse))) (by
    intro w x v r μ' Q e ok rx k
    unfold fRevT at e
    split at e
    · cases e
      obtain ⟨a, xs, h1, h2, h3⟩ := Rp.top rx
      exact ⟨a, xs, h1, SqT.ofF h2, fun p hp => mkT_ok ok hp h3.reverse k⟩
    · cases e) q
end

/-! ### set(xs) of a list of ints -/
abbrev nS (w : World) : Obj := { cls := .type "set", dict := none, data := .set #[] 0 (.fresh 0 0 (!w.params.followText "set-order")) }
section
variable {P : Program} {w : World} {A : Around} {E : Value → Shared → Prop} {s : Shared}
set_option maxHeartbeats 3200000 in
theorem call_set_lstI {l : Addr} {vs : Array Value} (ns : List Int) {Q : Value → Shared → Prop} (hnd : A.handled = none) (hlst : s.heap.IsList l vs) (hin : IntsAre vs.toList ns) (hbd : ns.length + 1 < scanBound)
    (hq : ∀ (h' : Heap) (tk c : Nat), SetR w h' s.heap.objs.size (fun j => decide (j ∈ ns)) c → c ≤ ns.length → (∀ b o, s.heap.get? b = some o → h'.get? b = some o) → Q (.ref s.heap.objs.size) { s with heap := h', toks := tk }) :
    wpAny (model P w) A (call (.type "set") [.ref l]) Q E s := by
  have vsz : vs.size = ns.length := by
    have := IntsAre.length hin
    rwa [Array.length_toList] at this
  obtain ⟨c, tl, mro⟩ := F.called_set.mro
  have made := F.called_set.made
  have sub := F.called_set.sub
  refine wpAny_call (codeAny_of_tree ?_)
  show wpAny _ _ (callAny (.type "set") _) _ _ _
  refine wpAny_pure ⟨Code.quiet_builtin _ (by decide +kernel), codeAny_builtin F.entry_type_call ?_⟩
  rw [Around.under_plain (weight_type_call_type "set" [.ref l] []) rfl]
  have t1 := F.called_set.notType
  have t2 := F.called_set.canCreate
  have t3 := F.typeCall_set_1 (.ref l)
  repeat (any_goals (first | assumption | wp_step))
  refine codeAny_mono (code_set_led1 (.ref l) (E := E) (Q₁ := fun ob z => ob = .ref s.heap.objs.size ∧ z = { s with heap := s.heap.push (nS w) }) ⟨rfl, rfl⟩) fun r z hr => ?_
  cases r with
  | error e => exact hr
  | ok fl =>
    cases fl with
    | ret ob =>
      obtain ⟨rfl, rfl⟩ := hr
      have gS : (s.heap.push (nS w)).get? s.heap.objs.size = some (nS w) := Heap.get?_push_size _ rfl
      have tS : Shared.TypeIs { s with heap := s.heap.push (nS w) } (.ref s.heap.objs.size) "set" := ⟨_, gS, rfl⟩
      have li := F.called_set.init.lookup
      have bi := F.called_set.init.bind (.ref s.heap.objs.size)
      repeat (any_goals (first | assumption | wp_step))
      refine codeAny_mono (codeAny_call_builtin (R := wants (fun r z => r = .none ∧ ∃ h' tk c, z = { s with heap := h', toks := tk } ∧ SetR w h' s.heap.objs.size (fun j => decide (j ∈ ns)) c ∧ c ≤ ns.length ∧
          (∀ b o, s.heap.get? b = some o → h'.get? b = some o)) E) F.called_set.init.plain F.entry_set_init (check_set_init_1 tS ?_)) fun r2 z2 hr2 => ?_
      · obtain ⟨ol, hol, hcl, nl, hdl⟩ := hlst
        obtain ⟨ocls, odict, odata, oslots⟩ := ol
        simp only at hcl hdl
        subst hcl; subst hdl
        have hol' : (s.heap.push (nS w)).get? l = some { cls := .type "list", dict := odict, data := .seq vs nl, slots := oslots } := Heap.get?_push_of_some _ hol
        have u1 := F.sub_list_set
        have u2 := F.sub_list_frozenset
        have u3 : (Value.type "list" == Value.type "dict") = false := by decide
        have hl1 : (s.heap.push (nS w)).IsList l vs := ⟨_, hol', rfl, nl, rfl⟩
        unfold Builtin.«set.__init__» noKeywords Builtin.Frozenset.updateFrom
        generalize hPI : pyIter = PI
        wp_walk
        subst hPI
        refine wpAny_pyIter_list hl1 ?_
        refine wpAny_bind (wpAny_runValue ?_)
        have ll : l < s.heap.objs.size := Heap.lt_size hol
        have hh3 : A.in1.in1.in1.handled = none := by simp [hnd]
        have nI : l ≠ (s.heap.push (nS w)).objs.size := by
          rw [Heap.size_push]; exact Nat.ne_of_lt (Nat.lt_succ_of_lt ll)
        have nF : s.heap.objs.size ∉ [(s.heap.push (nS w)).objs.size, l] := by
          rw [Heap.size_push]
          intro q
          rcases List.mem_cons.mp q with q | q
          · exact absurd q (Nat.ne_of_lt (Nat.lt_succ_self _))
          · exact absurd (List.mem_singleton.mp q) (Nat.ne_of_gt ll)
        have hval : ∀ (i : Nat) (v : Value), vs[i]? = some v → ∃ k t, ns[i]? = some k ∧ v = .int k t := fun i v hv => by
          have hi : i < ns.length := by rw [← vsz]; exact (Array.getElem?_eq_some_iff.mp hv).1
          obtain ⟨t, e⟩ := PyProof.Rows.IntsAre.int_at hin i v (by rw [Array.getElem?_toList]; exact hv)
          refine ⟨ns[i], t, List.getElem?_eq_getElem hi, ?_⟩
          rw [e, List.getD_eq_getElem?_getD, List.getElem?_eq_getElem hi] <;> rfl
        refine set_update_ints ((Walks.list hh3 _ l nI vs).toS) s.heap.objs.size nF ns vsz hbd hval (vs.size - 0) 0 _ (by omega) (Nat.zero_le _)
          ⟨⟨_, Heap.get?_push_size _ rfl, rfl, rfl⟩, (hl1.push _)⟩ ?hA ?hB
        case hA =>
          exact ⟨0, Nat.le_refl 0, setR_new_at (Heap.get?_push_of_some _ gS)⟩
        case hB =>
          intro z c2 hm hc hR
          obtain ⟨h', g2, d', tk', os'⟩ := z
          have eg : g2 = s.gens := hm.gens
          have ed : d' = s.drawn := hm.drawn
          have eo : os' = s.os := hm.os
          subst eg; subst ed; subst eo
          show wpAny _ _ _ _ _ _
          refine wpAny_pure ?_
          show wpAny _ _ (ret Value.none) _ _ _
          rw [vsz] at hc
          refine wpAny_pure ⟨rfl, h', tk', c2, rfl, hR, hc, fun b o e => ?_⟩
          have b0 : b < s.heap.objs.size := Heap.lt_size e
          refine hm.heap b o (fun q => ?_) (Heap.get?_push_of_some _ (Heap.get?_push_of_some _ e))
          rcases List.mem_cons.mp q with q | q
          · exact absurd q (Nat.ne_of_lt b0)
          · rw [Heap.size_push] at q
            exact absurd (List.mem_singleton.mp q) (Nat.ne_of_lt (Nat.lt_succ_of_lt b0))
      · cases r2 with
        | error e => exact hr2
        | ok fl2 =>
          cases fl2 with
          | ret r =>
            obtain ⟨rfl, h', tk, c', rfl, y1, y2, y3⟩ := hr2
            repeat (any_goals (first | assumption | wp_step))
            exact hq _ _ _ y1 y2 y3
          | _ => exact hr2.elim
    | _ => exact hr.elim
end
/-- set(xs) of ints -/
def rSetI (K : PySem.W.Frag) (w : World) : List V → Hp → VK → Prop := fun xs H Q => ∃ (p : Addr) (ns : List Int), xs = [.ref p] ∧ (SqL K H p (ns.map V.int) ∨ SqT K H p (ns.map V.int)) ∧ ns.length ≤ 1000 ∧
  ∀ (q : Addr) (c : Nat), H q = none → c ≤ ns.length → Q (.ref q) (upd H q (SetO w q (fun j => decide (j ∈ ns)) c))
theorem cr_setI {X : Cx} (hc : X.calm = true) : CallR X (.type "set") (rSetI X.K X.w) := by
  intro pins s σ H xs us Q I r h
  obtain ⟨p, ns, rfl, hs, hl, q⟩ := h
  rw [Vals.ref1 r]
  have fin : ∀ (h' : Heap) (tk c : Nat), SetR X.w h' s.heap.objs.size (fun j => decide (j ∈ ns)) c → c ≤ ns.length → (∀ b o, s.heap.get? b = some o → h'.get? b = some o) → EP X pins σ Q (.ref s.heap.objs.size) { s with heap := h', toks := tk } := fun h' tk c R hc hk =>
    ⟨.ref _, upd H s.heap.objs.size (SetO X.w s.heap.objs.size (fun j => decide (j ∈ ns)) c), I.laid (t' := tk) hk (Nat.le_refl _) (setO_new R), rfl, q _ c (I.hok.fresh (Nat.le_refl _)) hc⟩
  have hb : ns.length + 1 < scanBound := by unfold scanBound; omega
  rcases hs with hs | hs
  · obtain ⟨its, rv, pl, _⟩ := I.list hs
    exact call_set_lstI ns (I.ok.hd hc) pl.isList (by simpa using intsAre_of rv) hb fin
  · obtain ⟨its, rv, tt, _⟩ := I.tuple hs
    obtain ⟨o, ho, h2, n, h3⟩ := tt
    exact call_set_tupI ns (I.ok.hd hc) ⟨o, ho, h2, n, h3⟩ (by simpa using intsAre_of rv) hb fin
/-! ### the rising list of some ints -/
def insI (x : Int) : List Int → List Int
  | [] => [x]
  | y :: r => if x < y then x :: y :: r else if x = y then y :: r else y :: insI x r
def sortI (l : List Int) : List Int := l.foldr insI []
theorem insI_mem (x : Int) : ∀ (l : List Int) (y : Int), y ∈ insI x l ↔ y = x ∨ y ∈ l
  | [], y => by simp [insI]
  | z :: r, y => by
    unfold insI
    split
    · simp
    · split
      · rename_i h; subst h; simp
      · rw [List.mem_cons, insI_mem x r y, List.mem_cons]
        constructor
        · rintro (h | h | h)
          · exact .inr (.inl h)
          · exact .inl h
          · exact .inr (.inr h)
        · rintro (h | h | h)
          · exact .inr (.inl h)
          · exact .inl h
          · exact .inr (.inr h)
theorem insI_rise (x : Int) : ∀ l : List Int, l.Pairwise (· < ·) → (insI x l).Pairwise (· < ·)
  | [], _ => by simp [insI]
  | z :: r, h => by
    obtain ⟨h1, h2⟩ := List.pairwise_cons.mp h
    unfold insI
    split
    · rename_i hx
      refine List.pairwise_cons.mpr ⟨fun y hy => ?_, h⟩
      rcases List.mem_cons.mp hy with e | hy
      · omega
      · have := h1 y hy; omega
    · split
      · exact h
      · rename_i h3 h4
        refine List.pairwise_cons.mpr ⟨fun y hy => ?_, insI_rise x r h2⟩
        rcases (insI_mem x r y).mp hy with e | hy
        · omega
        · exact h1 y hy
theorem sortI_mem : ∀ (l : List Int) (y : Int), y ∈ sortI l ↔ y ∈ l
  | [], y => by simp [sortI]
  | x :: r, y => by
    show y ∈ insI x (sortI r) ↔ _
    rw [insI_mem, sortI_mem r y, List.mem_cons]
theorem sortI_rise : ∀ l : List Int, (sortI l).Pairwise (· < ·)
  | [] => List.Pairwise.nil
  | x :: r => insI_rise x _ (sortI_rise r)
theorem rise_eq : ∀ {l m : List Int}, l.Pairwise (· < ·) → m.Pairwise (· < ·) → (∀ y, y ∈ l ↔ y ∈ m) → l = m
  | [], [], _, _, _ => rfl
  | [], y :: m, _, _, h => absurd ((h y).mpr List.mem_cons_self) (by simp)
  | y :: l, [], _, _, h => absurd ((h y).mp List.mem_cons_self) (by simp)
  | x :: l, y :: m, hl, hm, h => by
    obtain ⟨a1, a2⟩ := List.pairwise_cons.mp hl
    obtain ⟨b1, b2⟩ := List.pairwise_cons.mp hm
    have e : x = y := by
      rcases List.mem_cons.mp ((h x).mp List.mem_cons_self) with e | h1
      · exact e
      · rcases List.mem_cons.mp ((h y).mpr List.mem_cons_self) with e | h2
        · exact e.symm
        · have := b1 x h1; have := a1 y h2; omega
    subst e
    rw [rise_eq a2 b2 fun z => ?_]
    constructor
    · intro hz
      rcases List.mem_cons.mp ((h z).mp (List.mem_cons_of_mem _ hz)) with e | h1
      · have := a1 z hz; omega
      · exact h1
    · intro hz
      rcases List.mem_cons.mp ((h z).mpr (List.mem_cons_of_mem _ hz)) with e | h1
      · have := b1 z hz; omega
      · exact h1
/-- sorted(set(x)) -/
@[simp] def fSortSet (b : Bool) : F1 := fun μ x => ((rd μ x).bind itemsD).bind fun ds => (intsOf ds).bind fun ns => if ns.length < 64 then some (mkL b ((sortI ns).map .int) μ) else none
theorem pE_sortSet {X : Cx} {e : Expr} {fl : Bool} {k : Nat} {m : Sm} {p p2 pos pos2 : Pos} (hc : X.calm = true) (hr : Room k X.A) (he : PE X e (tE X.K m)) (hg : Gl X "sorted") (hm : X.mg "sorted" = none) (hg2 : Gl X "set") (hm2 : X.mg "set" = none)
    (n1 : starEach [e] X.env = (false, eval e X.env) :: starEach [] X.env := by rfl) (p1 : (backTo pos2 (starEach [] X.env)).any (·.1) = false := by rfl)
    (n2 : starEach [.Call (.Name "set" p2) [e] [] pos2] X.env = (false, eval (.Call (.Name "set" p2) [e] [] pos2) X.env) :: starEach [] X.env := by rfl) (q2 : (backTo pos (starEach [] X.env)).any (·.1) = false := by rfl) :
    PE X (.Call (.Name "sorted" p) [.Call (.Name "set" p2) [e] [] pos2] [] pos) (tE X.K (s1 (fSortSet fl) m)) := by
  have hset := pe_callTy (cr_setI hc) hg2 hm2 boot_set (pa_cons he pa_nil n1) (pos := pos2) (p := p2) (by decide) (by decide) n1 p1
  refine pe_of (pe_callB (cr_sortedSet hc) hg hm boot_sorted (pa_cons hset pa_nil n2) (pos := pos) (p := p) (by decide) (by decide) n2 q2) fun σ H Q q => ?_
  refine one_run (K := X.K) (t := fun v H1 Q1 => rSetI X.K X.w [v] H1 fun v2 H2 => rSortedSet X.w [v2] H2 Q1) ?_ q
  intro w x v r μ' Q1 e1 ok rx k1
  obtain ⟨ds, ed, e1⟩ := Option.bind_eq_some_iff.mp e1
  obtain ⟨ns, en, e1⟩ := Option.bind_eq_some_iff.mp e1
  split at e1
  · rename_i hl
    have e1 := Option.some.inj e1
    obtain ⟨d, ex, ei⟩ := Option.bind_eq_some_iff.mp ed
    have hx := RpR.rd ok rx ex
    have src : ∃ (a : Addr) (xs : List V), v = .ref a ∧ (SqL X.K w.H a xs ∨ SqT X.K w.H a xs) ∧ RpAll w.F xs ds := by
      cases d with
      | list es => cases ei; obtain ⟨a, xs, h1, h2, h3⟩ := hx; exact ⟨a, xs, h1, .inl (SqL.ofF h2), h3⟩
      | tuple es => cases ei; obtain ⟨a, xs, h1, h2, h3⟩ := hx; exact ⟨a, xs, h1, .inr (SqT.ofF h2), h3⟩
      | _ => cases ei
    obtain ⟨a, xs, rfl, hs, h3⟩ := src
    rw [intsOf_ok en] at h3
    rw [h3.ints] at hs
    refine ⟨a, ns, rfl, hs, by omega, fun q c hq hcl => ?_⟩
    refine ⟨q, _, c, rfl, upd_same, by omega, fun ms l hp hmem hlen hnone => ?_⟩
    have ems : ms = sortI ns := rise_eq hp (sortI_rise ns) fun y => by rw [hmem, sortI_mem]; exact decide_eq_true_iff
    subst ems
    have okq := Wd.put_ok (o := SetO X.w q (fun j => decide (j ∈ ns)) c) ok hq
    have leq := Wd.put_le (o := SetO X.w q (fun j => decide (j ∈ ns)) c) ok hq
    exact mkL_ok okq hnone (RpAll.ofInts _) e1 (Wish.to k1 leq)
  · cases e1
end Sh
set_option Elab.async false
set_option linter.all false
set_option maxRecDepth 100000
set_option maxHeartbeats 4000000
namespace Sh
open PySem L2 PyProof.Rows
section
variable {X : Cx} {o e i value : Expr} {pos pos' apos : Pos}
/-! ### dicts of the store: whole numbers by whole numbers -/
@[simp] def sNewK : Sm := fun _ μ => some (.m μ.length, μ ++ [.dK []])
theorem pE_newK : PE X (.Dict [] [] pos) (tE X.K sNewK) := pe_of pe_dnewK fun σ H Q q => by
  obtain ⟨ρ, w, r, μ', e1, e2, ok, s, k⟩ := q
  cases e2
  subst e1
  intro p hp
  have hd : Mo.dK [] ≠ Mo.dead := by intro z; cases z
  exact k (w.new p (.dK []) (.dK [])) (.ref p) rfl (Wd.new_ok ok hd hp upd_same) (Wd.new_le ok hd hp) ⟨p, (get_snoc _ _ _ _).mpr (.inr ⟨ok.len.symm, rfl⟩), rfl⟩
@[simp] def sNewT : Sm := fun _ μ => some (.m μ.length, μ ++ [.dT []])
theorem pE_newT : PE X (.Dict [] [] pos) (tE X.K sNewT) := pe_of pe_dnewT fun σ H Q q => by
  obtain ⟨ρ, w, r, μ', e1, e2, ok, s, k⟩ := q
  cases e2
  subst e1
  intro p hp
  have hd : Mo.dT [] ≠ Mo.dead := by intro z; cases z
  exact k (w.new p (.dT []) (.dT [])) (.ref p) rfl (Wd.new_ok ok hd hp ⟨[], upd_same, .nil⟩) (Wd.new_le ok hd hp) ⟨p, (get_snoc _ _ _ _).mpr (.inr ⟨ok.len.symm, rfl⟩), rfl⟩
/-- in its place, or at the end -/
def putI (kvs : List (Int × Int)) (k v : Int) : List (Int × Int) := if (kvs.any fun p => decide (p.1 = k)) = true then kvs.map (fun p => if p.1 = k then (p.1, v) else p) else kvs ++ [(k, v)]
theorem putI_K (kvs : List (Int × Int)) (k v : Int) : putK (kvs.map fun p => ((Sum.inl p.1 : Key), V.int p.2)) (Sum.inl k) (.int v) = (putI kvs k v).map fun p => (Sum.inl p.1, V.int p.2) := by
  have hd : ∀ a : Int, decide ((Sum.inl a : Key) = Sum.inl k) = decide (a = k) := fun a => by
    by_cases h : a = k
    · rw [h]; simp
    · rw [decide_eq_false h, decide_eq_false (fun q => h (Sum.inl.inj q))]
  unfold putK putI
  rw [List.any_map]
  have e1 : (kvs.any ((fun kv : Key × V => decide (kv.1 = Sum.inl k)) ∘ fun p => ((Sum.inl p.1 : Key), V.int p.2))) = kvs.any fun p => decide (p.1 = k) := by
    congr 1
    funext p
    exact hd p.1
  rw [e1]
  split
  · rw [List.map_map, List.map_map]
    congr 1
    funext p
    show (if (Sum.inl p.1 : Key) = Sum.inl k then ((Sum.inl p.1 : Key), V.int v) else (Sum.inl p.1, V.int p.2)) = (fun q : Int × Int => ((Sum.inl q.1 : Key), V.int q.2)) (if p.1 = k then (p.1, v) else p)
    by_cases h : p.1 = k
    · rw [if_pos h, if_pos (by rw [h])]
    · rw [if_neg h, if_neg (fun q => h (Sum.inl.inj q))]
  · rw [List.map_append]; rfl
/-- in its place, or at the end; keys are tuples of ints -/
def putD (es : List (PyData × PyData)) (k : List Int) (v : PyData) : List (PyData × PyData) :=
  if (es.any fun p => PyData.eqv p.1 (.tuple (k.map .int))) = true then es.map (fun p => if PyData.eqv p.1 (.tuple (k.map .int)) = true then (p.1, v) else p) else es ++ [(.tuple (k.map .int), v)]
theorem eqvAll_ints : ∀ a b : List Int, PyData.eqvAll (a.map .int) (b.map .int) = decide (a = b)
  | [], [] => rfl
  | [], _ :: _ => rfl
  | _ :: _, [] => rfl
  | x :: a, y :: b => by
    show (x == y && PyData.eqvAll (a.map .int) (b.map .int)) = _
    rw [eqvAll_ints a b, Bool.beq_eq_decide_eq]
    by_cases h : x = y
    · by_cases h2 : a = b
      · simp [h, h2]
      · simp [h, h2]
    · simp [h]
theorem inl_inj : ∀ {a b : List Int}, a.map (Sum.inl : Int → Key) = b.map Sum.inl ↔ a = b := by
  intro a b
  constructor
  · intro h
    induction a generalizing b with
    | nil => cases b with
      | nil => rfl
      | cons y b => cases h
    | cons x a ih => cases b with
      | nil => cases h
      | cons y b =>
        have h1 := List.cons.inj (by simpa using h : (Sum.inl x : Key) :: a.map Sum.inl = Sum.inl y :: b.map Sum.inl)
        rw [Sum.inl.inj h1.1, ih h1.2]
  · intro h; rw [h]
theorem RpKV.any {F : Hp} (k : List Int) : ∀ {ws : List (List Key × V)} {es : List (PyData × PyData)}, RpKV F ws es → (ws.any fun kv => decide (kv.1 = k.map Sum.inl)) = es.any fun p => PyData.eqv p.1 (.tuple (k.map .int))
  | _, _, .nil => rfl
  | _, _, .cons (k := j) r t => by
    rw [List.any_cons, List.any_cons, RpKV.any k t]
    congr 1
    show _ = PyData.eqvAll (j.map .int) (k.map .int)
    rw [eqvAll_ints]
    by_cases h : j = k
    · rw [h]; simp
    · rw [decide_eq_false h, decide_eq_false (fun q => h (inl_inj.mp q))]
theorem RpKV.mapPut {F : Hp} {v : V} {d : PyData} (hv : Rp F v d) (k : List Int) : ∀ {ws : List (List Key × V)} {es : List (PyData × PyData)}, RpKV F ws es →
    RpKV F (ws.map fun kv => if kv.1 = k.map Sum.inl then (kv.1, v) else kv) (es.map fun p => if PyData.eqv p.1 (.tuple (k.map .int)) = true then (p.1, d) else p)
  | _, _, .nil => .nil
  | _, _, .cons (k := j) (e := e) (v := u) r t => by
    rw [List.map_cons, List.map_cons]
    have hj : (PyData.eqv (.tuple (j.map .int)) (.tuple (k.map .int)) = true) ↔ j = k := by
      show PyData.eqvAll (j.map .int) (k.map .int) = true ↔ _
      rw [eqvAll_ints]; exact decide_eq_true_iff
    by_cases h : j = k
    · rw [if_pos (hj.mpr h), if_pos (by show j.map Sum.inl = _; rw [h])]
      exact .cons hv (t.mapPut hv k)
    · rw [if_neg (fun q => h (hj.mp q)), if_neg (fun q => h (inl_inj.mp q))]
      exact .cons r (t.mapPut hv k)
theorem RpKV.append {F : Hp} : ∀ {ws ws' : List (List Key × V)} {es es' : List (PyData × PyData)}, RpKV F ws es → RpKV F ws' es' → RpKV F (ws ++ ws') (es ++ es')
  | _, _, _, _, .nil, h => h
  | _, _, _, _, .cons r t, h => .cons r (t.append h)
theorem RpKV.put {F : Hp} {v : V} {d : PyData} (hv : Rp F v d) (k : List Int) {ws : List (List Key × V)} {es : List (PyData × PyData)} (h : RpKV F ws es) : RpKV F (putK ws (k.map Sum.inl) v) (putD es k d) := by
  unfold putK putD
  rw [h.any k]
  split
  · exact h.mapPut hv k
  · exact h.append (.cons hv .nil)
theorem RpKV.length {F : Hp} : ∀ {ws : List (List Key × V)} {es : List (PyData × PyData)}, RpKV F ws es → ws.length = es.length
  | _, _, .nil => rfl
  | _, _, .cons _ t => congrArg (· + 1) t.length
@[simp] def intOf : PyData → Option Int
  | .int i => some i
  | _ => none
@[simp] def tupOf : PyData → Option (List Int)
  | .tuple ds => intsOf ds
  | _ => none
/-- d[k] = v: v first -/
@[simp] def fSetD (μ : Mu) (o i x : Rv) : Option Mu := match o, i, x with
  | .m k, .d a, .d d => match μ[k]? with
    | some (.dK kvs) => (intOf a).bind fun j => (intOf d).bind fun n => if kvs.length < 4096 then some (μ.set k (.dK (putI kvs j n))) else none
    | some (.dT es) => (tupOf a).bind fun js => if es.length < 4096 then some (μ.set k (.dT (putD es js d))) else none
    | _ => none
  | _, _, _ => none
theorem intOf_ok {F : Hp} {v : V} {d : PyData} {i : Int} (h : Rp F v d) (e : intOf d = some i) : v = .int i := by cases h <;> cases e; rfl
theorem kV_ints (k : List Int) : (k.map (Sum.inl : Int → Key)).map kV = k.map V.int := by rw [List.map_map]; rfl
theorem tupOf_ok {w : Wd} {v : V} {d : PyData} {k : List Int} (h : Rp w.F v d) (e : tupOf d = some k) : ∃ b, v = .ref b ∧ w.F b = some (.tup ((k.map (Sum.inl : Int → Key)).map kV)) ∧ d = .tuple (k.map .int) := by
  cases h with
  | tup hf r =>
    have e := intsOf_ok e
    subst e
    rw [kV_ints, ← r.ints]
    exact ⟨_, rfl, hf, rfl⟩
  | _ => cases e
theorem setD_ok {K : PySem.W.Frag} {w : Wd} {o i x : Rv} {vo vi v : V} {μ' : Mu} (e : fSetD w.μ o i x = some μ') (ok : w.Ok) (ro : RpR K w o vo) (ri : RpR K w i vi) (rx : RpR K w x v) {Q : Hp → Prop} (k : ∀ u : Wd, u.μ = μ' → u.Ok → w.le u → Q u.H) :
    ∃ a H4, vo = .ref a ∧ DPut w.H a vi v H4 ∧ Q H4 := by
  unfold fSetD at e
  split at e
  · rename_i kk a d
    obtain ⟨p, hp, hv⟩ := ro
    subst hv
    split at e
    · rename_i kvs ek
      obtain ⟨j, e1, e⟩ := Option.bind_eq_some_iff.mp e
      obtain ⟨n, e2, e⟩ := Option.bind_eq_some_iff.mp e
      split at e
      · rename_i hl
        cases e
        have hm : w.H p = some (.dK (kvs.map fun p => (Sum.inl p.1, V.int p.2))) := ok.ok kk _ p ek hp
        have hd : Mo.dK kvs ≠ Mo.dead := by intro z; cases z
        have hd' : Mo.dK (putI kvs j n) ≠ Mo.dead := by intro z; cases z
        have v1 := intOf_ok ri e1
        have v2 := intOf_ok rx e2
        subst v1 v2
        refine ⟨p, _, rfl, .inl ⟨_, Sum.inl j, hm, rfl, by rw [List.length_map]; exact Nat.lt_of_lt_of_le hl (by decide), rfl⟩, ?_⟩
        rw [putI_K]
        exact k (w.chg kk p (.dK (putI kvs j n)) (.dK ((putI kvs j n).map fun p => (Sum.inl p.1, V.int p.2)))) rfl (Wd.chg_ok ok ek hd hd' hp (by show upd w.H p (.dK ((putI kvs j n).map fun p => (Sum.inl p.1, V.int p.2))) p = _; exact upd_same)) (Wd.chg_le ok ek hd hd' hp)
      · cases e
    · rename_i es ek
      obtain ⟨js, e1, e⟩ := Option.bind_eq_some_iff.mp e
      split at e
      · rename_i hl
        cases e
        obtain ⟨ws, hm, hr⟩ := ok.ok kk _ p ek hp
        have hd : Mo.dT es ≠ Mo.dead := by intro z; cases z
        have hd' : Mo.dT (putD es js d) ≠ Mo.dead := by intro z; cases z
        obtain ⟨b, rfl, hb, _⟩ := tupOf_ok ri e1
        refine ⟨p, _, rfl, .inr ⟨_, js.map Sum.inl, b, hm, rfl, (Wd.F_some hb).1, by rw [hr.length]; exact Nat.lt_of_lt_of_le hl (by decide), rfl⟩, ?_⟩
        exact k (w.chg kk p (.dT (putD es js d)) (.dT (putK ws (js.map Sum.inl) v))) rfl (Wd.chg_ok ok ek hd hd' hp ⟨_, upd_same, hr.put rx js⟩) (Wd.chg_le ok ek hd hd' hp)
      · cases e
    · cases e
  · cases e
@[simp] def sStD (o i m : Sm) : Ss := fun ρ μ => (m ρ μ).bind fun p => (o ρ p.2).bind fun q => (i ρ q.2).bind fun z => (fSetD z.2 q.1 z.1 p.1).map fun μ' => (.nx, ρ, μ')
theorem pS_stD {m mo mi : Sm} (hu : X.A.units + 1 < cLine) (he : PE X value (tE X.K m)) (ho : PE X o (tE X.K mo)) (hi : PE X i (tE X.K mi)) (hs : swapsWith value (some (.Subscript o i pos')) pos.line X.env = pure false := by rfl) :
    PS X (.Assign [.Subscript o i pos'] value pos) (tS X.K (sStD mo mi m)) :=
  ps_of (ps_dput hu ho hi he hs) fun D σ H q => by
    obtain ⟨ρ, w, f, ρ', μ', e1, e2, ok, s, k⟩ := q
    obtain ⟨⟨p1, pm⟩, ea, e2⟩ := Option.bind_eq_some_iff.mp e2
    obtain ⟨⟨q1, qm⟩, eb, e2⟩ := Option.bind_eq_some_iff.mp e2
    obtain ⟨⟨z1, zm⟩, ec, e2⟩ := Option.bind_eq_some_iff.mp e2
    obtain ⟨μ2, ed, e2⟩ := Option.map_eq_some_iff.mp e2
    cases e2
    refine ⟨ρ, w, p1, pm, e1, ea, ok, s, fun u v eu oku le rp => ?_⟩
    subst eu
    refine ⟨ρ, u, q1, qm, rfl, eb, oku, s.mono le, fun u2 vo eu2 oku2 le2 rpo => ?_⟩
    subst eu2
    refine ⟨ρ, u2, z1, zm, rfl, ec, oku2, s.mono (le.trans le2), fun u3 vi eu3 oku3 le3 rpi => ?_⟩
    subst eu3
    exact setD_ok (K := X.K) ed oku3 (rpo.mono le3) rpi (rp.mono (le2.trans le3)) fun z ez okz lez => k z σ ez okz (le.trans (le2.trans (le3.trans lez))) (s.mono (le.trans (le2.trans (le3.trans lez))))
end
end Sh
set_option Elab.async false
set_option linter.all false
set_option maxRecDepth 100000
set_option maxHeartbeats 4000000
namespace Sh
open PySem L2 PyProof.Rows

/-! ### sorted(d.items()) of a dict of ints by ints -/
/-- the pair at a value -/
def prAt (h : Heap) (v : Value) : Int × Int := match v with
  | .ref b => match h.get? b with
    | some o => match o.data with
      | .seq vs _ => match vs.toList with
        | [.int x _, .int y _] => (x, y)
        | _ => (0, 0)
      | _ => (0, 0)
    | none => (0, 0)
  | _ => (0, 0)
def adOf : Value → Addr
  | .ref b => b
  | _ => 0
theorem pairs_at {P : Program} {w : World} : ∀ {es : List DictEntry} {us : List (Key × Value)} {kvs : List (Int × Int)}, PySem.Pairs (mixKind P w) es us → KV (kvs.map fun p => ((Sum.inl p.1 : Key), V.int p.2)) us →
    ∀ (j : Nat) (e : DictEntry), es[j]? = some e → ∃ (q : Int × Int) (t t' : Tok), kvs[j]? = some q ∧ e.key = .int q.1 t ∧ e.val = .int q.2 t'
  | _, _, [], .nil, _, j, e, h => by simp at h
  | _, _, q :: kvs, .nil, r, j, e, h => by simp at h
  | _, _, [], .cons _ _ _, r, j, e, h => by cases r
  | _, _, q :: kvs, .cons (e := e0) (kv := kv) k1 k2 k3, r, j, e, h => by
    cases r with
    | cons r1 r2 =>
      cases j with
      | zero =>
        have h : e0 = e := by simpa using h
        subst h
        obtain ⟨z1, t', z2⟩ := r1
        rw [mixKind_is, ← z1] at k1
        obtain ⟨t, et⟩ := Value.isInt_shape (k := q.1) k1
        exact ⟨q, t, t', rfl, et, by rw [k2, z2]⟩
      | succ j => exact pairs_at k3 r2 j e (by simpa using h)
def leB (p q : Int × Int) : Prop := SrtO.lexB q p = false
def insP (x : Int × Int) : List (Int × Int) → List (Int × Int)
  | [] => [x]
  | y :: r => if SrtO.lexB y x then y :: insP x r else x :: y :: r
def sortP (l : List (Int × Int)) : List (Int × Int) := l.foldr insP []
theorem insP_perm (x : Int × Int) : ∀ l, (insP x l).Perm (x :: l)
  | [] => .refl _
  | y :: r => by
    unfold insP
    split
    · exact ((insP_perm x r).cons y).trans (List.Perm.swap x y r)
    · exact .refl _
theorem sortP_perm : ∀ l, (sortP l).Perm l
  | [] => .refl _
  | x :: r => (insP_perm x _).trans ((sortP_perm r).cons x)
theorem leB_tr {a b c : Int × Int} (h1 : leB a b) (h2 : leB b c) : leB a c := by
  unfold leB at *
  rw [SrtO.lexB_no] at *
  omega
theorem leB_as {a b : Int × Int} (h1 : leB a b) (h2 : leB b a) : a = b := by
  unfold leB at *
  rw [SrtO.lexB_no] at *
  exact Prod.ext (by omega) (by omega)
theorem insP_srt (x : Int × Int) : ∀ l, l.Pairwise leB → (insP x l).Pairwise leB
  | [], _ => List.pairwise_singleton _ _
  | y :: r, h => by
    obtain ⟨h1, h2⟩ := List.pairwise_cons.mp h
    unfold insP
    by_cases hb : SrtO.lexB y x = true
    · rw [if_pos hb]
      refine List.pairwise_cons.mpr ⟨fun z hz => ?_, insP_srt x r h2⟩
      rcases List.mem_cons.mp ((insP_perm x r).mem_iff.mp hz) with e | hz
      · subst e
        unfold leB
        rw [SrtO.lexB_no]
        have := SrtO.lexB_iff.mp hb
        omega
      · exact h1 z hz
    · rw [if_neg hb]
      have hxy : leB x y := by
        unfold leB
        cases q : SrtO.lexB y x with
        | true => exact absurd q hb
        | false => rfl
      refine List.pairwise_cons.mpr ⟨fun z hz => ?_, h⟩
      rcases List.mem_cons.mp hz with e | hz
      · rw [e]; exact hxy
      · exact leB_tr hxy (h1 z hz)
theorem sortP_srt : ∀ l, (sortP l).Pairwise leB
  | [] => List.Pairwise.nil
  | x :: r => insP_srt x _ (sortP_srt r)
theorem sortP_eq {l m : List (Int × Int)} (h : l.Perm m) (s : l.Pairwise leB) : l = sortP m :=
  List.Perm.eq_of_pairwise (le := leB) (fun a b _ _ h1 h2 => leB_as h1 h2) s (sortP_srt m) (h.trans (sortP_perm m).symm)

def rSortItK : List V → Hp → VK → Prop := fun vs H Q => ∃ (p a : Addr) (kvs : List (Int × Int)), vs = [.ref p] ∧ H p = some (DX.itemsO p a) ∧ H a = some (.dK (kvs.map fun q => (Sum.inl q.1, V.int q.2))) ∧ kvs.length ≤ 4096 ∧
  ∀ (H2 : Hp) (l : Addr) (zs : List (Addr × (Int × Int))), (∀ b o, H b = some o → H2 b = some o) → H l = none → zs.map (·.2) = sortP kvs → H2 l = some (.lst (zs.map fun z => V.ref z.1)) →
    (∀ z ∈ zs, H z.1 = none ∧ H2 z.1 = some (.tup [.int z.2.1, .int z.2.2])) → Q (.ref l) H2
theorem cr_sortItK {X : Cx} (hc : X.calm = true) : CallR X (.builtin "sorted") rSortItK := by
  intro pins s σ H xs us Q I r h
  obtain ⟨p, a, kvs, rfl, hp, ha, hz, q⟩ := h
  obtain rfl := Vals.ref1 r
  have view : s.heap.IsItemsView p a := (show ObjOk X.prog X.w H s.heap p (DX.itemsO p a) from I.hok p _ hp).1
  obtain ⟨_, hd, us, rel, o, es, ep, ho, hx, hdat, _, hprs, _⟩ := dk_of I.hok ha
  have prs := pairs_at hprs rel
  have lus : kvs.length = us.length := by
    have := Paired.length rel
    rwa [List.length_map] at this
  have les : es.size = kvs.length := by
    have : ∀ {es : List DictEntry} {us : List (Key × Value)}, PySem.Pairs (mixKind X.prog X.w) es us → es.length = us.length := by
      intro es us h
      induction h with
      | nil => rfl
      | cons _ _ _ ih => exact congrArg (· + 1) ih
    rw [← Array.length_toList, this hprs, lus]
  have nh : X.A.handled = none := I.ok.hd hc
  refine DT.sortedI (es := es) (ep := ep) nh view ⟨o, ho, hx, hdat⟩ (by rw [les, sizeLine_eq]; omega) fun h' tk as hk hlt hl hG => ?_
  have nd : as.Nodup := List.Pairwise.imp (fun h => Nat.ne_of_lt h) hG.rise
  have lak : as.length = kvs.length := by omega
  have pr : ∀ (j : Nat) (b : Addr), as[j]? = some b → ∃ (q : Int × Int) (t t' : Tok), kvs[j]? = some q ∧ h'.get? b = some { cls := .type "tuple", data := .seq #[.int q.1 t, .int q.2 t'] } := by
    intro j b hj
    obtain ⟨en, he, hg⟩ := hG.pairs j b hj
    obtain ⟨q, t, t', e1, e2, e3⟩ := prs j en (by rw [Array.getElem?_toList]; exact he)
    exact ⟨q, t, t', e1, by rw [hg, e2, e3]⟩
  have hob : (h'.push { cls := .type "list", data := .seq (as.map Value.ref).toArray }).get? h'.objs.size = some (seqObj "list" (as.map Value.ref).toArray 0) := Heap.get?_push_size _ rfl
  have kb : ∀ b o, s.heap.get? b = some o → (h'.push { cls := .type "list", data := .seq (as.map Value.ref).toArray }).get? b = some o := fun b o e => Heap.get?_push_of_some _ (hk b o e)
  have ne0 : ∀ b o, h'.get? b = some o → b ≠ h'.objs.size := fun b o e => Nat.ne_of_lt (Heap.lt_size e)
  generalize hh2 : h'.push { cls := .type "list", data := .seq (as.map Value.ref).toArray } = h2 at hob kb ⊢
  have ka : ∀ b o, h'.get? b = some o → h2.get? b = some o := fun b o e => by rw [← hh2]; exact Heap.get?_push_of_some _ e
  have pr2 : ∀ (j : Nat) (b : Addr), as[j]? = some b → ∃ q : Int × Int, kvs[j]? = some q ∧ prAt h2 (.ref b) = q ∧ Srt.IsPair h2 (.ref b) q.1 q.2 := by
    intro j b hj
    obtain ⟨q, t, t', e1, e2⟩ := pr j b hj
    refine ⟨q, e1, ?_, b, _, t, t', 0, rfl, ka _ _ e2, rfl, rfl⟩
    show (match h2.get? b with | some o => _ | none => _) = q
    rw [ka _ _ e2]
  have hmap : (as.map Value.ref).map (prAt h2) = kvs := by
    apply List.ext_getElem?
    intro j
    rw [List.getElem?_map, List.getElem?_map]
    cases hj : as[j]? with
    | none =>
      have := List.getElem?_eq_none_iff.mp hj
      rw [List.getElem?_eq_none (by omega)]; rfl
    | some b =>
      obtain ⟨q, e1, e2, _⟩ := pr2 j b hj
      rw [e1]
      show some (prAt h2 (.ref b)) = _
      rw [e2]
  have hpair : ∀ v ∈ as.map Value.ref, Srt.IsPair h2 v (prAt h2 v).1 (prAt h2 v).2 := by
    intro v hv
    obtain ⟨b, hb, rfl⟩ := List.mem_map.mp hv
    obtain ⟨j, hj⟩ := List.mem_iff_getElem?.mp hb
    obtain ⟨q, _, e2, e3⟩ := pr2 j b hj
    rw [e2]; exact e3
  refine wpAny_call_entry PyProof.Rows.slot_list_sort ⟨_, hob, rfl⟩ PyProof.Rows.entry_list_sort
    (SrtO.list_sort_ord (s := { s with heap := h2, toks := tk }) (vs := as.map Value.ref) (SrtO.swo_lex (prAt h2)) hob (by rw [List.length_map, sizeLine_eq]; omega) (fun _ => SrtO.pairs_sortableO (by omega) hpair fun o e => ?_) fun out o1 o2 => ⟨.none, rfl, ?_⟩) (PyProof.Rows.args_list_sort _)
  · have e' : some o = some (seqObj "list" (as.map Value.ref).toArray 0) := e.symm.trans hob
    cases e'
    intro c
    exact absurd (Value.type.inj c) (by decide)
  · have oref : ∀ v ∈ out, v = .ref (adOf v) ∧ adOf v ∈ as := by
      intro v hv
      obtain ⟨b, hb, rfl⟩ := List.mem_map.mp (o2.perm.mem_iff.mp hv)
      exact ⟨rfl, hb⟩
    have ezs : (out.map fun v => (adOf v, prAt h2 v)).map (·.2) = sortP kvs := by
      rw [List.map_map]
      refine sortP_eq (?_ : (out.map (prAt h2)).Perm kvs) ?_
      · rw [← hmap]; exact o2.perm.map _
      · rw [List.pairwise_map]; exact o1
    have hout : out = (out.map fun v => (adOf v, prAt h2 v)).map fun z => Value.ref z.1 := by
      rw [List.map_map]
      refine (List.map_id out).symm.trans (List.map_congr_left fun v hv => (oref v hv).1)
    have kF : ∀ b o, b ≠ h'.objs.size → h2.get? b = some o → (sortedHeap h2 h'.objs.size (as.map Value.ref) out.toArray).get? b = some o := fun b o hb e => (PyProof.Rows.sortedHeap_old hb (Heap.lt_size e)).trans e
    have kS : ∀ b o, s.heap.get? b = some o → (sortedHeap h2 h'.objs.size (as.map Value.ref) out.toArray).get? b = some o := fun b o e => kF b o (ne0 _ _ (hk b o e)) (kb b o e)
    obtain ⟨eF, heF⟩ := PyProof.Rows.sortedHeap_at (vs := as.map Value.ref) (out := out.toArray) hob
    have I1 : Inv X pins σ H { s with heap := sortedHeap h2 h'.objs.size (as.map Value.ref) out.toArray, toks := tk } := I.kept (t' := tk) kS
    have hn0 : H h'.objs.size = none := I.hok.fresh (Nat.le_of_lt hlt)
    have olen : out.length = kvs.length := by rw [o2.len, List.length_map, lak]
    have rv : Vals ((out.map fun v => (adOf v, prAt h2 v)).map fun z => V.ref z.1) out := by
      conv => rhs; rw [hout]
      exact vals_maps (fun z : Addr × Int × Int => V.ref z.1) (fun z => Value.ref z.1) _ fun _ _ => rfl
    have I2 : Inv X pins σ (upd H h'.objs.size (.lst ((out.map fun v => (adOf v, prAt h2 v)).map fun z => V.ref z.1))) { s with heap := sortedHeap h2 h'.objs.size (as.map Value.ref) out.toArray, toks := tk } :=
      I1.take (h' := sortedHeap h2 h'.objs.size (as.map Value.ref) out.toArray) (t' := tk) (fun b ob _ e => e) (I.fpOk (Nat.le_of_lt hlt) hn0) ⟨by rw [List.length_map, List.length_map, sizeLine_eq]; omega, out, eF, rv, heF⟩
    obtain ⟨H2, I3, g, qt⟩ := DX.takeT (P := fun b vs => vs = [.int (prAt h2 (.ref b)).1, .int (prAt h2 (.ref b)).2]) I as _ I2 nd fun b hb => by
      obtain ⟨j, hj⟩ := List.mem_iff_getElem?.mp hb
      obtain ⟨q, t, t', e1, e2⟩ := pr j b hj
      obtain ⟨q', e3, e4, _⟩ := pr2 j b hj
      have hbl : s.heap.objs.size ≤ b := Nat.le_of_lt (hG.above b hb)
      have eq : q' = q := Option.some.inj (e3.symm.trans e1)
      subst eq
      refine ⟨hbl, ?_, _, rfl, fun H3 => ⟨(by rw [sizeLine_eq]; show 2 ≤ 16777216; omega), [.int q'.1 t, .int q'.2 t'], ?_, ⟨_, kF _ _ (ne0 _ _ e2) (ka _ _ e2), rfl, 0, rfl⟩⟩⟩
      · rw [upd_ne (ne0 _ _ e2)]
        exact I.hok.fresh hbl
      · rw [e4]
        exact .cons ⟨t, rfl⟩ (.cons ⟨t', rfl⟩ .nil)
    have gr : ∀ b o, H b = some o → H2 b = some o := fun b o e => g b o (by rw [upd_ne (ne_of_none e hn0)]; exact e)
    refine ⟨.ref h'.objs.size, H2, I3, rfl, q H2 h'.objs.size _ gr hn0 ezs (g _ _ upd_same) fun z' hz' => ?_⟩
    obtain ⟨v, hv, rfl⟩ := List.mem_map.mp hz'
    obtain ⟨r1, r2⟩ := oref v hv
    obtain ⟨vs, ev, hH⟩ := qt (adOf v) r2
    refine ⟨I.hok.fresh (Nat.le_of_lt (hG.above _ r2)), ?_⟩
    rw [ev] at hH
    rw [← r1] at hH
    exact hH
/-- d.items() -/
def rItemsK : V → List V → Hp → VK → Prop := fun x xs H Q => ∃ (a : Addr) (kvs : List (Key × V)), x = .ref a ∧ xs = [] ∧ H a = some (.dK kvs) ∧ ∀ p, H p = none → Q (.ref p) (upd H p (DX.itemsO p a))
theorem mt_itemsK {X : Cx} : MtR X "dict.items" rItemsK := by
  intro pins s σ H x xs v us Q I rx rxs h
  obtain ⟨a, kvs, rfl, rfl, ha, q⟩ := h
  cases rx
  cases rxs
  obtain ⟨_, hd, us, rel, o, es, ep, ho, hx, hdat, _⟩ := dk_of I.hok ha
  refine DT.callItems (es := es) (ep := ep) hd ⟨o, ho, hx, hdat⟩ ?_
  exact ⟨.ref _, upd H s.heap.objs.size (DX.itemsO s.heap.objs.size a), I.laid (t' := s.toks) (fun b u e => Heap.get?_push_of_some _ e) (Nat.le_refl _) (DX.itemsO_ok (Heap.get?_push_size _ rfl)), rfl, q _ (I.hok.fresh (Nat.le_refl _))⟩
/-- all that was tracked is as it was, and more -/
def Wd.grow (w : Wd) (H2 : Hp) : Wd := { w with H := H2 }
section
variable {w : Wd} {H2 : Hp}
theorem Wd.grow_same (h : w.Ok) (g : ∀ b o, w.H b = some o → H2 b = some o) : ∀ a u, w.F a = some u → (w.grow H2).F a = some u := fun a u e => by
  obtain ⟨e1, e2⟩ := Wd.F_some e
  rw [Wd.F_not (fun z : (w.grow H2).live a => e2 z)]
  exact g _ _ e1
theorem Wd.grow_le (h : w.Ok) (g : ∀ b o, w.H b = some o → H2 b = some o) : w.le (w.grow H2) := ⟨List.prefix_rfl, LeR.of_same (Wd.grow_same h g), fun a _ _ e => Wd.grow_same h g a _ e⟩
theorem Wd.grow_ok (h : w.Ok) (g : ∀ b o, w.H b = some o → H2 b = some o) : (w.grow H2).Ok := by
  refine ⟨h.len, h.inj, fun k m a e1 e2 => (h.ok k m a e1 e2).mono (Wd.grow_le h g).le fun hd => ?_⟩
  obtain ⟨u, e⟩ := h.lives ⟨k, m, e1, hd, e2⟩
  rw [e]; exact g _ _ e
theorem Wd.grow_at (h : w.Ok) {a : Addr} {o : HO} (hn : w.H a = none) (e : H2 a = some o) : (w.grow H2).F a = some o := by
  rw [Wd.F_not (fun z : (w.grow H2).live a => h.free hn z)]; exact e
end
def prD (p : Int × Int) : PyData := .tuple [.int p.1, .int p.2]
@[simp] def fSortItems : F1 := fun μ x => match x with
  | .m k => match μ[k]? with
    | some (.dK kvs) => if kvs.length ≤ 4096 then some (.d (.list ((sortP kvs).map prD)), μ) else none
    | _ => none
  | _ => none
theorem pE_sortItems {X : Cx} {o : Expr} {m : Sm} {p apos pos pos2 : Pos} (hc : X.calm = true) (ho : PE X o (tE X.K m)) (hg : Gl X "sorted") (hm : X.mg "sorted" = none)
    (hbase : attributeBase o "items" X.env (eval o X.env) = eval o X.env := by rfl) (hline : (apos.endLine == pos2.line) = true := by rfl)
    (n2 : starEach [.Call (.Attribute o "items" apos) [] [] pos2] X.env = (false, eval (.Call (.Attribute o "items" apos) [] [] pos2) X.env) :: starEach [] X.env := by rfl) (q2 : (backTo pos (starEach [] X.env)).any (·.1) = false := by rfl) :
    PE X (.Call (.Name "sorted" p) [.Call (.Attribute o "items" apos) [] [] pos2] [] pos) (tE X.K (s1 fSortItems m)) := by
  have hit := pe_bm0 PySem.F.plainAttrs_dict PySem.F.slot_dict_items PySem.F.type_dict_items mt_itemsK ho hbase hline
  refine pe_of (pe_callB (cr_sortItK hc) hg hm boot_sorted (pa_cons hit pa_nil n2) (pos := pos) (p := p) (by decide) (by decide) n2 q2) fun σ H Q q => ?_
  refine one_run (K := X.K) (t := fun v H1 Q1 => tyV X.K "dict" v H1 ∧ rItemsK v [] H1 fun v2 H2 => rSortItK [v2] H2 Q1) ?_ q
  intro w x v r μ' Q1 e1 ok rx k1
  unfold fSortItems at e1
  split at e1
  · rename_i kk
    split at e1
    · rename_i kvs ek
      split at e1
      · rename_i hl
        cases e1
        obtain ⟨a, haA, rfl⟩ := rx
        have hm2 : w.H a = some (.dK (kvs.map fun p => (Sum.inl p.1, V.int p.2))) := ok.ok kk _ a ek haA
        refine ⟨.inr (.inr (.inl ⟨rfl, .inl ⟨_, hm2⟩⟩)), a, _, rfl, rfl, hm2, fun p hp => ?_⟩
        have ok1 := Wd.put_ok (o := DX.itemsO p a) ok hp
        have le1 := Wd.put_le (o := DX.itemsO p a) ok hp
        have nap : a ≠ p := ne_of_none hm2 hp
        refine ⟨p, a, kvs, rfl, upd_same, by rw [upd_ne nap]; exact hm2, hl, fun H2 l zs g hln ezs hL hZ => ?_⟩
        have ok2 := Wd.grow_ok (H2 := H2) ok1 g
        have le2 := Wd.grow_le (H2 := H2) ok1 g
        refine Wish.to (Wish.to k1 le1) le2 ((w.put p (DX.itemsO p a)).grow H2) _ rfl ok2 (.refl _) (.lst (Wd.grow_at ok1 hln hL) ?_)
        rw [← ezs, List.map_map]
        have : ∀ zs : List (Addr × (Int × Int)), (∀ z ∈ zs, (w.put p (DX.itemsO p a)).H z.1 = none ∧ H2 z.1 = some (.tup [.int z.2.1, .int z.2.2])) → RpAll ((w.put p (DX.itemsO p a)).grow H2).F (zs.map fun z => V.ref z.1) (zs.map (prD ∘ fun x => x.2)) := by
          intro zs
          induction zs with
          | nil => intro _; exact .nil
          | cons z zs ih =>
            intro h
            obtain ⟨h1, h2⟩ := h z List.mem_cons_self
            exact .cons (.tup (Wd.grow_at ok1 h1 h2) (.cons (.int _) (.cons (.int _) .nil))) (ih fun y hy => h y (List.mem_cons_of_mem _ hy))
        exact this zs hZ
      · cases e1
    · cases e1
  · cases e1
end Sh
set_option Elab.async false
set_option linter.all false
set_option maxRecDepth 100000
namespace Sh
open PySem L2 PyProof.Rows
/-! ### d[k], keys tuples of whole numbers -/
def valD (es : List (PyData × PyData)) (js : List Int) : Option PyData := (es.find? fun p => PyData.eqv p.1 (.tuple (js.map .int))).map (·.2)
@[simp] def fDGet : F2 := fun μ x y => match rd μ x, y with
  | some (.dict es), .d a => (tupOf a).bind fun js => (valD es js).map fun d => (.d d, μ)
  | _, _ => none
theorem key_eqv (j k : List Int) : PyData.eqv (.tuple (j.map .int)) (.tuple (k.map .int)) = decide (j = k) := eqvAll_ints j k
theorem RpKV.val {F : Hp} (k : List Int) : ∀ {ws : List (List Key × V)} {es : List (PyData × PyData)}, RpKV F ws es → ∀ {d : PyData}, valD es k = some d → ∃ v, valV ws (k.map Sum.inl) = some v ∧ Rp F v d
  | _, _, .nil, d, e => by cases e
  | _, _, .cons (k := j) (v := u) (e := x) (ws := ws) (es := es) r t, d, e => by
    have e : ((((PyData.tuple (j.map .int), x) :: es).find? fun p => PyData.eqv p.1 (.tuple (k.map .int))).map (·.2)) = some d := e
    rw [List.find?_cons, key_eqv] at e
    by_cases h : j = k
    · subst h
      rw [decide_eq_true rfl] at e
      cases e
      exact ⟨u, valV_pos rfl, r⟩
    · rw [decide_eq_false h] at e
      obtain ⟨v, h1, h2⟩ := RpKV.val k t e
      exact ⟨v, by rw [valV_neg (fun q => h (inl_inj.mp q))]; exact h1, h2⟩
theorem o2_dget {K : PySem.W.Frag} : Op2 K fDGet (fun x y H Q => ∃ a v, x = .ref a ∧ DGet H a y (some v) ∧ Q v H) := by
  intro w x y v z r μ' Q e ok rx ry k
  unfold fDGet at e
  split at e
  · rename_i es a ex
    obtain ⟨js, e1, e⟩ := Option.bind_eq_some_iff.mp e
    obtain ⟨d, e2, e⟩ := Option.map_eq_some_iff.mp e
    cases e
    obtain ⟨p, ws, hv, hr, hk⟩ := RpR.rd ok rx ex
    obtain ⟨b, rfl, hb, _⟩ := tupOf_ok ry e1
    obtain ⟨u, h1, h2⟩ := hk.val js e2
    exact ⟨p, u, hv, .inr ⟨ws, js.map Sum.inl, b, hr, rfl, (Wd.F_some hb).1, h1.symm⟩, Wish.here k ok h2⟩
  · cases e
section
variable {X : Cx} {o i : Expr} {pos : Pos}
theorem pE_dget {mo mi : Sm} (hu : X.A.units + 1 < cLine) (ho : PE X o (tE X.K mo)) (hi : PE X i (tE X.K mi)) (hs : NoSl i := by exact fun _ _ => rfl) : PE X (.Subscript o i pos) (tE X.K (s2 fDGet mo mi)) :=
  pe_of (pe_dget hu ho hi hs) fun _ _ _ q => two_run o2_dget q
end
/-! ### a comprehension over the keys of a dict that stays -/
abbrev Dk : Type := Ro → Mu → Option (List (PyData × PyData))
@[simp] def sKeys (mk : Dk) : Si := fun ρ μ => (mk ρ μ).map fun es => (⟨es.map (·.1), none⟩, μ)
/-- td's value is the dict that mk tells, in every world from w on -/
def KeysE (K : PySem.W.Frag) (mk : Dk) (td : TE) : Prop := ∀ (ρ : Ro) (w : Wd) (σ : L2.St) (es : List (PyData × PyData)), mk ρ w.μ = some es → w.Ok → Slots K ρ w σ →
  ∃ (d : Addr) (ws : List (List Key × V)), Rd w.F d (.dT ws) ∧ RpKV w.F ws es ∧ ∀ (z : Wd) (Q : VK), z.Ok → w.le z → Q (.ref d) z.H → td σ z.H Q
@[simp] def mkVar (i : Nat) : Dk := fun ρ _ => match ρ[i]? with
  | some (some (.d (.dict es))) => some es
  | _ => none
theorem keys_var {K : PySem.W.Frag} (i : Nat) : KeysE K (mkVar i) (tVar i) := by
  intro ρ w σ es e ok s
  unfold mkVar at e
  split at e
  · rename_i es' er
    cases e
    obtain ⟨v, h1, h2⟩ := s.get i _ er
    have h2 : Rp w.F v (.dict es) := h2
    cases h2 with
    | dct h r => exact ⟨_, _, h, r, fun z Q okz lez q => ⟨_, h1, q⟩⟩
  · cases e
@[simp] def mkLast (i : Nat) : Dk := fun ρ _ => match ρ[i]? with
  | some (some (.d (.list ds))) => match atI ds (-1) with
    | some (.dict es) => some es
    | _ => none
  | _ => none
theorem atI_rel {F : Hp} {xs : List V} {ds : List PyData} {i : Int} {d : PyData} (r : RpAll F xs ds) (e : atI ds i = some d) : ∃ v, atI xs i = some v ∧ Rp F v d := by
  unfold atI at e ⊢
  obtain ⟨j, e1, e2⟩ := Option.bind_eq_some_iff.mp e
  obtain ⟨v, h1, h2⟩ := r.get e2
  exact ⟨v, Option.bind_eq_some_iff.mpr ⟨j, by rw [r.length]; exact e1, h1⟩, h2⟩
/-- the last of a list of dicts, by its name -/
def tLast (K : PySem.W.Frag) (i : Nat) : TE := fun σ H Q => tVar i σ H fun x H1 => (fun σ H Q => Q (.int (-1)) H : TE) σ H1 fun y H2 => rIx K x y H2 Q
theorem keys_last {K : PySem.W.Frag} (i : Nat) : KeysE K (mkLast i) (tLast K i) := by
  intro ρ w σ es e ok s
  unfold mkLast at e
  split at e
  · rename_i ds er
    split at e
    · rename_i es' ea
      cases e
      obtain ⟨v, h1, h2⟩ := s.get i _ er
      have h2 : Rp w.F v (.list ds) := h2
      cases h2 with
      | lst hf r =>
        obtain ⟨x, g1, g2⟩ := atI_rel r ea
        cases g2 with
        | dct h rr => exact ⟨_, _, h, rr, fun z Q okz lez q => ⟨_, h1, .inl ⟨_, _, _, _, rfl, rfl, SqL.ofF (Wd.F_some (lez.le.lst _ _ hf)).1, g1, q⟩⟩⟩
    · cases e
  · cases e
theorem RpKV.get {F : Hp} : ∀ {ws : List (List Key × V)} {es : List (PyData × PyData)} {i : Nat} {p : PyData × PyData}, RpKV F ws es → es[i]? = some p → ∃ (k : List Int) (v : V), ws[i]? = some (k.map Sum.inl, v) ∧ p.1 = .tuple (k.map .int) ∧ Rp F v p.2
  | _, _, _, _, .nil, e => by simp at e
  | _, _, 0, _, .cons (k := k) r _, e => by simp at e; subst e; exact ⟨k, _, rfl, rfl, r⟩
  | _, _, i + 1, _, .cons _ t, e => by
    obtain ⟨k, v, h1, h2⟩ := RpKV.get (i := i) t (by simpa using e)
    exact ⟨k, v, by simpa using h1, h2⟩
theorem Wd.notTup {w : Wd} (ok : w.Ok) {q : Addr} {us : List V} (h : w.H q = some (.tup us)) : w.F q = some (.tup us) := by
  refine (Wd.F_not ?_).trans h
  rintro ⟨k, m, e1, e2, e3⟩
  have := ok.ok k m q e1 e3
  cases m with
  | lst ds => obtain ⟨xs, e, _⟩ := this; rw [h] at e; cases e
  | dT es => obtain ⟨xs, e, _⟩ := this; rw [h] at e; cases e
  | dK es => rw [show w.H q = _ from this] at h; cases h
  | dead => exact e2 rfl
theorem yld_keys {d : Addr} {ob : Obj} {ws : List (List Key × V)} {es : List (PyData × PyData)} {u : Wd} (h : u.F d = some (.frz ob (.dT ws))) (r : RpKV u.F ws es) : Yld (Itkt d ob ws) ⟨es.map (·.1), none⟩ u := by
  intro w le ok _
  have hw := (Wd.F_some (le.frz _ _ _ h)).1
  have rw' := RpKV.mono le.le _ _ r
  refine ⟨fun i x e => ?_, fun i hl => ⟨hw, by rw [List.length_map] at hl; rw [r.length]; exact hl⟩⟩
  rw [List.getElem?_map] at e
  obtain ⟨p, e1, e2⟩ := Option.map_eq_some_iff.mp e
  obtain ⟨k, v, h1, h2, h3⟩ := rw'.get e1
  refine ⟨⟨hw, (List.getElem?_eq_some_iff.mp h1).1⟩, fun y H' hy => ?_⟩
  obtain ⟨rfl, k', v', q, g1, rfl, g2⟩ := hy
  rw [h1] at g1
  cases g1
  rw [kV_ints] at g2
  refine ⟨w, rfl, rfl, ok, .refl w, ?_⟩
  rw [← e2, h2]
  exact .tup (Wd.notTup ok g2) (RpAll.ofInts k)
/-- another reading of the same dict laid in its place -/
def Wd.swp (w : Wd) (d : Addr) (o : HO) : Wd := { w with H := upd w.H d o }
def IsD (ws : List (List Key × V)) (o : HO) : Prop := o = .dT ws ∨ ∃ ob, o = .frz ob (.dT ws)
theorem swp_F {w : Wd} {d : Addr} {o1 o2 : HO} (h1 : w.F d = some o1) : (w.swp d o2).F d = some o2 ∧ ∀ a, a ≠ d → (w.swp d o2).F a = w.F a := by
  have nl := (Wd.F_some h1).2
  refine ⟨(Wd.F_not (w := w.swp d o2) nl).trans upd_same, fun a ha => ?_⟩
  by_cases l : w.live a
  · rw [Wd.F_live l, Wd.F_live (w := w.swp d o2) l]
  · rw [Wd.F_not l, Wd.F_not (w := w.swp d o2) l]
    exact upd_ne ha
theorem swp_ok {w : Wd} {d : Addr} {o1 o2 : HO} {ws : List (List Key × V)} (ok : w.Ok) (h1 : w.F d = some o1) (c1 : IsD ws o1) (c2 : IsD ws o2) : (w.swp d o2).Ok ∧ LeR w.F (w.swp d o2).F := by
  obtain ⟨f1, f2⟩ := swp_F (o2 := o2) h1
  have nl := (Wd.F_some h1).2
  have le : LeR w.F (w.swp d o2).F := by
    refine ⟨fun a xs e => ?_, fun a xs e => ?_, fun a xs e => ?_, fun a xs e => ?_⟩
    · by_cases ha : a = d
      · subst ha
        rw [h1] at e; cases e
        rcases c1 with c1 | ⟨ob, c1⟩ <;> cases c1
      · rw [f2 a ha]; exact e
    · by_cases ha : a = d
      · subst ha
        rw [h1] at e; cases e
        rcases c1 with c1 | ⟨ob, c1⟩ <;> cases c1
      · rw [f2 a ha]; exact e
    · by_cases ha : a = d
      · subst ha
        rcases e with e | ⟨o, e⟩ <;> rw [h1] at e <;> cases e <;> rcases c1 with c1 | ⟨ob, c1⟩ <;> cases c1
      · rcases e with e | ⟨o, e⟩
        · exact .inl (by rw [f2 a ha]; exact e)
        · exact .inr ⟨o, by rw [f2 a ha]; exact e⟩
    · by_cases ha : a = d
      · subst ha
        have : xs = ws := by
          rcases e with e | ⟨o, e⟩ <;> rw [h1] at e <;> cases e <;> rcases c1 with c1 | ⟨ob, c1⟩ <;> cases c1 <;> rfl
        subst this
        rcases c2 with rfl | ⟨ob, rfl⟩
        · exact .inl f1
        · exact .inr ⟨ob, f1⟩
      · rcases e with e | ⟨o, e⟩
        · exact .inl (by rw [f2 a ha]; exact e)
        · exact .inr ⟨o, by rw [f2 a ha]; exact e⟩
  refine ⟨⟨ok.len, ok.inj, fun k m a e1 e2 => (ok.ok k m a e1 e2).mono le fun hm => upd_ne fun e => nl ⟨k, m, e1, hm, e ▸ e2⟩⟩, le⟩
theorem lock_le {w : Wd} {d : Addr} {ob : Obj} {ws : List (List Key × V)} (ok : w.Ok) (h1 : w.F d = some (.dT ws)) : (w.swp d (.frz ob (.dT ws))).Ok ∧ w.le (w.swp d (.frz ob (.dT ws))) ∧ (w.swp d (.frz ob (.dT ws))).F d = some (.frz ob (.dT ws)) := by
  obtain ⟨f1, f2⟩ := swp_F (o2 := .frz ob (.dT ws)) h1
  obtain ⟨a, b⟩ := swp_ok ok h1 (.inl rfl) (.inr ⟨ob, rfl⟩)
  refine ⟨a, ⟨List.prefix_rfl, b, fun x o z e => ?_⟩, f1⟩
  rw [f2 x (fun q => by subst q; rw [h1] at e; cases e)]
  exact e
theorem unlock_le {w u : Wd} {d : Addr} {ob : Obj} {ws : List (List Key × V)} (ok : w.Ok) (oku : u.Ok) (h1 : w.F d = some (.dT ws)) (le : (w.swp d (.frz ob (.dT ws))).le u) :
    u.H d = some (.frz ob (.dT ws)) ∧ (u.swp d (.dT ws)).Ok ∧ w.le (u.swp d (.dT ws)) ∧ LeR u.F (u.swp d (.dT ws)).F := by
  obtain ⟨a1, a2, a3⟩ := lock_le (ob := ob) ok h1
  have hu := le.frz _ _ _ a3
  obtain ⟨f1, f2⟩ := swp_F (o2 := .dT ws) hu
  obtain ⟨b1, b2⟩ := swp_ok (o2 := .dT ws) oku hu (.inr ⟨ob, rfl⟩) (.inl rfl)
  have ha : w.A <+: u.A := le.pre
  refine ⟨(Wd.F_some hu).1, b1, ⟨ha, (a2.le.trans le.le).trans b2, fun x o z e => ?_⟩, b2⟩
  have hx : x ≠ d := fun q => by subst q; rw [h1] at e; cases e
  rw [f2 x hx]
  exact le.frz _ _ _ (a2.frz _ _ _ e)
theorem pe_or {X : Cx} {e : Expr} {t t' : TE} (h : PE X e t) (h' : PE X e t') : PE X e (fun σ H R => t σ H R ∨ t' σ H R) :=
  ⟨fun pins s σ H Q I hw => hw.elim (h.run pins s σ H Q I) (h'.run pins s σ H Q I)⟩
theorem compK_run {K : PySem.W.Frag} {fl : Bool} {mk : Dk} {td : TE} (hd : KeysE K mk td) {t : Tg} {test : Sb} {elt : Sm} {vs : List Nat} (hv : ∀ i ∈ t.slots, i ∈ vs) {σ : L2.St} {H : Hp} {Q : VK} (q : tE K (sComp fl (sKeys mk) t test elt vs) σ H Q) :
    tLc (iKeys td) (gT K t) (tB K test) (tE K elt) vs σ H Q ∨ tLockE (tLc (iKeys td) (gT K t) (tB K test) (tE K elt) vs) σ H Q := by
  obtain ⟨ρ, w, r, μ', rfl, e2, ok, s, k⟩ := q
  have e3 := e2
  unfold sComp at e3
  obtain ⟨⟨src0, μ0⟩, ea, _⟩ := Option.bind_eq_some_iff.mp e3
  obtain ⟨es, em, _⟩ := Option.map_eq_some_iff.mp ea
  obtain ⟨d, ws, h, rr, ex⟩ := hd ρ w σ es em ok s
  have go : ∀ (z : Wd) (ob : Obj) (Q2 : VK), z.μ = w.μ → z.Ok → w.le z → z.F d = some (.frz ob (.dT ws)) → Wish K z r μ' Q2 → tLc (iKeys td) (gT K t) (tB K test) (tE K elt) vs σ z.H Q2 := by
    intro z ob Q2 ez okz lez hz kz
    obtain ⟨src, μ1, e4, hb⟩ := comp_core (w := z) hv (by rw [ez]; exact e2) okz (s.mono lez) kz
    obtain ⟨es2, em2, e5⟩ := Option.map_eq_some_iff.mp e4
    rw [ez, em] at em2
    cases em2
    cases e5
    exact ex z _ okz lez ⟨d, ob, rfl, .inr ⟨ws, (Wd.F_some hz).1, hb z (Itkt d ob ws) rfl okz (.refl z) (ok_none _) (yld_keys hz (RpKV.mono lez.le _ _ rr))⟩⟩
  rcases h with h | ⟨ob, h⟩
  · refine .inr ⟨d, .dT ws, (Wd.F_some h).1, trivial, fun od => ?_⟩
    obtain ⟨a1, a2, a3⟩ := lock_le (ob := od) ok h
    refine go (w.swp d (.frz od (.dT ws))) od _ rfl a1 a2 a3 fun u v eu oku le rp => ?_
    obtain ⟨b1, b2, b3, b4⟩ := unlock_le ok oku h le
    refine ⟨b1, k (u.swp d (.dT ws)) v eu b2 b3 ?_⟩
    cases r with
    | d x => exact Rp.mono b4 _ _ rp
    | m j => exact rp
    | s ns =>
      obtain ⟨a, ha, hs⟩ := rp
      exact ⟨a, ha, SqL.monoR b4 hs⟩
  · exact .inl (go w ob Q rfl ok (.refl w) h k)
section
variable {X : Cx} {elt tg iter : Expr} {ifs : List Expr} {scope : Scope} {own : List (Str × Nat)} {pos p2 p3 p4 : Pos} {t : Tg} {test : Sb} {el : Sm} {fl : Bool} {i kk : Nat} {mk : Dk} {td : TE}
theorem pE_compK (hd : KeysE X.K mk td) (hc : X.calm = true) (hN : X.N.Nodup) (hx : PE X iter td) (ok : BlkOk X.N X.env.scope scope own)
    (hg : ∀ (s : Shared) (H : Hp) (C : Addr) (cl : List (Str × Addr)) (fp : List Addr), PG (X.blk s H scope (compEnvC scope cl C X.env) fp) tg (gT X.K t))
    (ht : ∀ (s : Shared) (H : Hp) (C : Addr) (cl : List (Str × Addr)) (fp : List Addr), PTs (X.blk s H scope (compEnvC scope cl C X.env) fp) ifs (tB X.K test))
    (he : ∀ (s : Shared) (H : Hp) (C : Addr) (cl : List (Str × Addr)) (fp : List Addr), PE (X.blk s H scope (compEnvC scope cl C X.env) fp) elt (tE X.K el))
    (hv : ∀ i ∈ t.slots, i ∈ own.map (·.2)) (hs : ∀ z, foldedSetIterable iter X.env z = pure z := by intro _; rfl) :
    PE X (.ListComp elt [⟨tg, iter, ifs, 0⟩] scope pos) (tE X.K (sComp fl (sKeys mk) t test el (own.map (·.2)))) :=
  pe_of (pe_or (pe_lc hc hN (pi_keys hx) ok hg ht he hs) (pe_lock (pe_lc hc hN (pi_keys hx) ok hg ht he hs))) fun _ _ _ q => compK_run hd hv q
theorem pe_last {o : Expr} (ho : PE X o (tVar i)) : PE X (.Subscript o (.UnaryOp .USub (.Constant (.int 1) kk p2) p3) p4) (tLast X.K i) :=
  pe_of (pe_ix ix_seq ho (pe_un un_neg pe_int) (by exact fun _ _ => rfl)) fun σ H Q q => q.imp fun v hv => ⟨hv.1, 1, rfl, hv.2⟩
end
end Sh
set_option Elab.async false
set_option linter.all false
set_option maxRecDepth 100000
namespace Sh
open PySem L2 PyProof.Rows
/-! ### min, max of a list of pairs: a number and a tuple of numbers -/
abbrev Pt : Type := Int × PySem.W.Tup Int
def ptD (p : Pt) : PyData := PySem.W.Datum.toD p
theorem ptD_eq (n : Int) (k : List Int) : ptD (n, ⟨k⟩) = .tuple [.int n, .tuple (k.map .int)] := rfl
def ptsOf : List PyData → Option (List Pt)
  | [] => some []
  | .tuple [.int n, .tuple ks] :: r => (intsOf ks).bind fun k => (ptsOf r).map fun ps => (n, ⟨k⟩) :: ps
  | _ :: _ => none
theorem ptsOf_ok : ∀ {ds : List PyData} {ps : List Pt}, ptsOf ds = some ps → ds = ps.map ptD := by
  intro ds
  induction ds with
  | nil => intro ps e; cases e; rfl
  | cons d ds ih =>
    intro ps e
    unfold ptsOf at e
    split at e
    · rename_i h; cases h
    · rename_i n ks r h
      cases h
      obtain ⟨k, e1, e⟩ := Option.bind_eq_some_iff.mp e
      obtain ⟨qs, e2, e⟩ := Option.map_eq_some_iff.mp e
      cases e
      rw [List.map_cons, ← ih e2, ptD_eq, ← intsOf_ok e1]
    · cases e
theorem ptsOf_map : ∀ ps : List Pt, ptsOf (ps.map ptD) = some ps
  | [] => rfl
  | (n, ⟨k⟩) :: r => by
    have hk : intsOf (k.map PyData.int) = some k := by
      induction k with
      | nil => rfl
      | cons x k ih =>
        show (intsOf (k.map PyData.int)).map (x :: ·) = _
        rw [ih]; rfl
    show ((intsOf (k.map PyData.int)).bind fun k => (ptsOf (r.map ptD)).map fun ps => ((n, ⟨k⟩) : Pt) :: ps) = _
    rw [hk, ptsOf_map r]; rfl
theorem pt_lay (ps : List Pt) : PyData.canLayAll0 (ps.map ptD) = true := by
  have hi : ∀ k : List Int, plAll 2 (k.map PyData.int) = true := by
    intro k
    induction k with
    | nil => rfl
    | cons x k ih =>
      show (pl 2 (.int x) && plAll 2 (k.map PyData.int)) = true
      rw [ih]; rfl
  have h : ∀ ps : List Pt, plAll 4 (ps.map ptD) = true := by
    intro ps
    induction ps with
    | nil => rfl
    | cons p ps ih =>
      obtain ⟨n, ⟨k⟩⟩ := p
      show (pl 4 (.tuple [.int n, .tuple (k.map PyData.int)]) && plAll 4 (ps.map ptD)) = true
      rw [ih]
      show ((true && (plAll 2 (k.map PyData.int) && true)) && true) = true
      rw [hi]; rfl
  exact (plAll_ok 4 _ (h ps)).1
def rMinP (K : PySem.W.Frag) (f : Pt → List Pt → Pt) : List V → Hp → VK → Prop := fun vs H Q => ∃ (a : Addr) (xs : List V) (p : Pt) (ps : List Pt), vs = [.ref a] ∧ SqL K H a xs ∧ DpAll K H xs ((p :: ps).map ptD) ∧
  ∀ (i : Nat) (v : V), xs[i]? = some v → ((p :: ps).map ptD)[i]? = some (ptD (f p ps)) → Q v H
theorem dp_at {K : PySem.W.Frag} {H : Hp} : ∀ {xs : List V} {ds : List PyData} {i : Nat} {v : V}, DpAll K H xs ds → xs[i]? = some v → ∃ d, ds[i]? = some d ∧ Dp K H v d
  | _, _, _, _, .nil, e => by simp at e
  | _, _, 0, _, .cons r _, e => by simp at e; subst e; exact ⟨_, rfl, r⟩
  | _, _, i + 1, _, .cons _ t, e => by
    obtain ⟨d, h1, h2⟩ := dp_at (i := i) t (by simpa using e)
    exact ⟨d, by simpa using h1, h2⟩
theorem vals_at {vs : List V} {us : List Value} {i : Nat} {u : Value} (r : Vals vs us) (e : us[i]? = some u) : ∃ v, vs[i]? = some v ∧ RelV v u := by
  induction r generalizing i with
  | nil => simp at e
  | cons h _ ih =>
    cases i with
    | zero => simp at e; subst e; exact ⟨_, rfl, h⟩
    | succ i =>
      obtain ⟨v, h1, h2⟩ := ih (i := i) (by simpa using e)
      exact ⟨v, by simpa using h1, h2⟩
theorem cr_minP {X : Cx} (hc : X.calm = true) (hu : X.A.units + 3 < cLine) : CallR X (.builtin "min") (rMinP X.K PySem.W.minOf) := by
  intro pins s σ H vs us Q I r h
  obtain ⟨a, xs, p, ps, rfl, hs, hd, q⟩ := h
  obtain ⟨its, rv, hl, _⟩ := I.list hs
  rw [Vals.ref1 r]
  obtain ⟨as, ra⟩ := Dp.readsAll I _ xs its hd rv
  refine PySem.W.min_list_datum (x := p) (xs := ps) (I.ok.hd hc) hl.isList ⟨as, by exact ra⟩ (by exact hu) fun i v h' tk hv hh hk => ?_
  rw [List.getElem?_toArray] at hv
  obtain ⟨y, hy, ry⟩ := vals_at rv hv
  obtain ⟨d, hd1, hd2⟩ := dp_at hd hy
  obtain ⟨bs, rb⟩ := Dp.reads I d y v hd2 ry
  obtain ⟨cs, rc⟩ := hh
  have e := (Reads.unique (PySem.W.reads_keeps hk rb) _ _ rc).1
  exact ⟨y, H, I.kept hk, ry, q i y hy (by rw [hd1, e]; rfl)⟩
theorem cr_maxP {X : Cx} (hc : X.calm = true) (hu : X.A.units + 3 < cLine) : CallR X (.builtin "max") (rMinP X.K PySem.W.maxOf) := by
  intro pins s σ H vs us Q I r h
  obtain ⟨a, xs, p, ps, rfl, hs, hd, q⟩ := h
  obtain ⟨its, rv, hl, _⟩ := I.list hs
  rw [Vals.ref1 r]
  obtain ⟨as, ra⟩ := Dp.readsAll I _ xs its hd rv
  refine PySem.W.max_list_datum (x := p) (xs := ps) (I.ok.hd hc) hl.isList ⟨as, by exact ra⟩ (by exact hu) fun i v h' tk hv hh hk => ?_
  rw [List.getElem?_toArray] at hv
  obtain ⟨y, hy, ry⟩ := vals_at rv hv
  obtain ⟨d, hd1, hd2⟩ := dp_at hd hy
  obtain ⟨bs, rb⟩ := Dp.reads I d y v hd2 ry
  obtain ⟨cs, rc⟩ := hh
  have e := (Reads.unique (PySem.W.reads_keeps hk rb) _ _ rc).1
  exact ⟨y, H, I.kept hk, ry, q i y hy (by rw [hd1, e]; rfl)⟩
def minPt : List Pt → Option Pt
  | [] => none
  | p :: ps => some (PySem.W.minOf p ps)
def maxPt : List Pt → Option Pt
  | [] => none
  | p :: ps => some (PySem.W.maxOf p ps)
/-- min of whole numbers, or of pairs -/
@[simp] def fMinP : FA := fun μ rs => match fMin μ rs with
  | some r => some r
  | none => (listOf μ rs).bind fun ds => (ptsOf ds).bind fun ps => (minPt ps).map fun p => (.d (ptD p), μ)
@[simp] def fMaxP : FA := fun μ rs => match fMax μ rs with
  | some r => some r
  | none => (listOf μ rs).bind fun ds => (ptsOf ds).bind fun ps => (maxPt ps).map fun p => (.d (ptD p), μ)
theorem opA_minP {K : PySem.W.Frag} : OpA K fMinP (fun xs H Q => ((∃ i j, xs = [.int i, .int j] ∧ Q (.int (if j < i then j else i)) H) ∨ rMin K xs H Q) ∨ rMinP K PySem.W.minOf xs H Q) := by
  intro w rs vs r μ' Q e ok rp k
  unfold fMinP at e
  split at e
  · rename_i r' er
    cases e
    exact .inl (opA_min w rs vs r μ' Q er ok rp k)
  · obtain ⟨ds, e1, e⟩ := Option.bind_eq_some_iff.mp e
    obtain ⟨ps, e2, e⟩ := Option.bind_eq_some_iff.mp e
    obtain ⟨p, e3, e⟩ := Option.map_eq_some_iff.mp e
    cases e
    cases ps with
    | nil => cases e3
    | cons q ps =>
      cases e3
      obtain ⟨a, xs, h1, h2, h3⟩ := listOf_ok ok rp e1
      have hd := ptsOf_ok e2
      subst hd
      refine .inr ⟨a, xs, q, ps, h1, SqL.ofF h2, (?_ : DpAll K w.H xs _), fun i v hv hm => ?_⟩
      · exact RpAll.dp _ _ (pt_lay (q :: ps)) (RpAll.mono w.toH _ _ h3)
      · obtain ⟨d, g1, g2⟩ := h3.getV hv
        rw [hm] at g1
        cases g1
        exact Wish.here k ok g2
theorem opA_maxP {K : PySem.W.Frag} : OpA K fMaxP (fun xs H Q => ((∃ i j, xs = [.int i, .int j] ∧ Q (.int (if j > i then j else i)) H) ∨ rMax K xs H Q) ∨ rMinP K PySem.W.maxOf xs H Q) := by
  intro w rs vs r μ' Q e ok rp k
  unfold fMaxP at e
  split at e
  · rename_i r' er
    cases e
    exact .inl (opA_max w rs vs r μ' Q er ok rp k)
  · obtain ⟨ds, e1, e⟩ := Option.bind_eq_some_iff.mp e
    obtain ⟨ps, e2, e⟩ := Option.bind_eq_some_iff.mp e
    obtain ⟨p, e3, e⟩ := Option.map_eq_some_iff.mp e
    cases e
    cases ps with
    | nil => cases e3
    | cons q ps =>
      cases e3
      obtain ⟨a, xs, h1, h2, h3⟩ := listOf_ok ok rp e1
      have hd := ptsOf_ok e2
      subst hd
      refine .inr ⟨a, xs, q, ps, h1, SqL.ofF h2, (?_ : DpAll K w.H xs _), fun i v hv hm => ?_⟩
      · exact RpAll.dp _ _ (pt_lay (q :: ps)) (RpAll.mono w.toH _ _ h3)
      · obtain ⟨d, g1, g2⟩ := h3.getV hv
        rw [hm] at g1
        cases g1
        exact Wish.here k ok g2
theorem call_minP {X : Cx} {k : Nat} (hc : X.calm = true) (hr : Room k X.A) : CallR X (.builtin "min") (fun xs H Q => ((∃ i j, xs = [.int i, .int j] ∧ Q (.int (if j < i then j else i)) H) ∨ rMin X.K xs H Q) ∨ rMinP X.K PySem.W.minOf xs H Q) :=
  CallR.or (call_minU hc) (cr_minP hc (Nat.lt_of_le_of_lt (Nat.add_le_add_left (by decide : 3 ≤ 64) _) hr.units))
theorem call_maxP {X : Cx} {k : Nat} (hc : X.calm = true) (hr : Room k X.A) : CallR X (.builtin "max") (fun xs H Q => ((∃ i j, xs = [.int i, .int j] ∧ Q (.int (if j > i then j else i)) H) ∨ rMax X.K xs H Q) ∨ rMinP X.K PySem.W.maxOf xs H Q) :=
  CallR.or (call_maxU hc) (cr_maxP hc (Nat.lt_of_le_of_lt (Nat.add_le_add_left (by decide : 3 ≤ 64) _) hr.units))
end Sh
set_option Elab.async false
set_option linter.all false
set_option maxRecDepth 100000
namespace Sh
open PySem L2 PyProof.Rows
/-! ### enumerate over a tuple -/
set_option maxHeartbeats 1000000 in
theorem enumNew1 {v : Value} {o : Obj} {St : Heap → Prop} (B : Begins v o St) :
    Meets (Builtin.«enumerate.__new__» ⟨[.type "enumerate", v], []⟩) (fun _ R z => St z.heap ∧
      R (.ok (.ret (.ref (z.heap.push o).objs.size))) { z with heap := (z.heap.push o).push { cls := .type "enumerate", data := .fields #[.none, .bool false, .ref z.heap.objs.size, rawInt 0, .none, .none] } }) :=
  .of_wp fun pr wd Ar Rr z hz => by
    obtain ⟨hh, gg, dd, tt, oo⟩ := z; obtain ⟨k1, kk⟩ := hz
    have sube := sub_enumerate
    have it0 : ∀ {A2 : Around} {E2 : Value → Shared → Prop} {Q2 : Value → Shared → Prop}, Q2 (.ref hh.objs.size) ⟨hh.push o, gg, dd, tt, oo⟩ → wpAny (model pr wd) A2 (pyIter v) Q2 E2 ⟨hh, gg, dd, tt, oo⟩ :=
      fun q => B.iter pr wd _ _ ⟨hh, gg, dd, tt, oo⟩ _ k1 q
    wp_walk using it0
    refine wpAny_stack_any fun sk => wpAny_pure ?_
    split
    · rename_i cc _ _ _ _ _
      cases (cc == Value.type "enumerate")
      · wp_walk using it0
        exact ⟨_, rfl, kk⟩
      · wp_walk using it0
        exact ⟨_, rfl, kk⟩
    · wp_walk using it0
      exact ⟨_, rfl, kk⟩
section
variable {prog : Program} {w : World} {A : Around} {E : Value → Shared → Prop} {s : Shared}
theorem callEnum1 {v : Value} {o : Obj} {St : Heap → Prop} {Q : Value → Shared → Prop} (B : Begins v o St) (h1 : St s.heap)
    (k : ∀ g, IsEnum g (s.heap.objs.size + 1) s.heap.objs.size 0 .none → g.get? s.heap.objs.size = some o → (∀ b ob, s.heap.get? b = some ob → g.get? b = some ob) → Q (.ref (s.heap.objs.size + 1)) { s with heap := g }) :
    wpAny (model prog w) A (call (.type "enumerate") [v]) Q E s := by
  refine callType_new F.called_enumerate (by decide) (F.typeCall_enumerate_1 _) (F.newCall_enumerate_1 _) (fun ob => F.args_object_init_2 ob _) F.entry_enumerate_new (enumNew1 B) ⟨h1, ?_⟩
  have sz : (s.heap.push o).objs.size = s.heap.objs.size + 1 := by rw [Heap.size_push]
  show _ ∧ _
  rw [sz]
  generalize hg : (s.heap.push o).push { cls := .type "enumerate", data := .fields #[.none, .bool false, .ref s.heap.objs.size, rawInt 0, .none, .none] } = g
  have en : IsEnum g (s.heap.objs.size + 1) s.heap.objs.size 0 .none := by
    have q := Heap.get?_push_size (s.heap.push o) (o := { cls := .type "enumerate", data := .fields #[.none, .bool false, .ref s.heap.objs.size, rawInt 0, .none, .none] }) rfl
    rw [sz, hg] at q
    exact q
  refine ⟨⟨_, en, rfl⟩, k g en (by rw [← hg]; exact Heap.get?_push_of_some _ (Heap.get?_push_size _ B.free)) fun b ob x => by rw [← hg]; exact Heap.get?_push_of_some _ (Heap.get?_push_of_some _ x)⟩
end
/-- the tuple at a as it stands at each turn, each item in a new pair -/
def IteT (K : PySem.W.Frag) (a : Addr) (n : Nat) : It where
  go := fun i H => ∃ (xs : List V) (x : V), SqT K H a xs ∧ xs.length = n ∧ xs[i]? = some x
  yld := fun i H v H' => ∃ T x, v = .ref T ∧ H T = none ∧ H' = upd H T (.tup [.int (i : Nat), x]) ∧ ∀ xs, SqT K H a xs → xs[i]? = some x
  stop := fun i H => ∃ xs : List V, SqT K H a xs ∧ xs.length = n ∧ n ≤ i
theorem turn_enumT {P : Program} {w : World} {K : PySem.W.Frag} {elts : List Expr} {kk : Nat} {tp : Pos} (a e it : Addr) (n : Nat) :
    Turn P w K (.Tuple elts kk tp) (IteT K a n) [e, it] e (fun i h => i ≤ n ∧ (∃ old, IsEnum h e it ((i : Nat) : Int) old) ∧ h.IsTupleIter it a i ∧ e ≠ it ∧ a ≠ it ∧ a ≠ e) where
  mem := List.mem_cons_self
  obj := fun i h st b hb => by
    obtain ⟨_, ⟨old, en⟩, ⟨oi, ho, _, hd⟩, _⟩ := st
    rcases List.mem_cons.mp hb with rfl | hb
    · exact ⟨_, en, fun v q => nomatch q⟩
    · rw [List.mem_singleton.mp hb]
      exact ⟨oi, ho, fun v q => by rw [hd] at q; cases q⟩
  keep := fun i h h' st k => by
    obtain ⟨hn, ⟨old, en⟩, hi, n1, n2, n3⟩ := st
    exact ⟨hn, ⟨old, k e List.mem_cons_self _ en⟩, hi.at fun o q => k it (List.mem_cons_of_mem _ List.mem_cons_self) o q, n1, n2, n3⟩
  item := by
    intro X hP hw hK hc i pins s σ H E I hf st hg
    subst hP hw hK
    obtain ⟨hn, ⟨old, en⟩, hit, n1, n2, n3⟩ := st
    obtain ⟨xs, x, hq, hxl, hx⟩ := hg
    obtain ⟨its, rv, pl, _⟩ := I.tuple hq
    obtain ⟨u, hu, ru⟩ := rv.get hx
    have le : e < s.heap.objs.size := Heap.lt_size en
    have lit : it < s.heap.objs.size := by
      obtain ⟨_, q, _⟩ := hit
      exact Heap.lt_size q
    have hlt : i < its.toArray.size := by
      rw [List.size_toArray]
      exact (List.getElem?_eq_some_iff.mp hu).1
    refine wpAny_pyNext_enum_itemD (Draws.tuple (A := X.A.in1) (I.ok.hd hc) it a n2 its.toArray) en ⟨hit, pl⟩ hlt n1 (by simp [n1, Ne.symm n3]) fun y g tk hy eo hit2 hT _ hk => ?_
    rw [List.getElem?_toArray, hu] at hy
    cases hy
    refine ⟨_, rfl, wpAny_letOwnedTupleGo_enum (s := { s with heap := g, toks := tk + 1 }) eo fun g2 en2 sb => ?_⟩
    have hT2 := (sb.2 _ (Nat.ne_of_gt le)).trans hT
    have fresh : ObjOk X.prog X.w (upd H s.heap.objs.size (.tup [.int (i : Nat), x])) g2 s.heap.objs.size (.tup [.int (i : Nat), x]) :=
      ⟨by show 2 ≤ sizeLine; decide, [.int i tk, u], .cons ⟨_, rfl⟩ (.cons ru .nil), ⟨_, hT2, rfl, _, rfl⟩⟩
    have J : Inv X pins σ (upd H s.heap.objs.size (.tup [.int (i : Nat), x])) { s with heap := g2, toks := tk + 1 } := by
      refine I.turnedNew (ch := [e, it]) (fun b ob hb q => ?_) hf (Nat.le_refl _) fresh
      have b1 : b ≠ e := fun z => hb (by rw [z]; exact List.mem_cons_self)
      have b2 : b ≠ it := fun z => hb (by rw [z]; exact List.mem_cons_of_mem _ List.mem_cons_self)
      exact (sb.2 b b1).trans (hk b ob b1 b2 q)
    refine ⟨.ref s.heap.objs.size, _, J, rfl, ⟨_, x, rfl, I.hok.fresh (Nat.le_refl _), rfl, fun ys hy => by rw [I.tuple_inj hy hq]; exact hx⟩, ⟨by rw [← hxl]; exact (List.getElem?_eq_some_iff.mp hx).1, ⟨u, by rw [Int.natCast_succ]; exact en2⟩, hit2.1.at fun o q => (sb.2 it (Ne.symm n1)).trans q, n1, n2, n3⟩, fun b hb => ?_⟩
    have lb : b < s.heap.objs.size := by
      rcases List.mem_cons.mp hb with rfl | hb
      · exact le
      · rw [List.mem_singleton.mp hb]; exact lit
    rw [upd_ne (Nat.ne_of_lt lb)]
    exact (hf b hb).1
  done := by
    intro X hP hw hK hc i pins s σ H E I hf st hg
    subst hP hw hK
    obtain ⟨hn, ⟨old, en⟩, hit, n1, n2, n3⟩ := st
    obtain ⟨xs, hq, hxl, hx⟩ := hg
    obtain ⟨its, rv, pl, _⟩ := I.tuple hq
    obtain ⟨f0, f1, f2, f3, f4, f5⟩ := hf it (List.mem_cons_of_mem _ List.mem_cons_self)
    have hi : i = its.toArray.size := by
      rw [List.size_toArray, ← rv.length, hxl]
      exact Nat.le_antisymm hn hx
    subst hi
    exact wpAny_pyNext_enum_endD (Draws.tuple (A := X.A.in1) (I.ok.hd hc) it a n2 its.toArray) en ⟨hit, pl⟩ fun g eb => ⟨rfl, I.turned (t' := s.toks) (fun b o hb q => eb b o hb q) f0 f1 f3 f4 f5⟩
  self := fun A i s Q E st h => by
    obtain ⟨_, ⟨_, en⟩, _⟩ := st
    exact wpAny_pyIter_enum en h
def iEnumT (K : PySem.W.Frag) (te : TE) : TI := fun σ H R => te σ H fun v H1 => ∃ a xs, v = .ref a ∧ SqT K H1 a xs ∧ R (IteT K a xs.length) H1
theorem pi_enumT {X : Cx} {e : Expr} {te : TE} {p pos tp : Pos} {elts : List Expr} {kk : Nat} (hg : Gl X "enumerate") (hm : X.mg "enumerate" = none) (he : PE X e te) (hs : starEach [e] X.env = (false, eval e X.env) :: starEach [] X.env := by rfl) :
    PI X (.Tuple elts kk tp) (.Call (.Name "enumerate" p) [e] [] pos) (iEnumT X.K te) := by
  refine ⟨fun pins s σ H R I h => ?_⟩
  refine Call_ (ld_blt I hg hm boot_enumerate (PyProof.Rows.callWith_type1 (args_cons (thn (he.run pins s σ H _ I h) fun u s1 ⟨v, H1, I1, r1, q1⟩ => args_nil ?_) hs) hs rfl))
  obtain ⟨a, xs, rfl, hq, q⟩ := q1
  obtain rfl : u = Value.ref a := r1
  obtain ⟨its, rv, pl, _⟩ := I1.tuple hq
  obtain ⟨oa, hoa, _⟩ := id pl
  have la : a < s1.heap.objs.size := Heap.lt_size hoa
  refine callEnum1 (begins_tuple a its.toArray) pl fun g en hit hk => wpAny_pyIter_enum en ?_
  have J : Inv X pins σ H1 { s1 with heap := g } := I1.kept (t' := s1.toks) hk
  refine ⟨s1.heap.objs.size + 1, [s1.heap.objs.size + 1, s1.heap.objs.size], _, _, H1, rfl, J, turn_enumT a (s1.heap.objs.size + 1) s1.heap.objs.size xs.length, ⟨Nat.zero_le _, ⟨.none, en⟩, ⟨_, hit, rfl, rfl⟩, Nat.succ_ne_self _, Nat.ne_of_lt la, Nat.ne_of_lt (Nat.lt_succ_of_lt la)⟩, fun b hb => ?_, q⟩
  have lb : s1.heap.objs.size ≤ b := by
    rcases List.mem_cons.mp hb with rfl | hb
    · exact Nat.le_succ _
    · rw [List.mem_singleton.mp hb]; exact Nat.le_refl _
  exact I1.fpOk lb (I1.hok.fresh lb)
end Sh
set_option Elab.async false
set_option linter.all false
set_option maxRecDepth 100000
namespace Sh
open PySem L2 PyProof.Rows
/-! ### enumerate, reversed, walked -/
def enD (ds : List PyData) : List PyData := ds.zipIdx.map fun p => .tuple [.int (p.2 : Nat), p.1]
theorem enD_get {ds : List PyData} {i : Nat} {d : PyData} (e : (enD ds)[i]? = some d) : ∃ x, ds[i]? = some x ∧ d = .tuple [.int i, x] := by
  unfold enD at e
  rw [List.getElem?_map, List.getElem?_zipIdx] at e
  cases h : ds[i]? with
  | none => rw [h] at e; cases e
  | some x =>
    rw [h] at e
    cases e
    exact ⟨x, rfl, by simp⟩
theorem enD_len (ds : List PyData) : (enD ds).length = ds.length := by unfold enD; rw [List.length_map, List.length_zipIdx]
theorem yld_enum {K : PySem.W.Frag} {a : Addr} {xs : List V} {ds : List PyData} {u : Wd} (h : u.F a = some (.tup xs)) (r : RpAll u.F xs ds) : Yld (IteT K a xs.length) ⟨enD ds, none⟩ u := by
  intro w le ok _
  have hw := (Wd.F_some (le.le.tup _ _ h)).1
  have q := RpAll.mono le.le _ _ r
  refine ⟨fun i d e => ?_, fun i hl => ⟨xs, SqT.ofF hw, rfl, by rw [r.length, ← enD_len]; exact hl⟩⟩
  obtain ⟨x, e1, rfl⟩ := enD_get e
  obtain ⟨v, g1, k1⟩ := q.get e1
  refine ⟨⟨xs, v, SqT.ofF hw, rfl, g1⟩, fun y H' hy => ?_⟩
  obtain ⟨T, z, rfl, hT, rfl, f⟩ := hy
  have z1 := f xs (SqT.ofF hw)
  rw [g1] at z1
  cases z1
  exact pair_put ok hT (.int _) k1
@[simp] def sEnum (m : Sm) : Si := fun ρ μ => (m ρ μ).bind fun p => match p.1 with
  | .d (.tuple ds) => some (⟨enD ds, none⟩, p.2)
  | _ => none
theorem yld_revL {K : PySem.W.Frag} {a : Addr} {xs : List V} {ds : List PyData} {u : Wd} (h : u.F a = some (.lst xs)) (r : RpAll u.F xs ds) : Yld (Itv K a xs.length) ⟨ds.reverse, none⟩ u := by
  intro w le ok _
  have hw := (Wd.F_some (le.le.lst _ _ h)).1
  have q := (RpAll.mono le.le _ _ r).reverse
  refine ⟨fun i d e => ?_, fun i hl => by rw [List.length_reverse, ← r.length] at hl; exact hl⟩
  obtain ⟨v, g1, k1⟩ := q.get e
  have hi : i < xs.length := by
    have := (List.getElem?_eq_some_iff.mp g1).1
    rwa [List.length_reverse] at this
  rw [List.getElem?_reverse hi] at g1
  refine ⟨⟨hi, xs, v, SqL.ofF hw, g1⟩, fun y H' hy => ?_⟩
  obtain ⟨rfl, f⟩ := hy
  have z1 := f xs (SqL.ofF hw)
  rw [g1] at z1
  cases z1
  exact ⟨w, rfl, rfl, ok, .refl w, k1⟩
theorem yld_revT {K : PySem.W.Frag} {a : Addr} {xs : List V} {ds : List PyData} {u : Wd} (h : u.F a = some (.tup xs)) (r : RpAll u.F xs ds) : Yld (RT.ItvT K a xs.length) ⟨ds.reverse, none⟩ u := by
  intro w le ok _
  have hw := (Wd.F_some (le.le.tup _ _ h)).1
  have q := (RpAll.mono le.le _ _ r).reverse
  refine ⟨fun i d e => ?_, fun i hl => by rw [List.length_reverse, ← r.length] at hl; exact hl⟩
  obtain ⟨v, g1, k1⟩ := q.get e
  have hi : i < xs.length := by
    have := (List.getElem?_eq_some_iff.mp g1).1
    rwa [List.length_reverse] at this
  rw [List.getElem?_reverse hi] at g1
  refine ⟨⟨hi, xs, v, SqT.ofF hw, g1⟩, fun y H' hy => ?_⟩
  obtain ⟨rfl, f⟩ := hy
  have z1 := f xs (SqT.ofF hw)
  rw [g1] at z1
  cases z1
  exact ⟨w, rfl, rfl, ok, .refl w, k1⟩
@[simp] def sRev (m : Sm) : Si := fun ρ μ => (m ρ μ).bind fun p => match p.1 with
  | .d (.list ds) => some (⟨ds.reverse, none⟩, p.2)
  | .d (.tuple ds) => some (⟨ds.reverse, none⟩, p.2)
  | _ => none
@[simp] def fTupRev : F1 := fun μ x => match rd μ x with
  | some (.list ds) => some (.d (.tuple ds.reverse), μ)
  | _ => none
section
variable {X : Cx} {tg e : Expr} {p p2 pos pos2 : Pos} {m : Sm}
theorem pI_enum {tp : Pos} {elts : List Expr} {kk : Nat} (hg : Gl X "enumerate") (hm : X.mg "enumerate" = none) (he : PE X e (tE X.K m)) (hs : starEach [e] X.env = (false, eval e X.env) :: starEach [] X.env := by rfl) :
    PI X (.Tuple elts kk tp) (.Call (.Name "enumerate" p) [e] [] pos) (tI X.K (sEnum m)) := by
  refine pi_of (pi_enumT hg hm he hs) fun σ H R q => ?_
  obtain ⟨ρ, w, s, μ', e1, e2, ok, sl, k⟩ := q
  obtain ⟨⟨p1, p2⟩, ea, e2⟩ := Option.bind_eq_some_iff.mp e2
  refine ⟨ρ, w, p1, p2, e1, ea, ok, sl, fun u v eu oku le rp => ?_⟩
  simp only at e2
  split at e2
  · cases e2
    cases rp with
    | tup h r => exact ⟨_, _, rfl, SqT.ofF (Wd.F_some h).1, k u _ eu oku le (ok_none _) (yld_enum h r)⟩
  · cases e2
theorem pI_rev (hg : Gl X "reversed") (hm : X.mg "reversed" = none) (he : PE X e (tE X.K m)) (hs : starEach [e] X.env = (false, eval e X.env) :: starEach [] X.env := by rfl) :
    PI X tg (.Call (.Name "reversed" p) [e] [] pos) (tI X.K (sRev m)) := by
  refine pi_of (RT.pi_revA hg hm he hs) fun σ H R q => ?_
  obtain ⟨ρ, w, s, μ', e1, e2, ok, sl, k⟩ := q
  obtain ⟨⟨p1, p2⟩, ea, e2⟩ := Option.bind_eq_some_iff.mp e2
  refine ⟨ρ, w, p1, p2, e1, ea, ok, sl, fun u v eu oku le rp => ?_⟩
  simp only at e2
  split at e2
  · cases e2
    cases rp with
    | lst h r => exact ⟨_, _, rfl, .inl ⟨SqL.ofF (Wd.F_some h).1, k u _ eu oku le (ok_none _) (yld_revL h r)⟩⟩
  · cases e2
    cases rp with
    | tup h r => exact ⟨_, _, rfl, .inr ⟨SqT.ofF (Wd.F_some h).1, k u _ eu oku le (ok_none _) (yld_revT h r)⟩⟩
  · cases e2
theorem pE_tupRev (hc : X.calm = true) (hg : Gl X "tuple") (hm : X.mg "tuple" = none) (hg2 : Gl X "reversed") (hm2 : X.mg "reversed" = none) (he : PE X e (tE X.K m))
    (hs : starEach [e] X.env = (false, eval e X.env) :: starEach [] X.env := by rfl)
    (hs2 : starEach [.Call (.Name "reversed" p2) [e] [] pos2] X.env = (false, eval (.Call (.Name "reversed" p2) [e] [] pos2) X.env) :: starEach [] X.env := by rfl) :
    PE X (.Call (.Name "tuple" p) [.Call (.Name "reversed" p2) [e] [] pos2] [] pos) (tE X.K (s1 fTupRev m)) :=
  pe_of (RT.pe_tupRev hc hg hm hg2 hm2 he hs hs2) fun σ H Q q => one_run (t := fun v H1 Q => ∃ (a : Addr) (xs : List V), v = .ref a ∧ SqL X.K H1 a xs ∧ ∀ q, H1 q = none → Q (.ref q) (upd H1 q (.tup xs.reverse))) (by
    intro w x v r μ' Q e ok rx k
    unfold fTupRev at e
    split at e
    · rename_i ds ex
      cases e
      obtain ⟨a, xs, h1, h2, h3⟩ := RpR.rd ok rx ex
      exact ⟨a, xs, h1, SqL.ofF h2, fun p hp => mkT_ok ok hp h3.reverse k⟩
    · cases e) q
end
end Sh
set_option Elab.async false
set_option linter.all false
set_option maxRecDepth 100000
namespace Sh
open PySem L2 PyProof.Rows
/-! ### defs with one keyword-only parameter, None where it lacks -/
structure CalD (P : Program) (w : World) (K : PySem.W.Frag) (mg : Str → Option Value) (base : Heap) (k : Nat) (x : Str) (n : Nat) (kw : Str) (g : Fn) : Prop where
  ex : ∃ (f : Addr) (fd : FuncData) (ps : List Str) (dv : List Value), ps.length = n + 1 ∧ FnOk P w K mg base CX0 k f fd ps (spF K (n + 1) g) ∧ mg x = some (.ref f) ∧ PySem.W.keepIn K (.ref f) = true ∧ Vals [V.non] dv ∧ Binds K fd ps dv ∧ KBn K fd ps n [kw] (fun us ws => us ++ ws) (fun vs zs => vs ++ zs)
@[simp] def sCallD (n : Nat) (g : Fn) (a : Sa) : Sm := sA (fun μ rs => if rs.length = n then g (rs ++ [.d .none]) μ else none) a
@[simp] def sCallK (n : Nat) (g : Fn) (a : Sa) (b : Sm) : Sm := fun ρ μ => (a ρ μ).bind fun p => (b ρ p.2).bind fun q => if p.1.length = n then g (p.1 ++ [q.1]) q.2 else none
section
variable {X : Cx} {e v : Expr} {es : List Expr} {pos p kp : Pos} {k n : Nat} {x kw : Str} {g : Fn} {ma : Sa} {mb : Sm}
theorem pE_callD (c : CalD X.prog X.w X.K X.mg X.base k x n kw g) (hr : Room k X.A) (hg : Gl X x) (ha : PA X (e :: es) (tAs X.K ma)) (hdb : (x == ("__debug__" : Str)) = false := by decide)
    (he : starEach (e :: es) X.env = (false, eval e X.env) :: starEach es X.env := by rfl) (hpl : (backTo pos (starEach es X.env)).any (·.1) = false := by rfl) : PE X (.Call (.Name x p) (e :: es) [] pos) (tE X.K (sCallD n g ma)) := by
  obtain ⟨f, fd, ps, dv, h0, h1, h2, h3, h4, h5, _⟩ := c.ex
  refine pe_of (pe_call h1 hr hg h2 h3 h5 h4 pass0 ha hdb he hpl) fun σ H Q q => ?_
  refine args_run (t := fun vs H1 Q1 => spF X.K (n + 1) g (vs ++ [V.non]) H1 Q1 E0) (fun w rs vs r μ' Q1 e1 ok rp k1 => ?_) q
  split at e1
  · rename_i hl
    exact ⟨w, _, r, μ', rfl, by rw [List.length_append, ← rp.length, hl]; rfl, e1, ok, PySem.Paired.snoc rp .non, k1⟩
  · cases e1
theorem pE_callK (c : CalD X.prog X.w X.K X.mg X.base k x n kw g) (hr : Room k X.A) (hg : Gl X x) (ha : PA X (e :: es) (tAs X.K ma)) (hb : PE X v (tE X.K mb)) (hdb : (x == ("__debug__" : Str)) = false := by decide)
    (hall : (backToKw pos (keywordEach [⟨some kw, v, kp⟩] X.env)).all (·.1.isSome) = true := by rfl) (hks : (backToKw pos (keywordEach [⟨some kw, v, kp⟩] X.env)).filterMap (·.1) = [kw] := by rfl)
    (he : starEach (e :: es) X.env = (false, eval e X.env) :: starEach es X.env := by rfl)
    (hpl : ((backTo pos (starEach (e :: es) X.env)).any (·.1) || (backToKw pos (keywordEach [⟨some kw, v, kp⟩] X.env)).any (·.1.isNone)) = false := by rfl) :
    PE X (.Call (.Name x p) (e :: es) [⟨some kw, v, kp⟩] pos) (tE X.K (sCallK n g ma mb)) := by
  obtain ⟨f, fd, ps, dv, h0, h1, h2, h3, h4, h5, h6⟩ := c.ex
  refine pe_of (pe_callN h1 hr hg h2 h3 h6 pass0 ha (pk_cons hb pk_nil) hall hks hdb he hpl) fun σ H Q q => ?_
  obtain ⟨ρ, w, r, μ', e1, e2, ok, s, kk⟩ := q
  obtain ⟨⟨p1, p2⟩, ea, e2⟩ := Option.bind_eq_some_iff.mp e2
  obtain ⟨⟨q1, q2⟩, eb, e2⟩ := Option.bind_eq_some_iff.mp e2
  refine ⟨ρ, w, p1, p2, e1, ea, ok, s, fun u vs eu oku le rp => ?_⟩
  subst eu
  refine ⟨ρ, u, q1, q2, rfl, eb, oku, s.mono le, fun u2 z eu2 oku2 le2 rp2 => ?_⟩
  subst eu2
  simp only at e2
  split at e2
  · rename_i hl
    have rp3 : RpRs X.K u2 p1 vs := rp.mono le2
    refine ⟨by rw [← rp.length, hl], rfl, u2, _, r, μ', rfl, by rw [List.length_append, ← rp.length, hl]; rfl, e2, oku2, PySem.Paired.snoc rp3 rp2, Wish.to kk (le.trans le2)⟩
  · cases e2
end
theorem valsApp : ∀ {vs zs : List V} {us ws : List Value}, Vals vs us → Vals zs ws → Vals (vs ++ zs) (us ++ ws)
  | _, _, _, _, .nil, h => h
  | _, _, _, _, .cons r t, h => .cons r (valsApp t h)
theorem FunD.noD {K : PySem.W.Frag} {x qual : Str} {st : Stmt} {kws : List (Str × V)} {f : Addr} {fd : FuncData} (F : FunD K x qual (defArgs st) (defBody st) (defScope st) [] kws f fd) : Fun K x qual st f fd := by
  obtain ⟨oc, od, dV, kV, doc, pm, an, cdv, ct, osl, e, lk, hc, hD, _⟩ := F.ex
  rcases hD with ⟨_, hd⟩ | ⟨hn, _⟩
  · subst hd
    exact ⟨⟨oc, od, kV, doc, pm, an, cdv, ct, osl, e, lk, hc⟩, F.kp⟩
  · exact absurd rfl hn
theorem kb_of {K : PySem.W.Frag} {x qual : Str} {st : Stmt} {kws : List (Str × V)} {f : Addr} {fd : FuncData} {ps : List Str} {n : Nat} {kw : Str} (F : FunD K x qual (defArgs st) (defBody st) (defScope st) [] kws f fd)
    (h : ∀ (kV doc pm : Value) (an : Option Addr) (cdv ct : Value) (us ws : List Value), us.length = n → ws.length = 1 → bindArgs (PySem.W.fnOf x qual (defArgs st) (defBody st) (defScope st) .none kV doc pm an cdv ct) ⟨us, [kw].zip ws⟩ = pure (ps.zip (us ++ ws))) :
    KBn K fd ps n [kw] (fun us ws => us ++ ws) (fun vs zs => vs ++ zs) := by
  obtain ⟨oc, od, dV, kV, doc, pm, an, cdv, ct, osl, rfl, lk, hc, hD, _⟩ := F.ex
  rcases hD with ⟨_, hd⟩ | ⟨hn, _⟩
  · subst hd
    refine ⟨fun s us ws _ h1 h2 => .of_eq (h kV doc pm an cdv ct us ws h1 h2), fun r1 r2 => ?_⟩
    exact valsApp r1 r2
  · exact absurd rfl hn
theorem fund_mk {K : PySem.W.Frag} {x qual : Str} {st : Stmt} {kw : Str} {f D : Addr} {oc doc pm cdv ct : Value} {od an : Option Addr} {osl : Array (Option Value)}
    (l : K.lookup f = some ⟨oc, od, .func (PySem.W.fnOf x qual (defArgs st) (defBody st) (defScope st) .none (.ref D) doc pm an cdv ct), osl⟩) (c : PySem.W.codeIn K cdv qual = true) (k : PySem.W.keepIn K (.ref f) = true) (d : PySem.W.nsIn K D kw = some (some .none)) :
    FunD K x qual (defArgs st) (defBody st) (defScope st) [] [(kw, .non)] f (PySem.W.fnOf x qual (defArgs st) (defBody st) (defScope st) .none (.ref D) doc pm an cdv ct) := by
  refine ⟨⟨oc, od, .none, .ref D, doc, pm, an, cdv, ct, osl, rfl, l, c, .inl ⟨rfl, rfl⟩, .inr ⟨D, rfl, fun q hq => ?_⟩⟩, k⟩
  rw [List.mem_singleton.mp hq]
  exact ⟨.none, d, rfl⟩
end Sh
set_option Elab.async false
set_option linter.all false
set_option maxRecDepth 100000
set_option maxHeartbeats 2000000
namespace Sh
open PySem L2 PyProof.Rows
/-! ### a dict comprehension, keys tuples -/
theorem setT {X : Cx} {pins : List (Addr × Obj)} {σ : L2.St} {H : Hp} {z : Shared} {E : Value → Shared → Prop} {D b : Addr} {ws : List (List Key × V)} {k : List Key} {v : V} {r : Value} {Q : Unit → Shared → Prop} (hu : X.A.units + 1 < cLine) (I : Inv X pins σ H z) (hD : H D = some (.dT ws)) (hb : H b = some (.tup (k.map kV))) (hz : ws.length < sizeLine)
    (rv : RelV v r) (h : ∀ z', Inv X pins σ (upd H D (.dT (putK ws k v))) z' → Q () z') : wpAny (model X.prog X.w) X.A (dictSet D (.ref b) r) Q E z := by
  obtain ⟨_, nsys, us, rel, dd⟩ := dt_of I.hok hD
  have lu : us.length ≤ sizeLine := by rw [← Paired.length rel]; exact Nat.le_of_lt hz
  have lp : (putK ws k v).length ≤ sizeLine := by have := length_putK ws k v; omega
  refine wpAny_dictSet_heap (hsz := lu) (show X.A.units < cLine from Nat.lt_of_succ_lt hu) (key_of I.hok hb) dd fun g dd2 sb => h _ ?_
  obtain ⟨ob, es, ep, g1, g2, g3, g4, _, g5⟩ := dd2
  refine d_write I (by rw [hD]; exact True.intro) sb ⟨ob, g1⟩ ⟨lp, nsys, _, (rel.put k hb rv).keeps fun c ys ec => ?_, ob, es, ep, g1, g2, g3, g4, g5⟩
  rw [upd_ne (ne_of ec hD (fun q => nomatch q))]
  exact ec
def tDcT (wi : TI) (g : TG) (tt : TT) (tk tv : TE) (vs : List Nat) : TE := fun σ H Q => wi σ H fun J H1 => ∀ D, H1 D = none → ∃ W : Nat → Nat → Hp → Prop, (∃ m, W 0 m (upd H1 D (.dT []))) ∧ ∀ i m H, W i m H →
  (J.stop i H ∧ Q (.ref D) H) ∨ (J.go i H ∧ ∃ Nx : Hp → Prop, (∀ H', Nx H' → ∃ m', m' < m ∧ W (i + 1) m' H') ∧ ∀ x H', J.yld i H x H' → g x (wipe σ vs) H' fun σ2 H2 => wipe σ2 vs = wipe σ vs ∧ tt σ2 H2 fun b H3 =>
    if b = true then tk σ2 H3 fun y H4 => tv σ2 H4 fun z H5 => ∃ (ws : List (List Key × V)) (k : List Key) (c : Addr), y = .ref c ∧ H5 c = some (.tup (k.map kV)) ∧ H5 D = some (.dT ws) ∧ ws.length < sizeLine ∧ Nx (upd H5 D (.dT (putK ws k z))) else Nx H3)
section
variable {X : Cx}
theorem dcT_core {pins : List (Addr × Obj)} {z0 : Shared} {σ : L2.St} {H : Hp} {Q : VK} {kx vx tg iter : Expr} {ifs : List Expr} {scope : Scope} {own : List (Str × Nat)} {pos pos' : Pos} {wi : TI} {g : TG} {tt : TT} {tk tv : TE} {use : Option (Value → Sem Unit)} {Qf : Value → Shared → Prop}
    (hu : X.A.units + 1 < cLine) (hc : X.calm = true) (hN : X.N.Nodup) (I : Inv X pins σ H z0) (hi : PI X tg iter wi) (ok : BlkOk X.N X.env.scope scope own)
    (hg : ∀ (z : Shared) (G : Hp) (C : Addr) (cl : List (Str × Addr)) (fp : List Addr), PG (X.blk z G scope (compEnvC scope cl C X.env) fp) tg g)
    (ht : ∀ (z : Shared) (G : Hp) (C : Addr) (cl : List (Str × Addr)) (fp : List Addr), PTs (X.blk z G scope (compEnvC scope cl C X.env) fp) ifs tt)
    (hk : ∀ (z : Shared) (G : Hp) (C : Addr) (cl : List (Str × Addr)) (fp : List Addr), PE (X.blk z G scope (compEnvC scope cl C X.env) fp) kx tk)
    (he : ∀ (z : Shared) (G : Hp) (C : Addr) (cl : List (Str × Addr)) (fp : List Addr), PE (X.blk z G scope (compEnvC scope cl C X.env) fp) vx tv) (hs : ∀ x, foldedSetIterable iter X.env x = pure x)
    (h : tDcT wi g tt tk tv (own.map (·.2)) σ H Q)
    (hRR : ∀ D C z m G, Inv X pins σ G z → Q (.ref D) G → z.heap.Ns C m → FpOk X pins G C → compPost (model X.prog X.w) X.A X.xe use Qf (.ref D) C (.ok .next) z) :
    wpAny (model X.prog X.w) X.A (comprehension (.DictComp kx vx [⟨tg, iter, ifs, 0⟩] scope pos) scope X.env pos' newDict false (eval iter X.env) use) Qf X.xe z0 := by
  refine wpAny_comprehension_free (use := use) rfl hs (closure_ok fun y hy e => ?_) ok.kind (fun y hy e => by rw [ok.uniq y hy, e])
    (thn (hi.run pins z0 σ H _ I h) fun xv z1 hx => thn hx fun itv z2 h2 => ?_)
  · exact (ok.free y hy e).elim (fun q => I.ok.has _ (.inl q)) fun q => I.ok.has _ (.inr q)
  obtain ⟨it, fp, tn, J, G2, rfl, I2, T, t2, f2, q⟩ := h2
  refine wpAny_newObj_type (newEnv_comp ?_)
  generalize hD : z2.heap.objs.size = D
  obtain ⟨W, ⟨m0, w0⟩, turn⟩ := q D (I2.hok.fresh (Nat.le_of_eq hD))
  generalize hz3 : ({ z2 with heap := z2.heap.push { cls := .type "dict", data := .dict #[] } } : Shared) = z3
  have e3 : z3.heap = z2.heap.push { cls := .type "dict", data := .dict #[] } := by rw [← hz3]
  have I3 : Inv X pins σ (upd G2 D (.dT [])) z3 := by
    subst hz3 hD
    exact I2.laid (t' := z2.toks) (fun _ _ e => Heap.get?_push_of_some _ e) (Nat.le_refl _) (dt_empty z2.heap I2.big)
  have old : ∀ b ∈ fp, b < z2.heap.objs.size := fun b hb => (T.obj _ _ t2 b hb).elim fun o e => Heap.lt_size e.1
  have f3 : ∀ b ∈ fp, FpOk X pins (upd G2 D (.dT [])) b ∧ b < z3.heap.objs.size := fun b hb => by
    have lt := old b hb
    refine ⟨⟨(upd_ne (Nat.ne_of_lt (hD ▸ lt))).trans (f2 b hb).1, (f2 b hb).2⟩, ?_⟩
    rw [e3, Heap.size_push]
    exact Nat.lt_succ_of_lt lt
  have t3 : tn 0 z3.heap := T.keep _ _ _ t2 fun b _ o e => e3 ▸ Heap.get?_push_of_some _ e
  have I4 := block_start I3 ok hN f3
  have pg := hg z3 (upd G2 D (.dT [])) z3.heap.objs.size (cellsFrom (z3.heap.objs.size + 1) scope.names (cloFrom X.env.cells scope.names [])) fp
  have pt := ht z3 (upd G2 D (.dT [])) z3.heap.objs.size (cellsFrom (z3.heap.objs.size + 1) scope.names (cloFrom X.env.cells scope.names [])) fp
  have pk := hk z3 (upd G2 D (.dT [])) z3.heap.objs.size (cellsFrom (z3.heap.objs.size + 1) scope.names (cloFrom X.env.cells scope.names [])) fp
  have pv := he z3 (upd G2 D (.dT [])) z3.heap.objs.size (cellsFrom (z3.heap.objs.size + 1) scope.names (cloFrom X.env.cells scope.names [])) fp
  have gone : ∀ b ∈ fp, (upd G2 D (.dT [])) b = none := fun b hb => (f3 b hb).1.1
  show codeAny _ _ (.compStart (.DictComp kx vx [⟨tg, iter, ifs, 0⟩] scope pos) 0 (.ref it) (.ref D) (compEnvC scope (cellsFrom (z3.heap.objs.size + 1) scope.names (cloFrom X.env.cells scope.names [])) z3.heap.objs.size X.env)) (compPost (model X.prog X.w) X.A X.xe use Qf (.ref D) z3.heap.objs.size) { z3 with heap := pushCells (z3.heap.push { cls := .type "dict", data := .dict #[] }) scope.names }
  generalize hce : compEnvC scope (cellsFrom (z3.heap.objs.size + 1) scope.names (cloFrom X.env.cells scope.names [])) z3.heap.objs.size X.env = ce at I4 pg pt pk pv ⊢
  have loc : ce.locals = z3.heap.objs.size := by rw [← hce]; rfl
  generalize hG3 : upd G2 D (.dT []) = G3 at I3 I4 pg pt pk pv w0 gone f3
  generalize hz4 : ({ z3 with heap := pushCells (z3.heap.push { cls := .type "dict", data := .dict #[] }) scope.names } : Shared) = z4 at I4 ⊢
  have t4 : tn 0 z4.heap := by
    subst hz4
    exact T.keep _ _ _ t3 fun b _ o e => pushCells_keeps _ _ _ _ (Heap.get?_push_of_some _ e)
  have stat : ∀ {σ1 : L2.St} {G1 : Hp} {z1 : Shared}, Inv (X.blk z3 G3 scope ce fp) [] σ1 G1 z1 → (∀ b ∈ fp, G1 b = none) → ∀ b ∈ fp, FpOk (X.blk z3 G3 scope ce fp) [] G1 b := fun {σ1 G1 z1} i1 hn b hb =>
    have ex := i1.ok.exf b hb
    ⟨hn b hb, ex.1, i1.ok.exfs b hb, .inl hb, fun x c e => ex.2 x c e, fun p hp => absurd (show p ∈ ([] : List (Addr × Obj)) ++ [] from hp) (by simp)⟩
  have loop : codeAny (model X.prog X.w) X.A (.compLoop (.DictComp kx vx [⟨tg, iter, ifs, 0⟩] scope pos) 0 (.ref it) (.ref D) ce) (compPost (model X.prog X.w) X.A X.xe use Qf (.ref D) z3.heap.objs.size) z4 := by
    refine compLoop_anyD (fun n z => ∃ i G, Inv (X.blk z3 G3 scope ce fp) [] (wipe σ (own.map (·.2))) G z ∧ tn i z.heap ∧ (∀ b ∈ fp, G b = none) ∧ W i n G) (fun n z5 hW => ?_) m0 ⟨0, G3, I4, t4, gone, w0⟩
    obtain ⟨i, G5, I5, t5, n5, w5⟩ := hW
    rcases turn i n G5 w5 with ⟨stop, qq⟩ | ⟨go, Nx, hNx, step⟩
    · refine thnF (T.done (X.blk z3 G3 scope ce fp) rfl rfl rfl hc i [] z5 _ G5 (fun _ _ => False) I5 (stat I5 n5) t5 stop) fun r z6 ⟨hr, I6⟩ => ?_
      subst hr
      obtain ⟨m, hm, _⟩ := I6.loc
      have hm : z6.heap.Ns ce.locals m := hm
      have hf : G5 ce.locals = none := I6.free
      rw [loc] at hm hf
      refine hRR D z3.heap.objs.size z6 m G5 (I3.call' (ch := fp) I6.os I6.base I6.hok I6.bare fun b hb => ?_) qq hm (I3.fpOk (Nat.le_refl _) hf)
      obtain ⟨_, c1, c2, c3, c4, c5⟩ := (f3 b hb).1
      exact ⟨c3, c1, c4, c5⟩
    · refine thnF (T.item (X.blk z3 G3 scope ce fp) rfl rfl rfl hc i [] z5 _ G5 (fun _ _ => False) I5 (stat I5 n5) t5 go) fun r z6 ⟨u, hr, h6⟩ => ?_
      subst hr
      refine thnF h6 fun _ z7 ⟨x, G7, I7, r7, y7, t7, n7⟩ => ?_
      refine thnF (pg.run _ z7 _ G7 x u _ (I7.pinned (stat I7 n7) (T.obj _ _ t7)) r7 (step x G7 y7)) fun _ z8 ⟨σ8, G8, I8, hw8, q8⟩ => ?_
      refine thnF (pt.run _ z8 σ8 G8 _ I8 q8) fun b z9 ⟨G9, I9, q9⟩ => ?_
      have fin : ∀ {z : Shared} {G : Hp}, Inv (X.blk z3 G3 scope ce fp) ([] ++ pinsAt fp z7.heap) σ8 G z → Nx G → ∃ m, m < n ∧ ∃ i G, Inv (X.blk z3 G3 scope ce fp) [] (wipe σ (own.map (·.2))) G z ∧ tn i z.heap ∧ (∀ b ∈ fp, G b = none) ∧ W i m G := by
        intro z G Iz nx
        obtain ⟨m, hm, wm⟩ := hNx G nx
        have pin : ∀ b ∈ fp, ∀ o, z7.heap.get? b = some o → z.heap.get? b = some o ∧ G b = none := by
          intro b hb o e
          have k := Iz.pin (b, o) (List.mem_append_right _ (List.mem_append_right _ (mem_pinsAt hb e)))
          exact ⟨k.1, k.2.1⟩
        refine ⟨m, hm, i + 1, G, (Iz.unpinned (pins := [])).weak (by rw [← hw8, wipe_length]) (fun j v e => ?_), T.keep _ _ _ t7 fun b hb o e => (pin b hb o e).1, fun b hb => ?_, wm⟩
        · rw [← hw8] at e
          exact (wipe_some e).1
        · obtain ⟨o, e, _⟩ := T.obj _ _ t7 b hb
          exact (pin b hb o e).2
      cases b with
      | false =>
        rw [if_neg Bool.false_ne_true]
        exact fin I9 (by simpa using q9)
      | true =>
        rw [if_pos rfl]
        rw [if_pos rfl] at q9
        refine thnF (pk.run _ z9 σ8 G9 _ I9 q9) fun a z10 ⟨ya, G10, I10, r10, q10⟩ => ?_
        refine thnF (pv.run _ z10 σ8 G10 _ I10 q10) fun a2 z11 ⟨yv, G11, I11, r11, ws, k, c, ey, hb, hd, hl, nx⟩ => ?_
        subst ey
        obtain rfl : a = Value.ref c := r10
        exact setT (X := X.blk z3 G3 scope ce fp) hu I11 hd hb hl r11 fun z12 I12 => fin I12 nx
  exact codeAny_compStart_dict loop (T.self X.A 0 _ _ _ t4 loop)
theorem pe_dcT {kx vx tg iter : Expr} {ifs : List Expr} {scope : Scope} {own : List (Str × Nat)} {pos : Pos} {wi : TI} {g : TG} {tt : TT} {tk tv : TE} (hu : X.A.units + 1 < cLine) (hc : X.calm = true) (hN : X.N.Nodup) (hi : PI X tg iter wi) (ok : BlkOk X.N X.env.scope scope own)
    (hg : ∀ (z : Shared) (G : Hp) (C : Addr) (cl : List (Str × Addr)) (fp : List Addr), PG (X.blk z G scope (compEnvC scope cl C X.env) fp) tg g)
    (ht : ∀ (z : Shared) (G : Hp) (C : Addr) (cl : List (Str × Addr)) (fp : List Addr), PTs (X.blk z G scope (compEnvC scope cl C X.env) fp) ifs tt)
    (hk : ∀ (z : Shared) (G : Hp) (C : Addr) (cl : List (Str × Addr)) (fp : List Addr), PE (X.blk z G scope (compEnvC scope cl C X.env) fp) kx tk)
    (he : ∀ (z : Shared) (G : Hp) (C : Addr) (cl : List (Str × Addr)) (fp : List Addr), PE (X.blk z G scope (compEnvC scope cl C X.env) fp) vx tv) (hs : ∀ x, foldedSetIterable iter X.env x = pure x := by intro _; rfl) :
    PE X (.DictComp kx vx [⟨tg, iter, ifs, 0⟩] scope pos) (tDcT wi g tt tk tv (own.map (·.2))) := by
  refine ⟨fun pins z σ H Q I h => ?_⟩
  rw [arm_eval_DictComp]
  refine dcT_core hu hc hN I hi ok hg ht hk he hs h fun D C z1 m G I1 q hn f => ⟨m, hn, fun z2 sb => ?_⟩
  obtain ⟨c0, c1, c2, c3, c4, c5⟩ := f
  exact ⟨.ref D, G, I1.turned (t' := z1.toks) (fun b o hb e => (sb.2 b hb).trans e) c0 c1 c3 c4 c5, rfl, q⟩
end
end Sh
set_option Elab.async false
set_option linter.all false
set_option maxRecDepth 100000
set_option maxHeartbeats 1000000
namespace Sh
open PySem L2 PyProof.Rows
/-! ### {k: v for ..}, keys tuples: a dict that stays -/
noncomputable def dput (c : Option (Nat × List PyData)) (n : Nat) (a z : Rv) (μ : Mu) (k : Mu → Option Mu) : Option Mu := match a, z, μ[n]? with
  | .d a, .d y, some (.dT es) => (tupOf a).bind fun js => if es.length < 4096 ∧ chkB c (μ.take n) then k (μ.take n ++ [.dT (putD es js y)]) else none
  | _, _, _ => none
noncomputable def dloop (t : Tg) (test : Sb) (kx vx : Sm) (c : Option (Nat × List PyData)) (n : Nat) (ρ : Ro) : List PyData → Mu → Option Mu
  | [], μ => some μ
  | d :: ds, μ => (t.put d ρ).bind fun ρ1 => (test ρ1 μ).bind fun q => if q.1 then
      (kx ρ1 q.2).bind fun a => (vx ρ1 a.2).bind fun z => dput c n a.1 z.1 z.2 fun μ3 => dloop t test kx vx c n ρ ds μ3
    else if chkB c (q.2.take (n + 1)) then dloop t test kx vx c n ρ ds (q.2.take (n + 1)) else none
noncomputable def sDcT (m : Si) (t : Tg) (test : Sb) (kx vx : Sm) (vs : List Nat) : Sm := fun ρ μ => (m ρ μ).bind fun p =>
  (dloop t test kx vx p.1.chk p.2.length (wipeR ρ vs) p.1.items (p.2 ++ [.dT []])).bind fun μ2 => match μ2[p.2.length]? with
    | some (.dT es) => some (.d (.dict es), μ2.take p.2.length)
    | _ => none
theorem dcomp_run {K : PySem.W.Frag} {m : Si} {t : Tg} {test : Sb} {kx vx : Sm} {vs : List Nat} (hv : ∀ i ∈ t.slots, i ∈ vs) {σ : L2.St} {H : Hp} {Q : VK} (q : tE K (sDcT m t test kx vx vs) σ H Q) :
    tDcT (tI K m) (gT K t) (tB K test) (tE K kx) (tE K vx) vs σ H Q := by
  obtain ⟨ρ, w, r, μ', e1, e2, ok, s, k⟩ := q
  obtain ⟨⟨src, μ1⟩, ea, e2⟩ := Option.bind_eq_some_iff.mp e2
  refine ⟨ρ, w, src, μ1, e1, ea, ok, s, fun u J eu oku le hs hy => ?_⟩
  subst eu
  obtain ⟨μ2, el0, e2⟩ := Option.bind_eq_some_iff.mp e2
  have el0 : dloop t test kx vx src.chk u.μ.length (wipeR ρ vs) src.items (u.μ ++ [.dT []]) = some μ2 := el0
  intro D hD
  have hdl : ∀ xs : List (PyData × PyData), Mo.dT xs ≠ Mo.dead := by intro xs z; cases z
  have okn : (u.new D (.dT []) (.dT [])).Ok := Wd.new_ok oku (hdl _) hD ⟨[], upd_same, .nil⟩
  have len : u.le (u.new D (.dT []) (.dT [])) := Wd.new_le oku (hdl _) hD
  have sw := wipeR_slots (s.mono le) vs
  -- the end: from a world behind the last turn
  have fin : ∀ z : Wd, CInv K u z D → z.μ = μ2 → Q (.ref D) z.H := by
    intro z ci ez
    subst ez
    simp only at e2
    split at e2
    · rename_i ds ed
      obtain ⟨xs, h1, h2⟩ := ci.ok.ok _ _ D ed ci.adr
      · cases e2
        refine k (z.cut u.μ.length) _ rfl (Wd.cut_ok ci.ok _) (le.trans (Wd.cut_le oku ci.le)) (.dct (.inl ?_) (RpKV.mono (Wd.cut_leR _) _ _ h2))
        have nl : ¬ (z.cut u.μ.length).live D := by
          rintro ⟨j, o, g1, g2, g3⟩
          have hj := (get_take.mp g1).1
          have := ci.ok.inj j u.μ.length o _ D (get_take.mp g1).2 ed g2 (hdl _) (get_take.mp g3).2 ci.adr
          omega
        rw [Wd.F_not nl]; exact h1
    · cases e2
  refine ⟨fun i n H => n = src.items.length - i ∧ i ≤ src.items.length ∧ ∃ z : Wd, z.H = H ∧ CInv K u z D ∧ src.ok z.μ ∧ dloop t test kx vx src.chk u.μ.length (wipeR ρ vs) (src.items.drop i) z.μ = some μ2,
    ⟨_, rfl, Nat.zero_le _, u.new D (.dT []) (.dT []), rfl, ⟨okn, len, by show (u.μ ++ [Mo.dT []]).length = _; rw [List.length_append]; rfl, (get_snoc _ _ _ _).mpr (.inr ⟨oku.len.symm, rfl⟩)⟩, ?_, by rw [List.drop_zero]; exact el0⟩, fun i n H hW => ?_⟩
  · intro k' ds' e'
    exact (get_snoc _ _ _ _).mpr (.inl (hs k' ds' e'))
  obtain ⟨en, hi, z, rfl, ci, sok, el⟩ := hW
  obtain ⟨Y1, Y2⟩ := hy z ci.le ci.ok sok
  by_cases hlt : i < src.items.length
  · rw [List.drop_eq_getElem_cons hlt] at el
    obtain ⟨hgo, hyl⟩ := Y1 i _ (List.getElem?_eq_getElem hlt)
    refine .inr ⟨hgo, fun H' => ∃ z : Wd, z.H = H' ∧ CInv K u z D ∧ src.ok z.μ ∧ dloop t test kx vx src.chk u.μ.length (wipeR ρ vs) (src.items.drop (i + 1)) z.μ = some μ2, fun H' hN => ⟨_, by omega, rfl, hlt, hN⟩, fun x H' hx => ?_⟩
    obtain ⟨u2, em, rfl, ok2, le2, rp⟩ := hyl x H' hx
    have el : ((t.put src.items[i] (wipeR ρ vs)).bind fun ρ1 => (test ρ1 z.μ).bind fun q => if q.1 then
      (kx ρ1 q.2).bind fun a => (vx ρ1 a.2).bind fun z => dput src.chk u.μ.length a.1 z.1 z.2 fun μ3 => dloop t test kx vx src.chk u.μ.length (wipeR ρ vs) (src.items.drop (i + 1)) μ3
      else if chkB src.chk (q.2.take (u.μ.length + 1)) then dloop t test kx vx src.chk u.μ.length (wipeR ρ vs) (src.items.drop (i + 1)) (q.2.take (u.μ.length + 1)) else none) = some μ2 := el
    obtain ⟨ρ2, e3, el⟩ := Option.bind_eq_some_iff.mp el
    obtain ⟨⟨b, q2⟩, e4, el⟩ := Option.bind_eq_some_iff.mp el
    refine gT_run e3 rp ((sw.mono ci.le).mono le2) fun xs sx => ?_
    refine ⟨by rw [wipe_sets _ _ _ hv, wipe_wipe], ρ2, u2, b, q2, rfl, by rw [em]; exact e4, ok2, sx, fun u3 eu3 ok3 le3 => ?_⟩
    subst eu3
    have at3 : u3.A[u.μ.length]? = some D := (le2.trans le3).at ci.adr
    have n3 : u.μ.length < u3.μ.length := by rw [← ok3.len]; exact (List.getElem?_eq_some_iff.mp at3).1
    have le3' : u.le u3 := ci.le.trans (le2.trans le3)
    -- a world cut behind the new list
    have cutD : ∀ y : Wd, y.Ok → u.le y → y.A[u.μ.length]? = some D → CInv K u (y.cut (u.μ.length + 1)) D := by
      intro y oky ley aty
      refine ⟨Wd.cut_ok oky _, ⟨?_, ley.le.trans (Wd.cut_leR _), fun a o q e => Wd.cut_same _ a _ (ley.frz a o q e)⟩, ?_, get_take.mpr ⟨by omega, aty⟩⟩
      · obtain ⟨tl, et⟩ := ley.pre
        have : u.A.length ≤ u.μ.length + 1 := by rw [oku.len]; omega
        show u.A <+: y.A.take (u.μ.length + 1)
        rw [← et, List.take_append]
        rw [List.take_of_length_le this]
        exact List.prefix_append _ _
      · have : u.μ.length < y.A.length := (List.getElem?_eq_some_iff.mp aty).1
        rw [oky.len] at this
        exact take_len _ _ this
    cases b with
    | false =>
      rw [if_neg Bool.false_ne_true]
      simp only [Bool.false_eq_true, if_false] at el
      split at el
      · rename_i hc
        exact ⟨u3.cut (u.μ.length + 1), rfl, cutD u3 ok3 le3' at3, chkB_ok hc, el⟩
      · cases el
    | true =>
      rw [if_pos rfl]
      simp only [if_true] at el
      obtain ⟨⟨a1, a2⟩, e5, el⟩ := Option.bind_eq_some_iff.mp el
      obtain ⟨⟨z1, z2⟩, e6, el⟩ := Option.bind_eq_some_iff.mp el
      refine ⟨ρ2, u3, a1, a2, rfl, e5, ok3, sx.mono le3, fun u4 v eu4 ok4 le4 rp4 => ?_⟩
      subst eu4
      refine ⟨ρ2, u4, z1, z2, rfl, e6, ok4, sx.mono (le3.trans le4), fun u5 vv eu5 ok5 le5 rp5 => ?_⟩
      subst eu5
      have at5 : u5.A[u.μ.length]? = some D := le5.at (le4.at at3)
      have le5' : u.le u5 := le3'.trans (le4.trans le5)
      unfold dput at el
      simp only at el
      split at el
      · rename_i a y acc eacc _
        obtain ⟨js, ej, el⟩ := Option.bind_eq_some_iff.mp el
        split at el
        · rename_i hc
          obtain ⟨c, rfl, hcF, _⟩ := tupOf_ok rp4 ej
          obtain ⟨ws, h1, h2⟩ := ok5.ok _ _ D eacc at5
          have hcF5 := (Wd.F_some (le5.le.tup _ _ hcF)).1
          refine ⟨ws, js.map Sum.inl, c, rfl, hcF5, h1, by rw [h2.length]; exact Nat.lt_of_lt_of_le hc.1 (by decide), ?_⟩
          have c5 := cutD u5 ok5 le5' at5
          have ek : (u5.cut (u.μ.length + 1)).μ[u.μ.length]? = some (.dT acc) := get_take.mpr ⟨by omega, eacc⟩
          have n5 : u.μ.length < u5.μ.length := (List.getElem?_eq_some_iff.mp eacc).1
          have ok6 := Wd.chg_ok (o := .dT (putK ws (js.map Sum.inl) vv)) c5.ok ek (hdl acc) (hdl (putD acc js y)) c5.adr ⟨_, upd_same, (RpKV.mono (Wd.cut_leR _) _ _ h2).put (Rp.mono (Wd.cut_leR _) _ _ rp5) js⟩
          have le6 := Wd.chg_le (o := .dT (putK ws (js.map Sum.inl) vv)) c5.ok ek (hdl acc) (hdl (putD acc js y)) c5.adr
          have em6 : ((u5.cut (u.μ.length + 1)).chg u.μ.length D (.dT (putD acc js y)) (.dT (putK ws (js.map Sum.inl) vv))).μ = u5.μ.take u.μ.length ++ [.dT (putD acc js y)] := set_snoc n5 _
          refine ⟨(u5.cut (u.μ.length + 1)).chg u.μ.length D (.dT (putD acc js y)) (.dT (putK ws (js.map Sum.inl) vv)), rfl, ⟨ok6, c5.le.trans le6, ?_, c5.adr⟩, ?_, by rw [em6]; exact el⟩
          · rw [em6, List.length_append, take_len _ _ (by omega)]; rfl
          · rw [em6]
            intro k' ds' e'
            exact (get_snoc _ _ _ _).mpr (.inl (chkB_ok hc.2 k' ds' e'))
        · cases el
      · cases el
  · refine .inl ⟨Y2 i (Nat.le_of_not_lt hlt), ?_⟩
    rw [List.drop_eq_nil_of_le (Nat.le_of_not_lt hlt)] at el
    cases el
    exact fin z ci rfl
section
variable {X : Cx} {ke ve tg iter : Expr} {ifs : List Expr} {scope : Scope} {own : List (Str × Nat)} {pos : Pos} {m : Si} {t : Tg} {test : Sb} {kx vx : Sm}
theorem pE_dcT (hu : X.A.units + 1 < cLine) (hc : X.calm = true) (hN : X.N.Nodup) (hi : PI X tg iter (tI X.K m)) (ok : BlkOk X.N X.env.scope scope own)
    (hg : ∀ (s : Shared) (H : Hp) (C : Addr) (cl : List (Str × Addr)) (fp : List Addr), PG (X.blk s H scope (compEnvC scope cl C X.env) fp) tg (gT X.K t))
    (ht : ∀ (s : Shared) (H : Hp) (C : Addr) (cl : List (Str × Addr)) (fp : List Addr), PTs (X.blk s H scope (compEnvC scope cl C X.env) fp) ifs (tB X.K test))
    (hk : ∀ (s : Shared) (H : Hp) (C : Addr) (cl : List (Str × Addr)) (fp : List Addr), PE (X.blk s H scope (compEnvC scope cl C X.env) fp) ke (tE X.K kx))
    (he : ∀ (s : Shared) (H : Hp) (C : Addr) (cl : List (Str × Addr)) (fp : List Addr), PE (X.blk s H scope (compEnvC scope cl C X.env) fp) ve (tE X.K vx))
    (hv : ∀ i ∈ t.slots, i ∈ own.map (·.2)) (hs : ∀ x, foldedSetIterable iter X.env x = pure x := by intro _; rfl) :
    PE X (.DictComp ke ve [⟨tg, iter, ifs, 0⟩] scope pos) (tE X.K (sDcT m t test kx vx (own.map (·.2)))) :=
  pe_of (pe_dcT hu hc hN hi ok hg ht hk he hs) fun _ _ _ q => dcomp_run hv q
end
end Sh
set_option Elab.async false
set_option linter.all false
set_option maxRecDepth 100000
namespace Sh
open PySem L2 PyProof.Rows
/-! ### enumerate of a list -/
theorem yld_enumL {K : PySem.W.Frag} {a : Addr} {xs : List V} {ds : List PyData} {u : Wd} (h : u.F a = some (.lst xs)) (r : RpAll u.F xs ds) : Yld (Ite K a) ⟨enD ds, none⟩ u := by
  intro w le ok _
  have hw := (Wd.F_some (le.le.lst _ _ h)).1
  have q := RpAll.mono le.le _ _ r
  refine ⟨fun i d e => ?_, fun i hl => ⟨xs, SqL.ofF hw, by rw [r.length, ← enD_len]; exact hl⟩⟩
  obtain ⟨x, e1, rfl⟩ := enD_get e
  obtain ⟨v, g1, k1⟩ := q.get e1
  refine ⟨⟨xs, v, SqL.ofF hw, g1⟩, fun y H' hy => ?_⟩
  obtain ⟨T, z, rfl, hT, rfl, f⟩ := hy
  have z1 := f xs (SqL.ofF hw)
  rw [g1] at z1
  cases z1
  exact pair_put ok hT (.int _) k1
@[simp] def sEnumL (m : Sa) : Si := fun ρ μ => (m ρ μ).bind fun p => match p.1 with
  | [.d (.list ds)] => some (⟨enD ds, none⟩, p.2)
  | _ => none
theorem pI_enumL {X : Cx} {e : Expr} {p pos : Pos} {m : Sa} {tp : Pos} {elts : List Expr} {kk : Nat} (hg : Gl X "enumerate") (hm : X.mg "enumerate" = none) (ha : PA X [e] (tAs X.K m)) (hs : starEach [e] X.env = [(false, eval e X.env)] := by rfl) :
    PI X (.Tuple elts kk tp) (.Call (.Name "enumerate" p) [e] [] pos) (tI X.K (sEnumL m)) := by
  refine pi_of (pi_enum hg hm ha hs) fun σ H R q => ?_
  obtain ⟨ρ, w, s, μ', e1, e2, ok, sl, k⟩ := q
  obtain ⟨⟨p1, p2⟩, ea, e2⟩ := Option.bind_eq_some_iff.mp e2
  refine ⟨ρ, w, p1, p2, e1, ea, ok, sl, fun u vs eu oku le rp => ?_⟩
  simp only at e2
  split at e2
  · cases e2
    obtain ⟨v, rfl, rv⟩ := Paired.one rp
    cases rv with
    | lst h r => exact ⟨_, _, rfl, SqL.ofF (Wd.F_some h).1, k u _ eu oku le (ok_none _) (yld_enumL h r)⟩
  · cases e2
end Sh
set_option Elab.async false
set_option linter.all false
set_option maxRecDepth 100000
namespace Sh
open PySem L2 PyProof.Rows
/-! ### sorted(list of whole numbers) -/
def insN (x : Int) : List Int → List Int
  | [] => [x]
  | y :: r => if y < x then y :: insN x r else x :: y :: r
def sortN (l : List Int) : List Int := l.foldr insN []
theorem insN_perm (x : Int) : ∀ l, (insN x l).Perm (x :: l)
  | [] => .refl _
  | y :: r => by
    unfold insN
    split
    · exact ((insN_perm x r).cons y).trans (List.Perm.swap x y r)
    · exact .refl _
theorem sortN_perm : ∀ l, (sortN l).Perm l
  | [] => .refl _
  | x :: r => (insN_perm x _).trans ((sortN_perm r).cons x)
theorem insN_srt (x : Int) : ∀ l : List Int, l.Pairwise (· ≤ ·) → (insN x l).Pairwise (· ≤ ·)
  | [], _ => List.pairwise_singleton _ _
  | y :: r, h => by
    obtain ⟨h1, h2⟩ := List.pairwise_cons.mp h
    unfold insN
    by_cases hb : y < x
    · rw [if_pos hb]
      refine List.pairwise_cons.mpr ⟨fun z hz => ?_, insN_srt x r h2⟩
      rcases List.mem_cons.mp ((insN_perm x r).mem_iff.mp hz) with e | hz
      · omega
      · exact h1 z hz
    · rw [if_neg hb]
      refine List.pairwise_cons.mpr ⟨fun z hz => ?_, h⟩
      rcases List.mem_cons.mp hz with e | hz
      · omega
      · have := h1 z hz; omega
theorem sortN_srt : ∀ l : List Int, (sortN l).Pairwise (· ≤ ·)
  | [] => List.Pairwise.nil
  | x :: r => insN_srt x _ (sortN_srt r)
theorem sortN_eq {l m : List Int} (h : l.Perm m) (s : l.Pairwise (· ≤ ·)) : l = sortN m :=
  List.Perm.eq_of_pairwise (le := (· ≤ ·)) (fun a b _ _ h1 h2 => Int.le_antisymm h1 h2) s (sortN_srt m) (h.trans (sortN_perm m).symm)
@[simp] def fSortI (b : Bool) : FA := fun μ rs => (listOf μ rs).bind fun ds => (intsOf ds).map fun ns => mkL b ((sortN ns).map .int) μ
theorem opA_sortI {K : PySem.W.Frag} {b : Bool} : OpA K (fSortI b) (rSortedI K) := by
  intro w rs vs r μ' Q e ok rp k
  obtain ⟨ds, e1, e⟩ := Option.bind_eq_some_iff.mp e
  obtain ⟨ns, e2, e⟩ := Option.map_eq_some_iff.mp e
  obtain ⟨a, xs, h1, h2, h3⟩ := listOf_ok ok rp e1
  rw [intsOf_ok e2] at h3
  rw [h3.ints] at h2
  refine ⟨a, ns, h1, SqL.ofF h2, fun ns' p hp hs hn => ?_⟩
  rw [sortN_eq hp hs]
  exact mkL_ok ok hn (RpAll.ofInts _) e k
/-! ### tuple(range(n)) -/
noncomputable def bSm (n : Int) : Bool := @decide (0 ≤ n ∧ n ≤ 4096) (Classical.propDecidable _)
theorem bSm_eq {n : Int} (h1 : 0 ≤ n) (h2 : n ≤ 4096) : bSm n = true := @decide_eq_true _ (Classical.propDecidable _) ⟨h1, h2⟩
theorem bSm_ok {n : Int} (h : bSm n = true) : 0 ≤ n ∧ n ≤ 4096 := @of_decide_eq_true _ (Classical.propDecidable _) h
@[simp] noncomputable def fTupRg : F1 := fun μ x => match x with
  | .d (.int n) => if bSm n then some (.d (.tuple (rngD 0 n.toNat)), μ) else none
  | _ => none
theorem rg_ints {F : Hp} (n : Int) : RpAll F (rgV 0 n) (rngD 0 n.toNat) := by
  have e1 : rgV 0 n = ((List.range n.toNat).map fun (i : Nat) => ((0 : Int) + (i : Int))).map V.int := by
    unfold rgV
    rw [List.map_map, Int.sub_zero]; rfl
  have e2 : rngD 0 n.toNat = ((List.range n.toNat).map fun (i : Nat) => ((0 : Int) + (i : Int))).map PyData.int := by
    unfold rngD
    rw [List.map_map]; rfl
  rw [e1, e2]
  exact RpAll.ofInts _
theorem pE_tupRg {X : Cx} {a : Expr} {p p2 pos pos2 : Pos} {m : Sm} (hc : X.calm = true) (hg : Gl X "tuple") (hm : X.mg "tuple" = none) (hg2 : Gl X "range") (hm2 : X.mg "range" = none) (he : PE X a (tE X.K m))
    (hs : starEach [a] X.env = (false, eval a X.env) :: starEach [] X.env := by rfl)
    (hs2 : starEach [.Call (.Name "range" p2) [a] [] pos2] X.env = (false, eval (.Call (.Name "range" p2) [a] [] pos2) X.env) :: starEach [] X.env := by rfl) :
    PE X (.Call (.Name "tuple" p) [.Call (.Name "range" p2) [a] [] pos2] [] pos) (tE X.K (s1 fTupRg m)) :=
  pe_of (pe_tupRg hc hg hm (prg_1 hg2 hm2 he hs) hs2) fun σ H Q q => one_run (t := fun v H1 Q => ∃ n, v = .int n ∧ RgOk 0 n ∧ ∀ q, H1 q = none → Q (.ref q) (upd H1 q (.tup (rgV 0 n)))) (by
    intro w x v r μ' Q e ok rx k
    unfold fTupRg at e
    split at e
    · rename_i n
      split at e
      · rename_i hb
        cases e
        obtain ⟨h1, h2⟩ := bSm_ok hb
        have rx : Rp w.F v (.int n) := rx
        cases rx
        exact ⟨n, rfl, RgOk.of_le (by omega) (by omega) (by omega) h1, fun p hp => mkT_ok ok hp (rg_ints n) k⟩
      · cases e
    · cases e) q
end Sh
set_option Elab.async false
set_option linter.all false
set_option maxRecDepth 100000
set_option maxHeartbeats 4000000
namespace Sh
open PySem L2 PyProof.Rows PySem.Spec
/-! ### a tuple times one: the tuple itself -/
theorem tup_once (l : Addr) (items : Array Value) (n : Nat) (dd : Option Addr) (sl : Array (Option Value)) (u : Tok) :
    Meets (Builtin.«tuple.__mul__» ⟨[.ref l, .int 1 u], []⟩) (fun _ R s => s.heap.get? l = some { cls := .type "tuple", dict := dd, data := .seq items n, slots := sl } ∧
      R (.ok (.ret (Value.ref l))) s) :=
  .of_wp fun prog w A R s h => by
    obtain ⟨hp, g, d, tk, os⟩ := s
    obtain ⟨hl, h⟩ := h
    have f1 := AutoSeq1.idx_int
    wp_walk using wpAny_loadPart' hl
    exact ⟨_, rfl, h⟩
def rOnce (K : PySem.W.Frag) : R2 := fun x y H Q => ∃ l xs, x = .ref l ∧ y = .int 1 ∧ SqT K H l xs ∧ Q (.ref l) H
theorem op_once {X : Cx} : OpR X (binaryOp .Mult) (rOnce X.K) := by
  intro pins s σ H x y v u Q I rx ry h
  obtain ⟨l, xs, rfl, rfl, hT, q⟩ := h
  cases rx
  obtain ⟨t, rfl⟩ := ry
  obtain ⟨its, r, ⟨⟨cls, dd, data, sl⟩, ho, hc, n, hd⟩, hs⟩ := I.tuple hT
  have hc : cls = Value.type "tuple" := hc
  have hd : data = Data.seq its.toArray n := hd
  subst hc hd
  have isT : s.TypeIs (.ref l) "tuple" := ⟨_, ho, rfl⟩
  have mul := call_meets (prog := X.prog) (w := X.w) (A := X.A) (E := X.xe) (Q := EP X pins σ Q) F.slot_tuple_mul isT F.entry_tuple_mul (F.args_tuple_mul_2 _ _) (tup_once l its.toArray n dd sl t) ⟨ho, ⟨V.ref l, H, I, rfl, q⟩⟩
  refine wpAny_binaryOp_repeat_ref (T := "tuple") (U := "int") (by decide) isT (fun z => typeIs_int z 1 t)
    noFill_tuple_mul F.fills_int_mul F.slot_int_rmul repeat_tuple F.slot_int_index.lookup ?_
  exact call_meets F.slot_int_rmul (typeIs_int s 1 t) F.entry_int_rmul (F.args_int_rmul_2 _ _)
    (int_rmul_tuple 1 t l its.toArray n dd sl) ⟨ho, rfl, isT, mul⟩
/-- a * b, a tuple once too -/
@[simp] def fMul1 : F2 := fun μ x y => match rd μ x, rd μ y with
  | some (.tuple xs), some (.int 1) => match x with
    | .d _ => some (.d (.tuple xs), μ)
    | _ => none
  | _, _ => fMul μ x y
theorem op_mul1 {X : Cx} : OpR X (binaryOp .Mult) (fun x y H Q => rMulU X.K x y H Q ∨ rOnce X.K x y H Q) := OpR.or op_mulU op_once
theorem o2_mul1 {K : PySem.W.Frag} : Op2 K fMul1 (fun x y H Q => rMulU K x y H Q ∨ rOnce K x y H Q) := by
  intro w x y v z r μ' Q e ok rx ry k
  unfold fMul1 at e
  split at e
  · rename_i xs ex ey
    have h2 : z = V.int 1 := RpR.rd ok ry ey
    subst h2
    split at e
    · rename_i dx
      have ex : some dx = some (PyData.tuple xs) := ex
      cases ex
      cases e
      obtain ⟨a, vs, h1, h2, h3⟩ := Rp.top rx
      subst h1
      exact .inr ⟨a, vs, rfl, rfl, SqT.ofF h2, Wish.here k ok rx⟩
    · cases e
  · exact .inl (o2_mul w x y v z r μ' Q e ok rx ry k)
/-! ### sorted of a list of pairs -/
def pairOf : PyData → Option (Int × Int)
  | .tuple [.int i, .int j] => some (i, j)
  | _ => none
def pairsD : List PyData → Option (List (Int × Int))
  | [] => some []
  | d :: r => (pairOf d).bind fun p => (pairsD r).map (p :: ·)
theorem pairOf_ok {d : PyData} {p : Int × Int} (h : pairOf d = some p) : d = prD p := by
  unfold pairOf at h
  split at h
  · cases h; rfl
  · cases h
theorem pairsD_ok : ∀ {ds : List PyData} {ps : List (Int × Int)}, pairsD ds = some ps → ds = ps.map prD
  | [], _, h => by cases h; rfl
  | d :: r, ps, h => by
    obtain ⟨p, h1, h⟩ := Option.bind_eq_some_iff.mp h
    obtain ⟨qs, h2, h⟩ := Option.map_eq_some_iff.mp h
    cases h
    rw [List.map_cons, ← pairOf_ok h1, ← pairsD_ok h2]
theorem pairsD_map : ∀ ps : List (Int × Int), pairsD (ps.map prD) = some ps
  | [] => rfl
  | p :: ps => by
    show ((pairsD (ps.map prD)).map (p :: ·)) = _
    rw [pairsD_map ps]; rfl
/-- the pair at a value -/
def kAt (H : Hp) : V → Int × Int
  | .ref t => match H t with
    | some (.tup [.int i, .int j]) => (i, j)
    | _ => (0, 0)
  | _ => (0, 0)
theorem pair_at {w : Wd} {v : V} {p : Int × Int} (h : Rp w.F v (prD p)) : ∃ t, v = V.ref t ∧ w.H t = some (.tup [.int p.1, .int p.2]) ∧ kAt w.H v = p := by
  cases h with
  | tup hf r =>
    cases r with
    | cons r1 r =>
      cases r with
      | cons r2 r =>
        cases r
        cases r1
        cases r2
        have hH := (Wd.F_some hf).1
        refine ⟨_, rfl, hH, ?_⟩
        unfold kAt
        simp only [hH]
theorem rpP_mem {w : Wd} : ∀ {xs : List V} {ps : List (Int × Int)}, RpAll w.F xs (ps.map prD) → ∀ x ∈ xs, Rp w.F x (prD (kAt w.H x)) ∧ ∃ t, x = V.ref t ∧ w.H t = some (.tup [.int (kAt w.H x).1, .int (kAt w.H x).2])
  | [], [], _, x, hx => by cases hx
  | v :: xs, p :: ps, .cons r t, x, hx => by
    rcases List.mem_cons.mp hx with rfl | hx
    · obtain ⟨a, e1, e2, e3⟩ := pair_at r
      rw [e3]
      exact ⟨r, a, e1, e2⟩
    · exact rpP_mem t x hx
theorem rpP_map {w : Wd} : ∀ {xs : List V} {ps : List (Int × Int)}, RpAll w.F xs (ps.map prD) → xs.map (kAt w.H) = ps
  | [], [], _ => rfl
  | v :: xs, p :: ps, .cons r t => by
    obtain ⟨a, e1, e2, e3⟩ := pair_at r
    rw [List.map_cons, e3, rpP_map t]
theorem rpP_of {w : Wd} : ∀ {ys : List V}, (∀ y ∈ ys, Rp w.F y (prD (kAt w.H y))) → RpAll w.F ys ((ys.map (kAt w.H)).map prD)
  | [], _ => .nil
  | y :: ys, h => .cons (h y List.mem_cons_self) (rpP_of fun z hz => h z (List.mem_cons_of_mem _ hz))
@[simp] def fSortP (b : Bool) : FA := fun μ rs => (listOf μ rs).bind fun ds => (pairsD ds).map fun ps => mkL b ((sortP ps).map prD) μ
theorem opA_sortP {K : PySem.W.Frag} {b : Bool} : OpA K (fSortP b) (rSortedPO K) := by
  intro w rs vs r μ' Q e ok rp k
  obtain ⟨ds, e1, e⟩ := Option.bind_eq_some_iff.mp e
  obtain ⟨ps, e2, e⟩ := Option.map_eq_some_iff.mp e
  obtain ⟨a, xs, h1, h2, h3⟩ := listOf_ok ok rp e1
  rw [pairsD_ok e2] at h3
  have hm := rpP_mem h3
  refine ⟨a, xs, kAt w.H, h1, SqL.ofF h2, fun x hx => (hm x hx).2, fun ys p hs hb hn => ?_⟩
  have hp : (ys.map (kAt w.H)).Perm ps := by rw [← rpP_map h3]; exact hb.perm.map _
  have es : ys.map (kAt w.H) = sortP ps := sortP_eq hp (by rw [List.pairwise_map]; exact hs)
  have hy := rpP_of (w := w) (ys := ys) fun y hy => (hm y (hb.perm.mem_iff.mp hy)).1
  rw [es] at hy
  exact mkL_ok ok hn hy e k
end Sh
set_option Elab.async false
set_option linter.all false
set_option maxRecDepth 100000
set_option maxHeartbeats 1000000
namespace Sh
open PySem L2 PyProof.Rows PySem.Spec
/-! ### sorted of a tuple of pairs -/
section
variable {prog : Program} {w : World} {A : Around} {E : Value → Shared → Prop} {s : Shared}
theorem sorted_ofTup {t : Addr} {o : Obj} {vs : List Value} {n : Nat} {k : Value → Int × Int} {Q : Value → Shared → Prop} (ho : s.heap.get? t = some o) (hc : o.cls = .type "tuple") (hd : o.data = .seq vs.toArray n) (hz : vs.length ≤ sizeLine)
    (hp : ∀ v ∈ vs, Srt.IsPair s.heap v (k v).1 (k v).2)
    (h : ∀ (h1 h' : Heap) (out : List Value), SrtO.Srtd (fun v u => SrtO.lexB (k v) (k u)) out → SrtO.Stb (fun v u => SrtO.lexB (k v) (k u)) out vs → (∀ b o, s.heap.get? b = some o → h1.get? b = some o) → (∀ b o, h1.get? b = some o → h'.get? b = some o) → (∃ n, h'.get? h1.objs.size = some (seqObj "list" out.toArray n)) → Q (.ref h1.objs.size) { s with heap := h' }) :
    wpAny (model prog w) A (call (.builtin "sorted") [.ref t]) Q E s := by
  refine PySem.Calls.call_function_entry PyProof.Rows.kind_sorted PyProof.Rows.plain_sorted PyProof.Rows.entry_sorted (PyProof.Rows.args_sorted1 _) ?_
  unfold Builtin.«sorted»
  refine wpAny_bind (m := checkCount "sorted" 1 1 _) (wpAny_pure ?_)
  refine wpAny_bind (wpAny_collect_seq t (.inr rfl) ho hc hd (fun h1 kp => ?_) (by rw [List.size_toArray]; exact hz))
  have e0 : vs.toArray.toList = vs := rfl
  rw [e0]
  refine wpAny_bind (wpAny_newList ?_ hz)
  have hob : (h1.push { cls := .type "list", data := .seq vs.toArray }).get? h1.objs.size = some (seqObj "list" vs.toArray 0) := Heap.get?_push_size _ rfl
  have kb : ∀ b o, h1.get? b = some o → (h1.push { cls := .type "list", data := .seq vs.toArray }).get? b = some o := fun b o e => Heap.get?_push_of_some _ e
  generalize hh2 : h1.push { cls := .type "list", data := .seq vs.toArray } = h2 at hob kb ⊢
  have ne0 : ∀ b o, h1.get? b = some o → b ≠ h1.objs.size := fun b o e => Nat.ne_of_lt (Heap.lt_size e)
  have kF : ∀ (out : Array Value) b o, h1.get? b = some o → (sortedHeap h2 h1.objs.size vs out).get? b = some o := fun out b o e => (PyProof.Rows.sortedHeap_old (ne0 b o e) (Heap.lt_size (kb b o e))).trans (kb b o e)
  refine wpAny_bind (wpAny_holding (wpAny_call_entry PyProof.Rows.slot_list_sort ⟨_, hob, rfl⟩ PyProof.Rows.entry_list_sort
    (SrtO.list_sort_ord (s := { s with heap := h2 }) (vs := vs) (SrtO.swo_lex k) hob hz
      (fun _ => SrtO.pairs_sortableO (s := { s with heap := h2 }) (by omega) (fun v hm => (hp v hm).keeps fun b o e _ => kb b o (kp b o e)) fun o e => ?_) fun out o1 o2 => ⟨.none, rfl, ?_⟩) (PyProof.Rows.args_list_sort _)))
  · have e' : some o = some (seqObj "list" vs.toArray 0) := e.symm.trans hob
    cases e'
    intro c
    exact absurd (Value.type.inj c) (by decide)
  · obtain ⟨eF, heF⟩ := PyProof.Rows.sortedHeap_at (vs := vs) (out := out.toArray) hob
    exact wpAny_pure ⟨_, rfl, h h1 _ out o1 o2 kp (kF out.toArray) ⟨eF, heF⟩⟩
end
def rSortedPT (K : PySem.W.Frag) : List V → Hp → VK → Prop := fun vs H Q => ∃ (a : Addr) (xs : List V) (k : V → Int × Int), vs = [V.ref a] ∧ SqT K H a xs ∧ (∀ x ∈ xs, ∃ t, x = V.ref t ∧ H t = some (.tup [.int (k x).1, .int (k x).2])) ∧
  ∀ ys p, SrtO.Srtd (ltP k) ys → SrtO.Stb (ltP k) ys xs → H p = none → Q (.ref p) (upd H p (.lst ys))
section
variable {X : Cx}
theorem cr_sortedPT : CallR X (.builtin "sorted") (rSortedPT X.K) := by
  intro pins s σ H vs us Q I r h
  obtain ⟨a, xs, k, rfl, hs, hx, q⟩ := h
  obtain ⟨its, rv, ⟨ot, hot, hct, nt, hdt⟩, hz⟩ := I.tuple hs
  obtain rfl := Vals.ref1 r
  have hrefs : ∀ x ∈ xs, ∃ t, x = V.ref t := fun x m => by
    obtain ⟨t, e, _⟩ := hx x m
    exact ⟨t, e⟩
  obtain ⟨e1, e2⟩ := refs_back rv hrefs
  have lz : its.length ≤ sizeLine := by rw [← rv.length]; exact hz
  have hpair : ∀ v ∈ its, Srt.IsPair s.heap v (k (backV v)).1 (k (backV v)).2 := by
    intro v hv
    obtain ⟨t, rfl⟩ := e2 v hv
    have hm : V.ref t ∈ xs := by rw [e1]; exact List.mem_map.mpr ⟨_, hv, rfl⟩
    obtain ⟨t', e, ht⟩ := hx _ hm
    cases e
    obtain ⟨_, its2, r2, o, ho, hc, n, hd⟩ := I.hok _ _ ht
    obtain ⟨u1, u2, rfl, ri, rj⟩ := vals2 r2
    obtain ⟨t1, rfl⟩ := ri
    obtain ⟨t2, rfl⟩ := rj
    exact ⟨t, o, t1, t2, n, rfl, ho, hc, hd⟩
  refine sorted_ofTup (k := fun u => k (backV u)) hot hct hdt lz hpair fun h1 h' out o1 o2 k1 k2 hn => ?_
  have h3 : ∀ u ∈ out, ∃ a, u = Value.ref a := fun u hu => e2 u (o2.perm.mem_iff.mp hu)
  obtain ⟨n, hn⟩ := hn
  have hb : SrtO.Stb (ltP k) (out.map backV) xs := by
    rw [e1]
    exact SrtO.Stb.map (ltP_swo k) backV o2
  have I1 : Inv X pins σ H { s with heap := h1 } := I.kept (t' := s.toks) k1
  have hlen : (out.map backV).length ≤ sizeLine := by rw [hb.len]; exact hz
  exact ⟨.ref h1.objs.size, upd H h1.objs.size (.lst (out.map backV)), I1.laid (t' := s.toks) k2 (Nat.le_refl _) ⟨hlen, out, n, vals_back h3, hn⟩, rfl, q _ _ (SrtO.srtd_map o1) hb (I1.hok.fresh (Nat.le_refl _))⟩
end
/-- sorted of a list or of a tuple of pairs -/
@[simp] def seqOf (μ : Mu) : List Rv → Option (List PyData)
  | [.d (.tuple ds)] => some ds
  | rs => listOf μ rs
@[simp] def fSortQ (b : Bool) : FA := fun μ rs => (seqOf μ rs).bind fun ds => (pairsD ds).map fun ps => mkL b ((sortP ps).map prD) μ
theorem opA_sortQ {K : PySem.W.Frag} {b : Bool} : OpA K (fSortQ b) (fun vs H Q => rSortedPO K vs H Q ∨ rSortedPT K vs H Q) := by
  intro w rs vs r μ' Q e ok rp k
  obtain ⟨ds, e1, e'⟩ := Option.bind_eq_some_iff.mp e
  unfold seqOf at e1
  split at e1
  · rename_i ds'
    cases e1
    obtain ⟨ps, e2, e⟩ := Option.map_eq_some_iff.mp e'
    obtain ⟨v, rfl, rv⟩ := Paired.one rp
    obtain ⟨a, xs, h1, h2, h3⟩ := Rp.top rv
    subst h1
    rw [pairsD_ok e2] at h3
    have hm := rpP_mem h3
    refine .inr ⟨a, xs, kAt w.H, rfl, SqT.ofF h2, fun x hx => (hm x hx).2, fun ys p hs hb hn => ?_⟩
    have hp : (ys.map (kAt w.H)).Perm ps := by rw [← rpP_map h3]; exact hb.perm.map _
    have es : ys.map (kAt w.H) = sortP ps := sortP_eq hp (by rw [List.pairwise_map]; exact hs)
    have hy := rpP_of (w := w) (ys := ys) fun y hy => (hm y (hb.perm.mem_iff.mp hy)).1
    rw [es] at hy
    exact mkL_ok ok hn hy e k
  · exact .inl (opA_sortP w rs vs r μ' Q (Option.bind_eq_some_iff.mpr ⟨ds, e1, e'⟩) ok rp k)
theorem call_sortQ {X : Cx} : CallR X (.builtin "sorted") (fun vs H Q => rSortedPO X.K vs H Q ∨ rSortedPT X.K vs H Q) := CallR.or cr_sortedPO cr_sortedPT
end Sh
set_option Elab.async false
set_option linter.all false
set_option maxRecDepth 100000
namespace Sh
open PySem L2 PyProof.Rows

/-! ### reckoning with the evaluator -/
@[simp] theorem get_last {α : Type} (l : List α) (x : α) : (l ++ [x])[l.length]? = some x := (get_snoc _ _ _ _).mpr (.inr ⟨rfl, rfl⟩)
@[simp] theorem set_last {α : Type} (l : List α) (x y : α) : (l ++ [x]).set l.length y = l ++ [y] := by
  rw [List.set_append_right _ _ (Nat.le_refl _), Nat.sub_self]; rfl
@[simp] theorem take_last {α : Type} (l : List α) (x : α) : (l ++ [x]).take (l.length + 1) = l ++ [x] := List.take_of_length_le (by rw [List.length_append]; exact Nat.le_refl _)
@[simp] theorem take_self {α : Type} (l : List α) : l.take l.length = l := List.take_length
@[simp] theorem take_front {α : Type} (l : List α) (x : α) : (l ++ [x]).take l.length = l := List.take_left' rfl
theorem atI_at {α : Type} {xs : List α} {j : Nat} {v : α} (h : xs[j]? = some v) : atI xs (j : Int) = some v := atI_nat h
@[simp] theorem atI_0 {α : Type} (x : α) (r : List α) : atI (x :: r) 0 = some x := atI_nat (j := 0) rfl
@[simp] theorem atI_1 {α : Type} (x y : α) (r : List α) : atI (x :: y :: r) 1 = some y := atI_nat (j := 1) rfl
@[simp] theorem atI_2 {α : Type} (x y z : α) (r : List α) : atI (x :: y :: z :: r) 2 = some z := atI_nat (j := 2) rfl
@[simp] theorem atI_end {α : Type} (xs : List α) (v : α) : atI (xs ++ [v]) (-1) = some v := atI_last xs v
@[simp] theorem pl_none (n : Nat) : pl n .none = true := by cases n <;> rfl
@[simp] theorem pl_bool (n : Nat) (b : Bool) : pl n (.bool b) = true := by cases n <;> rfl
@[simp] theorem pl_int (n : Nat) (i : Int) : pl n (.int i) = true := by cases n <;> rfl
@[simp] theorem pl_str (n : Nat) (z : Str) : pl n (.str z) = PyData.strOk z := by cases n <;> rfl
@[simp] theorem pl_list (n : Nat) (ds : List PyData) : pl (n + 1) (.list ds) = plAll n ds := rfl
@[simp] theorem pl_tuple (n : Nat) (ds : List PyData) : pl (n + 1) (.tuple ds) = plAll n ds := rfl
@[simp] theorem plAll_nil (n : Nat) : plAll n [] = true := by cases n <;> rfl
@[simp] theorem plAll_cons (n : Nat) (d : PyData) (ds : List PyData) : plAll n (d :: ds) = (pl n d && plAll n ds) := by cases n <;> rfl
@[simp] theorem plAll_ints (n : Nat) (ns : List Int) : plAll n (ns.map .int) = true := by
  induction ns with
  | nil => exact plAll_nil n
  | cons x r ih => rw [List.map_cons, plAll_cons, ih, pl_int]; rfl
theorem plAll_of {α : Type} {f : α → PyData} {n : Nat} : ∀ {xs : List α}, (∀ x ∈ xs, pl n (f x) = true) → plAll n (xs.map f) = true
  | [], _ => plAll_nil n
  | x :: xs, h => by rw [List.map_cons, plAll_cons, h x List.mem_cons_self, plAll_of fun y hy => h y (List.mem_cons_of_mem _ hy)]; rfl
@[simp] theorem eqv_int (i j : Int) : PyData.eqv (.int i) (.int j) = (i == j) := rfl
@[simp] theorem eqv_bool (i j : Bool) : PyData.eqv (.bool i) (.bool j) = (i == j) := rfl
@[simp] theorem eqv_str (i j : Str) : PyData.eqv (.str i) (.str j) = (i == j) := rfl
@[simp] theorem eqv_tup (xs ys : List PyData) : PyData.eqv (.tuple xs) (.tuple ys) = PyData.eqvAll xs ys := rfl
@[simp] theorem eqv_lst (xs ys : List PyData) : PyData.eqv (.list xs) (.list ys) = PyData.eqvAll xs ys := rfl
@[simp] theorem eqvAll_nil : PyData.eqvAll [] [] = true := rfl
@[simp] theorem eqvAll_cons (x y : PyData) (xs ys : List PyData) : PyData.eqvAll (x :: xs) (y :: ys) = (PyData.eqv x y && PyData.eqvAll xs ys) := rfl
@[simp] theorem eqvAll_nc (y : PyData) (ys : List PyData) : PyData.eqvAll [] (y :: ys) = false := rfl
@[simp] theorem eqvAll_cn (y : PyData) (ys : List PyData) : PyData.eqvAll (y :: ys) [] = false := rfl
theorem chkB_none (μ : Mu) : chkB none μ = true := rfl
theorem chkB_some {k : Nat} {ds : List PyData} {μ : Mu} (h : μ[k]? = some (.lst ds)) : chkB (some (k, ds)) μ = true := @decide_eq_true _ (Classical.propDecidable _) h
theorem chk_of {s : Src} {μ : Mu} (h : s.ok μ) : chkB s.chk μ = true := by
  cases e : s.chk with
  | none => rfl
  | some p => exact chkB_some (h p.1 p.2 e)

/-- a comprehension whose block leaves the store as it is -/
theorem cloop_ev {α : Type} {t : Tg} {test : Sb} {elt : Sm} {c : Option (Nat × List PyData)} {ρ : Ro} {μ : Mu} (hc : chkB c μ = true) (enc : α → PyData) (p : α → Bool) (f : α → PyData) : ∀ (xs : List α) (acc : List PyData), acc.length + xs.length ≤ 4096 →
    (∀ x ∈ xs, ∀ acc, ∃ ρ1, t.put (enc x) ρ = some ρ1 ∧ test ρ1 (μ ++ [.lst acc]) = some (p x, μ ++ [.lst acc]) ∧ (p x = true → elt ρ1 (μ ++ [.lst acc]) = some (.d (f x), μ ++ [.lst acc]))) →
    chkB c μ = true → (∀ ds, chkB c (μ ++ [.lst ds]) = true) →
    cloop t test elt c μ.length ρ (xs.map enc) (μ ++ [.lst acc]) = some (μ ++ [.lst (acc ++ (xs.filter p).map f)])
  | [], acc, _, _, _, _ => by simp [cloop]
  | x :: xs, acc, hl, h, h1, h2 => by
    obtain ⟨ρ1, e1, e2, e3⟩ := h x List.mem_cons_self acc
    rw [List.length_cons] at hl
    have ih := fun acc' (hl' : acc'.length + xs.length ≤ 4096) => cloop_ev hc enc p f xs acc' hl' (fun y hy => h y (List.mem_cons_of_mem _ hy)) h1 h2
    rw [List.map_cons]
    unfold cloop
    rw [e1]
    simp only [Option.bind_some]
    rw [e2]
    simp only [Option.bind_some]
    cases hp : p x with
    | true =>
      rw [if_pos rfl, e3 hp]
      simp only [Option.bind_some, get_last, take_front]
      rw [if_pos ⟨by omega, h1⟩, ih (acc ++ [f x]) (by rw [List.length_append, List.length_singleton]; omega)]
      rw [List.filter_cons_of_pos hp, List.map_cons, List.append_assoc]; rfl
    | false =>
      rw [if_neg Bool.false_ne_true, take_last, if_pos (h2 acc), ih acc (by omega), List.filter_cons_of_neg (by rw [hp]; exact Bool.false_ne_true)]
theorem comp_ev {α : Type} {fl : Bool} {m : Si} {t : Tg} {test : Sb} {elt : Sm} {vs : List Nat} {ρ : Ro} {μ : Mu} {s : Src} (xs : List α) (enc : α → PyData) (hm : m ρ μ = some (s, μ)) (hs : s.items = xs.map enc) (ho : s.ok μ) (hl : xs.length ≤ 4096) (p : α → Bool) (f : α → PyData)
    (h : ∀ x ∈ xs, ∀ acc, ∃ ρ1, t.put (enc x) (wipeR ρ vs) = some ρ1 ∧ test ρ1 (μ ++ [.lst acc]) = some (p x, μ ++ [.lst acc]) ∧ (p x = true → elt ρ1 (μ ++ [.lst acc]) = some (.d (f x), μ ++ [.lst acc]))) :
    sComp fl m t test elt vs ρ μ = some (mkL fl ((xs.filter p).map f) μ) := by
  unfold sComp
  rw [hm]
  simp only [Option.bind_some]
  have h1 := chk_of ho
  have h2 : ∀ ds, chkB s.chk (μ ++ [.lst ds]) = true := fun ds => by
    refine chk_of (s := s) fun k es e => (get_snoc _ _ _ _).mpr (.inl (ho k es e))
  rw [hs, cloop_ev h1 enc p f xs [] (by simpa using hl) h h1 h2]
  simp only [Option.bind_some, get_last, take_front, List.nil_append]
  cases fl <;> rfl
/-- a loop by what holds between its turns; R: what is handed back out of it -/
theorem loop_ev {t : Tg} {body : Ss} {c : Option (Nat × List PyData)} {n : Nat} {α : Type} {enc : α → PyData} (I : Nat → Ro → Mu → Prop) (R : Rv → Mu → Prop) (xs : List α)
    (step : ∀ k x ρ μ, xs[k]? = some x → I k ρ μ → ∃ ρ1 f ρ2 μ2, t.put (enc x) ρ = some ρ1 ∧ body ρ1 μ = some (f, ρ2, μ2) ∧ match f with
      | .nx => chkB c (μ2.take n) = true ∧ I (k + 1) (cutR n ρ2) (μ2.take n)
      | .ct => chkB c (μ2.take n) = true ∧ I (k + 1) (cutR n ρ2) (μ2.take n)
      | .rt r => R r μ2
      | .bk => False) : ∀ (j : Nat) (ρ : Ro) (μ : Mu), j ≤ xs.length → I j ρ μ →
    ∃ f ρ' μ', loop t body c n ((xs.drop j).map enc) ρ μ = some (f, ρ', μ') ∧ match f with
      | .nx => I xs.length ρ' μ'
      | .rt r => R r μ'
      | _ => False := by
  have key : ∀ (m j : Nat) (ρ : Ro) (μ : Mu), xs.length - j = m → j ≤ xs.length → I j ρ μ →
    ∃ f ρ' μ', loop t body c n ((xs.drop j).map enc) ρ μ = some (f, ρ', μ') ∧ match f with
      | .nx => I xs.length ρ' μ'
      | .rt r => R r μ'
      | _ => False := by
    intro m
    induction m with
    | zero =>
      intro j ρ μ hm hj hI
      have : j = xs.length := by omega
      subst this
      rw [List.drop_length]
      exact ⟨.nx, ρ, μ, rfl, hI⟩
    | succ m ih =>
      intro j ρ μ hm hj hI
      have hlt : j < xs.length := by omega
      rw [List.drop_eq_getElem_cons hlt, List.map_cons]
      obtain ⟨ρ1, f, ρ2, μ2, e1, e2, e3⟩ := step j _ ρ μ (List.getElem?_eq_getElem hlt) hI
      unfold loop
      rw [e1]
      simp only [Option.bind_some]
      rw [e2]
      simp only [Option.bind_some]
      cases f with
      | nx =>
        simp only
        rw [if_pos e3.1]
        exact ih (j + 1) _ _ (by omega) hlt e3.2
      | ct =>
        simp only
        rw [if_pos e3.1]
        exact ih (j + 1) _ _ (by omega) hlt e3.2
      | rt r => exact ⟨.rt r, ρ2, μ2, rfl, e3⟩
      | bk => exact e3.elim
  exact fun j ρ μ => key _ j ρ μ rfl
theorem for_ev {m : Si} {t : Tg} {body : Ss} {ρ : Ro} {μ μ1 : Mu} {s : Src} {α : Type} (xs : List α) (enc : α → PyData) (hm : m ρ μ = some (s, μ1)) (hs : s.items = xs.map enc) (I : Nat → Ro → Mu → Prop) (R : Rv → Mu → Prop) (h0 : I 0 ρ μ1)
    (step : ∀ k x ρ μ, xs[k]? = some x → I k ρ μ → ∃ ρ1 f ρ2 μ2, t.put (enc x) ρ = some ρ1 ∧ body ρ1 μ = some (f, ρ2, μ2) ∧ match f with
      | .nx => chkB s.chk (μ2.take μ1.length) = true ∧ I (k + 1) (cutR μ1.length ρ2) (μ2.take μ1.length)
      | .ct => chkB s.chk (μ2.take μ1.length) = true ∧ I (k + 1) (cutR μ1.length ρ2) (μ2.take μ1.length)
      | .rt r => R r μ2
      | .bk => False) :
    ∃ f ρ' μ', sFor m t body ρ μ = some (f, ρ', μ') ∧ match f with
      | .nx => I xs.length ρ' μ'
      | .rt r => R r μ'
      | _ => False := by
  obtain ⟨f, ρ', μ', e, h⟩ := loop_ev (c := s.chk) (n := μ1.length) I R xs step 0 ρ μ1 (Nat.zero_le _) h0
  refine ⟨f, ρ', μ', ?_, h⟩
  unfold sFor
  rw [hm]
  simp only [Option.bind_some]
  rw [hs]
  rw [List.drop_zero] at e
  exact e
/-- a search that changes nothing that is asked later: t holds where the body hands back r -/
theorem search_ev {m : Si} {t : Tg} {body : Ss} {ρ : Ro} {μ : Mu} {ds : List PyData} {α : Type} (xs : List α) (enc : α → PyData) (hm : m ρ μ = some (⟨ds, none⟩, μ)) (hs : ds = xs.map enc) (p : α → Bool) (r : Rv) (C : Ro → Prop) (h0 : C ρ)
    (step : ∀ x ∈ xs, ∀ ρ, C ρ → ∃ ρ1, t.put (enc x) ρ = some ρ1 ∧ ∃ ρ2, body ρ1 μ = some (if p x then .rt r else .nx, ρ2, μ) ∧ C (cutR μ.length ρ2)) :
    ∃ ρ', sFor m t body ρ μ = some (if xs.any p then .rt r else .nx, ρ', μ) ∧ (xs.any p = false → C ρ') := by
  have key : ∀ (xs : List α) (ρ : Ro), C ρ → (∀ x ∈ xs, ∀ ρ, C ρ → ∃ ρ1, t.put (enc x) ρ = some ρ1 ∧ ∃ ρ2, body ρ1 μ = some (if p x then .rt r else .nx, ρ2, μ) ∧ C (cutR μ.length ρ2)) →
      ∃ ρ', loop t body none μ.length (xs.map enc) ρ μ = some (if xs.any p then .rt r else .nx, ρ', μ) ∧ (xs.any p = false → C ρ') := by
    intro xs
    induction xs with
    | nil => intro ρ h _; exact ⟨ρ, rfl, fun _ => h⟩
    | cons x xs ih =>
      intro ρ h hst
      obtain ⟨ρ1, e1, ρ2, e2, h2⟩ := hst x List.mem_cons_self ρ h
      rw [List.map_cons]
      unfold loop
      rw [e1]
      simp only [Option.bind_some]
      rw [e2]
      simp only [Option.bind_some]
      rw [List.any_cons]
      cases hp : p x with
      | true => exact ⟨ρ2, by simp, fun q => by simp at q⟩
      | false =>
        obtain ⟨ρ', e3, h3⟩ := ih (cutR μ.length ρ2) h2 fun y hy => hst y (List.mem_cons_of_mem _ hy)
        refine ⟨ρ', ?_, by simpa using h3⟩
        simp only [Bool.false_or, Bool.false_eq_true, if_false, take_self, chkB_none, if_true]
        exact e3
  obtain ⟨ρ', e, h⟩ := key xs ρ h0 step
  refine ⟨ρ', ?_, h⟩
  unfold sFor
  rw [hm]
  simp only [Option.bind_some]
  rw [hs]
  exact e
end Sh
namespace Sh
def runStep (acc : List (Int × Int)) (h : Int) : List (Int × Int) := match acc.getLast? with
  | some p => if p.2 = h - 1 then acc.dropLast ++ [(p.1, h)] else acc ++ [(h, h)]
  | none => [(h, h)]
def runsL (hs : List Int) : List (Int × Int) := hs.foldl runStep []
def nums (n : Nat) : List Int := (List.range n).map fun (i : Nat) => (i : Int)
def upto (p : Nat → Bool) (k : Nat) : List Int := (nums k).filter fun h => p h.toNat
theorem runsL_snoc (hs : List Int) (h : Int) : runsL (hs ++ [h]) = runStep (runsL hs) h := by
  unfold runsL
  rw [List.foldl_append]; rfl
theorem upto_succ (p : Nat → Bool) (k : Nat) : upto p (k + 1) = if p k then upto p k ++ [(k : Int)] else upto p k := by
  unfold upto nums
  rw [List.range_succ, List.map_append, List.filter_append]
  simp
  cases c : p k <;> simp [c]
end Sh
set_option linter.all false
namespace Sh
/-! ### choosing those who last the longest -/
theorem take_top {P : Int → Bool} : ∀ (Z : List Int) (m : Nat), Z.Pairwise (fun a b => P b = true → P a = true) → (Z.take m).countP P = min m (Z.countP P)
  | [], m, _ => by simp
  | z :: zs, 0, _ => by simp
  | z :: zs, m + 1, h => by
    obtain ⟨h1, h2⟩ := List.pairwise_cons.mp h
    rw [List.take_succ_cons, List.countP_cons, List.countP_cons, take_top zs m h2]
    cases hz : P z with
    | true => simp
    | false =>
      have : zs.countP P = 0 := by
        rw [List.countP_eq_zero]
        intro a ha hp
        have := h1 a ha hp
        rw [hz] at this
        cases this
      simp [this]
theorem choose_top (X : List Int) (hX : X.Nodup) (U : Nat) (P : Nat → Int → Bool) (anti : ∀ u v x, u ≤ v → P v x = true → P u x = true) (m : Nat) (hm : m ≤ X.length) :
    ∃ Y : List Int, Y.Nodup ∧ (∀ y ∈ Y, y ∈ X) ∧ Y.length = m ∧ ∀ u, u < U → Y.countP (P u) = min m (X.countP (P u)) := by
  let e : Int → Nat := fun x => (List.range U).countP fun u => P u x
  have mono : ∀ u, u < U → ∀ a b, e b ≤ e a → P u b = true → P u a = true := by
    intro u hu a b hab hb
    cases ha : P u a with
    | true => rfl
    | false =>
      exfalso
      have l1 : u + 1 ≤ e b := by
        show u + 1 ≤ (List.range U).countP fun v => P v b
        have : (List.range (u + 1)).countP (fun v => P v b) = u + 1 := by
          have : (List.range (u + 1)).countP (fun v => P v b) = (List.range (u + 1)).length := by
            rw [List.countP_eq_length]
            intro v hv
            exact anti v u b (by have := List.mem_range.mp hv; omega) hb
          rw [this, List.length_range]
        rw [← this]
        exact List.Sublist.countP_le (List.range_sublist.mpr (by omega))
      have l2 : e a ≤ u := by
        show (List.range U).countP (fun v => P v a) ≤ u
        have hs : List.range U = List.range u ++ (List.range (U - u)).map (u + ·) := by
          rw [← List.range_add]
          congr 1
          omega
        rw [hs, List.countP_append]
        have z : ((List.range (U - u)).map (u + ·)).countP (fun v => P v a) = 0 := by
          rw [List.countP_eq_zero]
          intro v hv hp
          obtain ⟨k, _, rfl⟩ := List.mem_map.mp hv
          have := anti u (u + k) a (by omega) hp
          rw [ha] at this
          cases this
        rw [z]
        have := List.countP_le_length (p := fun v => P v a) (l := List.range u)
        rw [List.length_range] at this
        omega
      omega
  let le : Int → Int → Bool := fun a b => decide (e b ≤ e a)
  have tr : ∀ a b c, le a b = true → le b c = true → le a c = true := by
    intro a b c h1 h2
    simp only [le, decide_eq_true_eq] at *
    omega
  have tot : ∀ a b, (le a b || le b a) = true := by
    intro a b
    simp only [le, Bool.or_eq_true, decide_eq_true_eq]
    omega
  have pm := List.mergeSort_perm X le
  have ps := List.pairwise_mergeSort tr tot X
  refine ⟨(X.mergeSort le).take m, ?_, ?_, ?_, ?_⟩
  · exact (pm.nodup_iff.mpr hX).sublist (List.take_sublist _ _)
  · intro y hy
    exact pm.mem_iff.mp (List.mem_of_mem_take hy)
  · rw [List.length_take, pm.length_eq]; omega
  · intro u hu
    rw [take_top _ _ (ps.imp fun {a b} h hb => mono u hu a b (by simpa [le] using h) hb), pm.countP_eq]
end Sh
namespace Sh
theorem cnt_swap {A B : List Int} (hA : A.Nodup) (hB : B.Nodup) (p : Int → Bool) : A.countP (fun x => B.contains x && p x) = B.countP (fun x => A.contains x && p x) := by
  rw [List.countP_eq_length_filter, List.countP_eq_length_filter]
  refine List.Perm.length_eq ((List.perm_ext_iff_of_nodup (hA.sublist List.filter_sublist) (hB.sublist List.filter_sublist)).mpr fun x => ?_)
  rw [List.mem_filter, List.mem_filter]
  simp only [Bool.and_eq_true, List.contains_iff_mem]
  constructor
  · rintro ⟨a, b, c⟩; exact ⟨b, a, c⟩
  · rintro ⟨a, b, c⟩; exact ⟨b, a, c⟩
theorem cnt_le {A B : List Int} (hA : A.Nodup) (hB : B.Nodup) (p : Int → Bool) (h : ∀ x ∈ A, p x = true → x ∈ B) : A.countP p ≤ B.countP p := by
  have e1 : A.countP p = A.countP (fun x => B.contains x && p x) := by
    refine List.countP_congr fun x hx => ?_
    cases hp : p x with
    | true => simp [h x hx hp]
    | false => simp
  rw [e1, cnt_swap hA hB]
  exact List.countP_mono_left fun x _ hx => by simp at hx; exact hx.2
theorem cnt_split (A : List Int) (p q : Int → Bool) : A.countP p = A.countP (fun x => q x && p x) + A.countP (fun x => !q x && p x) := by
  induction A with
  | nil => rfl
  | cons a A ih =>
    rw [List.countP_cons, List.countP_cons, List.countP_cons, ih]
    cases p a <;> cases q a <;> simp <;> omega
/-- shaded all of s .. u -/
def al (S : Nat → List Int) (s u : Nat) (x : Int) : Bool := decide (∀ v, v < u + 1 → s ≤ v → x ∈ S v)
theorem al_iff {S : Nat → List Int} {s u : Nat} {x : Int} : al S s u x = true ↔ ∀ v, s ≤ v → v ≤ u → x ∈ S v := by
  unfold al
  rw [decide_eq_true_eq]
  exact ⟨fun h v h1 h2 => h v (by omega) h1, fun h v h1 h2 => h v h2 (by omega)⟩
def cc (S : Nat → List Int) (s u : Nat) : Nat := (S s).countP (al S s u)
/-- the hours of a lot, falling: what it shows beyond n -/
def wt (S : Nat → List Int) (n : Nat) : List Nat → Int
  | u :: v :: r => ((n : Int) - (cc S v u : Int)) + wt S n (v :: r)
  | _ => 0
inductive Sit (S : Nat → List Int) (n : Nat) : Nat → List (List Int) → Int → Prop
  | one {R : List Int} : R.Nodup → (∀ x ∈ R, x ∈ S 0) → R.length = n → Sit S n 0 [R] 0
  | step {t : Nat} {R R' : List Int} {rs : List (List Int)} {g : Int} : Sit S n t (R :: rs) g → R'.Nodup → (∀ x ∈ R', x ∈ S (t + 1)) → R'.length = n → Sit S n (t + 1) (R' :: R :: rs) (g + (R'.countP (fun x => !R.contains x) : Int))
theorem Sit.top {S : Nat → List Int} {n t : Nat} {R : List Int} {rs : List (List Int)} {g : Int} (h : Sit S n t (R :: rs) g) : R.Nodup ∧ (∀ x ∈ R, x ∈ S t) ∧ R.length = n ∧ 0 ≤ g := by
  generalize e : R :: rs = L at h
  induction h generalizing R rs with
  | one h1 h2 h3 => cases e; exact ⟨h1, h2, h3, by omega⟩
  | step h h1 h2 h3 ih =>
    cases e
    obtain ⟨_, _, _, h4⟩ := ih rfl
    exact ⟨h1, h2, h3, by omega⟩
theorem out_in {A B : List Int} (hA : A.Nodup) (hB : B.Nodup) (h : A.length = B.length) : A.countP (fun x => !B.contains x) = B.countP (fun x => !A.contains x) := by
  have e1 := cnt_split A (fun _ => true) (fun x => B.contains x)
  have e2 := cnt_split B (fun _ => true) (fun x => A.contains x)
  have e3 := cnt_swap hA hB (fun _ => true)
  have l1 : A.countP (fun _ => true) = A.length := List.countP_eq_length.mpr fun _ _ => rfl
  have l2 : B.countP (fun _ => true) = B.length := List.countP_eq_length.mpr fun _ _ => rfl
  simp only [Bool.and_true] at e1 e2 e3
  omega
/-- no lot shows more than a seating has sittings -/
theorem weak {S : Nat → List Int} (hS : ∀ t, (S t).Nodup) {n t : Nat} {R : List Int} {rs : List (List Int)} {g : Int} (h : Sit S n t (R :: rs) g) :
    ∀ (v : Nat) (L : List Nat), (v :: L).Pairwise (· > ·) → v ≤ t → (n : Int) - (R.countP (al S v t) : Int) + wt S n (v :: L) ≤ g := by
  generalize e : R :: rs = Rs at h
  induction h generalizing R rs with
  | @one R h1 h2 h3 =>
    cases e
    intro v L hp hv
    have : v = 0 := by omega
    subst this
    cases L with
    | cons a L =>
      have := (List.pairwise_cons.mp hp).1 a List.mem_cons_self
      omega
    | nil =>
      have : R.countP (al S 0 0) = R.length := List.countP_eq_length.mpr fun x hx => al_iff.mpr fun w w1 w2 => by
        have : w = 0 := by omega
        subst this; exact h2 x hx
      rw [this, h3]
      simp [wt]
  | @step t R0 R rs0 g0 h h1 h2 h3 ih =>
    cases e
    obtain ⟨r1, r2, r3, r4⟩ := h.top
    have key : ∀ (v : Nat) (L : List Nat), (v :: L).Pairwise (· > ·) → v ≤ t → (n : Int) - (R.countP (al S v (t + 1)) : Int) + wt S n (v :: L) ≤ g0 + (R.countP (fun x => !R0.contains x) : Int) := by
      intro v L hp hv
      have i1 := ih rfl v L hp hv
      have s1 := cnt_split R0 (al S v t) (fun x => R.contains x)
      have s2 := cnt_swap r1 h1 (al S v t)
      have s3 : R.countP (fun x => R0.contains x && al S v t x) ≤ R.countP (al S v (t + 1)) := by
        refine List.countP_mono_left fun x hx hq => ?_
        simp only [Bool.and_eq_true] at hq
        refine al_iff.mpr fun w w1 w2 => ?_
        by_cases hw : w ≤ t
        · exact al_iff.mp hq.2 w w1 hw
        · have : w = t + 1 := by omega
          subst this; exact h2 x hx
      have s4 : R0.countP (fun x => !R.contains x && al S v t x) ≤ R0.countP (fun x => !R.contains x) := List.countP_mono_left fun x hx hq => by
        simp only [Bool.and_eq_true] at hq
        exact hq.1
      have s5 := out_in r1 h1 (r3.trans h3.symm)
      omega
    intro v L hp hv
    by_cases hvt : v ≤ t
    · exact key v L hp hvt
    · have : v = t + 1 := by omega
      subst this
      have full : R.countP (al S (t + 1) (t + 1)) = n := by
        rw [← h3]
        refine List.countP_eq_length.mpr fun x hx => al_iff.mpr fun w w1 w2 => ?_
        have : w = t + 1 := by omega
        subst this; exact h2 x hx
      cases L with
      | nil => rw [full]; simp only [wt]; omega
      | cons a L =>
        obtain ⟨p1, p2⟩ := List.pairwise_cons.mp hp
        have ha := p1 a List.mem_cons_self
        have k := key a L p2 (by omega)
        have s6 : R.countP (al S a (t + 1)) ≤ cc S a (t + 1) := cnt_le h1 (hS a) _ fun x hx hq => al_iff.mp hq a (by omega) (by omega)
        rw [full]
        show (n : Int) - n + (((n : Int) - (cc S a (t + 1) : Int)) + wt S n (a :: L)) ≤ _
        omega
end Sh
namespace Sh
theorem al_anti {S : Nat → List Int} {s u v : Nat} {x : Int} (h : u ≤ v) (q : al S s v x = true) : al S s u x = true :=
  al_iff.mpr fun w w1 w2 => al_iff.mp q w w1 (by omega)
/-- a seating that wants no more sittings than a lot shows -/
theorem strong {S : Nat → List Int} (hS : ∀ t, (S t).Nodup) {n T : Nat} (hn : ∀ t, t < T → n ≤ (S t).length) : ∀ t, t < T → ∃ (R : List Int) (rs : List (List Int)) (g : Int), Sit S n t (R :: rs) g ∧
    (∃ L0 : List Nat, (t :: L0).Pairwise (· > ·) ∧ wt S n (t :: L0) = g) ∧
    ∀ u, t < u → u < T → ∃ L : List Nat, (u :: L).Pairwise (· > ·) ∧ (∀ x ∈ L, x ≤ t) ∧ wt S n (u :: L) = (n : Int) - (R.countP (al S t u) : Int) + g := by
  intro t
  induction t with
  | zero =>
    intro h0
    obtain ⟨R, r1, r2, r3, r4⟩ := choose_top (S 0) (hS 0) T (fun u => al S 0 u) (fun u v x h q => al_anti h q) n (hn 0 h0)
    refine ⟨R, [], 0, .one r1 r2 r3, ⟨[], by simp, rfl⟩, fun u u1 u2 => ?_⟩
    have e := r4 u u2
    have e : R.countP (al S 0 u) = min n (cc S 0 u) := e
    by_cases c : n ≤ cc S 0 u
    · refine ⟨[], by simp, by simp, ?_⟩
      rw [e, Nat.min_eq_left c]
      simp only [wt]; omega
    · refine ⟨[0], by simp; omega, by simp, ?_⟩
      rw [e, Nat.min_eq_right (by omega)]
      simp only [wt]
  | succ t ih =>
    intro ht
    obtain ⟨R, rs, g, hs, _, hc⟩ := ih (by omega)
    obtain ⟨r1, r2, r3, r4⟩ := hs.top
    generalize hkept : R.filter (fun x => (S (t + 1)).contains x) = kept
    generalize hcand : (S (t + 1)).filter (fun x => !R.contains x) = cand
    have nk : kept.Nodup := hkept ▸ r1.sublist List.filter_sublist
    have nc : cand.Nodup := hcand ▸ (hS (t + 1)).sublist List.filter_sublist
    have mk : ∀ x, x ∈ kept ↔ x ∈ R ∧ x ∈ S (t + 1) := fun x => by rw [← hkept, List.mem_filter]; simp
    have mc : ∀ x, x ∈ cand ↔ x ∈ S (t + 1) ∧ x ∉ R := fun x => by rw [← hcand, List.mem_filter]; simp
    have lk : kept.length = R.countP (fun x => (S (t + 1)).contains x) := by rw [← hkept, List.countP_eq_length_filter]
    have lc : cand.length = (S (t + 1)).countP (fun x => !R.contains x) := by rw [← hcand, List.countP_eq_length_filter]
    have hkn : kept.length ≤ n := by rw [lk, ← r3]; exact List.countP_le_length
    have hm : n - kept.length ≤ cand.length := by
      have e1 := cnt_split (S (t + 1)) (fun _ => true) (fun x => R.contains x)
      have e2 := cnt_swap r1 (hS (t + 1)) (fun _ => true)
      have e3 : (S (t + 1)).countP (fun _ => true) = (S (t + 1)).length := List.countP_eq_length.mpr fun _ _ => rfl
      simp only [Bool.and_true] at e1 e2 e3
      have := hn (t + 1) ht
      omega
    obtain ⟨Y, y1, y2, y3, y4⟩ := choose_top cand nc T (fun u => al S (t + 1) u) (fun u v x h q => al_anti h q) (n - kept.length) hm
    have nd : (kept ++ Y).Nodup := List.nodup_append.mpr ⟨nk, y1, fun a ha b hb hab => by
      subst hab
      exact ((mc a).mp (y2 a hb)).2 ((mk a).mp ha).1⟩
    have sub : ∀ x ∈ kept ++ Y, x ∈ S (t + 1) := fun x hx => by
      rcases List.mem_append.mp hx with h | h
      · exact ((mk x).mp h).2
      · exact ((mc x).mp (y2 x h)).1
    have len : (kept ++ Y).length = n := by rw [List.length_append, y3]; omega
    have new : (kept ++ Y).countP (fun x => !R.contains x) = n - kept.length := by
      rw [List.countP_append]
      have a1 : kept.countP (fun x => !R.contains x) = 0 := List.countP_eq_zero.mpr fun x hx => by simp [((mk x).mp hx).1]
      have a2 : Y.countP (fun x => !R.contains x) = Y.length := List.countP_eq_length.mpr fun x hx => by simp [((mc x).mp (y2 x hx)).2]
      omega
    have k1 : R.countP (al S t (t + 1)) = kept.length := by
      rw [lk]
      refine List.countP_congr fun x hx => ?_
      rw [al_iff]
      simp only [List.contains_iff_mem]
      constructor
      · intro h; exact h (t + 1) (by omega) (by omega)
      · intro h w w1 w2
        by_cases hw : w = t
        · subst hw; exact r2 x hx
        · have : w = t + 1 := by omega
          subst this; exact h
    obtain ⟨L1, m1, m2, m3⟩ := hc (t + 1) (by omega) ht
    refine ⟨kept ++ Y, R :: rs, _, .step hs nd sub len, ⟨L1, m1, by rw [m3, k1, new]; omega⟩, fun u u1 u2 => ?_⟩
    have k2 : kept.countP (al S (t + 1) u) = R.countP (al S t u) := by
      rw [← hkept, List.countP_filter]
      refine List.countP_congr fun x hx => ?_
      simp only [Bool.and_eq_true, List.contains_iff_mem, al_iff]
      constructor
      · rintro ⟨h1, h2⟩ w w1 w2
        by_cases hw : w = t
        · subst hw; exact r2 x hx
        · exact h1 w (by omega) w2
      · intro h
        exact ⟨fun w w1 w2 => h w (by omega) w2, h (t + 1) (by omega) (by omega)⟩
    have k3 : cand.countP (al S (t + 1) u) + R.countP (al S t u) = cc S (t + 1) u := by
      have e1 := cnt_split (S (t + 1)) (al S (t + 1) u) (fun x => R.contains x)
      have e2 := cnt_swap (hS (t + 1)) r1 (al S (t + 1) u)
      have e3 : R.countP (fun x => (S (t + 1)).contains x && al S (t + 1) u x) = kept.countP (al S (t + 1) u) := by
        rw [← hkept, List.countP_filter]
        exact List.countP_congr fun x _ => by simp [Bool.and_comm]
      have e4 : (S (t + 1)).countP (fun x => !R.contains x && al S (t + 1) u x) = cand.countP (al S (t + 1) u) := by
        rw [← hcand, List.countP_filter]
        exact List.countP_congr fun x _ => by simp [Bool.and_comm]
      unfold cc
      omega
    have k4 := y4 u u2
    obtain ⟨L, l1, l2, l3⟩ := hc u (by omega) u2
    rw [new, List.countP_append, k2]
    have k4 : Y.countP (al S (t + 1) u) = min (n - kept.length) (cand.countP (al S (t + 1) u)) := k4
    by_cases c : n - kept.length ≤ cand.countP (al S (t + 1) u)
    · refine ⟨L, l1, fun x hx => by have := l2 x hx; omega, ?_⟩
      rw [l3, k4, Nat.min_eq_left c]
      omega
    · refine ⟨(t + 1) :: L1, List.pairwise_cons.mpr ⟨fun a ha => ?_, m1⟩, fun x hx => ?_, ?_⟩
      · rcases List.mem_cons.mp ha with rfl | ha
        · exact u1
        · have := m2 a ha; omega
      · rcases List.mem_cons.mp hx with rfl | hx
        · exact Nat.le_refl _
        · have := m2 x hx; omega
      · show ((n : Int) - (cc S (t + 1) u : Int)) + wt S n ((t + 1) :: L1) = _
        rw [m3, k1, k4, Nat.min_eq_right (by omega)]
        omega
end Sh
namespace Sh
/-- the fewest sittings are what some lot shows -/
theorem duality {S : Nat → List Int} (hS : ∀ t, (S t).Nodup) {n T : Nat} (hT : 1 ≤ T) (hn : ∀ t, t < T → n ≤ (S t).length) :
    ∃ (R : List Int) (rs : List (List Int)) (g : Int) (L : List Nat), Sit S n (T - 1) (R :: rs) g ∧ L ≠ [] ∧ L.Pairwise (· > ·) ∧ (∀ x ∈ L, x < T) ∧ wt S n L = g ∧
    ∀ (R' : List Int) (rs' : List (List Int)) (g' : Int), Sit S n (T - 1) (R' :: rs') g' → g ≤ g' := by
  obtain ⟨R, rs, g, h1, ⟨L0, h2, h3⟩, _⟩ := strong hS hn (T - 1) (by omega)
  refine ⟨R, rs, g, (T - 1) :: L0, h1, by simp, h2, fun x hx => ?_, h3, fun R' rs' g' h' => ?_⟩
  · rcases List.mem_cons.mp hx with rfl | hx
    · omega
    · have := (List.pairwise_cons.mp h2).1 x hx; omega
  · have w := weak hS h' (T - 1) L0 h2 (Nat.le_refl _)
    obtain ⟨r1, r2, r3, r4⟩ := h'.top
    have full : R'.countP (al S (T - 1) (T - 1)) = n := by
      rw [← r3]
      refine List.countP_eq_length.mpr fun x hx => al_iff.mpr fun w w1 w2 => ?_
      have : w = T - 1 := by omega
      subst this; exact r2 x hx
    rw [full, h3] at w
    omega
/-- each lot shows at most what each seating wants -/
theorem weak_lot {S : Nat → List Int} (hS : ∀ t, (S t).Nodup) {n T : Nat} (hT : 1 ≤ T) {R : List Int} {rs : List (List Int)} {g : Int} (h : Sit S n (T - 1) (R :: rs) g) (L : List Nat) (hp : L.Pairwise (· > ·)) (hl : ∀ x ∈ L, x < T) : wt S n L ≤ g := by
  cases L with
  | nil =>
    have := h.top.2.2.2
    simpa [wt] using this
  | cons v L =>
    have w := weak hS h v L hp (by have := hl v List.mem_cons_self; omega)
    have := List.countP_le_length (p := al S v (T - 1)) (l := R)
    have := h.top.2.2.1
    omega
end Sh
namespace Sh
/-! ### how many runs hold two hours -/
structure RInv (p : Nat → Bool) (T : Nat) (rs : List (Int × Int)) : Prop where
  ends : ∀ r ∈ rs, r.2 < (T : Int)
  last : ∀ r, rs.getLast? = some r → 0 ≤ r.1 ∧ r.1 ≤ r.2 ∧ (∀ h : Nat, r.1 ≤ (h : Int) → (h : Int) ≤ r.2 → p h = true) ∧ (∀ h : Nat, (h : Int) = r.1 - 1 → p h = false)
  open_ : ∀ k : Nat, k + 1 = T → p k = true → ∃ r, rs.getLast? = some r ∧ r.2 = (k : Int)
  cnt : ∀ l m : Nat, l ≤ m → m < T → rs.countP (fun r => decide (r.1 ≤ (l : Int)) && decide ((m : Int) ≤ r.2)) = if (∀ h, h < m + 1 → l ≤ h → p h = true) then 1 else 0
theorem rinv (p : Nat → Bool) : ∀ T : Nat, RInv p T (runsL (upto p T))
  | 0 => ⟨fun r h => by simp [upto, nums, runsL] at h, fun r h => by simp [upto, nums, runsL] at h, fun k h => by omega, fun l m h1 h2 => by omega⟩
  | T + 1 => by
    have ih := rinv p T
    rw [upto_succ]
    cases hp : p T with
    | false =>
      rw [if_neg Bool.false_ne_true]
      generalize runsL (upto p T) = rs at ih
      refine ⟨fun r h => by have := ih.ends r h; omega, ih.last, fun k hk h => ?_, fun l m h1 h2 => ?_⟩
      · have : k = T := by omega
        subst this
        rw [hp] at h; cases h
      · by_cases c : m < T
        · exact ih.cnt l m h1 c
        · have : m = T := by omega
          subst this
          rw [if_neg (fun q => by have := q m (by omega) h1; rw [hp] at this; cases this)]
          rw [List.countP_eq_zero]
          intro r hr hq
          have := ih.ends r hr
          simp at hq
          omega
    | true =>
      rw [if_pos rfl, runsL_snoc]
      generalize runsL (upto p T) = rs at ih
      have close : (∀ r, rs.getLast? = some r → r.2 ≠ (T : Int) - 1) → RInv p (T + 1) (rs ++ [((T : Int), (T : Int))]) := by
        intro hc
        have before : ∀ h : Nat, (h : Int) = (T : Int) - 1 → p h = false := by
          intro h hh
          cases hq : p h with
          | false => rfl
          | true =>
            obtain ⟨r, e1, e2⟩ := ih.open_ h (by omega) hq
            exact absurd (by omega) (hc r e1)
        refine ⟨fun r h => ?_, fun r h => ?_, fun k hk h => ⟨((T : Int), (T : Int)), by simp, by show (T : Int) = (k : Int); omega⟩, fun l m h1 h2 => ?_⟩
        · rcases List.mem_append.mp h with h | h
          · have := ih.ends r h; omega
          · rw [List.mem_singleton.mp h]; show (T : Int) < _; omega
        · simp at h
          subst h
          refine ⟨by omega, by omega, fun h h1 h2 => ?_, before⟩
          have : h = T := by omega
          subst this; exact hp
        · rw [List.countP_append]
          by_cases c : m < T
          · rw [ih.cnt l m h1 c]
            have : [((T : Int), (T : Int))].countP (fun r => decide (r.1 ≤ (l : Int)) && decide ((m : Int) ≤ r.2)) = 0 := by
              rw [List.countP_eq_zero]
              intro r hr hq
              rw [List.mem_singleton.mp hr] at hq
              simp at hq
              omega
            rw [this]; rfl
          · have : m = T := by omega
            subst this
            have z : rs.countP (fun r => decide (r.1 ≤ (l : Int)) && decide ((m : Int) ≤ r.2)) = 0 := by
              rw [List.countP_eq_zero]
              intro r hr hq
              have := ih.ends r hr
              simp at hq
              omega
            rw [z]
            by_cases d : l = m
            · subst d
              rw [if_pos (fun h a b => by have : h = l := by omega
                                          subst this; exact hp)]
              simp
            · rw [if_neg (fun q => by
                have := q (m - 1) (by omega) (by omega)
                rw [before (m - 1) (by omega)] at this
                cases this)]
              simp
              omega
      rcases List.eq_nil_or_concat rs with rfl | ⟨init, ⟨b, e⟩, rfl⟩
      · exact close fun r h => by simp at h
      · by_cases he : e = (T : Int) - 1
        · have es : runStep (init ++ [(b, e)]) T = init ++ [(b, (T : Int))] := by
            unfold runStep
            simp [he]
          have es : runStep (init.concat (b, e)) T = init ++ [(b, (T : Int))] := by rw [List.concat_eq_append]; exact es
          rw [es]
          rw [List.concat_eq_append] at ih
          obtain ⟨b0, b1, b2, b3⟩ := ih.last (b, e) (by simp)
          refine ⟨fun r h => ?_, fun r h => ?_, fun k hk h => ⟨(b, (T : Int)), by simp, by show (T : Int) = (k : Int); omega⟩, fun l m h1 h2 => ?_⟩
          · rcases List.mem_append.mp h with h | h
            · have := ih.ends r (List.mem_append_left _ h); omega
            · rw [List.mem_singleton.mp h]; show (T : Int) < _; omega
          · simp at h
            subst h
            refine ⟨b0, by show b ≤ (T : Int); have : b ≤ e := b1; omega, fun h h1 h2 => ?_, b3⟩
            by_cases c : (h : Int) ≤ e
            · exact b2 h h1 c
            · have : h = T := by have : (h : Int) ≤ (T : Int) := h2; omega
              subst this; exact hp
          · by_cases c : m < T
            · rw [← ih.cnt l m h1 c, List.countP_append, List.countP_append]
              congr 1
              have hd : decide ((m : Int) ≤ (T : Int)) = decide ((m : Int) ≤ e) := by rw [decide_eq_decide]; omega
              rw [List.countP_cons, List.countP_cons]
              simp only [hd]
            · have : m = T := by omega
              subst this
              rw [List.countP_append]
              have z : init.countP (fun r => decide (r.1 ≤ (l : Int)) && decide ((m : Int) ≤ r.2)) = 0 := by
                rw [List.countP_eq_zero]
                intro r hr hq
                have := ih.ends r (List.mem_append_left _ hr)
                simp at hq
                omega
              rw [z]
              by_cases d : b ≤ (l : Int)
              · rw [if_pos (fun h h1 h2 => by
                  by_cases c : (h : Int) ≤ e
                  · exact b2 h (by show b ≤ (h : Int); omega) c
                  · have : h = m := by omega
                    subst this; exact hp)]
                simp [d]
              · obtain ⟨k, rfl⟩ := Int.eq_ofNat_of_zero_le b0
                rw [if_neg (fun q => by
                  have b1 : (k : Int) ≤ e := b1
                  have := q (k - 1) (by omega) (by omega)
                  rw [b3 (k - 1) (by show ((k - 1 : Nat) : Int) = (k : Int) - 1; omega)] at this
                  cases this)]
                simp
                omega
        · have es : runStep (init.concat (b, e)) T = init.concat (b, e) ++ [((T : Int), (T : Int))] := by
            unfold runStep
            simp [he]
          rw [es]
          exact close fun r h => by
            simp at h
            subst h
            exact he
end Sh
namespace Sh
/-! ### what a lot shows, by neighbouring hours -/
def prs (q : Nat → Nat → Bool) : List Nat → Nat
  | l :: m :: r => (if q l m then 1 else 0) + prs q (m :: r)
  | _ => 0
def inR (r : Int × Int) (h : Nat) : Bool := decide (r.1 ≤ (h : Int)) && decide ((h : Int) ≤ r.2)
theorem run_prs (r : Int × Int) : ∀ L : List Nat, L.Pairwise (· < ·) → L.countP (inR r) - 1 = prs (fun l m => decide (r.1 ≤ (l : Int)) && decide ((m : Int) ≤ r.2)) L
  | [], _ => rfl
  | [l], _ => by
    rw [List.countP_cons]
    simp only [prs, List.countP_nil]
    split <;> omega
  | l :: m :: t, hp => by
    obtain ⟨h1, h2⟩ := List.pairwise_cons.mp hp
    have ih := run_prs r (m :: t) h2
    have hlm := h1 m List.mem_cons_self
    rw [List.countP_cons]
    show _ = (if (decide (r.1 ≤ (l : Int)) && decide ((m : Int) ≤ r.2)) = true then 1 else 0) + prs _ (m :: t)
    rw [← ih]
    by_cases c1 : r.1 ≤ (l : Int)
    · by_cases c2 : (m : Int) ≤ r.2
      · have a1 : inR r l = true := by simp [inR, c1]; omega
        have a2 : inR r m = true := by simp [inR, c2]; omega
        have a3 : 1 ≤ (m :: t).countP (inR r) := by rw [List.countP_cons, if_pos a2]; omega
        rw [if_pos a1]
        simp [c1, c2]
        omega
      · have z : (m :: t).countP (inR r) = 0 := by
          rw [List.countP_eq_zero]
          intro a ha hq
          have : m ≤ a := by
            rcases List.mem_cons.mp ha with rfl | ha
            · exact Nat.le_refl _
            · exact Nat.le_of_lt ((List.pairwise_cons.mp h2).1 a ha)
          simp [inR] at hq
          omega
        rw [z]
        simp [c2]
        split <;> omega
    · have a1 : inR r l = false := by simp [inR]; omega
      simp [a1, c1]
def prN (f : Nat → Nat → Nat) : List Nat → Nat
  | l :: m :: r => f l m + prN f (m :: r)
  | _ => 0
theorem prs_prN (q : Nat → Nat → Bool) : ∀ L : List Nat, prs q L = prN (fun l m => if q l m then 1 else 0) L
  | [] => rfl
  | [l] => rfl
  | l :: m :: t => by
    show _ + prs q (m :: t) = _ + prN _ (m :: t)
    rw [prs_prN q (m :: t)]
theorem prN_add (f g : Nat → Nat → Nat) : ∀ L : List Nat, prN (fun l m => f l m + g l m) L = prN f L + prN g L
  | [] => rfl
  | [l] => rfl
  | l :: m :: t => by
    show (f l m + g l m) + prN _ (m :: t) = (f l m + prN f (m :: t)) + (g l m + prN g (m :: t))
    rw [prN_add f g (m :: t)]; omega
theorem prN_zero : ∀ L : List Nat, prN (fun _ _ => 0) L = 0
  | [] => rfl
  | [l] => rfl
  | l :: m :: t => by
    show 0 + prN _ (m :: t) = 0
    rw [prN_zero (m :: t)]
theorem prN_congr {f g : Nat → Nat → Nat} {T : Nat} (h : ∀ l m, l < m → m < T → f l m = g l m) : ∀ L : List Nat, L.Pairwise (· < ·) → (∀ x ∈ L, x < T) → prN f L = prN g L
  | [], _, _ => rfl
  | [l], _, _ => rfl
  | l :: m :: t, hp, hl => by
    obtain ⟨h1, h2⟩ := List.pairwise_cons.mp hp
    show f l m + prN f (m :: t) = g l m + prN g (m :: t)
    rw [h l m (h1 m List.mem_cons_self) (hl m (by simp)), prN_congr h (m :: t) h2 fun x hx => hl x (List.mem_cons_of_mem _ hx)]
theorem sum_prs {α : Type} (q : α → Nat → Nat → Bool) (L : List Nat) : ∀ rs : List α, (rs.map fun r => prs (q r) L).sum = prN (fun l m => rs.countP fun r => q r l m) L
  | [] => by simp [prN_zero]
  | r :: rs => by
    rw [List.map_cons, List.sum_cons, sum_prs q L rs, prs_prN, ← prN_add]
    congr 1
    funext l m
    rw [List.countP_cons]
    omega
/-- the runs of one seat, all hours of the lot before T -/
theorem runs_prs (p : Nat → Bool) (T : Nat) (L : List Nat) (hp : L.Pairwise (· < ·)) (hl : ∀ x ∈ L, x < T) :
    ((runsL (upto p T)).map fun r => L.countP (inR r) - 1).sum = prs (fun l m => decide (∀ h, h < m + 1 → l ≤ h → p h = true)) L := by
  have e : ((runsL (upto p T)).map fun r => L.countP (inR r) - 1) = (runsL (upto p T)).map fun r => prs (fun l m => decide (r.1 ≤ (l : Int)) && decide ((m : Int) ≤ r.2)) L :=
    List.map_congr_left fun r _ => run_prs r L hp
  rw [e, sum_prs (α := Int × Int) (fun (r : Int × Int) (l m : Nat) => decide (r.1 ≤ (l : Int)) && decide ((m : Int) ≤ r.2)) L, prs_prN]
  refine prN_congr (T := T) (fun l m h1 h2 => ?_) L hp hl
  rw [(rinv p T).cnt l m (by omega) h2]
  simp
end Sh
namespace Sh
theorem cc_cnt {Ss : List Int} {f : Int → Nat → Bool} {l m : Nat} (h : l ≤ m) : cc (fun t => Ss.filter fun s => f s t) l m = Ss.countP fun s => decide (∀ h, h < m + 1 → l ≤ h → f s h = true) := by
  unfold cc
  rw [List.countP_filter]
  refine List.countP_congr fun s hs => ?_
  rw [Bool.and_eq_true, al_iff, decide_eq_true_eq]
  constructor
  · rintro ⟨h1, _⟩ v v1 v2
    exact (List.mem_filter.mp (h1 v v2 (by omega))).2
  · intro h1
    exact ⟨fun v v1 v2 => List.mem_filter.mpr ⟨hs, h1 v (by omega) v1⟩, h1 l (by omega) (Nat.le_refl _)⟩
theorem wt_snoc {S : Nat → List Int} {n : Nat} (m l : Nat) : ∀ A : List Nat, wt S n (A ++ [m, l]) = wt S n (A ++ [m]) + ((n : Int) - (cc S l m : Int))
  | [] => by simp [wt]
  | [a] => by simp [wt]
  | a :: b :: r => by
    have ih := wt_snoc (S := S) (n := n) m l (b :: r)
    show ((n : Int) - (cc S b a : Int)) + wt S n ((b :: r) ++ [m, l]) = (((n : Int) - (cc S b a : Int)) + wt S n ((b :: r) ++ [m])) + _
    rw [ih]; omega
theorem wt_rev {S : Nat → List Int} {n : Nat} : ∀ (L : List Nat), L ≠ [] → wt S n L.reverse + (prN (cc S) L : Int) + (n : Int) = (n : Int) * (L.length : Int)
  | [], h => absurd rfl h
  | [l], _ => by simp [wt, prN]
  | l :: m :: t, _ => by
    have ih := wt_rev (S := S) (n := n) (m :: t) (by simp)
    rw [List.reverse_cons, List.reverse_cons, List.append_assoc]
    show wt S n (t.reverse ++ [m, l]) + ((cc S l m + prN (cc S) (m :: t) : Nat) : Int) + (n : Int) = (n : Int) * ((m :: t).length + 1 : Nat)
    rw [wt_snoc]
    rw [List.reverse_cons] at ih
    rw [Int.natCast_add, Int.natCast_add, Int.mul_add]
    omega
/-- what a lot shows: by all seats' runs, and by its neighbouring hours -/
theorem shows_wt (Ss : List Int) (f : Int → Nat → Bool) (n T : Nat) (L : List Nat) (h0 : L ≠ []) (hp : L.Pairwise (· < ·)) (hl : ∀ x ∈ L, x < T) :
    (n : Int) * (L.length : Int) - (((Ss.map fun s => ((runsL (upto (f s) T)).map fun r => L.countP (inR r) - 1).sum).sum : Nat) : Int) = (n : Int) + wt (fun t => Ss.filter fun s => f s t) n L.reverse := by
  have e : (Ss.map fun s => ((runsL (upto (f s) T)).map fun r => L.countP (inR r) - 1).sum) = Ss.map fun s => prs (fun l m => decide (∀ h, h < m + 1 → l ≤ h → f s h = true)) L :=
    List.map_congr_left fun s _ => runs_prs (f s) T L hp hl
  rw [e, sum_prs (α := Int) (fun (s : Int) (l m : Nat) => decide (∀ h, h < m + 1 → l ≤ h → f s h = true)) L]
  have e2 : prN (fun l m => Ss.countP fun s => decide (∀ h, h < m + 1 → l ≤ h → f s h = true)) L = prN (cc fun t => Ss.filter fun s => f s t) L :=
    prN_congr (T := T) (fun l m h1 h2 => (cc_cnt (by omega)).symm) L hp hl
  rw [e2]
  have := wt_rev (S := fun t => Ss.filter fun s => f s t) (n := n) L h0
  omega
end Sh
namespace Sh
/-! ### lots of so many -/
def lotsStep (n : Nat) (found : List (List Int)) (x : Int) : List (List Int) := found ++ ((found.filter fun l => decide (l.length < n)).map fun l => l ++ [x])
def lotsAll (n : Nat) (xs : List Int) : List (List Int) := xs.foldl (lotsStep n) [[]]
def lotsL (n : Nat) (xs : List Int) : List (List Int) := (lotsAll n xs).filter fun l => decide (l.length = n)
theorem lotsAll_mem (n : Nat) : ∀ (xs : List Int) (acc : List (List Int)) (l : List Int), l ∈ xs.foldl (lotsStep n) acc ↔ ∃ a s, a ∈ acc ∧ s.Sublist xs ∧ l = a ++ s ∧ (s = [] ∨ l.length ≤ n)
  | [], acc, l => by
    constructor
    · intro h; exact ⟨l, [], h, List.Sublist.refl _, by simp, .inl rfl⟩
    · rintro ⟨a, s, h1, h2, h3, _⟩
      have := List.sublist_nil.mp h2
      subst this
      simpa [h3] using h1
  | x :: xs, acc, l => by
    rw [List.foldl_cons, lotsAll_mem n xs]
    constructor
    · rintro ⟨a, s, h1, h2, h3, h4⟩
      rcases List.mem_append.mp h1 with h | h
      · exact ⟨a, s, h, h2.cons x, h3, h4⟩
      · obtain ⟨b, hb, rfl⟩ := List.mem_map.mp h
        obtain ⟨hb1, hb2⟩ := List.mem_filter.mp hb
        have hb2 : b.length < n := of_decide_eq_true hb2
        refine ⟨b, x :: s, hb1, h2.cons_cons x, by rw [h3]; simp, .inr ?_⟩
        rcases h4 with rfl | h4
        · rw [h3]; simp; omega
        · exact h4
    · rintro ⟨a, s, h1, h2, h3, h4⟩
      cases h2 with
      | cons _ h2 => exact ⟨a, s, List.mem_append_left _ h1, h2, h3, h4⟩
      | cons_cons _ h2 =>
        rename_i s
        have hl : l.length ≤ n := h4.resolve_left (by simp)
        refine ⟨a ++ [x], s, List.mem_append_right _ (List.mem_map.mpr ⟨a, List.mem_filter.mpr ⟨h1, ?_⟩, rfl⟩), h2, by rw [h3]; simp, .inr hl⟩
        rw [h3] at hl
        simp at hl
        simp
        omega
theorem lots_mem {n : Nat} {xs l : List Int} : l ∈ lotsL n xs ↔ l.Sublist xs ∧ l.length = n := by
  unfold lotsL lotsAll
  rw [List.mem_filter, lotsAll_mem, decide_eq_true_eq]
  constructor
  · rintro ⟨⟨a, s, h1, h2, h3, _⟩, hl⟩
    simp at h1
    subst h1
    exact ⟨by simpa [h3] using h2, hl⟩
  · rintro ⟨h1, h2⟩
    exact ⟨⟨[], l, by simp, h1, by simp, .inr (by omega)⟩, h2⟩
end Sh
namespace Sh
/-! ### the table -/
def gone (a b : List Int) : Nat := b.countP fun x => !a.contains x
def IsB (S : Nat → List Int) (n : Nat) : Nat → List Int → Int → Prop
  | 0, _, v => v = (n : Int)
  | t + 1, b, v => (∃ a va, a ∈ lotsL n (S t) ∧ IsB S n t a va ∧ v = va + (gone a b : Int)) ∧ ∀ a va, a ∈ lotsL n (S t) → IsB S n t a va → v ≤ va + (gone a b : Int)
theorem IsB.uniq {S : Nat → List Int} {n : Nat} : ∀ {t : Nat} {b : List Int} {v w : Int}, IsB S n t b v → IsB S n t b w → v = w
  | 0, _, _, _, h1, h2 => h1.trans h2.symm
  | t + 1, _, _, _, ⟨⟨a, va, a1, a2, a3⟩, h1⟩, ⟨⟨c, vc, c1, c2, c3⟩, h2⟩ => by
    have := h1 c vc c1 c2
    have := h2 a va a1 a2
    omega
theorem least_of {α : Type} (f : α → Int) : ∀ (xs : List α), xs ≠ [] → ∃ x ∈ xs, ∀ y ∈ xs, f x ≤ f y
  | [], h => absurd rfl h
  | [x], _ => ⟨x, by simp, fun y hy => by rw [List.mem_singleton.mp hy]; omega⟩
  | x :: y :: r, _ => by
    obtain ⟨z, h1, h2⟩ := least_of f (y :: r) (by simp)
    by_cases c : f x ≤ f z
    · refine ⟨x, by simp, fun w hw => ?_⟩
      rcases List.mem_cons.mp hw with rfl | hw
      · omega
      · have := h2 w hw; omega
    · refine ⟨z, List.mem_cons_of_mem _ h1, fun w hw => ?_⟩
      rcases List.mem_cons.mp hw with rfl | hw
      · omega
      · exact h2 w hw
theorem lots_ne {n : Nat} {xs : List Int} (h : n ≤ xs.length) : lotsL n xs ≠ [] := by
  intro e
  have : xs.take n ∈ lotsL n xs := lots_mem.mpr ⟨List.take_sublist _ _, by rw [List.length_take]; omega⟩
  rw [e] at this
  cases this
theorem IsB.ex {S : Nat → List Int} {n : Nat} : ∀ (t : Nat), (∀ u, u < t → n ≤ (S u).length) → ∀ b, ∃ v, IsB S n t b v
  | 0, _, _ => ⟨_, rfl⟩
  | t + 1, hn, b => by
    have ih := IsB.ex (S := S) (n := n) t (fun u hu => hn u (by omega))
    let f : List Int → Int := fun a => Classical.choose (ih a) + (gone a b : Int)
    obtain ⟨a, h1, h2⟩ := least_of f (lotsL n (S t)) (lots_ne (hn t (by omega)))
    refine ⟨f a, ⟨a, _, h1, Classical.choose_spec (ih a), rfl⟩, fun c vc c1 c2 => ?_⟩
    have e := IsB.uniq c2 (Classical.choose_spec (ih c))
    rw [e]
    exact h2 c c1
theorem IsB.sit {S : Nat → List Int} (hS : ∀ t, (S t).Nodup) {n : Nat} : ∀ {t : Nat} {b : List Int} {v : Int}, IsB S n t b v → b ∈ lotsL n (S t) → ∃ rs, Sit S n t (b :: rs) (v - n)
  | 0, b, v, h, hb => by
    obtain ⟨h1, h2⟩ := lots_mem.mp hb
    have h : v = (n : Int) := h
    subst h
    rw [Int.sub_self]
    exact ⟨[], .one ((hS 0).sublist h1) (fun x hx => h1.subset hx) h2⟩
  | t + 1, b, v, ⟨⟨a, va, a1, a2, a3⟩, _⟩, hb => by
    obtain ⟨h1, h2⟩ := lots_mem.mp hb
    obtain ⟨rs, hs⟩ := IsB.sit hS a2 a1
    refine ⟨a :: rs, ?_⟩
    have e : v - (n : Int) = (va - n) + (b.countP (fun x => !a.contains x) : Int) := by
      rw [a3]; unfold gone; omega
    rw [e]
    exact .step hs ((hS (t + 1)).sublist h1) (fun x hx => h1.subset hx) h2
/-- a row in the order of its hour -/
def canon (S : List Int) (R : List Int) : List Int := S.filter fun x => R.contains x
theorem canon_mem {S R : List Int} (h : ∀ x ∈ R, x ∈ S) (x : Int) : x ∈ canon S R ↔ x ∈ R := by
  unfold canon
  rw [List.mem_filter]
  simp only [List.contains_iff_mem]
  exact ⟨fun q => q.2, fun q => ⟨h x q, q⟩⟩
theorem canon_perm {S R : List Int} (hS : S.Nodup) (hR : R.Nodup) (h : ∀ x ∈ R, x ∈ S) : (canon S R).Perm R :=
  (List.perm_ext_iff_of_nodup (hS.sublist List.filter_sublist) hR).mpr (canon_mem h)
theorem low {S : Nat → List Int} (hS : ∀ t, (S t).Nodup) {n t : Nat} (hn : ∀ u, u < t → n ≤ (S u).length) {R : List Int} {rs : List (List Int)} {g : Int} (h : Sit S n t (R :: rs) g) : ∀ v, IsB S n t (canon (S t) R) v → v ≤ (n : Int) + g := by
  generalize e : R :: rs = Rs at h
  induction h generalizing R rs with
  | one h1 h2 h3 => intro v hv; have hv : v = (n : Int) := hv; omega
  | @step t R0 R rs0 g0 h h1 h2 h3 ih =>
    cases e
    intro v hv
    obtain ⟨r1, r2, r3, r4⟩ := h.top
    have p0 := canon_perm (hS t) r1 r2
    have p1 := canon_perm (hS (t + 1)) h1 h2
    obtain ⟨va, hva⟩ := IsB.ex (S := S) (n := n) t (fun u hu => hn u (by omega)) (canon (S t) R0)
    have i := ih (fun u hu => hn u (by omega)) rfl va hva
    have hm : canon (S t) R0 ∈ lotsL n (S t) := lots_mem.mpr ⟨List.filter_sublist, p0.length_eq.trans r3⟩
    have b := hv.2 _ _ hm hva
    have hg : gone (canon (S t) R0) (canon (S (t + 1)) R) = R.countP (fun x => !R0.contains x) := by
      unfold gone
      rw [p1.countP_eq]
      refine List.countP_congr fun x _ => ?_
      have := canon_mem r2 x
      simp only [Bool.not_eq_true', ← Bool.not_eq_true, List.contains_iff_mem]
      rw [this]
    rw [hg] at b
    omega
end Sh
namespace Sh
/-- the number told: the least of the last row -/
theorem number_dual {S : Nat → List Int} (hS : ∀ t, (S t).Nodup) {n T : Nat} (hT : 1 ≤ T) (hn : ∀ t, t < T → n ≤ (S t).length) {N : Int} {b : List Int} (hb : b ∈ lotsL n (S (T - 1))) (h1 : IsB S n (T - 1) b N)
    (h2 : ∀ c w, c ∈ lotsL n (S (T - 1)) → IsB S n (T - 1) c w → N ≤ w) :
    (∃ L : List Nat, L ≠ [] ∧ L.Pairwise (· > ·) ∧ (∀ x ∈ L, x < T) ∧ N = (n : Int) + wt S n L) ∧ (∀ L : List Nat, L.Pairwise (· > ·) → (∀ x ∈ L, x < T) → (n : Int) + wt S n L ≤ N) ∧ (n : Int) ≤ N := by
  obtain ⟨rs, hs⟩ := IsB.sit hS h1 hb
  obtain ⟨R, rs', g, L, d1, d2, d3, d4, d5, d6⟩ := duality hS hT hn
  have g1 := d6 _ _ _ hs
  obtain ⟨r1, r2, r3, r4⟩ := d1.top
  have pm := canon_perm (hS (T - 1)) r1 r2
  have hm : canon (S (T - 1)) R ∈ lotsL n (S (T - 1)) := lots_mem.mpr ⟨List.filter_sublist, pm.length_eq.trans r3⟩
  obtain ⟨v, hv⟩ := IsB.ex (S := S) (n := n) (T - 1) (fun u hu => hn u (by omega)) (canon (S (T - 1)) R)
  have l1 := low hS (fun u hu => hn u (by omega)) d1 v hv
  have l2 := h2 _ _ hm hv
  have t4 := hs.top.2.2.2
  refine ⟨⟨L, d2, d3, d4, by omega⟩, fun L' p1 p2 => ?_, by omega⟩
  have := weak_lot hS hT hs L' p1 p2
  omega
theorem wt_mono (S : Nat → List Int) (n : Nat) : ∀ L : List Nat, wt S n L ≤ wt S (n + 1) L
  | [] => by simp [wt]
  | [l] => by simp [wt]
  | l :: m :: t => by
    have ih := wt_mono S n (m :: t)
    show ((n : Int) - (cc S m l : Int)) + wt S n (m :: t) ≤ (((n + 1 : Nat) : Int) - (cc S m l : Int)) + wt S (n + 1) (m :: t)
    omega
/-- one more who sits wants at least one sitting more -/
theorem one_more {S : Nat → List Int} (hS : ∀ t, (S t).Nodup) {n T : Nat} (hT : 1 ≤ T) (hn : ∀ t, t < T → n + 1 ≤ (S t).length) {N M : Int} {b c : List Int} (hb : b ∈ lotsL n (S (T - 1))) (h1 : IsB S n (T - 1) b N)
    (h2 : ∀ c w, c ∈ lotsL n (S (T - 1)) → IsB S n (T - 1) c w → N ≤ w) (hc : c ∈ lotsL (n + 1) (S (T - 1))) (h3 : IsB S (n + 1) (T - 1) c M) (h4 : ∀ c w, c ∈ lotsL (n + 1) (S (T - 1)) → IsB S (n + 1) (T - 1) c w → M ≤ w) : N + 1 ≤ M := by
  obtain ⟨⟨L, _, l2, l3, l4⟩, _⟩ := number_dual hS hT (fun t ht => by have := hn t ht; omega) hb h1 h2
  obtain ⟨_, m2, _⟩ := number_dual hS hT hn hc h3 h4
  have a := m2 L l2 l3
  have w := wt_mono S n L
  omega
end Sh
namespace Sh
/-! ### all lots of hours, and the greatest of what they show -/
def allStep (ls : List (List Int)) (x : Int) : List (List Int) := ls ++ ls.map fun l => l ++ [x]
def allL (T : Nat) : List (List Int) := (nums T).foldl allStep [[]]
theorem all_mem : ∀ (xs : List Int) (acc : List (List Int)) (l : List Int), l ∈ xs.foldl allStep acc ↔ ∃ a s, a ∈ acc ∧ s.Sublist xs ∧ l = a ++ s
  | [], acc, l => by
    constructor
    · intro h; exact ⟨l, [], h, List.Sublist.refl _, by simp⟩
    · rintro ⟨a, s, h1, h2, h3⟩
      have := List.sublist_nil.mp h2
      subst this
      simpa [h3] using h1
  | x :: xs, acc, l => by
    rw [List.foldl_cons, all_mem xs]
    constructor
    · rintro ⟨a, s, h1, h2, h3⟩
      rcases List.mem_append.mp h1 with h | h
      · exact ⟨a, s, h, h2.cons x, h3⟩
      · obtain ⟨b, hb, rfl⟩ := List.mem_map.mp h
        exact ⟨b, x :: s, hb, h2.cons_cons x, by rw [h3]; simp⟩
    · rintro ⟨a, s, h1, h2, h3⟩
      cases h2 with
      | cons _ h2 => exact ⟨a, s, List.mem_append_left _ h1, h2, h3⟩
      | cons_cons _ h2 =>
        rename_i s
        exact ⟨a ++ [x], s, List.mem_append_right _ (List.mem_map.mpr ⟨a, h1, rfl⟩), h2, by rw [h3]; simp⟩
theorem allL_mem {T : Nat} {l : List Int} : l ∈ allL T ↔ l.Sublist (nums T) := by
  unfold allL
  rw [all_mem]
  constructor
  · rintro ⟨a, s, h1, h2, h3⟩
    simp at h1
    subst h1
    simpa [h3] using h2
  · intro h
    exact ⟨[], l, by simp, h, by simp⟩
theorem all_len : ∀ (xs : List Int) (acc : List (List Int)), (xs.foldl allStep acc).length = 2 ^ xs.length * acc.length
  | [], acc => by simp
  | x :: xs, acc => by
    rw [List.foldl_cons, all_len xs, List.length_cons, Nat.pow_succ]
    unfold allStep
    rw [List.length_append, List.length_map, Nat.mul_assoc]
    congr 1
    omega
theorem nums_sub {T : Nat} {l : List Int} (h : l.Sublist (nums T)) : ∃ L : List Nat, l = L.map (fun (i : Nat) => (i : Int)) ∧ L.Sublist (List.range T) := by
  unfold nums at h
  obtain ⟨L, h1, h2⟩ := List.sublist_map_iff.mp h
  exact ⟨L, h2, h1⟩
def inP (r : Int × Int) (h : Int) : Bool := decide (r.1 ≤ h) && decide (h ≤ r.2)
def ins (p : Int × Int) (l : List Int) : Nat := (l.filter (inP p)).length
def shN (sp : List (Int × Int)) (n : Nat) (l : List Int) : Int := (n : Int) * (l.length : Int) - ((sp.map fun p => ins p l - 1).sum : Nat)
def showsV (sp : List (Int × Int)) (n : Nat) (l : List Int) : Int := if shN sp n l > 0 then shN sp n l else 0
theorem ins_map (p : Int × Int) (L : List Nat) : ins p (L.map fun (i : Nat) => (i : Int)) = L.countP (inR p) := by
  unfold ins
  rw [← List.countP_eq_length_filter, List.countP_map]
  rfl
/-- the stretches of all seats -/
def spR (n T : Nat) (f : Int → Nat → Bool) : List (Int × Int) := (nums n).flatMap fun s => runsL (upto (f s) T)
theorem sum_flat {α β : Type} (g : α → List β) (w : β → Nat) : ∀ xs : List α, ((xs.flatMap g).map w).sum = (xs.map fun x => ((g x).map w).sum).sum
  | [] => rfl
  | x :: xs => by
    rw [List.flatMap_cons, List.map_append, List.sum_append, sum_flat g w xs, List.map_cons, List.sum_cons]
theorem shN_wt (P : Nat) (f : Int → Nat → Bool) (n T : Nat) (L : List Nat) (h0 : L ≠ []) (hp : L.Pairwise (· < ·)) (hl : ∀ x ∈ L, x < T) :
    shN (spR P T f) n (L.map fun (i : Nat) => (i : Int)) = (n : Int) + wt (fun t => (nums P).filter fun s => f s t) n L.reverse := by
  have := shows_wt (nums P) f n T L h0 hp hl
  unfold shN spR
  rw [List.length_map, sum_flat, ← this]
  congr 2
  congr 1
  refine List.map_congr_left fun s _ => ?_
  congr 1
  refine List.map_congr_left fun r _ => ?_
  rw [ins_map]
theorem range_pw {T : Nat} {L : List Nat} (h : L.Sublist (List.range T)) : L.Pairwise (· < ·) ∧ ∀ x ∈ L, x < T :=
  ⟨List.Pairwise.sublist h List.pairwise_lt_range, fun x hx => List.mem_range.mp (h.subset hx)⟩
theorem range_sub {T : Nat} {L : List Nat} (hp : L.Pairwise (· < ·)) (hl : ∀ x ∈ L, x < T) : L.Sublist (List.range T) := by
  have : L = (List.range T).filter fun x => L.contains x := by
    have key : ∀ (A B : List Nat), A.Pairwise (· < ·) → B.Pairwise (· < ·) → (∀ x, x ∈ A ↔ x ∈ B) → A = B := by
      intro A
      induction A with
      | nil =>
        intro B _ _ h
        cases B with
        | nil => rfl
        | cons b B => exact absurd ((h b).mpr List.mem_cons_self) (by simp)
      | cons a A ih =>
        intro B hA hB h
        cases B with
        | nil => exact absurd ((h a).mp List.mem_cons_self) (by simp)
        | cons b B =>
          obtain ⟨a1, a2⟩ := List.pairwise_cons.mp hA
          obtain ⟨b1, b2⟩ := List.pairwise_cons.mp hB
          have e : a = b := by
            rcases List.mem_cons.mp ((h a).mp List.mem_cons_self) with q | q
            · exact q
            · rcases List.mem_cons.mp ((h b).mpr List.mem_cons_self) with q2 | q2
              · exact q2.symm
              · have := b1 a q; have := a1 b q2; omega
          subst e
          rw [ih B a2 b2 fun x => ?_]
          constructor
          · intro q
            rcases List.mem_cons.mp ((h x).mp (List.mem_cons_of_mem _ q)) with r | r
            · subst r; exact absurd (a1 _ q) (Nat.lt_irrefl _)
            · exact r
          · intro q
            rcases List.mem_cons.mp ((h x).mpr (List.mem_cons_of_mem _ q)) with r | r
            · subst r; exact absurd (b1 _ q) (Nat.lt_irrefl _)
            · exact r
    refine key L _ hp (List.Pairwise.sublist List.filter_sublist List.pairwise_lt_range) fun x => ?_
    rw [List.mem_filter, List.contains_iff_mem, List.mem_range]
    exact ⟨fun h => ⟨hl x h, h⟩, fun h => h.2⟩
  rw [this]
  exact List.filter_sublist
/-- the number told is the greatest that a lot shows -/
theorem shows_max (P : Nat) (f : Int → Nat → Bool) {n T : Nat} (hT : 1 ≤ T) (hn : ∀ t, t < T → n ≤ ((nums P).filter fun s => f s t).length) {N : Int} {b : List Int} (hb : b ∈ lotsL n ((nums P).filter fun s => f s (T - 1)))
    (h1 : IsB (fun t => (nums P).filter fun s => f s t) n (T - 1) b N) (h2 : ∀ c w, c ∈ lotsL n ((nums P).filter fun s => f s (T - 1)) → IsB (fun t => (nums P).filter fun s => f s t) n (T - 1) c w → N ≤ w) (hnd : (nums P).Nodup) :
    (∀ l ∈ allL T, showsV (spR P T f) n l ≤ N) ∧ (∃ l ∈ allL T, showsV (spR P T f) n l = N) ∧ (n : Int) ≤ N := by
  obtain ⟨⟨L, l1, l2, l3, l4⟩, m, k⟩ := number_dual (S := fun t => (nums P).filter fun s => f s t) (fun t => hnd.sublist List.filter_sublist) hT hn hb h1 h2
  refine ⟨fun l hl => ?_, ?_, k⟩
  · obtain ⟨A, rfl, hA⟩ := nums_sub (allL_mem.mp hl)
    unfold showsV
    by_cases c : A = []
    · subst c
      have : shN (spR P T f) n (([] : List Nat).map fun (i : Nat) => (i : Int)) ≤ 0 := by
        unfold shN
        simp
      rw [if_neg (by omega)]
      omega
    · obtain ⟨a1, a2⟩ := range_pw hA
      have e := shN_wt P f n T A c a1 a2
      have w := m A.reverse (List.pairwise_reverse.mpr a1) (fun x hx => a2 x (List.mem_reverse.mp hx))
      split <;> omega
  · have p1 : L.reverse.Pairwise (· < ·) := by
      rw [List.pairwise_reverse]; exact l2
    have p2 : ∀ x ∈ L.reverse, x < T := fun x hx => l3 x (List.mem_reverse.mp hx)
    refine ⟨L.reverse.map fun (i : Nat) => (i : Int), allL_mem.mpr ?_, ?_⟩
    · exact (range_sub p1 p2).map _
    · have e := shN_wt P f n T L.reverse (by simpa using l1) p1 p2
      rw [List.reverse_reverse] at e
      unfold showsV
      split <;> omega
end Sh
namespace Sh
theorem fold_lots_nodup (n : Nat) : ∀ (xs : List Int) (acc : List (List Int)), acc.Nodup → (∀ l ∈ acc, ∀ x ∈ xs, x ∉ l) → xs.Nodup → (xs.foldl (lotsStep n) acc).Nodup
  | [], acc, h, _, _ => h
  | x :: xs, acc, h, hx, hn => by
    obtain ⟨n1, n2⟩ := List.nodup_cons.mp hn
    rw [List.foldl_cons]
    refine fold_lots_nodup n xs _ ?_ ?_ n2
    · unfold lotsStep
      refine List.nodup_append.mpr ⟨h, ?_, ?_⟩
      · refine List.Pairwise.map (R := fun a b => a ≠ b) _ (fun a b q z => q (List.append_cancel_right z)) (h.sublist List.filter_sublist)
      · rintro a ha b hb rfl
        obtain ⟨c, _, e⟩ := List.mem_map.mp hb
        exact hx a ha x List.mem_cons_self (by rw [← e]; simp)
    · intro l hl y hy q
      unfold lotsStep at hl
      rcases List.mem_append.mp hl with hl | hl
      · exact hx l hl y (List.mem_cons_of_mem _ hy) q
      · obtain ⟨c, hc, rfl⟩ := List.mem_map.mp hl
        rcases List.mem_append.mp q with q | q
        · exact hx c (List.mem_filter.mp hc).1 y (List.mem_cons_of_mem _ hy) q
        · rw [List.mem_singleton.mp q] at hy
          exact n1 hy
theorem lots_nodup (n : Nat) (xs : List Int) (h : xs.Nodup) : (lotsL n xs).Nodup :=
  (fold_lots_nodup n xs [[]] (by simp) (by simp) h).sublist List.filter_sublist
theorem nums_rise (n : Nat) : (nums n).Pairwise (· < ·) := by
  unfold nums
  rw [List.pairwise_map]
  exact List.pairwise_lt_range.imp fun h => by omega
theorem rise_nodup {l : List Int} (h : l.Pairwise (· < ·)) : l.Nodup := h.imp fun q => by omega
theorem nums_nodup (n : Nat) : (nums n).Nodup := rise_nodup (nums_rise n)
/-! ### the sittings of a row of rows -/
def prv (st : Nat → List Int) : Nat → List Int
  | 0 => []
  | j + 1 => st j
def cst (st : Nat → List Int) : Nat → Nat
  | 0 => 0
  | j + 1 => cst st j + gone (prv st j) (st j)
theorem gone_nil (l : List Int) : gone [] l = l.length := by
  unfold gone
  simp
theorem cst_sum (st : Nat → List Int) : ∀ m, cst st (m + 1) = (st 0).length + ((List.range m).map fun i => gone (st i) (st (i + 1))).sum
  | 0 => by show 0 + gone [] (st 0) = _; rw [gone_nil]; simp
  | m + 1 => by
    show cst st (m + 1) + gone (st m) (st (m + 1)) = _
    rw [cst_sum st m, List.range_succ, List.map_append, List.sum_append]
    simp
    omega
end Sh
set_option Elab.async false
set_option linter.all false
set_option maxRecDepth 100000
namespace Sh
open PySem L2 PyProof.Rows

def topS (i : Nat) : Stmt := PySem.Challenge.pw_shadehours_k05_whole_yards_go_together.main.body.getD i (.Pass ⟨0, 0, 0, 0⟩)
abbrev FUEL : Nat := 1208925819614629174706176
structure Txt (mg : Str → Option Value) : Prop where
  b_all : mg "all" = none
  b_bool : mg "bool" = none
  b_int : mg "int" = none
  b_isinstance : mg "isinstance" = none
  b_len : mg "len" = none
  b_min : mg "min" = none
  b_range : mg "range" = none
  b_reversed : mg "reversed" = none
  b_sorted : mg "sorted" = none
  b_str : mg "str" = none
  b_tuple : mg "tuple" = none
  b_zip : mg "zip" = none
  c_HIGH : ∃ t, mg "HIGH" = some (.int 9 t)
  c_HOURS : ∃ t, mg "HOURS" = some (.int 8 t)
  c_SEATS : ∃ t, mg "SEATS" = some (.int 8 t)
  c_SLANT : ∃ t, mg "SLANT" = some (.int 9 t)
  c_WALLS : ∃ t, mg "WALLS" = some (.int 8 t)
section
variable {P : Program} {w : World} {K : PySem.W.Frag} {mg : Str → Option Value} {base : Heap}
/-! ### the law's bag -/
abbrev s_law_bag : Stmt := topS 21
abbrev N_law_bag : List Str := ["script", "k", "cell", "seed"]
theorem sc_law_bag : FnScope N_law_bag ["script", "k"] (defScope s_law_bag) := ⟨rfl, rfl, rfl, by decide +kernel, rfl, by decide +kernel, by decide +kernel⟩
noncomputable def b_law_bag : Ss := (sSeq (sAsg (sC (.int 0)) (.nm 2))
    (sSeq (sIf (sTst (s2 fLt (sVar 1) (sA fLen (sCons (sVar 0) sNil)))) (sAsg (s2 fMod (s2 fIx (sVar 0) (sVar 1)) (s2 fPow (sC (.int 10)) (sC (.int 60)))) (.nm 2)) sSkip)
    (sSeq (sAsg (s2 (fAdd false) (sC (.int 1)) (s2 fMod (s2 (fAdd false) (s2 (fAdd false) (s2 (fAdd false) (s2 fMul (s2 fMod (sVar 2) (sC (.int 2147483629))) (sC (.int 16807))) (s2 fMul (s2 fMul (sC (.int 40009)) (sVar 1)) (sVar 1))) (s2 fMul (sC (.int 7919)) (sVar 1))) (sC (.int 1009))) (sC (.int 2147483645)))) (.nm 3))
    (sSeq (sIf (sTst (s2 fLt (sVar 2) (s2 fPow (sC (.int 10)) (sC (.int 18))))) (sRet (sA (fLst true) (sCons (sC (.int 0)) (sCons (sVar 3) sNil)))) sSkip)
    (sRet (sA (fLst true) (sCons (sVar 2) (sCons (sVar 3) sNil))))))))
noncomputable def g_law_bag : Fn := mkFn 2 4 b_law_bag
theorem ok_law_bag (T : Txt mg)  {f : Addr} {fd : FuncData} (F : Fun K "_law_bag" "_law_bag" s_law_bag f fd) : FnOk P w K mg base CX0 1 f fd ["script", "k"] (spF K 2 g_law_bag) := by
  have nd := sc_law_bag.nd
  refine fn_ok (N := N_law_bag) F sc_law_bag fun cdv A outer s H E hr => ?_
  exact (pSs_cons (pS_set (i := 2) nd rfl (by first | exact Or.inl rfl | exact Or.inr rfl) pE_int)
    (pSs_cons (pS_if (pT_cmp op_lt o2_cmp (pE_var (pv 1)) (pE_callB call_len opA_len (by rfl) T.b_len (by decide +kernel) (pA_cons (pE_var (pv 0)) pA_nil)) (nomark _))
    (pSs_one (pS_set (i := 2) nd rfl (by first | exact Or.inl rfl | exact Or.inr rfl) (pE_op op_mod o2_mod (pE_ix ix_seq o2_ix (pE_var (pv 0)) (pE_var (pv 1))) (pE_op op_pow o2_pow pE_int pE_int))))
    pSs_nil)
    (pSs_cons (pS_set (i := 3) nd rfl (by first | exact Or.inl rfl | exact Or.inr rfl) (pE_op op_addU (o2_add (b := false)) pE_int (pE_op op_mod o2_mod (pE_op op_addU (o2_add (b := false)) (pE_op op_addU (o2_add (b := false)) (pE_op op_addU (o2_add (b := false)) (pE_op op_mulU o2_mul (pE_op op_mod o2_mod (pE_var (pv 2)) pE_int) pE_int) (pE_op op_mulU o2_mul (pE_op op_mulU o2_mul pE_int (pE_var (pv 1))) (pE_var (pv 1)))) (pE_op op_mulU o2_mul pE_int (pE_var (pv 1)))) pE_int) pE_int)))
    (pSs_cons (pS_if (pT_cmp op_lt o2_cmp (pE_var (pv 2)) (pE_op op_pow o2_pow pE_int pE_int) (nomark _))
    (pSs_one (pS_ret (pE_lst (b := true) (pA_cons pE_int (pA_cons (pE_var (pv 3)) pA_nil)))))
    pSs_nil)
    (pSs_one (pS_ret (pE_lst (b := true) (pA_cons (pE_var (pv 2)) (pA_cons (pE_var (pv 3)) pA_nil)))))))))
theorem cal_law_bag (T : Txt mg)  {f : Addr} {fd : FuncData} (F : Fun K "_law_bag" "_law_bag" s_law_bag f fd) (hm : mg "_law_bag" = some (.ref f)) : Cal P w K mg base 1 "_law_bag" 2 g_law_bag :=
  ⟨f, fd, ["script", "k"], rfl, ok_law_bag T  F, hm, F.kp, F.binds (ps := ["script", "k"]) fun _ _ _ _ _ _ us hl => match us, hl with | [_, _], _ => rfl⟩
/-! ### the law's take -/
abbrev s_law_take : Stmt := topS 22
abbrev N_law_take : List Str := ["bag", "count", "found"]
theorem sc_law_take : FnScope N_law_take ["bag", "count"] (defScope s_law_take) := ⟨rfl, rfl, rfl, by decide +kernel, rfl, by decide +kernel, by decide +kernel⟩
noncomputable def b_law_take : Ss := (sSeq (sIf (sTst (s2 fGt (s2 fIx (sVar 0) (sC (.int 0))) (sC (.int 0)))) (sSeq (sAsg (s2 fMod (s2 fIx (sVar 0) (sC (.int 0))) (sVar 1)) (.nm 2))
    (sSeq (sStL (sVar 0) (sC (.int 0)) (s2 fDiv (s2 fIx (sVar 0) (sC (.int 0))) (sVar 1)))
    (sRet (sVar 2)))) sSkip)
    (sSeq (sStL (sVar 0) (sC (.int 1)) (s2 fMod (s2 fMul (s2 fIx (sVar 0) (sC (.int 1))) (sC (.int 48271))) (sC (.int 2147483647))))
    (sRet (s2 fMod (s2 fDiv (s2 fMod (s2 fMul (s2 fDiv (s2 fIx (sVar 0) (sC (.int 1))) (sC (.int 13))) (s2 (fAdd false) (s2 fMod (s2 fIx (sVar 0) (sC (.int 1))) (sC (.int 32749))) (sC (.int 17)))) (sC (.int 2147483629))) (sC (.int 32))) (sVar 1)))))
noncomputable def g_law_take : Fn := mkFn 2 3 b_law_take
theorem ok_law_take (T : Txt mg)  {f : Addr} {fd : FuncData} (F : Fun K "_law_take" "_law_take" s_law_take f fd) : FnOk P w K mg base CX0 1 f fd ["bag", "count"] (spF K 2 g_law_take) := by
  have nd := sc_law_take.nd
  refine fn_ok (N := N_law_take) F sc_law_take fun cdv A outer s H E hr => ?_
  exact (pSs_cons (pS_if (pT_cmp op_gt o2_cmp (pE_ix ix_seq o2_ix (pE_var (pv 0)) pE_int) pE_int (nomark _))
    (pSs_cons (pS_set (i := 2) nd rfl (by first | exact Or.inl rfl | exact Or.inr rfl) (pE_op op_mod o2_mod (pE_ix ix_seq o2_ix (pE_var (pv 0)) pE_int) (pE_var (pv 1))))
    (pSs_cons (pS_stL (pE_op op_fdiv o2_div (pE_ix ix_seq o2_ix (pE_var (pv 0)) pE_int) (pE_var (pv 1))) (pE_var (pv 0)) pE_int)
    (pSs_one (pS_ret (pE_var (pv 2))))))
    pSs_nil)
    (pSs_cons (pS_stL (pE_op op_mod o2_mod (pE_op op_mulU o2_mul (pE_ix ix_seq o2_ix (pE_var (pv 0)) pE_int) pE_int) pE_int) (pE_var (pv 0)) pE_int)
    (pSs_one (pS_ret (pE_op op_mod o2_mod (pE_op op_fdiv o2_div (pE_op op_mod o2_mod (pE_op op_mulU o2_mul (pE_op op_fdiv o2_div (pE_ix ix_seq o2_ix (pE_var (pv 0)) pE_int) pE_int) (pE_op op_addU (o2_add (b := false)) (pE_op op_mod o2_mod (pE_ix ix_seq o2_ix (pE_var (pv 0)) pE_int) pE_int) pE_int)) pE_int) pE_int) (pE_var (pv 1)))))))
theorem cal_law_take (T : Txt mg)  {f : Addr} {fd : FuncData} (F : Fun K "_law_take" "_law_take" s_law_take f fd) (hm : mg "_law_take" = some (.ref f)) : Cal P w K mg base 1 "_law_take" 2 g_law_take :=
  ⟨f, fd, ["bag", "count"], rfl, ok_law_take T  F, hm, F.kp, F.binds (ps := ["bag", "count"]) fun _ _ _ _ _ _ us hl => match us, hl with | [_, _], _ => rfl⟩
/-! ### the law's of -/
abbrev s_law_of : Stmt := topS 23
abbrev N_law_of : List Str := ["bag", "some"]
theorem sc_law_of : FnScope N_law_of ["bag", "some"] (defScope s_law_of) := ⟨rfl, rfl, rfl, by decide +kernel, rfl, by decide +kernel, by decide +kernel⟩
noncomputable def b_law_of : Ss := (sRet (s2 fIx (sVar 1) (sCall 2 g_law_take (sCons (sVar 0) (sCons (sA fLen (sCons (sVar 1) sNil)) sNil)))))
noncomputable def g_law_of : Fn := mkFn 2 2 b_law_of
theorem ok_law_of (T : Txt mg) (c_law_take : Cal P w K mg base 1 "_law_take" 2 g_law_take) {f : Addr} {fd : FuncData} (F : Fun K "_law_of" "_law_of" s_law_of f fd) : FnOk P w K mg base CX0 2 f fd ["bag", "some"] (spF K 2 g_law_of) := by
  have nd := sc_law_of.nd
  refine fn_ok (N := N_law_of) F sc_law_of fun cdv A outer s H E hr => ?_
  exact (pSs_one (pS_ret (pE_ix ix_seq o2_ix (pE_var (pv 1)) (pE_call c_law_take (hr.mono (by decide)) (by rfl) (pA_cons (pE_var (pv 0)) (pA_cons (pE_callB call_len opA_len (by rfl) T.b_len (by decide +kernel) (pA_cons (pE_var (pv 1)) pA_nil)) pA_nil))))))
theorem cal_law_of (T : Txt mg) (c_law_take : Cal P w K mg base 1 "_law_take" 2 g_law_take) {f : Addr} {fd : FuncData} (F : Fun K "_law_of" "_law_of" s_law_of f fd) (hm : mg "_law_of" = some (.ref f)) : Cal P w K mg base 2 "_law_of" 2 g_law_of :=
  ⟨f, fd, ["bag", "some"], rfl, ok_law_of T c_law_take F, hm, F.kp, F.binds (ps := ["bag", "some"]) fun _ _ _ _ _ _ us hl => match us, hl with | [_, _], _ => rfl⟩
/-! ### the law's lowest -/
abbrev s_law_lowest : Stmt := topS 24
abbrev N_law_lowest : List Str := ["top", "bottom", "one", "other"]
theorem sc_law_lowest : FnScope N_law_lowest ["top", "bottom"] (defScope s_law_lowest) := ⟨rfl, rfl, rfl, by decide +kernel, rfl, by decide +kernel, by decide +kernel⟩
def w_law_lowest_1 : Ss := (sPar [2, 3] (sCons (sVar 3) (sCons (s2 fMod (sVar 2) (sVar 3)) sNil)))
def W_law_lowest_1 : Ss := sWhile FUEL (sTst (s2 (fEq true) (sVar 3) (sC (.int 0)))) w_law_lowest_1
noncomputable def b_law_lowest : Ss := (sSeq (sPar [2, 3] (sCons (sVar 0) (sCons (sVar 1) sNil)))
    (sSeq W_law_lowest_1
    (sRet (sA fTup (sCons (s2 fDiv (sVar 0) (sVar 2)) (sCons (s2 fDiv (sVar 1) (sVar 2)) sNil))))))
noncomputable def g_law_lowest : Fn := mkFn 2 4 b_law_lowest
theorem ok_law_lowest (T : Txt mg)  {f : Addr} {fd : FuncData} (F : Fun K "_law_lowest" "_law_lowest" s_law_lowest f fd) : FnOk P w K mg base CX0 1 f fd ["top", "bottom"] (spF K 2 g_law_lowest) := by
  have nd := sc_law_lowest.nd
  refine fn_ok (N := N_law_lowest) F sc_law_lowest fun cdv A outer s H E hr => ?_
  exact (pSs_cons (pS_par (i := 2) (j := 3) rfl nd rfl rfl (by decide) rfl rfl (pA_cons (pE_var (pv 0)) (pA_cons (pE_var (pv 1)) pA_nil)) (by rfl))
    (pSs_cons (pS_while (g := FUEL) PassesOwn.never (pT_cmp (op_neD hr.units) o2_ne (pE_var (pv 3)) pE_int (nomark _)) (pSs_one (pS_par (i := 2) (j := 3) rfl nd rfl rfl (by decide) rfl rfl (pA_cons (pE_var (pv 3)) (pA_cons (pE_op op_mod o2_mod (pE_var (pv 2)) (pE_var (pv 3))) pA_nil)) (by rfl))))
    (pSs_one (pS_ret (pE_tup (pA_cons (pE_op op_fdiv o2_div (pE_var (pv 0)) (pE_var (pv 2))) (pA_cons (pE_op op_fdiv o2_div (pE_var (pv 1)) (pE_var (pv 2))) pA_nil)))))))
theorem cal_law_lowest (T : Txt mg)  {f : Addr} {fd : FuncData} (F : Fun K "_law_lowest" "_law_lowest" s_law_lowest f fd) (hm : mg "_law_lowest" = some (.ref f)) : Cal P w K mg base 1 "_law_lowest" 2 g_law_lowest :=
  ⟨f, fd, ["top", "bottom"], rfl, ok_law_lowest T  F, hm, F.kp, F.binds (ps := ["top", "bottom"]) fun _ _ _ _ _ _ us hl => match us, hl with | [_, _], _ => rfl⟩
/-! ### the law's yard -/
abbrev s_law_yard : Stmt := topS 25
abbrev N_law_yard : List Str := ["bag", "seats_so", "hours", "places_so", "walls", "turn", "sun", "bottom"]
theorem sc_law_yard : FnScope N_law_yard ["bag", "seats_so", "hours"] (defScope s_law_yard) := ⟨rfl, rfl, rfl, by decide +kernel, rfl, by decide +kernel, by decide +kernel⟩
noncomputable def l_law_yard_1 : Ss := (sSeq (sAsg (s2 (fAdd false) (sC (.int 1)) (sCall 2 g_law_take (sCons (sVar 0) (sCons (sC (.int 6)) sNil)))) (.nm 7))
    (sExpr (sMet fApp (sVar 6) (sCons (sA fTup (sCons (sCall 2 g_law_of (sCons (sVar 0) (sCons (sC (.str "eeww")) sNil))) (sCons (sCall 2 g_law_lowest (sCons (sCall 2 g_law_take (sCons (sVar 0) (sCons (s2 fMul (sC (.int 4)) (sVar 7)) sNil))) (sCons (sVar 7) sNil))) sNil))) sNil))))
noncomputable def L_law_yard_1 : Ss := sFor (sRng1 (sCons (s2 (fAdd false) (sC (.int 1)) (sCall 2 g_law_take (sCons (sVar 0) (sCons (sVar 2) sNil)))) sNil)) (.nm 5) l_law_yard_1
noncomputable def l_law_yard_2 : Ss := (sStD (sVar 4) (sCall 2 g_law_take (sCons (sVar 0) (sCons (s2 (fAdd false) (sVar 3) (sC (.int 1))) sNil))) (s2 (fAdd false) (sC (.int 1)) (sCall 2 g_law_take (sCons (sVar 0) (sCons (s2 fIx (sA (fLst false) (sCons (sC (.int 3)) (sCons (sC (.int 9)) sNil))) (sCall 2 g_law_take (sCons (sVar 0) (sCons (sC (.int 2)) sNil)))) sNil)))))
noncomputable def L_law_yard_2 : Ss := sFor (sRng1 (sCons (s2 (fAdd false) (sC (.int 1)) (sCall 2 g_law_take (sCons (sVar 0) (sCons (sC (.int 5)) sNil)))) sNil)) (.nm 5) l_law_yard_2
noncomputable def b_law_yard : Ss := (sSeq (sPar [3, 4] (sCons (s2 (fAdd false) (sC (.int 1)) (sCall 2 g_law_take (sCons (sVar 0) (sCons (sVar 1) sNil)))) (sCons sNewK sNil)))
    (sSeq L_law_yard_2
    (sSeq (sAsg (sA (fLst true) sNil) (.nm 6))
    (sSeq L_law_yard_1
    (sRet (sA fTup (sCons (sVar 3) (sCons (sA fTupOf (sCons (s1 fSortItems (sVar 4)) sNil)) (sCons (sA fTupOf (sCons (sVar 6) sNil)) sNil)))))))))
noncomputable def g_law_yard : Fn := mkFn 3 8 b_law_yard
theorem ok_law_yard (T : Txt mg) (c_law_lowest : Cal P w K mg base 1 "_law_lowest" 2 g_law_lowest) (c_law_of : Cal P w K mg base 2 "_law_of" 2 g_law_of) (c_law_take : Cal P w K mg base 1 "_law_take" 2 g_law_take) {f : Addr} {fd : FuncData} (F : Fun K "_law_yard" "_law_yard" s_law_yard f fd) : FnOk P w K mg base CX0 3 f fd ["bag", "seats_so", "hours"] (spF K 3 g_law_yard) := by
  have nd := sc_law_yard.nd
  refine fn_ok (N := N_law_yard) F sc_law_yard fun cdv A outer s H E hr => ?_
  exact (pSs_cons (pS_par (i := 3) (j := 4) rfl nd rfl rfl (by decide) rfl rfl (pA_cons (pE_op op_addU (o2_add (b := false)) pE_int (pE_call c_law_take (hr.mono (by decide)) (by rfl) (pA_cons (pE_var (pv 0)) (pA_cons (pE_var (pv 1)) pA_nil)))) (pA_cons pE_newK pA_nil)) (by rfl))
    (pSs_cons (pS_for (t := (.nm 5)) PassesOwn.never rfl (pI_rng1 (by rfl) T.b_range (pA_cons (pE_op op_addU (o2_add (b := false)) pE_int (pE_call c_law_take (hr.mono (by decide)) (by rfl) (pA_cons (pE_var (pv 0)) (pA_cons pE_int pA_nil)))) pA_nil)) (pg_name (i := 5) nd rfl (by first | exact Or.inl rfl | exact Or.inr rfl))
    (pSs_one (pS_stD (hu_of hr) (pE_op op_addU (o2_add (b := false)) pE_int (pE_call c_law_take (hr.mono (by decide)) (by rfl) (pA_cons (pE_var (pv 0)) (pA_cons (pE_ix ix_seq o2_ix (pE_lst (b := false) (pA_cons pE_int (pA_cons pE_int pA_nil))) (pE_call c_law_take (hr.mono (by decide)) (by rfl) (pA_cons (pE_var (pv 0)) (pA_cons pE_int pA_nil)))) pA_nil)))) (pE_var (pv 4)) (pE_call c_law_take (hr.mono (by decide)) (by rfl) (pA_cons (pE_var (pv 0)) (pA_cons (pE_op op_addU (o2_add (b := false)) (pE_var (pv 3)) pE_int) pA_nil))))))
    (pSs_cons (pS_set (i := 6) nd rfl (by first | exact Or.inl rfl | exact Or.inr rfl) (pE_lst (b := true) pA_nil))
    (pSs_cons (pS_for (t := (.nm 5)) PassesOwn.never rfl (pI_rng1 (by rfl) T.b_range (pA_cons (pE_op op_addU (o2_add (b := false)) pE_int (pE_call c_law_take (hr.mono (by decide)) (by rfl) (pA_cons (pE_var (pv 0)) (pA_cons (pE_var (pv 2)) pA_nil)))) pA_nil)) (pg_name (i := 5) nd rfl (by first | exact Or.inl rfl | exact Or.inr rfl))
    (pSs_cons (pS_set (i := 7) nd rfl (by first | exact Or.inl rfl | exact Or.inr rfl) (pE_op op_addU (o2_add (b := false)) pE_int (pE_call c_law_take (hr.mono (by decide)) (by rfl) (pA_cons (pE_var (pv 0)) (pA_cons pE_int pA_nil)))))
    (pSs_one (pS_expr (pE_app (pE_var (pv 6)) (pA_cons (pE_tup (pA_cons (pE_call c_law_of (hr.mono (by decide)) (by rfl) (pA_cons (pE_var (pv 0)) (pA_cons pE_str pA_nil))) (pA_cons (pE_call c_law_lowest (hr.mono (by decide)) (by rfl) (pA_cons (pE_call c_law_take (hr.mono (by decide)) (by rfl) (pA_cons (pE_var (pv 0)) (pA_cons (pE_op op_mulU o2_mul pE_int (pE_var (pv 7))) pA_nil))) (pA_cons (pE_var (pv 7)) pA_nil))) pA_nil))) pA_nil))))))
    (pSs_one (pS_ret (pE_tup (pA_cons (pE_var (pv 3)) (pA_cons (pE_callTy call_tuple_of opA_tupOf (by rfl) T.b_tuple (by decide +kernel) (pA_cons (pE_sortItems rfl (pE_var (pv 4)) (by rfl) T.b_sorted) pA_nil)) (pA_cons (pE_callTy call_tuple_of opA_tupOf (by rfl) T.b_tuple (by decide +kernel) (pA_cons (pE_var (pv 6)) pA_nil)) pA_nil))))))))))
theorem cal_law_yard (T : Txt mg) (c_law_lowest : Cal P w K mg base 1 "_law_lowest" 2 g_law_lowest) (c_law_of : Cal P w K mg base 2 "_law_of" 2 g_law_of) (c_law_take : Cal P w K mg base 1 "_law_take" 2 g_law_take) {f : Addr} {fd : FuncData} (F : Fun K "_law_yard" "_law_yard" s_law_yard f fd) (hm : mg "_law_yard" = some (.ref f)) : Cal P w K mg base 3 "_law_yard" 3 g_law_yard :=
  ⟨f, fd, ["bag", "seats_so", "hours"], rfl, ok_law_yard T c_law_lowest c_law_of c_law_take F, hm, F.kp, F.binds (ps := ["bag", "seats_so", "hours"]) fun _ _ _ _ _ _ us hl => match us, hl with | [_, _, _], _ => rfl⟩
/-! ### the law's is_shaded -/
abbrev s_law_is_shaded : Stmt := topS 26
abbrev N_law_is_shaded : List Str := ["yard", "seat", "hour", "side", "slant", "place", "height", "far", "middle", "wall"]
theorem sc_law_is_shaded : FnScope N_law_is_shaded ["yard", "seat", "hour"] (defScope s_law_is_shaded) := ⟨rfl, rfl, rfl, by decide +kernel, rfl, by decide +kernel, by decide +kernel⟩
noncomputable def l_law_is_shaded_1 : Ss := (sSeq (sPar [7, 8] (sCons (s2 fMul (s2 fMul (sC (.int 2)) (sVar 6)) (s2 fIx (sVar 4) (sC (.int 0)))) (sCons (s2 fMul (s2 (fAdd false) (s2 fMul (sC (.int 2)) (sVar 1)) (sC (.int 1))) (s2 fIx (sVar 4) (sC (.int 1)))) sNil)))
    (sSeq (sAsg (s2 fMul (s2 fMul (sC (.int 2)) (sVar 5)) (s2 fIx (sVar 4) (sC (.int 1)))) (.nm 9))
    (sSeq (sIf (sAnd (sTst (s2 (fEq false) (sVar 3) (sC (.str "e")))) (sAnd (sTst (s2 fLt (sVar 8) (sVar 9))) (sTst (s2 fLe (s2 fSub (sVar 9) (sVar 7)) (sVar 8))))) (sRet (sC (.bool true))) sSkip)
    (sIf (sAnd (sTst (s2 (fEq false) (sVar 3) (sC (.str "w")))) (sAnd (sTst (s2 fGt (sVar 8) (sVar 9))) (sTst (s2 fGe (s2 (fAdd false) (sVar 9) (sVar 7)) (sVar 8))))) (sRet (sC (.bool true))) sSkip))))
noncomputable def L_law_is_shaded_1 : Ss := sFor (sIt (s2 fIx (sVar 0) (sC (.int 1)))) (.tp [5, 6]) l_law_is_shaded_1
noncomputable def b_law_is_shaded : Ss := (sSeq (sAsg (s2 fIx (s2 fIx (sVar 0) (sC (.int 2))) (sVar 2)) (.tp [3, 4]))
    (sSeq L_law_is_shaded_1
    (sRet (sC (.bool false)))))
noncomputable def g_law_is_shaded : Fn := mkFn 3 10 b_law_is_shaded
theorem ok_law_is_shaded (T : Txt mg)  {f : Addr} {fd : FuncData} (F : Fun K "_law_is_shaded" "_law_is_shaded" s_law_is_shaded f fd) : FnOk P w K mg base CX0 1 f fd ["yard", "seat", "hour"] (spF K 3 g_law_is_shaded) := by
  have nd := sc_law_is_shaded.nd
  refine fn_ok (N := N_law_is_shaded) F sc_law_is_shaded fun cdv A outer s H E hr => ?_
  exact (pSs_cons (pS_asg (t := (.tp [3, 4])) (pE_ix ix_seq o2_ix (pE_ix ix_seq o2_ix (pE_var (pv 0)) pE_int) (pE_var (pv 2))) (pg_tup rfl (pgs_cons (pg_name (i := 3) nd rfl (by first | exact Or.inl rfl | exact Or.inr rfl)) (pgs_cons (pg_name (i := 4) nd rfl (by first | exact Or.inl rfl | exact Or.inr rfl)) pgs_nil))))
    (pSs_cons (pS_for (t := (.tp [5, 6])) PassesOwn.never rfl (pI_it (pE_ix ix_seq o2_ix (pE_var (pv 0)) pE_int)) (pg_tup rfl (pgs_cons (pg_name (i := 5) nd rfl (by first | exact Or.inl rfl | exact Or.inr rfl)) (pgs_cons (pg_name (i := 6) nd rfl (by first | exact Or.inl rfl | exact Or.inr rfl)) pgs_nil)))
    (pSs_cons (pS_par (i := 7) (j := 8) rfl nd rfl rfl (by decide) rfl rfl (pA_cons (pE_op op_mulU o2_mul (pE_op op_mulU o2_mul pE_int (pE_var (pv 6))) (pE_ix ix_seq o2_ix (pE_var (pv 4)) pE_int)) (pA_cons (pE_op op_mulU o2_mul (pE_op op_addU (o2_add (b := false)) (pE_op op_mulU o2_mul pE_int (pE_var (pv 1))) pE_int) (pE_ix ix_seq o2_ix (pE_var (pv 4)) pE_int)) pA_nil)) (by rfl))
    (pSs_cons (pS_set (i := 9) nd rfl (by first | exact Or.inl rfl | exact Or.inr rfl) (pE_op op_mulU o2_mul (pE_op op_mulU o2_mul pE_int (pE_var (pv 5))) (pE_ix ix_seq o2_ix (pE_var (pv 4)) pE_int)))
    (pSs_cons (pS_if ((pT_and (pT_cmp (op_eqD hr.units) o2_eq (pE_var (pv 3)) pE_str (nomark _)) (pT_and (pT_cmp op_lt o2_cmp (pE_var (pv 8)) (pE_var (pv 9)) (nomark _)) (pw_and1 (pT_cmp op_le o2_cmp (pE_op op_sub o2_sub (pE_var (pv 9)) (pE_var (pv 7))) (pE_var (pv 8)) (nomark _)))))).pt
    (pSs_one (pS_ret pE_bl))
    pSs_nil)
    (pSs_one (pS_if ((pT_and (pT_cmp (op_eqD hr.units) o2_eq (pE_var (pv 3)) pE_str (nomark _)) (pT_and (pT_cmp op_gt o2_cmp (pE_var (pv 8)) (pE_var (pv 9)) (nomark _)) (pw_and1 (pT_cmp op_ge o2_cmp (pE_op op_addU (o2_add (b := false)) (pE_var (pv 9)) (pE_var (pv 7))) (pE_var (pv 8)) (nomark _)))))).pt
    (pSs_one (pS_ret pE_bl))
    pSs_nil))))))
    (pSs_one (pS_ret pE_bl))))
theorem cal_law_is_shaded (T : Txt mg)  {f : Addr} {fd : FuncData} (F : Fun K "_law_is_shaded" "_law_is_shaded" s_law_is_shaded f fd) (hm : mg "_law_is_shaded" = some (.ref f)) : Cal P w K mg base 1 "_law_is_shaded" 3 g_law_is_shaded :=
  ⟨f, fd, ["yard", "seat", "hour"], rfl, ok_law_is_shaded T  F, hm, F.kp, F.binds (ps := ["yard", "seat", "hour"]) fun _ _ _ _ _ _ us hl => match us, hl with | [_, _, _], _ => rfl⟩
/-! ### the law's shaded -/
abbrev s_law_shaded : Stmt := topS 27
abbrev N_law_shaded : List Str := ["yard", "hour", "seat"]
theorem sc_law_shaded : FnScope N_law_shaded ["yard", "hour"] (defScope s_law_shaded) := ⟨rfl, rfl, rfl, by decide +kernel, rfl, by decide +kernel, by decide +kernel⟩
noncomputable def C_law_shaded_1 : Sm := sComp false (sRng1 (sCons (s2 fIx (sVar 0) (sC (.int 0))) sNil)) (.nm 2) (sTst (sCall 3 g_law_is_shaded (sCons (sVar 0) (sCons (sVar 2) (sCons (sVar 1) sNil))))) (sVar 2) [2]
noncomputable def b_law_shaded : Ss := (sRet C_law_shaded_1)
noncomputable def g_law_shaded : Fn := mkFn 2 3 b_law_shaded
theorem ok_law_shaded (T : Txt mg) (c_law_is_shaded : Cal P w K mg base 1 "_law_is_shaded" 3 g_law_is_shaded) {f : Addr} {fd : FuncData} (F : Fun K "_law_shaded" "_law_shaded" s_law_shaded f fd) : FnOk P w K mg base CX0 2 f fd ["yard", "hour"] (spF K 2 g_law_shaded) := by
  have nd := sc_law_shaded.nd
  refine fn_ok (N := N_law_shaded) F sc_law_shaded fun cdv A outer s H E hr => ?_
  exact (pSs_one (pS_ret (pE_comp (own := [("seat", 2)]) (fl := false) (t := (.nm 2)) rfl nd (pI_rng1 (by rfl) T.b_range (pA_cons (pE_ix ix_seq o2_ix (pE_var (pv 0)) pE_int) pA_nil)) (blkOk_by (own := [("seat", 2)]) (N := N_law_shaded) (sc := defScope s_law_shaded) (by decide +kernel)) (fun _ _ _ _ _ => (pg_name (i := 2) nd rfl (by first | exact Or.inl rfl | exact Or.inr rfl))) (fun _ _ _ _ _ => (pTs_one (pT_tst (pE_call c_law_is_shaded (hr.mono (by decide)) (by rfl) (pA_cons (pE_var (pv 0)) (pA_cons (pE_var (pv 2)) (pA_cons (pE_var (pv 1)) pA_nil))))))) (fun _ _ _ _ _ => (pE_var (pv 2))) (by decide))))
theorem cal_law_shaded (T : Txt mg) (c_law_is_shaded : Cal P w K mg base 1 "_law_is_shaded" 3 g_law_is_shaded) {f : Addr} {fd : FuncData} (F : Fun K "_law_shaded" "_law_shaded" s_law_shaded f fd) (hm : mg "_law_shaded" = some (.ref f)) : Cal P w K mg base 2 "_law_shaded" 2 g_law_shaded :=
  ⟨f, fd, ["yard", "hour"], rfl, ok_law_shaded T c_law_is_shaded F, hm, F.kp, F.binds (ps := ["yard", "hour"]) fun _ _ _ _ _ _ us hl => match us, hl with | [_, _], _ => rfl⟩
/-! ### the law's most -/
abbrev s_law_most : Stmt := topS 28
abbrev N_law_most : List Str := ["yard", "hour"]
theorem sc_law_most : FnScope N_law_most ["yard"] (defScope s_law_most) := ⟨rfl, rfl, rfl, by decide +kernel, rfl, by decide +kernel, by decide +kernel⟩
noncomputable def C_law_most_1 : Sm := sComp false (sRng1 (sCons (sA fLen (sCons (s2 fIx (sVar 0) (sC (.int 2))) sNil)) sNil)) (.nm 1) sYes (sA fLen (sCons (sCall 2 g_law_shaded (sCons (sVar 0) (sCons (sVar 1) sNil))) sNil)) [1]
noncomputable def b_law_most : Ss := (sRet (sA fMin (sCons C_law_most_1 sNil)))
noncomputable def g_law_most : Fn := mkFn 1 2 b_law_most
theorem ok_law_most (T : Txt mg) (c_law_shaded : Cal P w K mg base 2 "_law_shaded" 2 g_law_shaded) {f : Addr} {fd : FuncData} (F : Fun K "_law_most" "_law_most" s_law_most f fd) : FnOk P w K mg base CX0 3 f fd ["yard"] (spF K 1 g_law_most) := by
  have nd := sc_law_most.nd
  refine fn_ok (N := N_law_most) F sc_law_most fun cdv A outer s H E hr => ?_
  exact (pSs_one (pS_ret (pE_callB (call_minU rfl) opA_min (by rfl) T.b_min (by decide +kernel) (pA_cons (pE_comp (own := [("hour", 1)]) (fl := false) (t := (.nm 1)) rfl nd (pI_rng1 (by rfl) T.b_range (pA_cons (pE_callB call_len opA_len (by rfl) T.b_len (by decide +kernel) (pA_cons (pE_ix ix_seq o2_ix (pE_var (pv 0)) pE_int) pA_nil)) pA_nil)) (blkOk_by (own := [("hour", 1)]) (N := N_law_most) (sc := defScope s_law_most) (by decide +kernel)) (fun _ _ _ _ _ => (pg_name (i := 1) nd rfl (by first | exact Or.inl rfl | exact Or.inr rfl))) (fun _ _ _ _ _ => pTs_nil) (fun _ _ _ _ _ => (pE_callB call_len opA_len (by rfl) T.b_len (by decide +kernel) (pA_cons (pE_call c_law_shaded (hr.mono (by decide)) (by rfl) (pA_cons (pE_var (pv 0)) (pA_cons (pE_var (pv 1)) pA_nil))) pA_nil))) (by decide)) pA_nil))))
theorem cal_law_most (T : Txt mg) (c_law_shaded : Cal P w K mg base 2 "_law_shaded" 2 g_law_shaded) {f : Addr} {fd : FuncData} (F : Fun K "_law_most" "_law_most" s_law_most f fd) (hm : mg "_law_most" = some (.ref f)) : Cal P w K mg base 3 "_law_most" 1 g_law_most :=
  ⟨f, fd, ["yard"], rfl, ok_law_most T c_law_shaded F, hm, F.kp, F.binds (ps := ["yard"]) fun _ _ _ _ _ _ us hl => match us, hl with | [_], _ => rfl⟩
/-! ### the law's good_yard -/
abbrev s_law_good_yard : Stmt := topS 29
abbrev N_law_good_yard : List Str := ["bag", "seats_so", "hours", "turn", "yard"]
theorem sc_law_good_yard : FnScope N_law_good_yard ["bag", "seats_so", "hours"] (defScope s_law_good_yard) := ⟨rfl, rfl, rfl, by decide +kernel, rfl, by decide +kernel, by decide +kernel⟩
noncomputable def l_law_good_yard_1 : Ss := (sSeq (sAsg (sCall 3 g_law_yard (sCons (sVar 0) (sCons (sVar 1) (sCons (sVar 2) sNil)))) (.nm 4))
    (sIf (sTst (s2 fGt (sCall 1 g_law_most (sCons (sVar 4) sNil)) (sC (.int 0)))) (sRet (sVar 4)) sSkip))
noncomputable def L_law_good_yard_1 : Ss := sFor (sRng1 (sCons (sC (.int 9)) sNil)) (.nm 3) l_law_good_yard_1
noncomputable def b_law_good_yard : Ss := (sSeq L_law_good_yard_1
    (sRet (sA fTup (sCons (sVar 1) (sCons (sA fTup (sCons (sA fTup (sCons (sC (.int 0)) (sCons (sC (.int 2)) sNil))) (sCons (sA fTup (sCons (sVar 1) (sCons (sC (.int 2)) sNil))) sNil))) (sCons (sA fTup (sCons (sA fTup (sCons (sC (.str "e")) (sCons (sA fTup (sCons (sC (.int 9)) (sCons (sC (.int 1)) sNil))) sNil))) (sCons (sA fTup (sCons (sC (.str "w")) (sCons (sA fTup (sCons (sC (.int 1)) (sCons (sC (.int 1)) sNil))) sNil))) (sCons (sA fTup (sCons (sC (.str "w")) (sCons (sA fTup (sCons (sC (.int 9)) (sCons (sC (.int 1)) sNil))) sNil))) (sCons (sA fTup (sCons (sC (.str "e")) (sCons (sA fTup (sCons (sC (.int 2)) (sCons (sC (.int 1)) sNil))) sNil))) sNil))))) sNil))))))
noncomputable def g_law_good_yard : Fn := mkFn 3 5 b_law_good_yard
theorem ok_law_good_yard (T : Txt mg) (c_law_most : Cal P w K mg base 3 "_law_most" 1 g_law_most) (c_law_yard : Cal P w K mg base 3 "_law_yard" 3 g_law_yard) {f : Addr} {fd : FuncData} (F : Fun K "_law_good_yard" "_law_good_yard" s_law_good_yard f fd) : FnOk P w K mg base CX0 4 f fd ["bag", "seats_so", "hours"] (spF K 3 g_law_good_yard) := by
  have nd := sc_law_good_yard.nd
  refine fn_ok (N := N_law_good_yard) F sc_law_good_yard fun cdv A outer s H E hr => ?_
  exact (pSs_cons (pS_for (t := (.nm 3)) PassesOwn.never rfl (pI_rng1 (by rfl) T.b_range (pA_cons pE_int pA_nil)) (pg_name (i := 3) nd rfl (by first | exact Or.inl rfl | exact Or.inr rfl))
    (pSs_cons (pS_set (i := 4) nd rfl (by first | exact Or.inl rfl | exact Or.inr rfl) (pE_call c_law_yard (hr.mono (by decide)) (by rfl) (pA_cons (pE_var (pv 0)) (pA_cons (pE_var (pv 1)) (pA_cons (pE_var (pv 2)) pA_nil)))))
    (pSs_one (pS_if (pT_cmp op_gt o2_cmp (pE_call c_law_most (hr.mono (by decide)) (by rfl) (pA_cons (pE_var (pv 4)) pA_nil)) pE_int (nomark _))
    (pSs_one (pS_ret (pE_var (pv 4))))
    pSs_nil))))
    (pSs_one (pS_ret (pE_tup (pA_cons (pE_var (pv 1)) (pA_cons (pE_tup (pA_cons (pE_tup (pA_cons pE_int (pA_cons pE_int pA_nil))) (pA_cons (pE_tup (pA_cons (pE_var (pv 1)) (pA_cons pE_int pA_nil))) pA_nil))) (pA_cons (pE_tup (pA_cons (pE_tup (pA_cons pE_str (pA_cons (pE_tup (pA_cons pE_int (pA_cons pE_int pA_nil))) pA_nil))) (pA_cons (pE_tup (pA_cons pE_str (pA_cons (pE_tup (pA_cons pE_int (pA_cons pE_int pA_nil))) pA_nil))) (pA_cons (pE_tup (pA_cons pE_str (pA_cons (pE_tup (pA_cons pE_int (pA_cons pE_int pA_nil))) pA_nil))) (pA_cons (pE_tup (pA_cons pE_str (pA_cons (pE_tup (pA_cons pE_int (pA_cons pE_int pA_nil))) pA_nil))) pA_nil))))) pA_nil)))))))
theorem cal_law_good_yard (T : Txt mg) (c_law_most : Cal P w K mg base 3 "_law_most" 1 g_law_most) (c_law_yard : Cal P w K mg base 3 "_law_yard" 3 g_law_yard) {f : Addr} {fd : FuncData} (F : Fun K "_law_good_yard" "_law_good_yard" s_law_good_yard f fd) (hm : mg "_law_good_yard" = some (.ref f)) : Cal P w K mg base 4 "_law_good_yard" 3 g_law_good_yard :=
  ⟨f, fd, ["bag", "seats_so", "hours"], rfl, ok_law_good_yard T c_law_most c_law_yard F, hm, F.kp, F.binds (ps := ["bag", "seats_so", "hours"]) fun _ _ _ _ _ _ us hl => match us, hl with | [_, _, _], _ => rfl⟩
/-! ### is_shaded -/
abbrev s_is_shaded : Stmt := topS 11
abbrev N_is_shaded : List Str := ["yard", "seat", "hour", "side", "slant", "place", "height", "halves"]
theorem sc_is_shaded : FnScope N_is_shaded ["yard", "seat", "hour"] (defScope s_is_shaded) := ⟨rfl, rfl, rfl, by decide +kernel, rfl, by decide +kernel, by decide +kernel⟩
noncomputable def l_is_shaded_1 : Ss := (sSeq (sAsg (sIfE (sTst (s2 (fEq false) (sVar 3) (sC (.str "e")))) (s2 fSub (s2 fMul (sC (.int 2)) (s2 fSub (sVar 5) (sVar 1))) (sC (.int 1))) (s2 (fAdd false) (s2 fMul (sC (.int 2)) (s2 fSub (sVar 1) (sVar 5))) (sC (.int 1)))) (.nm 7))
    (sIf (sAnd (sTst (s2 fGt (sVar 7) (sC (.int 0)))) (sTst (s2 fLe (s2 fMul (sVar 7) (s2 fIx (sVar 4) (sC (.int 1)))) (s2 fMul (s2 fMul (sC (.int 2)) (sVar 6)) (s2 fIx (sVar 4) (sC (.int 0))))))) (sRet (sC (.bool true))) sSkip))
noncomputable def L_is_shaded_1 : Ss := sFor (sIt (s2 fIx (sVar 0) (sC (.int 1)))) (.tp [5, 6]) l_is_shaded_1
noncomputable def b_is_shaded : Ss := (sSeq (sAsg (s2 fIx (s2 fIx (sVar 0) (sC (.int 2))) (sVar 2)) (.tp [3, 4]))
    (sSeq L_is_shaded_1
    (sRet (sC (.bool false)))))
noncomputable def g_is_shaded : Fn := mkFn 3 8 b_is_shaded
theorem ok_is_shaded (T : Txt mg)  {f : Addr} {fd : FuncData} (F : Fun K "is_shaded" "is_shaded" s_is_shaded f fd) : FnOk P w K mg base CX0 1 f fd ["yard", "seat", "hour"] (spF K 3 g_is_shaded) := by
  have nd := sc_is_shaded.nd
  refine fn_ok (N := N_is_shaded) F sc_is_shaded fun cdv A outer s H E hr => ?_
  exact (pSs_cons (pS_asg (t := (.tp [3, 4])) (pE_ix ix_seq o2_ix (pE_ix ix_seq o2_ix (pE_var (pv 0)) pE_int) (pE_var (pv 2))) (pg_tup rfl (pgs_cons (pg_name (i := 3) nd rfl (by first | exact Or.inl rfl | exact Or.inr rfl)) (pgs_cons (pg_name (i := 4) nd rfl (by first | exact Or.inl rfl | exact Or.inr rfl)) pgs_nil))))
    (pSs_cons (pS_for (t := (.tp [5, 6])) PassesOwn.never rfl (pI_it (pE_ix ix_seq o2_ix (pE_var (pv 0)) pE_int)) (pg_tup rfl (pgs_cons (pg_name (i := 5) nd rfl (by first | exact Or.inl rfl | exact Or.inr rfl)) (pgs_cons (pg_name (i := 6) nd rfl (by first | exact Or.inl rfl | exact Or.inr rfl)) pgs_nil)))
    (pSs_cons (pS_set (i := 7) nd rfl (by first | exact Or.inl rfl | exact Or.inr rfl) (pE_ifE (pT_cmp (op_eqD hr.units) o2_eq (pE_var (pv 3)) pE_str (nomark _)) (pE_op op_sub o2_sub (pE_op op_mulU o2_mul pE_int (pE_op op_sub o2_sub (pE_var (pv 5)) (pE_var (pv 1)))) pE_int) (pE_op op_addU (o2_add (b := false)) (pE_op op_mulU o2_mul pE_int (pE_op op_sub o2_sub (pE_var (pv 1)) (pE_var (pv 5)))) pE_int)))
    (pSs_one (pS_if ((pT_and (pT_cmp op_gt o2_cmp (pE_var (pv 7)) pE_int (nomark _)) (pw_and1 (pT_cmp op_le o2_cmp (pE_op op_mulU o2_mul (pE_var (pv 7)) (pE_ix ix_seq o2_ix (pE_var (pv 4)) pE_int)) (pE_op op_mulU o2_mul (pE_op op_mulU o2_mul pE_int (pE_var (pv 6))) (pE_ix ix_seq o2_ix (pE_var (pv 4)) pE_int)) (nomark _))))).pt
    (pSs_one (pS_ret pE_bl))
    pSs_nil))))
    (pSs_one (pS_ret pE_bl))))
theorem cal_is_shaded (T : Txt mg)  {f : Addr} {fd : FuncData} (F : Fun K "is_shaded" "is_shaded" s_is_shaded f fd) (hm : mg "is_shaded" = some (.ref f)) : Cal P w K mg base 1 "is_shaded" 3 g_is_shaded :=
  ⟨f, fd, ["yard", "seat", "hour"], rfl, ok_is_shaded T  F, hm, F.kp, F.binds (ps := ["yard", "seat", "hour"]) fun _ _ _ _ _ _ us hl => match us, hl with | [_, _, _], _ => rfl⟩
/-! ### shaded -/
abbrev s_shaded : Stmt := topS 12
abbrev N_shaded : List Str := ["yard", "hour", "seat"]
theorem sc_shaded : FnScope N_shaded ["yard", "hour"] (defScope s_shaded) := ⟨rfl, rfl, rfl, by decide +kernel, rfl, by decide +kernel, by decide +kernel⟩
noncomputable def C_shaded_1 : Sm := sComp false (sRng1 (sCons (s2 fIx (sVar 0) (sC (.int 0))) sNil)) (.nm 2) (sTst (sCall 3 g_is_shaded (sCons (sVar 0) (sCons (sVar 2) (sCons (sVar 1) sNil))))) (sVar 2) [2]
noncomputable def b_shaded : Ss := (sRet C_shaded_1)
noncomputable def g_shaded : Fn := mkFn 2 3 b_shaded
theorem ok_shaded (T : Txt mg) (c_is_shaded : Cal P w K mg base 1 "is_shaded" 3 g_is_shaded) {f : Addr} {fd : FuncData} (F : Fun K "shaded" "shaded" s_shaded f fd) : FnOk P w K mg base CX0 2 f fd ["yard", "hour"] (spF K 2 g_shaded) := by
  have nd := sc_shaded.nd
  refine fn_ok (N := N_shaded) F sc_shaded fun cdv A outer s H E hr => ?_
  exact (pSs_one (pS_ret (pE_comp (own := [("seat", 2)]) (fl := false) (t := (.nm 2)) rfl nd (pI_rng1 (by rfl) T.b_range (pA_cons (pE_ix ix_seq o2_ix (pE_var (pv 0)) pE_int) pA_nil)) (blkOk_by (own := [("seat", 2)]) (N := N_shaded) (sc := defScope s_shaded) (by decide +kernel)) (fun _ _ _ _ _ => (pg_name (i := 2) nd rfl (by first | exact Or.inl rfl | exact Or.inr rfl))) (fun _ _ _ _ _ => (pTs_one (pT_tst (pE_call c_is_shaded (hr.mono (by decide)) (by rfl) (pA_cons (pE_var (pv 0)) (pA_cons (pE_var (pv 2)) (pA_cons (pE_var (pv 1)) pA_nil))))))) (fun _ _ _ _ _ => (pE_var (pv 2))) (by decide))))
theorem cal_shaded (T : Txt mg) (c_is_shaded : Cal P w K mg base 1 "is_shaded" 3 g_is_shaded) {f : Addr} {fd : FuncData} (F : Fun K "shaded" "shaded" s_shaded f fd) (hm : mg "shaded" = some (.ref f)) : Cal P w K mg base 2 "shaded" 2 g_shaded :=
  ⟨f, fd, ["yard", "hour"], rfl, ok_shaded T c_is_shaded F, hm, F.kp, F.binds (ps := ["yard", "hour"]) fun _ _ _ _ _ _ us hl => match us, hl with | [_, _], _ => rfl⟩
/-! ### most_sitters -/
abbrev s_most_sitters : Stmt := topS 14
abbrev N_most_sitters : List Str := ["yard", "hour"]
theorem sc_most_sitters : FnScope N_most_sitters ["yard"] (defScope s_most_sitters) := ⟨rfl, rfl, rfl, by decide +kernel, rfl, by decide +kernel, by decide +kernel⟩
noncomputable def C_most_sitters_1 : Sm := sComp false (sRng1 (sCons (sA fLen (sCons (s2 fIx (sVar 0) (sC (.int 2))) sNil)) sNil)) (.nm 1) sYes (sA fLen (sCons (sCall 2 g_shaded (sCons (sVar 0) (sCons (sVar 1) sNil))) sNil)) [1]
noncomputable def b_most_sitters : Ss := (sRet (sA fMin (sCons C_most_sitters_1 sNil)))
noncomputable def g_most_sitters : Fn := mkFn 1 2 b_most_sitters
theorem ok_most_sitters (T : Txt mg) (c_shaded : Cal P w K mg base 2 "shaded" 2 g_shaded) {f : Addr} {fd : FuncData} (F : Fun K "most_sitters" "most_sitters" s_most_sitters f fd) : FnOk P w K mg base CX0 3 f fd ["yard"] (spF K 1 g_most_sitters) := by
  have nd := sc_most_sitters.nd
  refine fn_ok (N := N_most_sitters) F sc_most_sitters fun cdv A outer s H E hr => ?_
  exact (pSs_one (pS_ret (pE_callB (call_minU rfl) opA_min (by rfl) T.b_min (by decide +kernel) (pA_cons (pE_comp (own := [("hour", 1)]) (fl := false) (t := (.nm 1)) rfl nd (pI_rng1 (by rfl) T.b_range (pA_cons (pE_callB call_len opA_len (by rfl) T.b_len (by decide +kernel) (pA_cons (pE_ix ix_seq o2_ix (pE_var (pv 0)) pE_int) pA_nil)) pA_nil)) (blkOk_by (own := [("hour", 1)]) (N := N_most_sitters) (sc := defScope s_most_sitters) (by decide +kernel)) (fun _ _ _ _ _ => (pg_name (i := 1) nd rfl (by first | exact Or.inl rfl | exact Or.inr rfl))) (fun _ _ _ _ _ => pTs_nil) (fun _ _ _ _ _ => (pE_callB call_len opA_len (by rfl) T.b_len (by decide +kernel) (pA_cons (pE_call c_shaded (hr.mono (by decide)) (by rfl) (pA_cons (pE_var (pv 0)) (pA_cons (pE_var (pv 1)) pA_nil))) pA_nil))) (by decide)) pA_nil))))
theorem cal_most_sitters (T : Txt mg) (c_shaded : Cal P w K mg base 2 "shaded" 2 g_shaded) {f : Addr} {fd : FuncData} (F : Fun K "most_sitters" "most_sitters" s_most_sitters f fd) (hm : mg "most_sitters" = some (.ref f)) : Cal P w K mg base 3 "most_sitters" 1 g_most_sitters :=
  ⟨f, fd, ["yard"], rfl, ok_most_sitters T c_shaded F, hm, F.kp, F.binds (ps := ["yard"]) fun _ _ _ _ _ _ us hl => match us, hl with | [_], _ => rfl⟩
/-! ### goings -/
abbrev s_goings : Stmt := topS 15
abbrev N_goings : List Str := ["seats", "later", "seat"]
theorem sc_goings : FnScope N_goings ["seats", "later"] (defScope s_goings) := ⟨rfl, rfl, rfl, by decide +kernel, rfl, by decide +kernel, by decide +kernel⟩
noncomputable def C_goings_1 : Sm := sComp false (sIt (sVar 1)) (.nm 2) (sTst (s2 (fIn true) (sVar 2) (sVar 0))) (sVar 2) [2]
noncomputable def b_goings : Ss := (sRet (sA fLen (sCons C_goings_1 sNil)))
noncomputable def g_goings : Fn := mkFn 2 3 b_goings
theorem ok_goings (T : Txt mg)  {f : Addr} {fd : FuncData} (F : Fun K "goings" "goings" s_goings f fd) : FnOk P w K mg base CX0 1 f fd ["seats", "later"] (spF K 2 g_goings) := by
  have nd := sc_goings.nd
  refine fn_ok (N := N_goings) F sc_goings fun cdv A outer s H E hr => ?_
  exact (pSs_one (pS_ret (pE_callB call_len opA_len (by rfl) T.b_len (by decide +kernel) (pA_cons (pE_comp (own := [("seat", 2)]) (fl := false) (t := (.nm 2)) rfl nd (pI_it (pE_var (pv 1))) (blkOk_by (own := [("seat", 2)]) (N := N_goings) (sc := defScope s_goings) (by decide +kernel)) (fun _ _ _ _ _ => (pg_name (i := 2) nd rfl (by first | exact Or.inl rfl | exact Or.inr rfl))) (fun _ _ _ _ _ => (pTs_one (pT_cmp op_notIn_seq o2_notin (pE_var (pv 2)) (pE_var (pv 0)) (by rfl)))) (fun _ _ _ _ _ => (pE_var (pv 2))) (by decide)) pA_nil))))
theorem cal_goings (T : Txt mg)  {f : Addr} {fd : FuncData} (F : Fun K "goings" "goings" s_goings f fd) (hm : mg "goings" = some (.ref f)) : Cal P w K mg base 1 "goings" 2 g_goings :=
  ⟨f, fd, ["seats", "later"], rfl, ok_goings T  F, hm, F.kp, F.binds (ps := ["seats", "later"]) fun _ _ _ _ _ _ us hl => match us, hl with | [_, _], _ => rfl⟩
/-! ### table -/
abbrev s_table : Stmt := topS 17
abbrev N_table : List Str := ["hours", "begin", "rows", "lot", "lots", "last", "here", "before"]
theorem sc_table : FnScope N_table ["hours", "begin"] (defScope s_table) := ⟨rfl, rfl, rfl, by decide +kernel, rfl, by decide +kernel, by decide +kernel⟩
noncomputable def C_table_1 : Sm := sComp false (sKeys (mkVar 5)) (.nm 7) sYes (sA fTup (sCons (s2 (fAdd false) (s2 fIx (s2 fDGet (sVar 5) (sVar 7)) (sC (.int 0))) (sCall 2 g_goings (sCons (sVar 7) (sCons (sVar 3) sNil)))) (sCons (sVar 7) sNil))) [7]
noncomputable def l_table_1 : Ss := (sStD (sVar 6) (sVar 3) (sA fMinP (sCons C_table_1 sNil)))
noncomputable def L_table_1 : Ss := sFor (sIt (sVar 4)) (.nm 3) l_table_1
noncomputable def l_table_2 : Ss := (sSeq (sAsg (s2 fIx (sVar 2) (s1 fNeg (sC (.int 1)))) (.nm 5))
    (sSeq (sAsg sNewT (.nm 6))
    (sSeq L_table_1
    (sExpr (sMet fApp (sVar 2) (sCons (sFz (sVar 6)) sNil))))))
noncomputable def L_table_2 : Ss := sFor (sIt (sVar 0)) (.nm 4) l_table_2
noncomputable def C_table_2 : Sm := sDcT (sIt (sVar 1)) (.nm 3) sYes (sVar 3) (sA fTup (sCons (sA fLen (sCons (sVar 3) sNil)) (sCons (sA fTup sNil) sNil))) [3]
noncomputable def b_table : Ss := (sSeq (sAsg (sA (fLst true) (sCons C_table_2 sNil)) (.nm 2))
    (sSeq L_table_2
    (sRet (sFz (sVar 2)))))
noncomputable def g_table : Fn := mkFn 2 8 b_table
theorem ok_table (T : Txt mg) (c_goings : Cal P w K mg base 1 "goings" 2 g_goings) {f : Addr} {fd : FuncData} (F : Fun K "table" "table" s_table f fd) : FnOk P w K mg base CX0 2 f fd ["hours", "begin"] (spF K 2 g_table) := by
  have nd := sc_table.nd
  refine fn_ok (N := N_table) F sc_table fun cdv A outer s H E hr => ?_
  exact (pSs_cons (pS_set (i := 2) nd rfl (by first | exact Or.inl rfl | exact Or.inr rfl) (pE_lst (b := true) (pA_cons (pE_dcT (own := [("lot", 3)]) (t := (.nm 3)) (hu_of hr) rfl nd (pI_it (pE_var (pv 1))) (blkOk_by (own := [("lot", 3)]) (N := N_table) (sc := defScope s_table) (by decide +kernel)) (fun _ _ _ _ _ => (pg_name (i := 3) nd rfl (by first | exact Or.inl rfl | exact Or.inr rfl))) (fun _ _ _ _ _ => pTs_nil) (fun _ _ _ _ _ => (pE_var (pv 3))) (fun _ _ _ _ _ => (pE_tup (pA_cons (pE_callB call_len opA_len (by rfl) T.b_len (by decide +kernel) (pA_cons (pE_var (pv 3)) pA_nil)) (pA_cons (pE_tup pA_nil) pA_nil)))) (by decide)) pA_nil)))
    (pSs_cons (pS_for (t := (.nm 4)) PassesOwn.never rfl (pI_it (pE_var (pv 0))) (pg_name (i := 4) nd rfl (by first | exact Or.inl rfl | exact Or.inr rfl))
    (pSs_cons (pS_set (i := 5) nd rfl (by first | exact Or.inl rfl | exact Or.inr rfl) (pE_ix ix_seq o2_ix (pE_var (pv 2)) (pE_un un_neg o1_neg pE_int)))
    (pSs_cons (pS_set (i := 6) nd rfl (by first | exact Or.inl rfl | exact Or.inr rfl) pE_newT)
    (pSs_cons (pS_for (t := (.nm 3)) PassesOwn.never rfl (pI_it (pE_var (pv 4))) (pg_name (i := 3) nd rfl (by first | exact Or.inl rfl | exact Or.inr rfl))
    (pSs_one (pS_stD (hu_of hr) (pE_callB (call_minP rfl hr) opA_minP (by rfl) T.b_min (by decide +kernel) (pA_cons (pE_compK (own := [("before", 7)]) (fl := false) (t := (.nm 7)) (keys_var 5) rfl nd (pv 5) (blkOk_by (own := [("before", 7)]) (N := N_table) (sc := defScope s_table) (by decide +kernel)) (fun _ _ _ _ _ => (pg_name (i := 7) nd rfl (by first | exact Or.inl rfl | exact Or.inr rfl))) (fun _ _ _ _ _ => pTs_nil) (fun _ _ _ _ _ => (pE_tup (pA_cons (pE_op op_addU (o2_add (b := false)) (pE_ix ix_seq o2_ix (pE_dget (hu_of hr) (pE_var (pv 5)) (pE_var (pv 7))) pE_int) (pE_call c_goings (hr.mono (by decide)) (by rfl) (pA_cons (pE_var (pv 7)) (pA_cons (pE_var (pv 3)) pA_nil)))) (pA_cons (pE_var (pv 7)) pA_nil)))) (by decide)) pA_nil)) (pE_var (pv 6)) (pE_var (pv 3)))))
    (pSs_one (pS_expr (pE_app (pE_var (pv 2)) (pA_cons (pE_fz (pE_var (pv 6))) pA_nil))))))))
    (pSs_one (pS_ret (pE_fz (pE_var (pv 2)))))))
theorem cal_table (T : Txt mg) (c_goings : Cal P w K mg base 1 "goings" 2 g_goings) {f : Addr} {fd : FuncData} (F : Fun K "table" "table" s_table f fd) (hm : mg "table" = some (.ref f)) : Cal P w K mg base 2 "table" 2 g_table :=
  ⟨f, fd, ["hours", "begin"], rfl, ok_table T c_goings F, hm, F.kp, F.binds (ps := ["hours", "begin"]) fun _ _ _ _ _ _ us hl => match us, hl with | [_, _], _ => rfl⟩
/-! ### best -/
abbrev s_best : Stmt := topS 18
abbrev N_best : List Str := ["hours", "begin", "rows", "number", "lot", "seating", "here"]
theorem sc_best : FnScope N_best ["hours", "begin"] (defScope s_best) := ⟨rfl, rfl, rfl, by decide +kernel, rfl, by decide +kernel, by decide +kernel⟩
noncomputable def l_best_1 : Ss := (sExpr (sMet fApp (sVar 5) (sCons (s2 fIx (s2 fDGet (sVar 6) (s2 fIx (sVar 5) (s1 fNeg (sC (.int 1))))) (sC (.int 1))) sNil)))
noncomputable def L_best_1 : Ss := sFor (sRev (sSl false (sVar 2) (sPart (sC (.int 1))) sNoP)) (.nm 6) l_best_1
noncomputable def C_best_1 : Sm := sComp false (sKeys (mkLast 2)) (.nm 4) sYes (sA fTup (sCons (s2 fIx (s2 fDGet (s2 fIx (sVar 2) (s1 fNeg (sC (.int 1)))) (sVar 4)) (sC (.int 0))) (sCons (sVar 4) sNil))) [4]
noncomputable def b_best : Ss := (sSeq (sAsg (sCall 2 g_table (sCons (sVar 0) (sCons (sVar 1) sNil))) (.nm 2))
    (sSeq (sAsg (sA fMinP (sCons C_best_1 sNil)) (.tp [3, 4]))
    (sSeq (sAsg (sA (fLst true) (sCons (sVar 4) sNil)) (.nm 5))
    (sSeq L_best_1
    (sRet (sA fTup (sCons (sVar 3) (sCons (s1 fTupRev (sVar 5)) sNil))))))))
noncomputable def g_best : Fn := mkFn 2 7 b_best
theorem ok_best (T : Txt mg) (c_table : Cal P w K mg base 2 "table" 2 g_table) {f : Addr} {fd : FuncData} (F : Fun K "best" "best" s_best f fd) : FnOk P w K mg base CX0 3 f fd ["hours", "begin"] (spF K 2 g_best) := by
  have nd := sc_best.nd
  refine fn_ok (N := N_best) F sc_best fun cdv A outer s H E hr => ?_
  exact (pSs_cons (pS_set (i := 2) nd rfl (by first | exact Or.inl rfl | exact Or.inr rfl) (pE_call c_table (hr.mono (by decide)) (by rfl) (pA_cons (pE_var (pv 0)) (pA_cons (pE_var (pv 1)) pA_nil))))
    (pSs_cons (pS_asg (t := (.tp [3, 4])) (pE_callB (call_minP rfl hr) opA_minP (by rfl) T.b_min (by decide +kernel) (pA_cons (pE_compK (own := [("lot", 4)]) (fl := false) (t := (.nm 4)) (keys_last 2) rfl nd (pe_last (pv 2)) (blkOk_by (own := [("lot", 4)]) (N := N_best) (sc := defScope s_best) (by decide +kernel)) (fun _ _ _ _ _ => (pg_name (i := 4) nd rfl (by first | exact Or.inl rfl | exact Or.inr rfl))) (fun _ _ _ _ _ => pTs_nil) (fun _ _ _ _ _ => (pE_tup (pA_cons (pE_ix ix_seq o2_ix (pE_dget (hu_of hr) (pE_ix ix_seq o2_ix (pE_var (pv 2)) (pE_un un_neg o1_neg pE_int)) (pE_var (pv 4))) pE_int) (pA_cons (pE_var (pv 4)) pA_nil)))) (by decide)) pA_nil)) (pg_tup rfl (pgs_cons (pg_name (i := 3) nd rfl (by first | exact Or.inl rfl | exact Or.inr rfl)) (pgs_cons (pg_name (i := 4) nd rfl (by first | exact Or.inl rfl | exact Or.inr rfl)) pgs_nil))))
    (pSs_cons (pS_set (i := 5) nd rfl (by first | exact Or.inl rfl | exact Or.inr rfl) (pE_lst (b := true) (pA_cons (pE_var (pv 4)) pA_nil)))
    (pSs_cons (pS_for (t := (.nm 6)) PassesOwn.never rfl (pI_rev (by rfl) T.b_reversed (pE_sl (fl := false) (pE_var (pv 2)) (pO_some pE_int) pO_none)) (pg_name (i := 6) nd rfl (by first | exact Or.inl rfl | exact Or.inr rfl))
    (pSs_one (pS_expr (pE_app (pE_var (pv 5)) (pA_cons (pE_ix ix_seq o2_ix (pE_dget (hu_of hr) (pE_var (pv 6)) (pE_ix ix_seq o2_ix (pE_var (pv 5)) (pE_un un_neg o1_neg pE_int))) pE_int) pA_nil)))))
    (pSs_one (pS_ret (pE_tup (pA_cons (pE_var (pv 3)) (pA_cons (pE_tupRev rfl (by rfl) T.b_tuple (by rfl) T.b_reversed (pE_var (pv 5))) pA_nil)))))))))
theorem cal_best (T : Txt mg) (c_table : Cal P w K mg base 2 "table" 2 g_table) {f : Addr} {fd : FuncData} (F : Fun K "best" "best" s_best f fd) (hm : mg "best" = some (.ref f)) : Cal P w K mg base 3 "best" 2 g_best :=
  ⟨f, fd, ["hours", "begin"], rfl, ok_best T c_table F, hm, F.kp, F.binds (ps := ["hours", "begin"]) fun _ _ _ _ _ _ us hl => match us, hl with | [_, _], _ => rfl⟩
/-! ### lots_of -/
abbrev s_lots_of : Stmt := topS 16
abbrev N_lots_of : List Str := ["some", "many", "found", "one", "lot"]
theorem sc_lots_of : FnScope N_lots_of ["some", "many"] (defScope s_lots_of) := ⟨rfl, rfl, rfl, by decide +kernel, rfl, by decide +kernel, by decide +kernel⟩
noncomputable def C_lots_of_1 : Sm := sComp false (sIt (sVar 2)) (.nm 4) (sTst (s2 (fEq false) (sA fLen (sCons (sVar 4) sNil)) (sVar 1))) (sVar 4) [4]
noncomputable def C_lots_of_2 : Sm := sComp false (sIt (sVar 2)) (.nm 4) (sTst (s2 fLt (sA fLen (sCons (sVar 4) sNil)) (sVar 1))) (s2 (fAdd false) (sVar 4) (sA fTup (sCons (sVar 3) sNil))) [4]
noncomputable def l_lots_of_1 : Ss := (sAug 2 fAug C_lots_of_2)
noncomputable def L_lots_of_1 : Ss := sFor (sIt (sVar 0)) (.nm 3) l_lots_of_1
noncomputable def b_lots_of : Ss := (sSeq (sAsg (sA (fLst true) (sCons (sA fTup sNil) sNil)) (.nm 2))
    (sSeq L_lots_of_1
    (sRet C_lots_of_1)))
noncomputable def g_lots_of : Fn := mkFn 2 5 b_lots_of
theorem ok_lots_of (T : Txt mg)  {f : Addr} {fd : FuncData} (F : Fun K "lots_of" "lots_of" s_lots_of f fd) : FnOk P w K mg base CX0 1 f fd ["some", "many"] (spF K 2 g_lots_of) := by
  have nd := sc_lots_of.nd
  refine fn_ok (N := N_lots_of) F sc_lots_of fun cdv A outer s H E hr => ?_
  exact (pSs_cons (pS_set (i := 2) nd rfl (by first | exact Or.inl rfl | exact Or.inr rfl) (pE_lst (b := true) (pA_cons (pE_tup pA_nil) pA_nil)))
    (pSs_cons (pS_for (t := (.nm 3)) PassesOwn.never rfl (pI_it (pE_var (pv 0))) (pg_name (i := 3) nd rfl (by first | exact Or.inl rfl | exact Or.inr rfl))
    (pSs_one (pS_aug (i := 2) nd rfl (by first | exact Or.inl rfl | exact Or.inr rfl) (pE_comp (own := [("lot", 4)]) (fl := false) (t := (.nm 4)) rfl nd (pI_it (pE_var (pv 2))) (blkOk_by (own := [("lot", 4)]) (N := N_lots_of) (sc := defScope s_lots_of) (by decide +kernel)) (fun _ _ _ _ _ => (pg_name (i := 4) nd rfl (by first | exact Or.inl rfl | exact Or.inr rfl))) (fun _ _ _ _ _ => (pTs_one (pT_cmp op_lt o2_cmp (pE_callB call_len opA_len (by rfl) T.b_len (by decide +kernel) (pA_cons (pE_var (pv 4)) pA_nil)) (pE_var (pv 1)) (nomark _)))) (fun _ _ _ _ _ => (pE_op op_addU (o2_add (b := false)) (pE_var (pv 4)) (pE_tup (pA_cons (pE_var (pv 3)) pA_nil)))) (by decide)) op_augU o2_aug)))
    (pSs_one (pS_ret (pE_comp (own := [("lot", 4)]) (fl := false) (t := (.nm 4)) rfl nd (pI_it (pE_var (pv 2))) (blkOk_by (own := [("lot", 4)]) (N := N_lots_of) (sc := defScope s_lots_of) (by decide +kernel)) (fun _ _ _ _ _ => (pg_name (i := 4) nd rfl (by first | exact Or.inl rfl | exact Or.inr rfl))) (fun _ _ _ _ _ => (pTs_one (pT_cmp (op_eqD hr.units) o2_eq (pE_callB call_len opA_len (by rfl) T.b_len (by decide +kernel) (pA_cons (pE_var (pv 4)) pA_nil)) (pE_var (pv 1)) (nomark _)))) (fun _ _ _ _ _ => (pE_var (pv 4))) (by decide))))))
theorem cal_lots_of (T : Txt mg)  {f : Addr} {fd : FuncData} (F : Fun K "lots_of" "lots_of" s_lots_of f fd) (hm : mg "lots_of" = some (.ref f)) : Cal P w K mg base 1 "lots_of" 2 g_lots_of :=
  ⟨f, fd, ["some", "many"], rfl, ok_lots_of T  F, hm, F.kp, F.binds (ps := ["some", "many"]) fun _ _ _ _ _ _ us hl => match us, hl with | [_, _], _ => rfl⟩
/-! ### fewest -/
abbrev s_fewest : Stmt := topS 19
abbrev N_fewest : List Str := ["yard", "many", "first", "hours", "hour"]
theorem sc_fewest : FnScope N_fewest ["yard", "many", "first"] (defScope s_fewest) := ⟨rfl, rfl, rfl, by decide +kernel, rfl, by decide +kernel, by decide +kernel⟩
noncomputable def C_fewest_1 : Sm := sComp false (sRng1 (sCons (sA fLen (sCons (s2 fIx (sVar 0) (sC (.int 2))) sNil)) sNil)) (.nm 4) sYes (sCall 2 g_lots_of (sCons (sCall 2 g_shaded (sCons (sVar 0) (sCons (sVar 4) sNil))) (sCons (sVar 1) sNil))) [4]
noncomputable def b_fewest : Ss := (sSeq (sAsg C_fewest_1 (.nm 3))
    (sRet (sCall 2 g_best (sCons (sSl false (sVar 3) (sPart (sC (.int 1))) sNoP) (sCons (sIfE (sTst (s2 (fIs false) (sVar 2) (sC .none))) (s2 fIx (sVar 3) (sC (.int 0))) (sA (fLst false) (sCons (sVar 2) sNil))) sNil)))))
noncomputable def g_fewest : Fn := mkFn 3 5 b_fewest
theorem ok_fewest (T : Txt mg) (c_best : Cal P w K mg base 3 "best" 2 g_best) (c_lots_of : Cal P w K mg base 1 "lots_of" 2 g_lots_of) (c_shaded : Cal P w K mg base 2 "shaded" 2 g_shaded) {f : Addr} {fd : FuncData} (F : Fun K "fewest" "fewest" s_fewest f fd) : FnOk P w K mg base CX0 4 f fd ["yard", "many", "first"] (spF K 3 g_fewest) := by
  have nd := sc_fewest.nd
  refine fn_ok (N := N_fewest) F sc_fewest fun cdv A outer s H E hr => ?_
  exact (pSs_cons (pS_setComp (i := 3) (own := [("hour", 4)]) (fl := false) (t := (.nm 4)) rfl nd rfl rfl (sw_true rfl rfl rfl (by decide +kernel)) (pI_rng1 (by rfl) T.b_range (pA_cons (pE_callB call_len opA_len (by rfl) T.b_len (by decide +kernel) (pA_cons (pE_ix ix_seq o2_ix (pE_var (pv 0)) pE_int) pA_nil)) pA_nil)) (blkOk_by (own := [("hour", 4)]) (N := N_fewest) (sc := defScope s_fewest) (by decide +kernel)) (fun _ _ _ _ _ => (pg_name (i := 4) nd rfl (by first | exact Or.inl rfl | exact Or.inr rfl))) (fun _ _ _ _ _ => pTs_nil) (fun _ _ _ _ _ => (pE_call c_lots_of (hr.mono (by decide)) (by rfl) (pA_cons (pE_call c_shaded (hr.mono (by decide)) (by rfl) (pA_cons (pE_var (pv 0)) (pA_cons (pE_var (pv 4)) pA_nil))) (pA_cons (pE_var (pv 1)) pA_nil)))) (by decide))
    (pSs_one (pS_ret (pE_call c_best (hr.mono (by decide)) (by rfl) (pA_cons (pE_sl (fl := false) (pE_var (pv 3)) (pO_some pE_int) pO_none) (pA_cons (pE_ifE (pT_cmp op_isU o2_is (pE_var (pv 2)) pE_non (nomark _)) (pE_ix ix_seq o2_ix (pE_var (pv 3)) pE_int) (pE_lst (b := false) (pA_cons (pE_var (pv 2)) pA_nil))) pA_nil))))))
theorem cal_fewest (T : Txt mg) (c_best : Cal P w K mg base 3 "best" 2 g_best) (c_lots_of : Cal P w K mg base 1 "lots_of" 2 g_lots_of) (c_shaded : Cal P w K mg base 2 "shaded" 2 g_shaded) {f : Addr} {fd : FuncData} (F : FunD K "fewest" "fewest" (defArgs s_fewest) (defBody s_fewest) (defScope s_fewest) [] [("first", .non)] f fd) (hm : mg "fewest" = some (.ref f)) : CalD P w K mg base 4 "fewest" 2 "first" g_fewest := by
  obtain ⟨dv, v1, v2⟩ := F.binds0 (ps := ["yard", "many", "first"]) 2 (by simp) rfl fun D doc pm an cdv ct us ks h1 h2 => match us, ks, h1, h2 with
    | [_, _], [_], _, _ => ⟨_, _, _, _, _, _, rfl, rfl, rfl⟩
  exact ⟨f, fd, ["yard", "many", "first"], dv, rfl, ok_fewest T c_best c_lots_of c_shaded (FunD.noD F), hm, F.kp, v1, v2, kb_of F fun kV doc pm an cdv ct us ws h1 h2 => match us, ws, h1, h2 with
    | [_, _], [_], _, _ => rfl⟩
/-! ### the law's count -/
abbrev s_law_count : Stmt := topS 30
abbrev N_law_count : List Str := ["yard", "many"]
theorem sc_law_count : FnScope N_law_count ["yard", "many"] (defScope s_law_count) := ⟨rfl, rfl, rfl, by decide +kernel, rfl, by decide +kernel, by decide +kernel⟩
noncomputable def b_law_count : Ss := (sRet (s2 fIx (sCallD 2 g_fewest (sCons (sVar 0) (sCons (sVar 1) sNil))) (sC (.int 0))))
noncomputable def g_law_count : Fn := mkFn 2 2 b_law_count
theorem ok_law_count (T : Txt mg) (c_fewest : CalD P w K mg base 4 "fewest" 2 "first" g_fewest) {f : Addr} {fd : FuncData} (F : Fun K "_law_count" "_law_count" s_law_count f fd) : FnOk P w K mg base CX0 5 f fd ["yard", "many"] (spF K 2 g_law_count) := by
  have nd := sc_law_count.nd
  refine fn_ok (N := N_law_count) F sc_law_count fun cdv A outer s H E hr => ?_
  exact (pSs_one (pS_ret (pE_ix ix_seq o2_ix (pE_callD c_fewest (hr.mono (by decide)) (by rfl) (pA_cons (pE_var (pv 0)) (pA_cons (pE_var (pv 1)) pA_nil))) pE_int)))
theorem cal_law_count (T : Txt mg) (c_fewest : CalD P w K mg base 4 "fewest" 2 "first" g_fewest) {f : Addr} {fd : FuncData} (F : Fun K "_law_count" "_law_count" s_law_count f fd) (hm : mg "_law_count" = some (.ref f)) : Cal P w K mg base 5 "_law_count" 2 g_law_count :=
  ⟨f, fd, ["yard", "many"], rfl, ok_law_count T c_fewest F, hm, F.kp, F.binds (ps := ["yard", "many"]) fun _ _ _ _ _ _ us hl => match us, hl with | [_, _], _ => rfl⟩
/-! ### the law's wider -/
abbrev s_law_wider : Stmt := topS 31
abbrev N_law_wider : List Str := ["bag", "yard", "seats_so", "walls", "sun", "found", "at", "place", "height", "wall"]
theorem sc_law_wider : FnScope N_law_wider ["bag", "yard"] (defScope s_law_wider) := ⟨rfl, rfl, rfl, by decide +kernel, rfl, by decide +kernel, by decide +kernel⟩
noncomputable def C_law_wider_1 : Sm := sComp false (sIt (sVar 3)) (.nm 9) sYes (s2 fIx (sVar 9) (sC (.int 0))) [9]
noncomputable def b_law_wider : Ss := (sSeq (sAsg (sVar 1) (.tp [2, 3, 4]))
    (sSeq (sAsg (sA (fLst true) (sCons (sA fTup (sCons (sA fMin (sCons (sC (.int 8)) (sCons (s2 (fAdd false) (sVar 2) (sC (.int 1))) sNil))) (sCons (sVar 3) (sCons (sVar 4) sNil)))) sNil)) (.nm 5))
    (sSeq (sIf (sTst (s2 (fEq true) (sVar 3) (sA fTup sNil))) (sSeq (sAsg (sCall 2 g_law_take (sCons (sVar 0) (sCons (sA fLen (sCons (sVar 3) sNil)) sNil))) (.nm 6))
    (sSeq (sAsg (s2 fIx (sVar 3) (sVar 6)) (.tp [7, 8]))
    (sExpr (sMet fApp (sVar 5) (sCons (sA fTup (sCons (sVar 2) (sCons (s2 (fAdd false) (s2 (fAdd false) (sSl false (sVar 3) sNoP (sPart (sVar 6))) (sA fTup (sCons (sA fTup (sCons (sVar 7) (sCons (sA fMin (sCons (sC (.int 9)) (sCons (s2 (fAdd false) (s2 (fAdd false) (sVar 8) (sC (.int 1))) (sCall 2 g_law_take (sCons (sVar 0) (sCons (sC (.int 3)) sNil)))) sNil))) sNil))) sNil))) (sSl false (sVar 3) (sPart (s2 (fAdd false) (sVar 6) (sC (.int 1)))) sNoP)) (sCons (sVar 4) sNil)))) sNil))))) sSkip)
    (sSeq (sAsg (sCall 2 g_law_take (sCons (sVar 0) (sCons (s2 (fAdd false) (sVar 2) (sC (.int 1))) sNil))) (.nm 7))
    (sSeq (sIf (sAnd (sTst (s2 (fIn true) (sVar 7) C_law_wider_1)) (sTst (s2 fLt (sA fLen (sCons (sVar 3) sNil)) (sC (.int 8))))) (sExpr (sMet fApp (sVar 5) (sCons (sA fTup (sCons (sVar 2) (sCons (sA fTupOf (sCons (sA (fSortQ false) (sCons (s2 (fAdd false) (sVar 3) (sA fTup (sCons (sA fTup (sCons (sVar 7) (sCons (s2 (fAdd false) (sC (.int 1)) (sCall 2 g_law_take (sCons (sVar 0) (sCons (sC (.int 9)) sNil)))) sNil))) sNil))) sNil)) sNil)) (sCons (sVar 4) sNil)))) sNil))) sSkip)
    (sRet (sFz (sVar 5))))))))
noncomputable def g_law_wider : Fn := mkFn 2 10 b_law_wider
theorem ok_law_wider (T : Txt mg) (c_law_take : Cal P w K mg base 1 "_law_take" 2 g_law_take) {f : Addr} {fd : FuncData} (F : Fun K "_law_wider" "_law_wider" s_law_wider f fd) : FnOk P w K mg base CX0 2 f fd ["bag", "yard"] (spF K 2 g_law_wider) := by
  have nd := sc_law_wider.nd
  refine fn_ok (N := N_law_wider) F sc_law_wider fun cdv A outer s H E hr => ?_
  exact (pSs_cons (pS_asg (t := (.tp [2, 3, 4])) (pE_var (pv 1)) (pg_tup rfl (pgs_cons (pg_name (i := 2) nd rfl (by first | exact Or.inl rfl | exact Or.inr rfl)) (pgs_cons (pg_name (i := 3) nd rfl (by first | exact Or.inl rfl | exact Or.inr rfl)) (pgs_cons (pg_name (i := 4) nd rfl (by first | exact Or.inl rfl | exact Or.inr rfl)) pgs_nil)))))
    (pSs_cons (pS_set (i := 5) nd rfl (by first | exact Or.inl rfl | exact Or.inr rfl) (pE_lst (b := true) (pA_cons (pE_tup (pA_cons (pE_callB (call_minU rfl) opA_min (by rfl) T.b_min (by decide +kernel) (pA_cons pE_int (pA_cons (pE_op op_addU (o2_add (b := false)) (pE_var (pv 2)) pE_int) pA_nil))) (pA_cons (pE_var (pv 3)) (pA_cons (pE_var (pv 4)) pA_nil)))) pA_nil)))
    (pSs_cons (pS_if (pT_cmp (op_neD hr.units) o2_ne (pE_var (pv 3)) (pE_tup pA_nil) (nomark _))
    (pSs_cons (pS_set (i := 6) nd rfl (by first | exact Or.inl rfl | exact Or.inr rfl) (pE_call c_law_take (hr.mono (by decide)) (by rfl) (pA_cons (pE_var (pv 0)) (pA_cons (pE_callB call_len opA_len (by rfl) T.b_len (by decide +kernel) (pA_cons (pE_var (pv 3)) pA_nil)) pA_nil))))
    (pSs_cons (pS_asg (t := (.tp [7, 8])) (pE_ix ix_seq o2_ix (pE_var (pv 3)) (pE_var (pv 6))) (pg_tup rfl (pgs_cons (pg_name (i := 7) nd rfl (by first | exact Or.inl rfl | exact Or.inr rfl)) (pgs_cons (pg_name (i := 8) nd rfl (by first | exact Or.inl rfl | exact Or.inr rfl)) pgs_nil))))
    (pSs_one (pS_expr (pE_app (pE_var (pv 5)) (pA_cons (pE_tup (pA_cons (pE_var (pv 2)) (pA_cons (pE_op op_addU (o2_add (b := false)) (pE_op op_addU (o2_add (b := false)) (pE_sl (fl := false) (pE_var (pv 3)) pO_none (pO_some (pE_var (pv 6)))) (pE_tup (pA_cons (pE_tup (pA_cons (pE_var (pv 7)) (pA_cons (pE_callB (call_minU rfl) opA_min (by rfl) T.b_min (by decide +kernel) (pA_cons pE_int (pA_cons (pE_op op_addU (o2_add (b := false)) (pE_op op_addU (o2_add (b := false)) (pE_var (pv 8)) pE_int) (pE_call c_law_take (hr.mono (by decide)) (by rfl) (pA_cons (pE_var (pv 0)) (pA_cons pE_int pA_nil)))) pA_nil))) pA_nil))) pA_nil))) (pE_sl (fl := false) (pE_var (pv 3)) (pO_some (pE_op op_addU (o2_add (b := false)) (pE_var (pv 6)) pE_int)) pO_none)) (pA_cons (pE_var (pv 4)) pA_nil)))) pA_nil))))))
    pSs_nil)
    (pSs_cons (pS_set (i := 7) nd rfl (by first | exact Or.inl rfl | exact Or.inr rfl) (pE_call c_law_take (hr.mono (by decide)) (by rfl) (pA_cons (pE_var (pv 0)) (pA_cons (pE_op op_addU (o2_add (b := false)) (pE_var (pv 2)) pE_int) pA_nil))))
    (pSs_cons (pS_if ((pT_and (pT_cmp op_notIn_seq o2_notin (pE_var (pv 7)) (pE_comp (own := [("wall", 9)]) (fl := false) (t := (.nm 9)) rfl nd (pI_it (pE_var (pv 3))) (blkOk_by (own := [("wall", 9)]) (N := N_law_wider) (sc := defScope s_law_wider) (by decide +kernel)) (fun _ _ _ _ _ => (pg_name (i := 9) nd rfl (by first | exact Or.inl rfl | exact Or.inr rfl))) (fun _ _ _ _ _ => pTs_nil) (fun _ _ _ _ _ => (pE_ix ix_seq o2_ix (pE_var (pv 9)) pE_int)) (by decide)) (by rfl)) (pw_and1 (pT_cmp op_lt o2_cmp (pE_callB call_len opA_len (by rfl) T.b_len (by decide +kernel) (pA_cons (pE_var (pv 3)) pA_nil)) pE_int (nomark _))))).pt
    (pSs_one (pS_expr (pE_app (pE_var (pv 5)) (pA_cons (pE_tup (pA_cons (pE_var (pv 2)) (pA_cons (pE_callTy call_tuple_of opA_tupOf (by rfl) T.b_tuple (by decide +kernel) (pA_cons (pE_callB call_sortQ (opA_sortQ (b := false)) (by rfl) T.b_sorted (by decide +kernel) (pA_cons (pE_op op_addU (o2_add (b := false)) (pE_var (pv 3)) (pE_tup (pA_cons (pE_tup (pA_cons (pE_var (pv 7)) (pA_cons (pE_op op_addU (o2_add (b := false)) pE_int (pE_call c_law_take (hr.mono (by decide)) (by rfl) (pA_cons (pE_var (pv 0)) (pA_cons pE_int pA_nil)))) pA_nil))) pA_nil))) pA_nil)) pA_nil)) (pA_cons (pE_var (pv 4)) pA_nil)))) pA_nil))))
    pSs_nil)
    (pSs_one (pS_ret (pE_fz (pE_var (pv 5))))))))))
theorem cal_law_wider (T : Txt mg) (c_law_take : Cal P w K mg base 1 "_law_take" 2 g_law_take) {f : Addr} {fd : FuncData} (F : Fun K "_law_wider" "_law_wider" s_law_wider f fd) (hm : mg "_law_wider" = some (.ref f)) : Cal P w K mg base 2 "_law_wider" 2 g_law_wider :=
  ⟨f, fd, ["bag", "yard"], rfl, ok_law_wider T c_law_take F, hm, F.kp, F.binds (ps := ["bag", "yard"]) fun _ _ _ _ _ _ us hl => match us, hl with | [_, _], _ => rfl⟩
/-! ### the law's behind -/
abbrev s_law_behind : Stmt := topS 32
abbrev N_law_behind : List Str := ["yard", "seats_so", "walls", "sun", "turned_so", "place", "height", "side", "slant"]
theorem sc_law_behind : FnScope N_law_behind ["yard"] (defScope s_law_behind) := ⟨rfl, rfl, rfl, by decide +kernel, rfl, by decide +kernel, by decide +kernel⟩
noncomputable def C_law_behind_1 : Sm := sComp false (sIt (sVar 3)) (.tp [7, 8]) sYes (sA fTup (sCons (sIfE (sTst (s2 (fEq false) (sVar 7) (sC (.str "e")))) (sC (.str "w")) (sC (.str "e"))) (sCons (sVar 8) sNil))) [7, 8]
noncomputable def C_law_behind_2 : Sm := sComp false (sIt (sVar 2)) (.tp [5, 6]) sYes (sA fTup (sCons (s2 fSub (sVar 1) (sVar 5)) (sCons (sVar 6) sNil))) [5, 6]
noncomputable def b_law_behind : Ss := (sSeq (sAsg (sVar 0) (.tp [1, 2, 3]))
    (sSeq (sAsg (sA fTupOf (sCons (sA (fSortQ false) (sCons C_law_behind_2 sNil)) sNil)) (.nm 4))
    (sRet (sA fTup (sCons (sVar 1) (sCons (sVar 4) (sCons (sA fTupOf (sCons C_law_behind_1 sNil)) sNil)))))))
noncomputable def g_law_behind : Fn := mkFn 1 9 b_law_behind
theorem ok_law_behind (T : Txt mg)  {f : Addr} {fd : FuncData} (F : Fun K "_law_behind" "_law_behind" s_law_behind f fd) : FnOk P w K mg base CX0 1 f fd ["yard"] (spF K 1 g_law_behind) := by
  have nd := sc_law_behind.nd
  refine fn_ok (N := N_law_behind) F sc_law_behind fun cdv A outer s H E hr => ?_
  exact (pSs_cons (pS_asg (t := (.tp [1, 2, 3])) (pE_var (pv 0)) (pg_tup rfl (pgs_cons (pg_name (i := 1) nd rfl (by first | exact Or.inl rfl | exact Or.inr rfl)) (pgs_cons (pg_name (i := 2) nd rfl (by first | exact Or.inl rfl | exact Or.inr rfl)) (pgs_cons (pg_name (i := 3) nd rfl (by first | exact Or.inl rfl | exact Or.inr rfl)) pgs_nil)))))
    (pSs_cons (pS_set (i := 4) nd rfl (by first | exact Or.inl rfl | exact Or.inr rfl) (pE_callTy call_tuple_of opA_tupOf (by rfl) T.b_tuple (by decide +kernel) (pA_cons (pE_callB call_sortQ (opA_sortQ (b := false)) (by rfl) T.b_sorted (by decide +kernel) (pA_cons (pE_comp (own := [("place", 5), ("height", 6)]) (fl := false) (t := (.tp [5, 6])) rfl nd (pI_it (pE_var (pv 2))) (blkOk_by (own := [("place", 5), ("height", 6)]) (N := N_law_behind) (sc := defScope s_law_behind) (by decide +kernel)) (fun _ _ _ _ _ => (pg_tup rfl (pgs_cons (pg_name (i := 5) nd rfl (by first | exact Or.inl rfl | exact Or.inr rfl)) (pgs_cons (pg_name (i := 6) nd rfl (by first | exact Or.inl rfl | exact Or.inr rfl)) pgs_nil)))) (fun _ _ _ _ _ => pTs_nil) (fun _ _ _ _ _ => (pE_tup (pA_cons (pE_op op_sub o2_sub (pE_var (pv 1)) (pE_var (pv 5))) (pA_cons (pE_var (pv 6)) pA_nil)))) (by decide)) pA_nil)) pA_nil)))
    (pSs_one (pS_ret (pE_tup (pA_cons (pE_var (pv 1)) (pA_cons (pE_var (pv 4)) (pA_cons (pE_callTy call_tuple_of opA_tupOf (by rfl) T.b_tuple (by decide +kernel) (pA_cons (pE_comp (own := [("side", 7), ("slant", 8)]) (fl := false) (t := (.tp [7, 8])) rfl nd (pI_it (pE_var (pv 3))) (blkOk_by (own := [("side", 7), ("slant", 8)]) (N := N_law_behind) (sc := defScope s_law_behind) (by decide +kernel)) (fun _ _ _ _ _ => (pg_tup rfl (pgs_cons (pg_name (i := 7) nd rfl (by first | exact Or.inl rfl | exact Or.inr rfl)) (pgs_cons (pg_name (i := 8) nd rfl (by first | exact Or.inl rfl | exact Or.inr rfl)) pgs_nil)))) (fun _ _ _ _ _ => pTs_nil) (fun _ _ _ _ _ => (pE_tup (pA_cons (pE_ifE (pT_cmp (op_eqD hr.units) o2_eq (pE_var (pv 7)) pE_str (nomark _)) pE_str pE_str) (pA_cons (pE_var (pv 8)) pA_nil)))) (by decide)) pA_nil)) pA_nil))))))))
theorem cal_law_behind (T : Txt mg)  {f : Addr} {fd : FuncData} (F : Fun K "_law_behind" "_law_behind" s_law_behind f fd) (hm : mg "_law_behind" = some (.ref f)) : Cal P w K mg base 1 "_law_behind" 1 g_law_behind :=
  ⟨f, fd, ["yard"], rfl, ok_law_behind T  F, hm, F.kp, F.binds (ps := ["yard"]) fun _ _ _ _ _ _ us hl => match us, hl with | [_], _ => rfl⟩
/-! ### is_from -/
abbrev s_is_from : Stmt := topS 6
abbrev N_is_from : List Str := ["thing", "low", "high"]
theorem sc_is_from : FnScope N_is_from ["thing", "low", "high"] (defScope s_is_from) := ⟨rfl, rfl, rfl, by decide +kernel, rfl, by decide +kernel, by decide +kernel⟩
noncomputable def b_is_from : Ss := (sRet (sAndV (s1 (fIsi .int) (sVar 0)) (sAndV (sNotB (s1 (fIsi .bool) (sVar 0))) (sChain fLe fLe (sVar 1) (sVar 0) (sVar 2)))))
noncomputable def g_is_from : Fn := mkFn 3 3 b_is_from
theorem ok_is_from (T : Txt mg)  {f : Addr} {fd : FuncData} (F : Fun K "is_from" "is_from" s_is_from f fd) : FnOk P w K mg base CX0 1 f fd ["thing", "low", "high"] (spF K 3 g_is_from) := by
  have nd := sc_is_from.nd
  refine fn_ok (N := N_is_from) F sc_is_from fun cdv A outer s H E hr => ?_
  exact (pSs_one (pS_ret (pE_and (pE_isi (T := .int) (pE_var (pv 0)) (by rfl) T.b_isinstance (by rfl) T.b_int (by decide +kernel)) (pE_and (pE_not (pE_isi (T := .bool) (pE_var (pv 0)) (by rfl) T.b_isinstance (by rfl) T.b_bool (by decide +kernel))) (pe_one (pE_chain op_le op_le o2_cmp o2_cmp (pE_var (pv 1)) (pE_var (pv 0)) (pE_var (pv 2))))))))
theorem cal_is_from (T : Txt mg)  {f : Addr} {fd : FuncData} (F : Fun K "is_from" "is_from" s_is_from f fd) (hm : mg "is_from" = some (.ref f)) : Cal P w K mg base 1 "is_from" 3 g_is_from :=
  ⟨f, fd, ["thing", "low", "high"], rfl, ok_is_from T  F, hm, F.kp, F.binds (ps := ["thing", "low", "high"]) fun _ _ _ _ _ _ us hl => match us, hl with | [_, _, _], _ => rfl⟩
/-! ### are_walls -/
abbrev s_are_walls : Stmt := topS 9
abbrev N_are_walls : List Str := ["seats", "thing", "wall", "one", "other"]
theorem sc_are_walls : FnScope N_are_walls ["seats", "thing"] (defScope s_are_walls) := ⟨rfl, rfl, rfl, by decide +kernel, rfl, by decide +kernel, by decide +kernel⟩
noncomputable def C_are_walls_1 : Sm := sComp false (sZip (sCons (sVar 1) (sCons (sSl false (sVar 1) (sPart (sC (.int 1))) sNoP) sNil))) (.tp [3, 4]) sYes (s2 fLt (s2 fIx (sVar 3) (sC (.int 0))) (s2 fIx (sVar 4) (sC (.int 0)))) [3, 4]
noncomputable def l_are_walls_1 : Ss := (sSeq (sIf (sOr (sNot (sTst (s1 (fIsi .tuple) (sVar 2)))) (sTst (s2 (fEq true) (sA fLen (sCons (sVar 2) sNil)) (sC (.int 2))))) (sRet (sC (.bool false))) sSkip)
    (sIf (sOr (sNot (sTst (sCall 3 g_is_from (sCons (s2 fIx (sVar 2) (sC (.int 0))) (sCons (sC (.int 0)) (sCons (sVar 0) sNil)))))) (sNot (sTst (sCall 3 g_is_from (sCons (s2 fIx (sVar 2) (sC (.int 1))) (sCons (sC (.int 1)) (sCons (sC (.int 9)) sNil))))))) (sRet (sC (.bool false))) sSkip))
noncomputable def L_are_walls_1 : Ss := sFor (sIt (sVar 1)) (.nm 2) l_are_walls_1
noncomputable def b_are_walls : Ss := (sSeq (sIf (sOr (sNot (sTst (s1 (fIsi .tuple) (sVar 1)))) (sTst (s2 fGt (sA fLen (sCons (sVar 1) sNil)) (sC (.int 8))))) (sRet (sC (.bool false))) sSkip)
    (sSeq L_are_walls_1
    (sRet (sA fAll (sCons C_are_walls_1 sNil)))))
noncomputable def g_are_walls : Fn := mkFn 2 5 b_are_walls
theorem ok_are_walls (T : Txt mg) (c_is_from : Cal P w K mg base 1 "is_from" 3 g_is_from) {f : Addr} {fd : FuncData} (F : Fun K "are_walls" "are_walls" s_are_walls f fd) : FnOk P w K mg base CX0 2 f fd ["seats", "thing"] (spF K 2 g_are_walls) := by
  have nd := sc_are_walls.nd
  obtain ⟨_, h_HIGH⟩ := T.c_HIGH
  obtain ⟨_, h_WALLS⟩ := T.c_WALLS
  refine fn_ok (N := N_are_walls) F sc_are_walls fun cdv A outer s H E hr => ?_
  exact (pSs_cons (pS_if ((pT_or (pT_not (pT_tst (pE_isi (T := .tuple) (pE_var (pv 1)) (by rfl) T.b_isinstance (by rfl) T.b_tuple (by decide +kernel)))) (pw_or1 (pT_cmp op_gt o2_cmp (pE_callB call_len opA_len (by rfl) T.b_len (by decide +kernel) (pA_cons (pE_var (pv 1)) pA_nil)) (pE_globI (by rfl) h_WALLS) (nomark _))))).pt
    (pSs_one (pS_ret pE_bl))
    pSs_nil)
    (pSs_cons (pS_for (t := (.nm 2)) PassesOwn.never rfl (pI_it (pE_var (pv 1))) (pg_name (i := 2) nd rfl (by first | exact Or.inl rfl | exact Or.inr rfl))
    (pSs_cons (pS_if ((pT_or (pT_not (pT_tst (pE_isi (T := .tuple) (pE_var (pv 2)) (by rfl) T.b_isinstance (by rfl) T.b_tuple (by decide +kernel)))) (pw_or1 (pT_cmp (op_neD hr.units) o2_ne (pE_callB call_len opA_len (by rfl) T.b_len (by decide +kernel) (pA_cons (pE_var (pv 2)) pA_nil)) pE_int (nomark _))))).pt
    (pSs_one (pS_ret pE_bl))
    pSs_nil)
    (pSs_one (pS_if ((pT_or (pT_not (pT_tst (pE_call c_is_from (hr.mono (by decide)) (by rfl) (pA_cons (pE_ix ix_seq o2_ix (pE_var (pv 2)) pE_int) (pA_cons pE_int (pA_cons (pE_var (pv 0)) pA_nil)))))) (pw_or1 (pT_not (pT_tst (pE_call c_is_from (hr.mono (by decide)) (by rfl) (pA_cons (pE_ix ix_seq o2_ix (pE_var (pv 2)) pE_int) (pA_cons pE_int (pA_cons (pE_globI (by rfl) h_HIGH) pA_nil))))))))).pt
    (pSs_one (pS_ret pE_bl))
    pSs_nil))))
    (pSs_one (pS_ret (pE_callB (cr_all rfl) opA_all (by rfl) T.b_all (by decide +kernel) (pA_cons (pE_comp (own := [("one", 3), ("other", 4)]) (fl := false) (t := (.tp [3, 4])) rfl nd (pI_zip (by rfl) T.b_zip (pA_cons (pE_var (pv 1)) (pA_cons (pE_sl (fl := false) (pE_var (pv 1)) (pO_some pE_int) pO_none) pA_nil))) (blkOk_by (own := [("one", 3), ("other", 4)]) (N := N_are_walls) (sc := defScope s_are_walls) (by decide +kernel)) (fun _ _ _ _ _ => (pg_tup rfl (pgs_cons (pg_name (i := 3) nd rfl (by first | exact Or.inl rfl | exact Or.inr rfl)) (pgs_cons (pg_name (i := 4) nd rfl (by first | exact Or.inl rfl | exact Or.inr rfl)) pgs_nil)))) (fun _ _ _ _ _ => pTs_nil) (fun _ _ _ _ _ => (pE_cmp op_lt o2_cmp (pE_ix ix_seq o2_ix (pE_var (pv 3)) pE_int) (pE_ix ix_seq o2_ix (pE_var (pv 4)) pE_int) (nomark _))) (by decide)) pA_nil))))))
theorem cal_are_walls (T : Txt mg) (c_is_from : Cal P w K mg base 1 "is_from" 3 g_is_from) {f : Addr} {fd : FuncData} (F : Fun K "are_walls" "are_walls" s_are_walls f fd) (hm : mg "are_walls" = some (.ref f)) : Cal P w K mg base 2 "are_walls" 2 g_are_walls :=
  ⟨f, fd, ["seats", "thing"], rfl, ok_are_walls T c_is_from F, hm, F.kp, F.binds (ps := ["seats", "thing"]) fun _ _ _ _ _ _ us hl => match us, hl with | [_, _], _ => rfl⟩
/-! ### is_lowest -/
abbrev s_is_lowest : Stmt := topS 7
abbrev N_is_lowest : List Str := ["top", "bottom", "one", "other"]
theorem sc_is_lowest : FnScope N_is_lowest ["top", "bottom"] (defScope s_is_lowest) := ⟨rfl, rfl, rfl, by decide +kernel, rfl, by decide +kernel, by decide +kernel⟩
def w_is_lowest_1 : Ss := (sPar [2, 3] (sCons (sVar 3) (sCons (s2 fMod (sVar 2) (sVar 3)) sNil)))
def W_is_lowest_1 : Ss := sWhile FUEL (sTst (s2 fGt (sVar 3) (sC (.int 0)))) w_is_lowest_1
noncomputable def b_is_lowest : Ss := (sSeq (sPar [2, 3] (sCons (sVar 0) (sCons (sVar 1) sNil)))
    (sSeq W_is_lowest_1
    (sRet (s2 (fEq false) (sVar 2) (sC (.int 1))))))
noncomputable def g_is_lowest : Fn := mkFn 2 4 b_is_lowest
theorem ok_is_lowest (T : Txt mg)  {f : Addr} {fd : FuncData} (F : Fun K "is_lowest" "is_lowest" s_is_lowest f fd) : FnOk P w K mg base CX0 1 f fd ["top", "bottom"] (spF K 2 g_is_lowest) := by
  have nd := sc_is_lowest.nd
  refine fn_ok (N := N_is_lowest) F sc_is_lowest fun cdv A outer s H E hr => ?_
  exact (pSs_cons (pS_par (i := 2) (j := 3) rfl nd rfl rfl (by decide) rfl rfl (pA_cons (pE_var (pv 0)) (pA_cons (pE_var (pv 1)) pA_nil)) (by rfl))
    (pSs_cons (pS_while (g := FUEL) PassesOwn.never (pT_cmp op_gt o2_cmp (pE_var (pv 3)) pE_int (nomark _)) (pSs_one (pS_par (i := 2) (j := 3) rfl nd rfl rfl (by decide) rfl rfl (pA_cons (pE_var (pv 3)) (pA_cons (pE_op op_mod o2_mod (pE_var (pv 2)) (pE_var (pv 3))) pA_nil)) (by rfl))))
    (pSs_one (pS_ret (pE_cmp (op_eqD hr.units) o2_eq (pE_var (pv 2)) pE_int (nomark _))))))
theorem cal_is_lowest (T : Txt mg)  {f : Addr} {fd : FuncData} (F : Fun K "is_lowest" "is_lowest" s_is_lowest f fd) (hm : mg "is_lowest" = some (.ref f)) : Cal P w K mg base 1 "is_lowest" 2 g_is_lowest :=
  ⟨f, fd, ["top", "bottom"], rfl, ok_is_lowest T  F, hm, F.kp, F.binds (ps := ["top", "bottom"]) fun _ _ _ _ _ _ us hl => match us, hl with | [_, _], _ => rfl⟩
/-! ### is_slant -/
abbrev s_is_slant : Stmt := topS 8
abbrev N_is_slant : List Str := ["thing"]
theorem sc_is_slant : FnScope N_is_slant ["thing"] (defScope s_is_slant) := ⟨rfl, rfl, rfl, by decide +kernel, rfl, by decide +kernel, by decide +kernel⟩
noncomputable def b_is_slant : Ss := (sSeq (sIf (sOr (sNot (sTst (s1 (fIsi .tuple) (sVar 0)))) (sTst (s2 (fEq true) (sA fLen (sCons (sVar 0) sNil)) (sC (.int 2))))) (sRet (sC (.bool false))) sSkip)
    (sSeq (sIf (sOr (sNot (sTst (sCall 3 g_is_from (sCons (s2 fIx (sVar 0) (sC (.int 1))) (sCons (sC (.int 1)) (sCons (s2 fPow (sC (.int 10)) (sC (.int 20))) sNil)))))) (sNot (sTst (sCall 3 g_is_from (sCons (s2 fIx (sVar 0) (sC (.int 0))) (sCons (sC (.int 0)) (sCons (s2 fMul (sC (.int 9)) (s2 fIx (sVar 0) (sC (.int 1)))) sNil))))))) (sRet (sC (.bool false))) sSkip)
    (sRet (sCall 2 g_is_lowest (sCons (s2 fIx (sVar 0) (sC (.int 0))) (sCons (s2 fIx (sVar 0) (sC (.int 1))) sNil))))))
noncomputable def g_is_slant : Fn := mkFn 1 1 b_is_slant
theorem ok_is_slant (T : Txt mg) (c_is_from : Cal P w K mg base 1 "is_from" 3 g_is_from) (c_is_lowest : Cal P w K mg base 1 "is_lowest" 2 g_is_lowest) {f : Addr} {fd : FuncData} (F : Fun K "is_slant" "is_slant" s_is_slant f fd) : FnOk P w K mg base CX0 2 f fd ["thing"] (spF K 1 g_is_slant) := by
  have nd := sc_is_slant.nd
  obtain ⟨_, h_SLANT⟩ := T.c_SLANT
  refine fn_ok (N := N_is_slant) F sc_is_slant fun cdv A outer s H E hr => ?_
  exact (pSs_cons (pS_if ((pT_or (pT_not (pT_tst (pE_isi (T := .tuple) (pE_var (pv 0)) (by rfl) T.b_isinstance (by rfl) T.b_tuple (by decide +kernel)))) (pw_or1 (pT_cmp (op_neD hr.units) o2_ne (pE_callB call_len opA_len (by rfl) T.b_len (by decide +kernel) (pA_cons (pE_var (pv 0)) pA_nil)) pE_int (nomark _))))).pt
    (pSs_one (pS_ret pE_bl))
    pSs_nil)
    (pSs_cons (pS_if ((pT_or (pT_not (pT_tst (pE_call c_is_from (hr.mono (by decide)) (by rfl) (pA_cons (pE_ix ix_seq o2_ix (pE_var (pv 0)) pE_int) (pA_cons pE_int (pA_cons (pE_op op_pow o2_pow pE_int pE_int) pA_nil)))))) (pw_or1 (pT_not (pT_tst (pE_call c_is_from (hr.mono (by decide)) (by rfl) (pA_cons (pE_ix ix_seq o2_ix (pE_var (pv 0)) pE_int) (pA_cons pE_int (pA_cons (pE_op op_mulU o2_mul (pE_globI (by rfl) h_SLANT) (pE_ix ix_seq o2_ix (pE_var (pv 0)) pE_int)) pA_nil))))))))).pt
    (pSs_one (pS_ret pE_bl))
    pSs_nil)
    (pSs_one (pS_ret (pE_call c_is_lowest (hr.mono (by decide)) (by rfl) (pA_cons (pE_ix ix_seq o2_ix (pE_var (pv 0)) pE_int) (pA_cons (pE_ix ix_seq o2_ix (pE_var (pv 0)) pE_int) pA_nil)))))))
theorem cal_is_slant (T : Txt mg) (c_is_from : Cal P w K mg base 1 "is_from" 3 g_is_from) (c_is_lowest : Cal P w K mg base 1 "is_lowest" 2 g_is_lowest) {f : Addr} {fd : FuncData} (F : Fun K "is_slant" "is_slant" s_is_slant f fd) (hm : mg "is_slant" = some (.ref f)) : Cal P w K mg base 2 "is_slant" 1 g_is_slant :=
  ⟨f, fd, ["thing"], rfl, ok_is_slant T c_is_from c_is_lowest F, hm, F.kp, F.binds (ps := ["thing"]) fun _ _ _ _ _ _ us hl => match us, hl with | [_], _ => rfl⟩
/-! ### is_yard -/
abbrev s_is_yard : Stmt := topS 10
abbrev N_is_yard : List Str := ["thing", "hour"]
theorem sc_is_yard : FnScope N_is_yard ["thing"] (defScope s_is_yard) := ⟨rfl, rfl, rfl, by decide +kernel, rfl, by decide +kernel, by decide +kernel⟩
noncomputable def l_is_yard_1 : Ss := (sSeq (sIf (sOr (sNot (sTst (s1 (fIsi .tuple) (sVar 1)))) (sOr (sTst (s2 (fEq true) (sA fLen (sCons (sVar 1) sNil)) (sC (.int 2)))) (sNot (sTst (s1 (fIsi .str) (s2 fIx (sVar 1) (sC (.int 0)))))))) (sRet (sC (.bool false))) sSkip)
    (sIf (sOr (sTst (s2 (fIn true) (s2 fIx (sVar 1) (sC (.int 0))) (sA fTup (sCons (sC (.str "e")) (sCons (sC (.str "w")) sNil))))) (sNot (sTst (sCall 1 g_is_slant (sCons (s2 fIx (sVar 1) (sC (.int 1))) sNil))))) (sRet (sC (.bool false))) sSkip))
noncomputable def L_is_yard_1 : Ss := sFor (sIt (s2 fIx (sVar 0) (sC (.int 2)))) (.nm 1) l_is_yard_1
noncomputable def b_is_yard : Ss := (sSeq (sIf (sOr (sNot (sTst (s1 (fIsi .tuple) (sVar 0)))) (sOr (sTst (s2 (fEq true) (sA fLen (sCons (sVar 0) sNil)) (sC (.int 3)))) (sNot (sTst (sCall 3 g_is_from (sCons (s2 fIx (sVar 0) (sC (.int 0))) (sCons (sC (.int 1)) (sCons (sC (.int 8)) sNil)))))))) (sRet (sC (.bool false))) sSkip)
    (sSeq (sIf (sOr (sNot (sTst (sCall 2 g_are_walls (sCons (s2 fIx (sVar 0) (sC (.int 0))) (sCons (s2 fIx (sVar 0) (sC (.int 1))) sNil))))) (sOr (sNot (sTst (s1 (fIsi .tuple) (s2 fIx (sVar 0) (sC (.int 2)))))) (sNot (sTst (sChain fLe fLe (sC (.int 1)) (sA fLen (sCons (s2 fIx (sVar 0) (sC (.int 2))) sNil)) (sC (.int 8))))))) (sRet (sC (.bool false))) sSkip)
    (sSeq L_is_yard_1
    (sRet (sC (.bool true))))))
noncomputable def g_is_yard : Fn := mkFn 1 2 b_is_yard
theorem ok_is_yard (T : Txt mg) (c_are_walls : Cal P w K mg base 2 "are_walls" 2 g_are_walls) (c_is_from : Cal P w K mg base 1 "is_from" 3 g_is_from) (c_is_slant : Cal P w K mg base 2 "is_slant" 1 g_is_slant) {f : Addr} {fd : FuncData} (F : Fun K "is_yard" "is_yard" s_is_yard f fd) : FnOk P w K mg base CX0 3 f fd ["thing"] (spF K 1 g_is_yard) := by
  have nd := sc_is_yard.nd
  obtain ⟨_, h_HOURS⟩ := T.c_HOURS
  obtain ⟨_, h_SEATS⟩ := T.c_SEATS
  refine fn_ok (N := N_is_yard) F sc_is_yard fun cdv A outer s H E hr => ?_
  exact (pSs_cons (pS_if ((pT_or (pT_not (pT_tst (pE_isi (T := .tuple) (pE_var (pv 0)) (by rfl) T.b_isinstance (by rfl) T.b_tuple (by decide +kernel)))) (pT_or (pT_cmp (op_neD hr.units) o2_ne (pE_callB call_len opA_len (by rfl) T.b_len (by decide +kernel) (pA_cons (pE_var (pv 0)) pA_nil)) pE_int (nomark _)) (pw_or1 (pT_not (pT_tst (pE_call c_is_from (hr.mono (by decide)) (by rfl) (pA_cons (pE_ix ix_seq o2_ix (pE_var (pv 0)) pE_int) (pA_cons pE_int (pA_cons (pE_globI (by rfl) h_SEATS) pA_nil)))))))))).pt
    (pSs_one (pS_ret pE_bl))
    pSs_nil)
    (pSs_cons (pS_if ((pT_or (pT_not (pT_tst (pE_call c_are_walls (hr.mono (by decide)) (by rfl) (pA_cons (pE_ix ix_seq o2_ix (pE_var (pv 0)) pE_int) (pA_cons (pE_ix ix_seq o2_ix (pE_var (pv 0)) pE_int) pA_nil))))) (pT_or (pT_not (pT_tst (pE_isi (T := .tuple) (pE_ix ix_seq o2_ix (pE_var (pv 0)) pE_int) (by rfl) T.b_isinstance (by rfl) T.b_tuple (by decide +kernel)))) (pw_or1 (pT_not (pT_chain op_le op_le o2_cmp o2_cmp pE_int (pE_callB call_len opA_len (by rfl) T.b_len (by decide +kernel) (pA_cons (pE_ix ix_seq o2_ix (pE_var (pv 0)) pE_int) pA_nil)) (pE_globI (by rfl) h_HOURS))))))).pt
    (pSs_one (pS_ret pE_bl))
    pSs_nil)
    (pSs_cons (pS_for (t := (.nm 1)) PassesOwn.never rfl (pI_it (pE_ix ix_seq o2_ix (pE_var (pv 0)) pE_int)) (pg_name (i := 1) nd rfl (by first | exact Or.inl rfl | exact Or.inr rfl))
    (pSs_cons (pS_if ((pT_or (pT_not (pT_tst (pE_isi (T := .tuple) (pE_var (pv 1)) (by rfl) T.b_isinstance (by rfl) T.b_tuple (by decide +kernel)))) (pT_or (pT_cmp (op_neD hr.units) o2_ne (pE_callB call_len opA_len (by rfl) T.b_len (by decide +kernel) (pA_cons (pE_var (pv 1)) pA_nil)) pE_int (nomark _)) (pw_or1 (pT_not (pT_tst (pE_isi (T := .str) (pE_ix ix_seq o2_ix (pE_var (pv 1)) pE_int) (by rfl) T.b_isinstance (by rfl) T.b_str (by decide +kernel)))))))).pt
    (pSs_one (pS_ret pE_bl))
    pSs_nil)
    (pSs_one (pS_if ((pT_or (pT_cmp op_notIn_seq o2_notin (pE_ix ix_seq o2_ix (pE_var (pv 1)) pE_int) (pE_tup (pA_cons pE_str (pA_cons pE_str pA_nil))) (by rfl)) (pw_or1 (pT_not (pT_tst (pE_call c_is_slant (hr.mono (by decide)) (by rfl) (pA_cons (pE_ix ix_seq o2_ix (pE_var (pv 1)) pE_int) pA_nil))))))).pt
    (pSs_one (pS_ret pE_bl))
    pSs_nil))))
    (pSs_one (pS_ret pE_bl)))))
theorem cal_is_yard (T : Txt mg) (c_are_walls : Cal P w K mg base 2 "are_walls" 2 g_are_walls) (c_is_from : Cal P w K mg base 1 "is_from" 3 g_is_from) (c_is_slant : Cal P w K mg base 2 "is_slant" 1 g_is_slant) {f : Addr} {fd : FuncData} (F : Fun K "is_yard" "is_yard" s_is_yard f fd) (hm : mg "is_yard" = some (.ref f)) : Cal P w K mg base 3 "is_yard" 1 g_is_yard :=
  ⟨f, fd, ["thing"], rfl, ok_is_yard T c_are_walls c_is_from c_is_slant F, hm, F.kp, F.binds (ps := ["thing"]) fun _ _ _ _ _ _ us hl => match us, hl with | [_], _ => rfl⟩
/-! ### law -/
abbrev s_law : Stmt := topS 33
abbrev N_law : List Str := ["script", "k", "bag", "yard", "most", "many", "hours", "number", "wide", "back", "behind", "seat", "at", "still", "twice"]
theorem sc_law : FnScope N_law ["script"] (defScope s_law) := ⟨rfl, rfl, rfl, by decide +kernel, rfl, by decide +kernel, by decide +kernel⟩
noncomputable def C_law_1 : Sm := sComp false (sRng1 (sCons (sA fMin (sCons (sC (.int 8)) (sCons (s2 fMul (sC (.int 2)) (sVar 6)) sNil))) sNil)) (.nm 12) sYes (s2 fIx (s2 fIx (sVar 3) (sC (.int 2))) (s2 fDiv (sVar 12) (sC (.int 2)))) [12]
noncomputable def C_law_2 : Sm := sComp false (sIt (s1 (fRevL false) (sCall 2 g_shaded (sCons (sVar 3) (sCons (sC (.int 0)) sNil))))) (.nm 11) sYes (s2 fSub (s2 fSub (s2 fIx (sVar 3) (sC (.int 0))) (sC (.int 1))) (sVar 11)) [11]
noncomputable def l_law_1 : Ss := (sIf (sOr (sNot (sTst (sCall 1 g_is_yard (sCons (sVar 8) sNil)))) (sOr (sTst (s2 fLt (sCall 1 g_most_sitters (sCons (sVar 8) sNil)) (sVar 4))) (sTst (s2 fGt (sCall 2 g_law_count (sCons (sVar 8) (sCons (sVar 5) sNil))) (sVar 7))))) (sRet (sC (.bool false))) sSkip)
noncomputable def L_law_1 : Ss := sFor (sIt (sCall 2 g_law_wider (sCons (sVar 2) (sCons (sVar 3) sNil)))) (.nm 8) l_law_1
noncomputable def l_law_2 : Ss := (sSeq (sAsg (sCall 2 g_law_bag (sCons (sVar 0) (sCons (sVar 1) sNil))) (.nm 2))
    (sSeq (sAsg (sCall 3 g_law_good_yard (sCons (sVar 2) (sCons (sC (.int 7)) (sCons (sC (.int 7)) sNil)))) (.nm 3))
    (sSeq (sAsg (sCall 1 g_most_sitters (sCons (sVar 3) sNil)) (.nm 4))
    (sSeq (sPar [5, 6] (sCons (s2 (fAdd false) (sC (.int 1)) (sCall 2 g_law_take (sCons (sVar 2) (sCons (sVar 4) sNil)))) (sCons (sA fLen (sCons (s2 fIx (sVar 3) (sC (.int 2))) sNil)) sNil)))
    (sSeq (sAsg (sCall 2 g_law_count (sCons (sVar 3) (sCons (sVar 5) sNil))) (.nm 7))
    (sSeq (sIf (sNot (sTst (sChain fLe fLe (sVar 5) (sVar 7) (s2 fMul (sVar 5) (sVar 6))))) (sRet (sC (.bool false))) sSkip)
    (sSeq L_law_1
    (sSeq (sIf (sAnd (sTst (s2 fLt (sVar 5) (sVar 4))) (sTst (s2 fLt (sCall 2 g_law_count (sCons (sVar 3) (sCons (s2 (fAdd false) (sVar 5) (sC (.int 1))) sNil))) (s2 (fAdd false) (sVar 7) (sC (.int 1)))))) (sRet (sC (.bool false))) sSkip)
    (sSeq (sAsg (sA fTup (sCons (s2 fIx (sVar 3) (sC (.int 0))) (sCons (s2 fIx (sVar 3) (sC (.int 1))) (sCons (s1 fRevT (s2 fIx (sVar 3) (sC (.int 2)))) sNil)))) (.nm 9))
    (sSeq (sAsg (sCall 1 g_law_behind (sCons (sVar 3) sNil)) (.nm 10))
    (sSeq (sIf (sOr (sTst (s2 (fEq true) (sCall 2 g_law_count (sCons (sVar 9) (sCons (sVar 5) sNil))) (sVar 7))) (sOr (sNot (sTst (sCall 1 g_is_yard (sCons (sVar 10) sNil)))) (sTst (s2 (fEq true) (sCall 2 g_law_count (sCons (sVar 10) (sCons (sVar 5) sNil))) (sVar 7))))) (sRet (sC (.bool false))) sSkip)
    (sSeq (sIf (sTst (s2 (fEq true) (sCall 2 g_shaded (sCons (sVar 10) (sCons (sC (.int 0)) sNil))) C_law_2)) (sRet (sC (.bool false))) sSkip)
    (sSeq (sIf (sTst (s2 fGt (sVar 6) (sC (.int 1)))) (sSeq (sAsg (sCall 2 g_law_take (sCons (sVar 2) (sCons (sVar 6) sNil))) (.nm 12))
    (sIf (sTst (s2 fGt (sCall 2 g_law_count (sCons (sA fTup (sCons (s2 fIx (sVar 3) (sC (.int 0))) (sCons (s2 fIx (sVar 3) (sC (.int 1))) (sCons (s2 (fAdd false) (sSl false (s2 fIx (sVar 3) (sC (.int 2))) sNoP (sPart (sVar 12))) (sSl false (s2 fIx (sVar 3) (sC (.int 2))) (sPart (s2 (fAdd false) (sVar 12) (sC (.int 1)))) sNoP)) sNil)))) (sCons (sVar 5) sNil))) (sVar 7))) (sRet (sC (.bool false))) sSkip)) sSkip)
    (sSeq (sAsg (sA fTup (sCons (s2 fIx (sVar 3) (sC (.int 0))) (sCons (s2 fIx (sVar 3) (sC (.int 1))) (sCons (s2 fMul1 (sA fTup (sCons (s2 fIx (s2 fIx (sVar 3) (sC (.int 2))) (sC (.int 0))) sNil)) (sVar 6)) sNil)))) (.nm 13))
    (sSeq (sIf (sAnd (sTst (s2 fGe (sA fLen (sCons (sCall 2 g_shaded (sCons (sVar 3) (sCons (sC (.int 0)) sNil))) sNil)) (sVar 5))) (sTst (s2 (fEq true) (sCall 2 g_law_count (sCons (sVar 13) (sCons (sVar 5) sNil))) (sVar 5)))) (sRet (sC (.bool false))) sSkip)
    (sSeq (sAsg (sA fTup (sCons (s2 fIx (sVar 3) (sC (.int 0))) (sCons (s2 fIx (sVar 3) (sC (.int 1))) (sCons (sA fTupOf (sCons C_law_1 sNil)) sNil)))) (.nm 14))
    (sIf (sAnd (sTst (s2 fLt (sVar 6) (sC (.int 5)))) (sTst (s2 (fEq true) (sCall 2 g_law_count (sCons (sVar 14) (sCons (sVar 5) sNil))) (sVar 7)))) (sRet (sC (.bool false))) sSkip)))))))))))))))))
noncomputable def L_law_2 : Ss := sFor (sRng1 (sCons (s2 (fAdd false) (sA fMin (sCons (sA fLen (sCons (sVar 0) sNil)) (sCons (sC (.int 5)) sNil))) (sC (.int 2))) sNil)) (.nm 1) l_law_2
noncomputable def b_law : Ss := (sSeq L_law_2
    (sRet (sC (.bool true))))
noncomputable def g_law : Fn := mkFn 1 15 b_law
theorem ok_law (T : Txt mg) (c_law_bag : Cal P w K mg base 1 "_law_bag" 2 g_law_bag) (c_law_behind : Cal P w K mg base 1 "_law_behind" 1 g_law_behind) (c_law_count : Cal P w K mg base 5 "_law_count" 2 g_law_count) (c_law_good_yard : Cal P w K mg base 4 "_law_good_yard" 3 g_law_good_yard) (c_law_take : Cal P w K mg base 1 "_law_take" 2 g_law_take) (c_law_wider : Cal P w K mg base 2 "_law_wider" 2 g_law_wider) (c_is_yard : Cal P w K mg base 3 "is_yard" 1 g_is_yard) (c_most_sitters : Cal P w K mg base 3 "most_sitters" 1 g_most_sitters) (c_shaded : Cal P w K mg base 2 "shaded" 2 g_shaded) {f : Addr} {fd : FuncData} (F : Fun K "law" "law" s_law f fd) : FnOk P w K mg base CX0 6 f fd ["script"] (spF K 1 g_law) := by
  have nd := sc_law.nd
  refine fn_ok (N := N_law) F sc_law fun cdv A outer s H E hr => ?_
  exact (pSs_cons (pS_for (t := (.nm 1)) PassesOwn.never rfl (pI_rng1 (by rfl) T.b_range (pA_cons (pE_op op_addU (o2_add (b := false)) (pE_callB (call_minU rfl) opA_min (by rfl) T.b_min (by decide +kernel) (pA_cons (pE_callB call_len opA_len (by rfl) T.b_len (by decide +kernel) (pA_cons (pE_var (pv 0)) pA_nil)) (pA_cons pE_int pA_nil))) pE_int) pA_nil)) (pg_name (i := 1) nd rfl (by first | exact Or.inl rfl | exact Or.inr rfl))
    (pSs_cons (pS_set (i := 2) nd rfl (by first | exact Or.inl rfl | exact Or.inr rfl) (pE_call c_law_bag (hr.mono (by decide)) (by rfl) (pA_cons (pE_var (pv 0)) (pA_cons (pE_var (pv 1)) pA_nil))))
    (pSs_cons (pS_set (i := 3) nd rfl (by first | exact Or.inl rfl | exact Or.inr rfl) (pE_call c_law_good_yard (hr.mono (by decide)) (by rfl) (pA_cons (pE_var (pv 2)) (pA_cons pE_int (pA_cons pE_int pA_nil)))))
    (pSs_cons (pS_set (i := 4) nd rfl (by first | exact Or.inl rfl | exact Or.inr rfl) (pE_call c_most_sitters (hr.mono (by decide)) (by rfl) (pA_cons (pE_var (pv 3)) pA_nil)))
    (pSs_cons (pS_par (i := 5) (j := 6) rfl nd rfl rfl (by decide) rfl rfl (pA_cons (pE_op op_addU (o2_add (b := false)) pE_int (pE_call c_law_take (hr.mono (by decide)) (by rfl) (pA_cons (pE_var (pv 2)) (pA_cons (pE_var (pv 4)) pA_nil)))) (pA_cons (pE_callB call_len opA_len (by rfl) T.b_len (by decide +kernel) (pA_cons (pE_ix ix_seq o2_ix (pE_var (pv 3)) pE_int) pA_nil)) pA_nil)) (by rfl))
    (pSs_cons (pS_set (i := 7) nd rfl (by first | exact Or.inl rfl | exact Or.inr rfl) (pE_call c_law_count (hr.mono (by decide)) (by rfl) (pA_cons (pE_var (pv 3)) (pA_cons (pE_var (pv 5)) pA_nil))))
    (pSs_cons (pS_if (pT_not (pT_chain op_le op_le o2_cmp o2_cmp (pE_var (pv 5)) (pE_var (pv 7)) (pE_op op_mulU o2_mul (pE_var (pv 5)) (pE_var (pv 6)))))
    (pSs_one (pS_ret pE_bl))
    pSs_nil)
    (pSs_cons (pS_for (t := (.nm 8)) PassesOwn.never rfl (pI_it (pE_call c_law_wider (hr.mono (by decide)) (by rfl) (pA_cons (pE_var (pv 2)) (pA_cons (pE_var (pv 3)) pA_nil)))) (pg_name (i := 8) nd rfl (by first | exact Or.inl rfl | exact Or.inr rfl))
    (pSs_one (pS_if ((pT_or (pT_not (pT_tst (pE_call c_is_yard (hr.mono (by decide)) (by rfl) (pA_cons (pE_var (pv 8)) pA_nil)))) (pT_or (pT_cmp op_lt o2_cmp (pE_call c_most_sitters (hr.mono (by decide)) (by rfl) (pA_cons (pE_var (pv 8)) pA_nil)) (pE_var (pv 4)) (nomark _)) (pw_or1 (pT_cmp op_gt o2_cmp (pE_call c_law_count (hr.mono (by decide)) (by rfl) (pA_cons (pE_var (pv 8)) (pA_cons (pE_var (pv 5)) pA_nil))) (pE_var (pv 7)) (nomark _)))))).pt
    (pSs_one (pS_ret pE_bl))
    pSs_nil)))
    (pSs_cons (pS_if ((pT_and (pT_cmp op_lt o2_cmp (pE_var (pv 5)) (pE_var (pv 4)) (nomark _)) (pw_and1 (pT_cmp op_lt o2_cmp (pE_call c_law_count (hr.mono (by decide)) (by rfl) (pA_cons (pE_var (pv 3)) (pA_cons (pE_op op_addU (o2_add (b := false)) (pE_var (pv 5)) pE_int) pA_nil))) (pE_op op_addU (o2_add (b := false)) (pE_var (pv 7)) pE_int) (nomark _))))).pt
    (pSs_one (pS_ret pE_bl))
    pSs_nil)
    (pSs_cons (pS_set (i := 9) nd rfl (by first | exact Or.inl rfl | exact Or.inr rfl) (pE_tup (pA_cons (pE_ix ix_seq o2_ix (pE_var (pv 3)) pE_int) (pA_cons (pE_ix ix_seq o2_ix (pE_var (pv 3)) pE_int) (pA_cons (pE_revT (pE_ix ix_seq o2_ix (pE_var (pv 3)) pE_int)) pA_nil)))))
    (pSs_cons (pS_set (i := 10) nd rfl (by first | exact Or.inl rfl | exact Or.inr rfl) (pE_call c_law_behind (hr.mono (by decide)) (by rfl) (pA_cons (pE_var (pv 3)) pA_nil)))
    (pSs_cons (pS_if ((pT_or (pT_cmp (op_neD hr.units) o2_ne (pE_call c_law_count (hr.mono (by decide)) (by rfl) (pA_cons (pE_var (pv 9)) (pA_cons (pE_var (pv 5)) pA_nil))) (pE_var (pv 7)) (nomark _)) (pT_or (pT_not (pT_tst (pE_call c_is_yard (hr.mono (by decide)) (by rfl) (pA_cons (pE_var (pv 10)) pA_nil)))) (pw_or1 (pT_cmp (op_neD hr.units) o2_ne (pE_call c_law_count (hr.mono (by decide)) (by rfl) (pA_cons (pE_var (pv 10)) (pA_cons (pE_var (pv 5)) pA_nil))) (pE_var (pv 7)) (nomark _)))))).pt
    (pSs_one (pS_ret pE_bl))
    pSs_nil)
    (pSs_cons (pS_if (pT_cmp (op_neD hr.units) o2_ne (pE_call c_shaded (hr.mono (by decide)) (by rfl) (pA_cons (pE_var (pv 10)) (pA_cons pE_int pA_nil))) (pE_comp (own := [("seat", 11)]) (fl := false) (t := (.nm 11)) rfl nd (pI_it (pE_revL (fl := false) (pE_call c_shaded (hr.mono (by decide)) (by rfl) (pA_cons (pE_var (pv 3)) (pA_cons pE_int pA_nil))))) (blkOk_by (own := [("seat", 11)]) (N := N_law) (sc := defScope s_law) (by decide +kernel)) (fun _ _ _ _ _ => (pg_name (i := 11) nd rfl (by first | exact Or.inl rfl | exact Or.inr rfl))) (fun _ _ _ _ _ => pTs_nil) (fun _ _ _ _ _ => (pE_op op_sub o2_sub (pE_op op_sub o2_sub (pE_ix ix_seq o2_ix (pE_var (pv 3)) pE_int) pE_int) (pE_var (pv 11)))) (by decide)) (nomark _))
    (pSs_one (pS_ret pE_bl))
    pSs_nil)
    (pSs_cons (pS_if (pT_cmp op_gt o2_cmp (pE_var (pv 6)) pE_int (nomark _))
    (pSs_cons (pS_set (i := 12) nd rfl (by first | exact Or.inl rfl | exact Or.inr rfl) (pE_call c_law_take (hr.mono (by decide)) (by rfl) (pA_cons (pE_var (pv 2)) (pA_cons (pE_var (pv 6)) pA_nil))))
    (pSs_one (pS_if (pT_cmp op_gt o2_cmp (pE_call c_law_count (hr.mono (by decide)) (by rfl) (pA_cons (pE_tup (pA_cons (pE_ix ix_seq o2_ix (pE_var (pv 3)) pE_int) (pA_cons (pE_ix ix_seq o2_ix (pE_var (pv 3)) pE_int) (pA_cons (pE_op op_addU (o2_add (b := false)) (pE_sl (fl := false) (pE_ix ix_seq o2_ix (pE_var (pv 3)) pE_int) pO_none (pO_some (pE_var (pv 12)))) (pE_sl (fl := false) (pE_ix ix_seq o2_ix (pE_var (pv 3)) pE_int) (pO_some (pE_op op_addU (o2_add (b := false)) (pE_var (pv 12)) pE_int)) pO_none)) pA_nil)))) (pA_cons (pE_var (pv 5)) pA_nil))) (pE_var (pv 7)) (nomark _))
    (pSs_one (pS_ret pE_bl))
    pSs_nil)))
    pSs_nil)
    (pSs_cons (pS_set (i := 13) nd rfl (by first | exact Or.inl rfl | exact Or.inr rfl) (pE_tup (pA_cons (pE_ix ix_seq o2_ix (pE_var (pv 3)) pE_int) (pA_cons (pE_ix ix_seq o2_ix (pE_var (pv 3)) pE_int) (pA_cons (pE_op op_mul1 o2_mul1 (pE_tup (pA_cons (pE_ix ix_seq o2_ix (pE_ix ix_seq o2_ix (pE_var (pv 3)) pE_int) pE_int) pA_nil)) (pE_var (pv 6))) pA_nil)))))
    (pSs_cons (pS_if ((pT_and (pT_cmp op_ge o2_cmp (pE_callB call_len opA_len (by rfl) T.b_len (by decide +kernel) (pA_cons (pE_call c_shaded (hr.mono (by decide)) (by rfl) (pA_cons (pE_var (pv 3)) (pA_cons pE_int pA_nil))) pA_nil)) (pE_var (pv 5)) (nomark _)) (pw_and1 (pT_cmp (op_neD hr.units) o2_ne (pE_call c_law_count (hr.mono (by decide)) (by rfl) (pA_cons (pE_var (pv 13)) (pA_cons (pE_var (pv 5)) pA_nil))) (pE_var (pv 5)) (nomark _))))).pt
    (pSs_one (pS_ret pE_bl))
    pSs_nil)
    (pSs_cons (pS_set (i := 14) nd rfl (by first | exact Or.inl rfl | exact Or.inr rfl) (pE_tup (pA_cons (pE_ix ix_seq o2_ix (pE_var (pv 3)) pE_int) (pA_cons (pE_ix ix_seq o2_ix (pE_var (pv 3)) pE_int) (pA_cons (pE_callTy call_tuple_of opA_tupOf (by rfl) T.b_tuple (by decide +kernel) (pA_cons (pE_comp (own := [("at", 12)]) (fl := false) (t := (.nm 12)) rfl nd (pI_rng1 (by rfl) T.b_range (pA_cons (pE_callB (call_minU rfl) opA_min (by rfl) T.b_min (by decide +kernel) (pA_cons pE_int (pA_cons (pE_op op_mulU o2_mul pE_int (pE_var (pv 6))) pA_nil))) pA_nil)) (blkOk_by (own := [("at", 12)]) (N := N_law) (sc := defScope s_law) (by decide +kernel)) (fun _ _ _ _ _ => (pg_name (i := 12) nd rfl (by first | exact Or.inl rfl | exact Or.inr rfl))) (fun _ _ _ _ _ => pTs_nil) (fun _ _ _ _ _ => (pE_ix ix_seq o2_ix (pE_ix ix_seq o2_ix (pE_var (pv 3)) pE_int) (pE_op op_fdiv o2_div (pE_var (pv 12)) pE_int))) (by decide)) pA_nil)) pA_nil)))))
    (pSs_one (pS_if ((pT_and (pT_cmp op_lt o2_cmp (pE_var (pv 6)) pE_int (nomark _)) (pw_and1 (pT_cmp (op_neD hr.units) o2_ne (pE_call c_law_count (hr.mono (by decide)) (by rfl) (pA_cons (pE_var (pv 14)) (pA_cons (pE_var (pv 5)) pA_nil))) (pE_var (pv 7)) (nomark _))))).pt
    (pSs_one (pS_ret pE_bl))
    pSs_nil)))))))))))))))))))
    (pSs_one (pS_ret pE_bl)))
theorem cal_law (T : Txt mg) (c_law_bag : Cal P w K mg base 1 "_law_bag" 2 g_law_bag) (c_law_behind : Cal P w K mg base 1 "_law_behind" 1 g_law_behind) (c_law_count : Cal P w K mg base 5 "_law_count" 2 g_law_count) (c_law_good_yard : Cal P w K mg base 4 "_law_good_yard" 3 g_law_good_yard) (c_law_take : Cal P w K mg base 1 "_law_take" 2 g_law_take) (c_law_wider : Cal P w K mg base 2 "_law_wider" 2 g_law_wider) (c_is_yard : Cal P w K mg base 3 "is_yard" 1 g_is_yard) (c_most_sitters : Cal P w K mg base 3 "most_sitters" 1 g_most_sitters) (c_shaded : Cal P w K mg base 2 "shaded" 2 g_shaded) {f : Addr} {fd : FuncData} (F : Fun K "law" "law" s_law f fd) (hm : mg "law" = some (.ref f)) : Cal P w K mg base 6 "law" 1 g_law :=
  ⟨f, fd, ["script"], rfl, ok_law T c_law_bag c_law_behind c_law_count c_law_good_yard c_law_take c_law_wider c_is_yard c_most_sitters c_shaded F, hm, F.kp, F.binds (ps := ["script"]) fun _ _ _ _ _ _ us hl => match us, hl with | [_], _ => rfl⟩
end
end Sh
set_option Elab.async false
set_option linter.all false
set_option maxRecDepth 100000
set_option maxHeartbeats 1000000
namespace Sh
open PySem L2 PyProof.Rows
/-! ### yards -/
structure Yd where
  n : Int
  walls : List (Int × Int)
  sun : List (Bool × Int × Int)
def sideS (e : Bool) : Str := if e then "e" else "w"
def wallD (w : Int × Int) : PyData := .tuple [.int w.1, .int w.2]
def hourD (h : Bool × Int × Int) : PyData := .tuple [.str (sideS h.1), .tuple [.int h.2.1, .int h.2.2]]
def yardD (y : Yd) : PyData := .tuple [.int y.n, .tuple (y.walls.map wallD), .tuple (y.sun.map hourD)]
structure Yd.Ok (y : Yd) : Prop where
  n1 : 1 ≤ y.n
  n8 : y.n ≤ 9
  wl : y.walls.length ≤ 9
  sl : y.sun.length ≤ 16
  w : ∀ w ∈ y.walls, 0 ≤ w.1 ∧ w.1 ≤ 9 ∧ 1 ≤ w.2 ∧ w.2 ≤ 9
  s : ∀ h ∈ y.sun, 0 ≤ h.2.1 ∧ h.2.1 ≤ 1000000 ∧ 1 ≤ h.2.2 ∧ h.2.2 ≤ 1000000
/-- a wall's shadow comes to a seat's middle -/
def hit (h : Bool × Int × Int) (seat : Int) (w : Int × Int) : Bool :=
  let hv := if h.1 then 2 * (w.1 - seat) - 1 else 2 * (seat - w.1) + 1
  decide (0 < hv) && decide (hv * h.2.2 ≤ 2 * w.2 * h.2.1)
def sh (y : Yd) (seat : Int) (hour : Nat) : Bool := match y.sun[hour]? with
  | some h => y.walls.any (hit h seat)
  | none => false
@[simp] theorem side_beq (e : Bool) : (sideS e == ("e" : Str)) = e := by cases e <;> decide +kernel
@[simp] theorem side_beqw (e : Bool) : (sideS e == ("w" : Str)) = !e := by cases e <;> decide +kernel
@[simp] theorem side_ok (e : Bool) : PyData.strOk (sideS e) = true := by cases e <;> decide +kernel
@[simp] theorem ok_e : PyData.strOk "e" = true := by decide +kernel
@[simp] theorem ok_w : PyData.strOk "w" = true := by decide +kernel
@[simp] theorem b64_2 : b64 2 = true := by decide
theorem yard_hour {y : Yd} {hour : Nat} {h : Bool × Int × Int} (e : y.sun[hour]? = some h) : atI (y.sun.map hourD) (hour : Int) = some (hourD h) := atI_at (by rw [List.getElem?_map, e]; rfl)
theorem small_b64 {i : Int} (h1 : -1000000 ≤ i) (h2 : i ≤ 1000000) : b64 i = true := by
  unfold b64
  rw [Bool.and_eq_true]
  exact ⟨decide_eq_true (by omega), decide_eq_true (by omega)⟩
theorem yardD_eq (y : Yd) : yardD y = .tuple [.int y.n, .tuple (y.walls.map wallD), .tuple (y.sun.map hourD)] := rfl
theorem is_shaded_ev {y : Yd} (ok : y.Ok) {seat : Int} {hour : Nat} (s0 : 0 ≤ seat) (s9 : seat ≤ 9) (hh : hour < y.sun.length) (μ : Mu) :
    g_is_shaded [.d (yardD y), .d (.int seat), .d (.int hour)] μ = some (.d (.bool (sh y seat hour)), μ) := by
  have eh := List.getElem?_eq_getElem hh
  generalize y.sun[hour] = h at eh
  have hs := ok.s h (List.mem_of_getElem? eh)
  have eat := yard_hour eh
  have hsh : sh y seat hour = y.walls.any (hit h seat) := by unfold sh; rw [eh]
  obtain ⟨sd, a, b⟩ := h
  obtain ⟨a0, a1, b0, b1⟩ : 0 ≤ a ∧ a ≤ 1000000 ∧ 1 ≤ b ∧ b ≤ 1000000 := hs
  have st : ∃ ρ', L_is_shaded_1 [some (.d (yardD y)), some (.d (.int seat)), some (.d (.int hour)), some (.d (.str (sideS sd))), some (.d (.tuple [.int a, .int b])), none, none, none] μ = some (if y.walls.any (hit (sd, a, b) seat) then .rt (.d (.bool true)) else .nx, ρ', μ) ∧ _ :=
    search_ev (ds := y.walls.map wallD) y.walls wallD (by rw [yardD_eq]; simp) rfl (hit (sd, a, b) seat) (.d (.bool true))
    (fun ρ => ∃ p q r, ρ = [some (.d (yardD y)), some (.d (.int seat)), some (.d (.int hour)), some (.d (.str (sideS sd))), some (.d (.tuple [.int a, .int b])), p, q, r]) ⟨_, _, _, rfl⟩ (by
      rintro w hw ρ ⟨p, q, r, rfl⟩
      obtain ⟨w1, w2, w3, w4⟩ := ok.w w hw
      refine ⟨_, rfl, ?_⟩
      have m1 : b64 (2 * w.2) = true := small_b64 (by omega) (by omega)
      have m2 : b64 b = true := small_b64 (by omega) (by omega)
      cases sd
      · by_cases c1 : 0 < 2 * (seat - w.1) + 1 <;> by_cases c2 : (2 * (seat - w.1) + 1) * b ≤ 2 * w.2 * a <;> simp [l_is_shaded_1, hit, m1, m2, c1, c2]
      · by_cases c1 : 1 < 2 * (w.1 - seat) <;> by_cases c2 : (2 * (w.1 - seat) - 1) * b ≤ 2 * w.2 * a <;> simp [l_is_shaded_1, hit, m1, m2, c1, c2])
  obtain ⟨ρ', e, _⟩ := st
  simp only [g_is_shaded, mkFn, b_is_shaded]
  simp [eat, hourD, yardD_eq] at e ⊢
  rw [e, hsh]
  cases y.walls.any (hit (sd, a, b) seat) <;> simp
theorem hit_law {h : Bool × Int × Int} (hb : 1 ≤ h.2.2) (seat : Int) (w : Int × Int) :
    hit h seat w = if h.1 then decide ((2 * seat + 1) * h.2.2 < 2 * w.1 * h.2.2) && decide (2 * w.1 * h.2.2 - 2 * w.2 * h.2.1 ≤ (2 * seat + 1) * h.2.2)
      else decide (2 * w.1 * h.2.2 < (2 * seat + 1) * h.2.2) && decide ((2 * seat + 1) * h.2.2 ≤ 2 * w.1 * h.2.2 + 2 * w.2 * h.2.1) := by
  obtain ⟨sd, a, b⟩ := h
  have hb : 1 ≤ b := hb
  have e1 : (2 * (w.1 - seat) - 1) * b = 2 * w.1 * b - (2 * seat + 1) * b := by
    rw [← Int.sub_mul]; congr 1; omega
  have e2 : (2 * (seat - w.1) + 1) * b = (2 * seat + 1) * b - 2 * w.1 * b := by
    rw [← Int.sub_mul]; congr 1; omega
  have i1 : (0 < 2 * (w.1 - seat) - 1) ↔ (2 * seat + 1) * b < 2 * w.1 * b := by
    rw [Int.mul_lt_mul_right (by omega)]; omega
  have i2 : (0 < 2 * (seat - w.1) + 1) ↔ 2 * w.1 * b < (2 * seat + 1) * b := by
    rw [Int.mul_lt_mul_right (by omega)]; omega
  cases sd with
  | true =>
    show (decide (0 < 2 * (w.1 - seat) - 1) && decide ((2 * (w.1 - seat) - 1) * b ≤ 2 * w.2 * a)) = (decide ((2 * seat + 1) * b < 2 * w.1 * b) && decide (2 * w.1 * b - 2 * w.2 * a ≤ (2 * seat + 1) * b))
    rw [decide_eq_decide.mpr i1, e1]
    congr 1
    exact decide_eq_decide.mpr (by omega)
  | false =>
    show (decide (0 < 2 * (seat - w.1) + 1) && decide ((2 * (seat - w.1) + 1) * b ≤ 2 * w.2 * a)) = (decide (2 * w.1 * b < (2 * seat + 1) * b) && decide ((2 * seat + 1) * b ≤ 2 * w.1 * b + 2 * w.2 * a))
    rw [decide_eq_decide.mpr i2, e2]
    congr 1
    exact decide_eq_decide.mpr (by omega)
theorem law_is_shaded_ev {y : Yd} (ok : y.Ok) {seat : Int} {hour : Nat} (s0 : 0 ≤ seat) (s9 : seat ≤ 9) (hh : hour < y.sun.length) (μ : Mu) :
    g_law_is_shaded [.d (yardD y), .d (.int seat), .d (.int hour)] μ = some (.d (.bool (sh y seat hour)), μ) := by
  have eh := List.getElem?_eq_getElem hh
  generalize y.sun[hour] = h at eh
  have hs := ok.s h (List.mem_of_getElem? eh)
  have eat := yard_hour eh
  have hsh : sh y seat hour = y.walls.any (hit h seat) := by unfold sh; rw [eh]
  obtain ⟨sd, a, b⟩ := h
  obtain ⟨a0, a1, b0, b1⟩ : 0 ≤ a ∧ a ≤ 1000000 ∧ 1 ≤ b ∧ b ≤ 1000000 := hs
  have st : ∃ ρ', L_law_is_shaded_1 [some (.d (yardD y)), some (.d (.int seat)), some (.d (.int hour)), some (.d (.str (sideS sd))), some (.d (.tuple [.int a, .int b])), none, none, none, none, none] μ = some (if y.walls.any (hit (sd, a, b) seat) then .rt (.d (.bool true)) else .nx, ρ', μ) ∧ _ :=
    search_ev (ds := y.walls.map wallD) y.walls wallD (by rw [yardD_eq]; simp) rfl (hit (sd, a, b) seat) (.d (.bool true))
    (fun ρ => ∃ p q r s t, ρ = [some (.d (yardD y)), some (.d (.int seat)), some (.d (.int hour)), some (.d (.str (sideS sd))), some (.d (.tuple [.int a, .int b])), p, q, r, s, t]) ⟨_, _, _, _, _, rfl⟩ (by
      rintro w hw ρ ⟨p, q, r, s, t, rfl⟩
      obtain ⟨w1, w2, w3, w4⟩ := ok.w w hw
      refine ⟨_, rfl, ?_⟩
      have m1 : b64 (2 * w.2) = true := small_b64 (by omega) (by omega)
      have m2 : b64 b = true := small_b64 (by omega) (by omega)
      rw [hit_law (h := (sd, a, b)) b0]
      cases sd
      · by_cases c1 : 2 * w.1 * b < (2 * seat + 1) * b <;> by_cases c2 : (2 * seat + 1) * b ≤ 2 * w.1 * b + 2 * w.2 * a <;> simp [l_law_is_shaded_1, m1, m2, c1, c2]
      · by_cases c1 : (2 * seat + 1) * b < 2 * w.1 * b <;> by_cases c2 : 2 * w.1 * b - 2 * w.2 * a ≤ (2 * seat + 1) * b <;> simp [l_law_is_shaded_1, m1, m2, c1, c2])
  obtain ⟨ρ', e, _⟩ := st
  simp only [g_law_is_shaded, mkFn, b_law_is_shaded]
  simp [eat, hourD, yardD_eq] at e ⊢
  rw [e, hsh]
  cases y.walls.any (hit (sd, a, b) seat) <;> simp
/-! ### the shaded seats, rising -/
def seatsAt (y : Yd) (hour : Nat) : List Int := ((List.range y.n.toNat).map fun (i : Nat) => (i : Int)).filter fun s => sh y s hour
theorem yd_n {y : Yd} (ok : y.Ok) : b62 y.n = true := by
  have := ok.n1
  have := ok.n8
  exact b62_eq (by omega) (by omega)
theorem rng0 (n : Nat) : rngD 0 n = ((List.range n).map fun (i : Nat) => (i : Int)).map .int := by
  unfold rngD
  rw [List.map_map]
  congr 1
  funext i
  show PyData.int (0 + (i : Int)) = PyData.int i
  rw [Int.zero_add]
theorem mem_rng {n : Int} {s : Int} (h : s ∈ (List.range n.toNat).map fun (i : Nat) => (i : Int)) : 0 ≤ s ∧ s < n := by
  obtain ⟨i, hi, rfl⟩ := List.mem_map.mp h
  have := List.mem_range.mp hi
  omega
theorem shaded_ev {y : Yd} (ok : y.Ok) {hour : Nat} (hh : hour < y.sun.length) (μ : Mu) : g_shaded [.d (yardD y), .d (.int hour)] μ = some (.d (.list ((seatsAt y hour).map .int)), μ) := by
  have e : C_shaded_1 [some (.d (yardD y)), some (.d (.int hour)), none] μ = some (mkL false ((seatsAt y hour).map .int) μ) := by
    refine comp_ev (s := ⟨rngD 0 y.n.toNat, none⟩) ((List.range y.n.toNat).map fun (i : Nat) => (i : Int)) .int ?_ (rng0 _) (ok_none _) ?_ (fun s => sh y s hour) .int ?_
    · rw [yardD_eq]; simp [yd_n ok]
    · have := ok.n8
      simp; omega
    · intro s hs acc
      obtain ⟨s0, s1⟩ := mem_rng hs
      refine ⟨_, rfl, ?_⟩
      have := is_shaded_ev ok s0 (by have := ok.n8; omega) hh (μ ++ [.lst acc])
      simp [this]
  simp only [g_shaded, mkFn, b_shaded]
  simp at e ⊢
  rw [e]
  simp
theorem law_shaded_ev {y : Yd} (ok : y.Ok) {hour : Nat} (hh : hour < y.sun.length) (μ : Mu) : g_law_shaded [.d (yardD y), .d (.int hour)] μ = some (.d (.list ((seatsAt y hour).map .int)), μ) := by
  have e : C_law_shaded_1 [some (.d (yardD y)), some (.d (.int hour)), none] μ = some (mkL false ((seatsAt y hour).map .int) μ) := by
    refine comp_ev (s := ⟨rngD 0 y.n.toNat, none⟩) ((List.range y.n.toNat).map fun (i : Nat) => (i : Int)) .int ?_ (rng0 _) (ok_none _) ?_ (fun s => sh y s hour) .int ?_
    · rw [yardD_eq]; simp [yd_n ok]
    · have := ok.n8
      simp; omega
    · intro s hs acc
      obtain ⟨s0, s1⟩ := mem_rng hs
      refine ⟨_, rfl, ?_⟩
      have := law_is_shaded_ev ok s0 (by have := ok.n8; omega) hh (μ ++ [.lst acc])
      simp [this]
  simp only [g_law_shaded, mkFn, b_law_shaded]
  simp at e ⊢
  rw [e]
  simp
end Sh
set_option Elab.async false
set_option linter.all false
set_option maxRecDepth 100000
set_option maxHeartbeats 1000000
namespace Sh
open PySem L2 PyProof.Rows
/-! ### hours as stretches -/
theorem runs_take (hs : List Int) (k : Nat) (h : Int) (e : hs[k]? = some h) : runsL (hs.take (k + 1)) = runStep (runsL (hs.take k)) h := by
  unfold runsL
  rw [List.take_succ, e]
  show ((hs.take k) ++ [h]).foldl runStep [] = _
  rw [List.foldl_append]; rfl
@[simp] theorem ixN_end (n : Nat) : ixN (n + 1) (-1) = some n := by
  unfold ixN
  rw [if_neg (by decide), if_pos (by omega)]
  congr 1
  omega
theorem prD_eq (p : Int × Int) : prD p = .tuple [.int p.1, .int p.2] := rfl
theorem runs_len (hs : List Int) : (runsL hs).length ≤ hs.length := by
  have key : ∀ (hs : List Int) (acc : List (Int × Int)), (hs.foldl runStep acc).length ≤ acc.length + hs.length := by
    intro hs
    induction hs with
    | nil => intro acc; exact Nat.le_refl _
    | cons h hs ih =>
      intro acc
      have := ih (runStep acc h)
      have h2 : (runStep acc h).length ≤ acc.length + 1 := by
        unfold runStep
        split
        · split
          · rw [List.length_append, List.length_dropLast, List.length_singleton]; omega
          · rw [List.length_append]; exact Nat.le_refl _
        · exact Nat.le_add_left _ _
      rw [List.foldl_cons, List.length_cons]
      omega
  simpa [runsL] using key hs []
end Sh
set_option Elab.async false
set_option linter.all false
set_option maxRecDepth 100000
set_option maxHeartbeats 1000000
namespace Sh
open PySem L2 PyProof.Rows
/-! ### stretches -/
def hoursAt (y : Yd) (seat : Int) : List Int := (nums y.sun.length).filter fun h => sh y seat h.toNat
def triD (p : Int × Int × Int) : PyData := .tuple [.int p.1, .int p.2.1, .int p.2.2]
def spansAt (y : Yd) (seat : Int) : List (Int × Int × Int) := (runsL (hoursAt y seat)).map fun p => (seat, p.1, p.2)
def spansTo (y : Yd) (ss : List Int) : List (Int × Int × Int) := ss.flatMap (spansAt y)
def spansL (y : Yd) : List (Int × Int × Int) := spansTo y (nums y.n.toNat)
theorem nums_len (n : Nat) : (nums n).length = n := by unfold nums; rw [List.length_map, List.length_range]
theorem nums_get {n k : Nat} {x : Int} (h : (nums n)[k]? = some x) : x = k ∧ k < n := by
  unfold nums at h
  rw [List.getElem?_map] at h
  by_cases c : k < n
  · rw [List.getElem?_range c] at h
    simp at h
    exact ⟨h.symm, c⟩
  · rw [List.getElem?_eq_none (by rw [List.length_range]; omega)] at h
    cases h
theorem spansTo_take (y : Yd) (ss : List Int) (k : Nat) (s : Int) (e : ss[k]? = some s) : spansTo y (ss.take (k + 1)) = spansTo y (ss.take k) ++ spansAt y s := by
  unfold spansTo
  rw [List.take_succ, e]
  simp
theorem hoursAt_len (y : Yd) (seat : Int) : (hoursAt y seat).length ≤ y.sun.length := by
  have := List.length_filter_le (fun h : Int => sh y seat h.toNat) (nums y.sun.length)
  rw [nums_len] at this
  exact this
theorem spansAt_len (y : Yd) (seat : Int) : (spansAt y seat).length ≤ y.sun.length := by
  have h1 := hoursAt_len y seat
  have h2 := runs_len (hoursAt y seat)
  unfold spansAt
  rw [List.length_map]
  omega
theorem spansTo_len (y : Yd) : ∀ ss : List Int, (spansTo y ss).length ≤ ss.length * y.sun.length
  | [] => Nat.zero_le _
  | s :: ss => by
    have h1 := spansAt_len y s
    have h2 := spansTo_len y ss
    unfold spansTo at h2 ⊢
    rw [List.flatMap_cons, List.length_append, List.length_cons, Nat.succ_mul]
    omega
theorem b62_nat {n : Nat} (h : n ≤ 1000000) : b62 (n : Int) = true := b62_eq (Int.le_trans (by decide) (Int.natCast_nonneg n)) (Int.lt_of_le_of_lt (Int.ofNat_le.mpr h) (by decide))
theorem rng1_ev {m : Sa} {ρ : Ro} {μ : Mu} {n : Nat} (e : m ρ μ = some ([.d (.int n)], μ)) (h : n ≤ 1000000) : sRng1 m ρ μ = some (⟨rngD 0 n, none⟩, μ) := by
  unfold sRng1
  rw [e]
  simp only [Option.bind_some, b62_nat h, if_true, Int.toNat_natCast]
theorem sun_len (y : Yd) (μ : Mu) (r : Ro) : sCons (sA fLen (sCons (s2 fIx (sVar 0) (sC (.int 2))) sNil)) sNil (some (.d (yardD y)) :: r) μ = some ([.d (.int y.sun.length)], μ) := by
  rw [yardD_eq]; simp
end Sh
set_option Elab.async false
set_option linter.all false
set_option maxRecDepth 100000
set_option maxHeartbeats 1000000
namespace Sh
open PySem L2 PyProof.Rows
/-! ### the law's spans -/
def clo (k : Nat) (closed : List (Int × Int)) : Option Int → List (Int × Int)
  | none => closed
  | some s => closed ++ [(s, (k : Int) - 1)]
def SInv (p : Nat → Bool) (k : Nat) (closed : List (Int × Int)) : Option Int → Prop
  | none => runsL (upto p k) = closed ∧ ∀ q, closed.getLast? = some q → q.2 < (k : Int) - 1
  | some s => runsL (upto p k) = closed ++ [(s, (k : Int) - 1)] ∧ 1 ≤ k ∧ p (k - 1) = true
theorem SInv_step {p : Nat → Bool} {k : Nat} {closed : List (Int × Int)} {since : Option Int} (h : SInv p k closed since) :
    SInv p (k + 1) (if p k then closed else clo k closed since) (if p k then some (since.getD k) else none) := by
  cases since with
  | none =>
    obtain ⟨h1, h2⟩ := h
    cases c : p k with
    | true =>
      simp only [if_true]
      refine ⟨?_, by omega, by simpa using c⟩
      rw [upto_succ, c, if_pos rfl, runsL_snoc, h1]
      unfold runStep
      split
      · rename_i q e
        have := h2 q e
        rw [if_neg (by omega)]
        simp
      · rename_i e
        rw [List.getLast?_eq_none_iff.mp e]
        simp
    | false =>
      simp only [Bool.false_eq_true, if_false]
      refine ⟨?_, fun q e => ?_⟩
      · rw [upto_succ, c, if_neg Bool.false_ne_true, h1]; rfl
      · have := h2 q e
        omega
  | some s =>
    obtain ⟨h1, h2, h3⟩ := h
    cases c : p k with
    | true =>
      simp only [if_true]
      refine ⟨?_, by omega, by simpa using c⟩
      rw [upto_succ, c, if_pos rfl, runsL_snoc, h1]
      unfold runStep
      simp
    | false =>
      simp only [Bool.false_eq_true, if_false]
      refine ⟨?_, fun q e => ?_⟩
      · rw [upto_succ, c, if_neg Bool.false_ne_true, h1]; rfl
      · simp [clo] at e
        subst e
        show (k : Int) - 1 < ((k + 1 : Nat) : Int) - 1
        omega
theorem SInv_len {p : Nat → Bool} {k : Nat} {closed : List (Int × Int)} {since : Option Int} (h : SInv p k closed since) : closed.length ≤ k := by
  have h1 := runs_len (upto p k)
  have h2 : (upto p k).length ≤ k := by
    have := List.length_filter_le (fun h : Int => p h.toNat) (nums k)
    rw [nums_len] at this
    exact this
  cases since with
  | none => rw [h.1] at h1; omega
  | some s => rw [h.1, List.length_append] at h1; omega
def sinD : Option Int → PyData
  | none => .none
  | some s => .int s
theorem sh_out (y : Yd) (seat : Int) : sh y seat y.sun.length = false := by
  unfold sh
  rw [List.getElem?_eq_none (Nat.le_refl _)]
theorem sun_len1 (y : Yd) (μ : Mu) (r : Ro) : (s2 (fAdd false) (sA fLen (sCons (s2 fIx (sVar 0) (sC (.int 2))) sNil)) (sC (.int 1))) (some (.d (yardD y)) :: r) μ = some (.d (.int (y.sun.length + 1 : Nat)), μ) := by
  rw [yardD_eq]; simp
end Sh
set_option Elab.async false
set_option linter.all false
set_option maxRecDepth 100000
set_option maxHeartbeats 1000000
namespace Sh
open PySem L2 PyProof.Rows
/-! ### lowest terms -/
theorem gcd_loop {m : Nat} {test : Sb} {body : Ss} {t b : Rv} {μ : Mu} (hm : m = μ.length)
    (ht : ∀ x y : Nat, test [some t, some b, some (.d (.int x)), some (.d (.int y))] μ = some (decide (y ≠ 0), μ))
    (hb : ∀ x y : Nat, y ≠ 0 → body [some t, some b, some (.d (.int x)), some (.d (.int y))] μ = some (.nx, [some t, some b, some (.d (.int y)), some (.d (.int ((x % y : Nat) : Int)))], μ))
    (hc : ∀ x y : Int, cutR m [some t, some b, some (.d (.int x)), some (.d (.int y))] = [some t, some b, some (.d (.int x)), some (.d (.int y))]) :
    ∀ (f y x : Nat), y < f → wloop m test body f [some t, some b, some (.d (.int x)), some (.d (.int y))] μ = some (.nx, [some t, some b, some (.d (.int (Nat.gcd x y))), some (.d (.int 0))], μ) := by
  intro f
  induction f with
  | zero => intro y x h; omega
  | succ f ih =>
    intro y x h
    unfold wloop
    rw [ht]
    simp only [Option.bind_some]
    by_cases c : y = 0
    · subst c
      simp
    · rw [if_pos (by simpa using c), hb x y c]
      simp only [Option.bind_some]
      rw [hc, hm, take_self, ← hm, ih (x % y) y (by have := Nat.mod_lt x (Nat.pos_of_ne_zero c); omega)]
      rw [Nat.gcd_comm y, ← Nat.gcd_rec, Nat.gcd_comm]
theorem ne0_ev (r : List Rv) (a b c : Option Rv) (μ : Mu) (y : Nat) : sTst (s2 (fEq true) (sVar 3) (sC (.int 0))) [a, b, c, some (.d (.int y))] μ = some (decide (y ≠ 0), μ) := by
  rcases Nat.eq_zero_or_pos y with rfl | h
  · simp
  · have : y ≠ 0 := by omega
    simp [h, this]
theorem gstep_ev (a b : Option Rv) (μ : Mu) (x y : Nat) (h : y ≠ 0) : w_law_lowest_1 [a, b, some (.d (.int x)), some (.d (.int y))] μ = some (.nx, [a, b, some (.d (.int y)), some (.d (.int ((x % y : Nat) : Int)))], μ) := by
  have : 0 < y := by omega
  simp [w_law_lowest_1, this]
theorem law_lowest_ev (a b : Nat) (h1 : 1 ≤ b) (hb : b < 1073741824) (μ : Mu) : g_law_lowest [.d (.int a), .d (.int b)] μ = some (.d (.tuple [.int (a / Nat.gcd a b : Nat), .int (b / Nat.gcd a b : Nat)]), μ) := by
  have hf : b < FUEL := Nat.lt_trans hb (by decide)
  have hg : 0 < Nat.gcd a b := Nat.gcd_pos_of_pos_right _ h1
  have hg2 : Nat.gcd a b ≤ b := Nat.gcd_le_right _ h1
  have e := gcd_loop (m := μ.length) (test := sTst (s2 (fEq true) (sVar 3) (sC (.int 0)))) (body := w_law_lowest_1) (t := .d (.int a)) (b := .d (.int b)) (μ := μ) rfl (fun x y => ne0_ev [] _ _ _ _ _) (fun x y h => gstep_ev _ _ _ _ _ h) (fun x y => by simp) FUEL b a hf
  have e : W_law_lowest_1 [some (.d (.int a)), some (.d (.int b)), some (.d (.int a)), some (.d (.int b))] μ = _ := e
  simp only [g_law_lowest, mkFn, b_law_lowest]
  have hg3 : ((Nat.gcd a b : Nat) : Int) < 1073741824 := by omega
  simp [e, hg, hg3]
/-! ### step by step -/
theorem seq_nx {a b : Ss} {ρ ρ' : Ro} {μ μ' : Mu} (e : a ρ μ = some (.nx, ρ', μ')) : sSeq a b ρ μ = b ρ' μ' := by
  unfold sSeq
  rw [e]; rfl
theorem seq_rt {a b : Ss} {ρ ρ' : Ro} {μ μ' : Mu} {r : Rv} (e : a ρ μ = some (.rt r, ρ', μ')) : sSeq a b ρ μ = some (.rt r, ρ', μ') := by
  unfold sSeq
  rw [e]; rfl
theorem fn_rt {n N : Nat} {b : Ss} {rs : List Rv} {μ : Mu} {r : Rv} {ρ ρ' : Ro} {μ' : Mu} (e : b ρ μ = some (.rt r, ρ', μ')) (h : rs.length = n) (hr : rs.map some ++ List.replicate (N - rs.length) none = ρ) : mkFn n N b rs μ = retv μ.length μ' r := by
  unfold mkFn
  rw [if_pos h, hr, e]; rfl
theorem retv_d (μ : Mu) (d : PyData) : retv μ.length μ (.d d) = some (.d d, μ) := by
  simp
theorem fn_d {n N : Nat} {b : Ss} {rs : List Rv} {μ : Mu} {d : PyData} {ρ ρ' : Ro} (e : b ρ μ = some (.rt (.d d), ρ', μ)) (h : rs.length = n) (hr : rs.map some ++ List.replicate (N - rs.length) none = ρ) : mkFn n N b rs μ = some (.d d, μ) := by
  rw [fn_rt e h hr, retv_d]
theorem fn_dx {n N : Nat} {b : Ss} {rs : List Rv} {μ : Mu} {d : PyData} {ρ : Ro} (e : ∃ ρ', b ρ μ = some (.rt (.d d), ρ', μ)) (h : rs.length = n) (hr : rs.map some ++ List.replicate (N - rs.length) none = ρ) : mkFn n N b rs μ = some (.d d, μ) := by
  obtain ⟨ρ', e⟩ := e
  exact fn_d e h hr
theorem fn_dm {n N : Nat} {b : Ss} {rs : List Rv} {μ : Mu} {d : PyData} {ρ : Ro} (e : ∃ ρ' μ', b ρ μ = some (.rt (.d d), ρ', μ') ∧ μ'.take μ.length = μ) (h : rs.length = n) (hr : rs.map some ++ List.replicate (N - rs.length) none = ρ) : mkFn n N b rs μ = some (.d d, μ) := by
  obtain ⟨ρ', μ', e, e2⟩ := e
  rw [fn_rt e h hr]
  simp [e2]
/-! ### slices -/
theorem cut_drop {α : Type} (xs : List α) (k : Nat) : cutG xs (some (k : Int)) none = xs.drop k := by
  unfold cutG
  rw [HT.sIx_nat, HT.sIx_none]
  rcases Nat.le_total k xs.length with h | h
  · rw [Nat.min_eq_left h, List.take_of_length_le (by rw [List.length_drop]; exact Nat.le_refl _)]
  · rw [Nat.min_eq_right h, List.drop_length, List.drop_eq_nil_of_le h, List.take_nil]
theorem cut_take {α : Type} (xs : List α) (k : Nat) : cutG xs none (some (k : Int)) = xs.take k := by
  unfold cutG
  rw [HT.sIx_nat, HT.sIx_none, List.drop_zero, Nat.sub_zero]
  rcases Nat.le_total k xs.length with h | h
  · rw [Nat.min_eq_left h]
  · rw [Nat.min_eq_right h, List.take_length, List.take_of_length_le h]
@[simp] theorem cut_drop1 {α : Type} (xs : List α) : cutG xs (some 1) none = xs.drop 1 := cut_drop xs 1
@[simp] theorem cut_take1 {α : Type} (xs : List α) : cutG xs none (some 1) = xs.take 1 := cut_take xs 1
@[simp] theorem cut_take2 {α : Type} (xs : List α) : cutG xs none (some 2) = xs.take 2 := cut_take xs 2
@[simp] theorem cut_take8 {α : Type} (xs : List α) : cutG xs none (some 8) = xs.take 8 := cut_take xs 8
@[simp] theorem cut_take9 {α : Type} (xs : List α) : cutG xs none (some 9) = xs.take 9 := cut_take xs 9
/-! ### the bag -/
abbrev bg (p : Int × Int) : Mo := .lst [.int p.1, .int p.2]
@[simp] theorem b64_48271 : b64 48271 = true := by decide
@[simp] theorem ixN_20 : ixN 2 0 = some 0 := by decide
@[simp] theorem ixN_21 : ixN 2 1 = some 1 := by decide
@[simp] theorem b64_16807 : b64 16807 = true := by decide
@[simp] theorem b64_40009 : b64 40009 = true := by decide
@[simp] theorem b64_7919 : b64 7919 = true := by decide
theorem take_ev (p : Int × Int) (c : Int) (c1 : 1 ≤ c) (c2 : c < 1073741824) (μ : Mu) : ∃ (r : Int) (q : Int × Int), 0 ≤ r ∧ r < c ∧ g_law_take [.m 0, .d (.int c)] (bg p :: μ) = some (.d (.int r), bg q :: μ) := by
  obtain ⟨a, b⟩ := p
  have c0 : 0 < c := by omega
  by_cases h : 0 < a
  · refine ⟨a % c, (a / c, b), Int.emod_nonneg _ (by omega), Int.emod_lt_of_pos _ (by omega), ?_⟩
    simp [g_law_take, mkFn, b_law_take, h, c0, c2]
  · have hb : b64 (b * 48271 % 2147483647 % 32749 + 17) = true := small_b64 (by omega) (by omega)
    refine ⟨b * 48271 % 2147483647 / 13 * (b * 48271 % 2147483647 % 32749 + 17) % 2147483629 / 32 % c, (a, b * 48271 % 2147483647), Int.emod_nonneg _ (by omega), Int.emod_lt_of_pos _ (by omega), ?_⟩
    simp [g_law_take, mkFn, b_law_take, h, c0, hb]
def seedOf (cell k : Int) : Int := 1 + (cell % 2147483629 * 16807 + 40009 * k * k + 7919 * k + 1009) % 2147483645
theorem bag_i (ns : List Int) (k : Int) (hb : b64 k = true) (hk : k < (ns.length : Int) → ∃ n, atI ns k = some n) : ∃ q : Int × Int, g_law_bag [.s ns, .d (.int k)] [] = some (.m 0, [bg q]) := by
  by_cases h : k < (ns.length : Int)
  · obtain ⟨n, ha⟩ := hk h
    by_cases h2 : n % 1000000000000000000000000000000000000000000000000000000000000 < 1000000000000000000
    · refine ⟨(0, seedOf (n % 1000000000000000000000000000000000000000000000000000000000000) k), ?_⟩
      simp [g_law_bag, mkFn, b_law_bag, h, hb, ha, h2, seedOf]
    · refine ⟨(n % 1000000000000000000000000000000000000000000000000000000000000, seedOf (n % 1000000000000000000000000000000000000000000000000000000000000) k), ?_⟩
      simp [g_law_bag, mkFn, b_law_bag, h, hb, ha, h2, seedOf]
  · refine ⟨(0, seedOf 0 k), ?_⟩
    simp [g_law_bag, mkFn, b_law_bag, h, hb, seedOf]
theorem bag_ev (ns : List Int) (k : Nat) (hk : k ≤ 100) : ∃ q : Int × Int, g_law_bag [.s ns, .d (.int k)] [] = some (.m 0, [bg q]) := by
  refine bag_i ns k (small_b64 (by omega) (by omega)) fun h => ?_
  have hk2 : k < ns.length := by omega
  exact ⟨ns[k], atI_at (List.getElem?_eq_getElem hk2)⟩
theorem of_ev (p : Int × Int) (ds : List PyData) (h0 : ds ≠ []) (hl : ds.length ≤ 1000) (μ : Mu) : ∃ (d : PyData) (q : Int × Int), d ∈ ds ∧ g_law_of [.m 0, .d (.list ds)] (bg p :: μ) = some (.d d, bg q :: μ) := by
  have hp : 0 < ds.length := List.length_pos_iff.mpr h0
  obtain ⟨r, q, r0, r1, e⟩ := take_ev p ds.length (by omega) (by omega) μ
  obtain ⟨n, rfl⟩ := Int.eq_ofNat_of_zero_le r0
  have hn : n < ds.length := by omega
  have ha : atI ds (n : Int) = some ds[n] := atI_at (List.getElem?_eq_getElem hn)
  refine ⟨ds[n], q, List.getElem_mem hn, ?_⟩
  simp [g_law_of, mkFn, b_law_of, e, ha]
theorem side_ev (p : Int × Int) (μ : Mu) : ∃ (s : Bool) (q : Int × Int), g_law_of [.m 0, .d (.str "eeww")] (bg p :: μ) = some (.d (.str (sideS s)), bg q :: μ) := by
  obtain ⟨r, q, r0, r1, e⟩ := take_ev p 4 (by omega) (by omega) μ
  have hl : (("eeww" : Str).length : Nat) = 4 := by decide +kernel
  have hr : r = 0 ∨ r = 1 ∨ r = 2 ∨ r = 3 := by omega
  have h0 : atI (("eeww" : Str).cps.toList) 0 = some 101 := by decide +kernel
  have h1 : atI (("eeww" : Str).cps.toList) 1 = some 101 := by decide +kernel
  have h2 : atI (("eeww" : Str).cps.toList) 2 = some 119 := by decide +kernel
  have h3 : atI (("eeww" : Str).cps.toList) 3 = some 119 := by decide +kernel
  have he : (⟨#[101]⟩ : Str) = sideS true := by decide +kernel
  have hw : (⟨#[119]⟩ : Str) = sideS false := by decide +kernel
  rcases hr with rfl | rfl | rfl | rfl
  · refine ⟨true, q, ?_⟩
    rw [← he]
    simp [g_law_of, mkFn, b_law_of, hl, e, h0]
  · refine ⟨true, q, ?_⟩
    rw [← he]
    simp [g_law_of, mkFn, b_law_of, hl, e, h1]
  · refine ⟨false, q, ?_⟩
    rw [← hw]
    simp [g_law_of, mkFn, b_law_of, hl, e, h2]
  · refine ⟨false, q, ?_⟩
    rw [← hw]
    simp [g_law_of, mkFn, b_law_of, hl, e, h3]
/-! ### a drawn yard -/
theorem putI_mem {kvs : List (Int × Int)} {k v : Int} {p : Int × Int} (h : p ∈ putI kvs k v) : p = (k, v) ∨ p ∈ kvs := by
  unfold putI at h
  split at h
  · obtain ⟨q, hq, rfl⟩ := List.mem_map.mp h
    split
    · rename_i c
      exact .inl (by rw [c])
    · exact .inr hq
  · rcases List.mem_append.mp h with h | h
    · exact .inr h
    · exact .inl (List.mem_singleton.mp h)
theorem putI_len (kvs : List (Int × Int)) (k v : Int) : (putI kvs k v).length ≤ kvs.length + 1 := by
  unfold putI
  split
  · rw [List.length_map]; omega
  · rw [List.length_append]; exact Nat.le_refl _
def SunV (h : Bool × Int × Int) : Prop := 0 ≤ h.2.1 ∧ h.2.1 ≤ 9 * h.2.2 ∧ 1 ≤ h.2.2 ∧ h.2.2 ≤ 100000 ∧ Nat.gcd h.2.1.toNat h.2.2.toNat = 1
theorem putI_nodup {kvs : List (Int × Int)} (h : (kvs.map (·.1)).Nodup) (k v : Int) : ((putI kvs k v).map (·.1)).Nodup := by
  unfold putI
  split
  · have e : (kvs.map fun p => if p.1 = k then (p.1, v) else p).map (·.1) = kvs.map (·.1) := by
      rw [List.map_map]
      refine List.map_congr_left fun p _ => ?_
      show (if p.1 = k then (p.1, v) else p).1 = p.1
      split <;> rfl
    rw [e]; exact h
  · rename_i c
    rw [List.map_append]
    refine List.nodup_append.mpr ⟨h, by simp, ?_⟩
    rintro a ha b hb rfl
    obtain ⟨p, hp, e⟩ := List.mem_map.mp ha
    have hb : a = k := by simpa using hb
    refine c (List.any_eq_true.mpr ⟨p, hp, ?_⟩)
    simp [e, hb]
theorem sort_rise {kvs : List (Int × Int)} (h : (kvs.map (·.1)).Nodup) : ((sortP kvs).map (·.1)).Pairwise (· < ·) := by
  have h1 := sortP_srt kvs
  have h2 : ((sortP kvs).map (·.1)).Nodup := ((sortP_perm kvs).map _).nodup_iff.mpr h
  rw [List.pairwise_map]
  have h3 : (sortP kvs).Pairwise fun a b => a.1 ≠ b.1 := List.pairwise_map.mp h2
  refine (h1.and h3).imp fun {a b} q => ?_
  obtain ⟨q1, q2⟩ := q
  unfold leB at q1
  rw [SrtO.lexB_no] at q1
  omega
structure Drawn (y : Yd) (seats hours : Int) : Prop where
  n1 : 1 ≤ y.n
  n8 : y.n ≤ seats
  wl : y.walls.length ≤ 5
  s1 : 1 ≤ y.sun.length
  sl : (y.sun.length : Int) ≤ hours
  w : ∀ w ∈ y.walls, 0 ≤ w.1 ∧ w.1 ≤ y.n ∧ 1 ≤ w.2 ∧ w.2 ≤ 9
  s : ∀ h ∈ y.sun, SunV h
  r : (y.walls.map (·.1)).Pairwise (· < ·)
theorem Drawn.ok {y : Yd} {seats hours : Int} (d : Drawn y seats hours) (h1 : seats ≤ 8) (h2 : hours ≤ 8) : y.Ok :=
  ⟨d.n1, by have := d.n8; omega, by have := d.wl; omega, by have := d.sl; omega, fun w hw => by have := d.w w hw; have := d.n8; omega, fun h hh => by obtain ⟨a, b, c, e, _⟩ := d.s h hh; omega⟩
theorem rng1_p {m : Sa} {ρ : Ro} {μ μ' : Mu} {n : Nat} (e : m ρ μ = some ([.d (.int (1 + (n : Int)))], μ') ) (h : n ≤ 1000) : sRng1 m ρ μ = some (⟨rngD 0 (n + 1), none⟩, μ') := by
  unfold sRng1
  rw [e]
  have h1 : b62 (1 + (n : Int)) = true := b62_eq (by omega) (by omega)
  have h2 : (1 + (n : Int)).toNat = n + 1 := by omega
  simp only [Option.bind_some, h1, if_true, h2]
theorem yard_walls (p : Int × Int) (n seats hours : Int) (n1 : 1 ≤ n) (n8 : n ≤ 8) : ∃ (kvs : List (Int × Int)) (q : Int × Int) (x : Option Rv), (kvs.length ≤ 5 ∧ (kvs.map (·.1)).Nodup) ∧ (∀ w ∈ kvs, 0 ≤ w.1 ∧ w.1 ≤ n ∧ 1 ≤ w.2 ∧ w.2 ≤ 9) ∧
    L_law_yard_2 [some (.m 0), some (.d (.int seats)), some (.d (.int hours)), some (.d (.int n)), some (.m 1), none, none, none] [bg p, .dK []] = some (.nx, [some (.m 0), some (.d (.int seats)), some (.d (.int hours)), some (.d (.int n)), some (.m 1), x, none, none], [bg q, .dK kvs]) := by
  obtain ⟨r, q, r0, r1, e⟩ := take_ev p 5 (by omega) (by omega) [.dK []]
  obtain ⟨m, rfl⟩ := Int.eq_ofNat_of_zero_le r0
  obtain ⟨f, ρ', μ', e, h⟩ := for_ev (m := sRng1 (sCons (s2 (fAdd false) (sC (.int 1)) (sCall 2 g_law_take (sCons (sVar 0) (sCons (sC (.int 5)) sNil)))) sNil)) (t := .nm 5) (body := l_law_yard_2) (ρ := [some (.m 0), some (.d (.int seats)), some (.d (.int hours)), some (.d (.int n)), some (.m 1), none, none, none]) (μ := [bg p, .dK []]) (μ1 := [bg q, .dK []]) (s := ⟨rngD 0 (m + 1), none⟩) (nums (m + 1)) .int
    (rng1_p (n := m) (by simp [e]) (by omega)) (rng0 _)
    (fun k ρ μ' => ∃ (kvs : List (Int × Int)) (q : Int × Int) (x : Option Rv), (kvs.length ≤ k ∧ (kvs.map (·.1)).Nodup) ∧ (∀ w ∈ kvs, 0 ≤ w.1 ∧ w.1 ≤ n ∧ 1 ≤ w.2 ∧ w.2 ≤ 9) ∧ ρ = [some (.m 0), some (.d (.int seats)), some (.d (.int hours)), some (.d (.int n)), some (.m 1), x, none, none] ∧ μ' = [bg q, .dK kvs])
    (fun _ _ => False) ⟨[], q, none, ⟨Nat.le_refl _, by simp⟩, fun w hw => (by cases hw), rfl, rfl⟩ (by
      rintro k j ρ μ' hk ⟨kvs, q, x, ⟨hl, hnd⟩, hw, rfl, rfl⟩
      obtain ⟨rfl, hk2⟩ := nums_get hk
      obtain ⟨r2, q2, r20, r21, e2⟩ := take_ev q 2 (by omega) (by omega) [.dK kvs]
      obtain ⟨r3, q3, r30, r31, e3⟩ := take_ev q2 (if r2 = 0 then 3 else 9) (by split <;> omega) (by split <;> omega) [.dK kvs]
      obtain ⟨r4, q4, r40, r41, e4⟩ := take_ev q3 (n + 1) (by omega) (by omega) [.dK kvs]
      have hlt : kvs.length < 4096 := by omega
      have st : l_law_yard_2 [some (.m 0), some (.d (.int seats)), some (.d (.int hours)), some (.d (.int n)), some (.m 1), some (.d (.int k)), none, none] [bg q, .dK kvs] = some (.nx, [some (.m 0), some (.d (.int seats)), some (.d (.int hours)), some (.d (.int n)), some (.m 1), some (.d (.int k)), none, none], [bg q4, .dK (putI kvs r4 (1 + r3))]) := by
        have hr : r2 = 0 ∨ r2 = 1 := by omega
        rcases hr with rfl | rfl <;> simp at e3 <;> simp [l_law_yard_2, e2, e3, e4, hlt]
      refine ⟨_, .nx, _, _, rfl, st, rfl, putI kvs r4 (1 + r3), q4, some (.d (.int k)), ?_, ?_, by simp, by simp⟩
      · exact ⟨by have := putI_len kvs r4 (1 + r3); omega, putI_nodup hnd _ _⟩
      · intro w hw2
        rcases putI_mem hw2 with rfl | h
        · have : r3 < 9 := by split at r31 <;> omega
          refine ⟨r40, ?_, ?_, ?_⟩
          · show r4 ≤ n
            omega
          · show 1 ≤ 1 + r3
            omega
          · show 1 + r3 ≤ 9
            omega
        · exact hw w h)
  cases f with
  | nx =>
    obtain ⟨kvs, q, x, ⟨h1, h1b⟩, h2, rfl, rfl⟩ := h
    rw [nums_len] at h1
    exact ⟨kvs, q, x, ⟨by omega, h1b⟩, h2, e⟩
  | _ => exact h.elim
theorem draw_hour (p : Int × Int) (μ : Mu) : ∃ (h : Bool × Int × Int) (q : Int × Int) (bot : Int), SunV h ∧ ∃ (q1 q2 : Int × Int) (c : Int), g_law_take [.m 0, .d (.int 6)] (bg p :: μ) = some (.d (.int (bot - 1)), bg q1 :: μ) ∧ g_law_of [.m 0, .d (.str "eeww")] (bg q1 :: μ) = some (.d (.str (sideS h.1)), bg q2 :: μ) ∧
    g_law_take [.m 0, .d (.int (4 * bot))] (bg q2 :: μ) = some (.d (.int c), bg q :: μ) ∧ g_law_lowest [.d (.int c), .d (.int bot)] (bg q :: μ) = some (.d (.tuple [.int h.2.1, .int h.2.2]), bg q :: μ) := by
  obtain ⟨r, q1, r0, r1, e1⟩ := take_ev p 6 (by omega) (by omega) μ
  obtain ⟨s, q2, e2⟩ := side_ev q1 μ
  obtain ⟨c, q3, c0, c1, e3⟩ := take_ev q2 (4 * (r + 1)) (by omega) (by omega) μ
  obtain ⟨m, rfl⟩ := Int.eq_ofNat_of_zero_le r0
  obtain ⟨a, rfl⟩ := Int.eq_ofNat_of_zero_le c0
  have e4 := law_lowest_ev a (m + 1) (by omega) (by omega) (bg q3 :: μ)
  have hg : 0 < Nat.gcd a (m + 1) := Nat.gcd_pos_of_pos_right _ (by omega)
  have hg2 : Nat.gcd a (m + 1) ≤ m + 1 := Nat.gcd_le_right _ (by omega)
  have b1 : 0 < (m + 1) / Nat.gcd a (m + 1) := Nat.div_pos hg2 hg
  have b2 : (m + 1) / Nat.gcd a (m + 1) ≤ m + 1 := Nat.div_le_self _ _
  have b3 : a / Nat.gcd a (m + 1) ≤ a := Nat.div_le_self _ _
  refine ⟨(s, ((a / Nat.gcd a (m + 1) : Nat) : Int), (((m + 1) / Nat.gcd a (m + 1) : Nat) : Int)), q3, ((m + 1 : Nat) : Int), ?_, q1, q2, a, ?_, e2, ?_, e4⟩
  · have g1 : Nat.gcd (a / Nat.gcd a (m + 1)) ((m + 1) / Nat.gcd a (m + 1)) = 1 := Nat.coprime_div_gcd_div_gcd hg
    have z1 : a / Nat.gcd a (m + 1) * Nat.gcd a (m + 1) = a := Nat.div_mul_cancel (Nat.gcd_dvd_left _ _)
    have z2 : (m + 1) / Nat.gcd a (m + 1) * Nat.gcd a (m + 1) = m + 1 := Nat.div_mul_cancel (Nat.gcd_dvd_right _ _)
    have b4 : a / Nat.gcd a (m + 1) ≤ 9 * ((m + 1) / Nat.gcd a (m + 1)) := by
      refine Nat.le_of_mul_le_mul_right (c := Nat.gcd a (m + 1)) ?_ hg
      rw [z1, Nat.mul_assoc, z2]
      omega
    generalize (m + 1) / Nat.gcd a (m + 1) = x at b1 b2 g1 b4
    generalize a / Nat.gcd a (m + 1) = z at b3 g1 b4
    refine ⟨?_, ?_, ?_, ?_, ?_⟩
    · show (0 : Int) ≤ (z : Int)
      omega
    · show (z : Int) ≤ 9 * (x : Int)
      omega
    · show (1 : Int) ≤ (x : Int)
      omega
    · show (x : Int) ≤ 100000
      omega
    · show Nat.gcd (z : Int).toNat (x : Int).toNat = 1
      rw [Int.toNat_natCast, Int.toNat_natCast]; exact g1
  · have : ((m + 1 : Nat) : Int) - 1 = (m : Int) := by omega
    rw [this]; exact e1
  · have : (4 : Int) * ((m + 1 : Nat) : Int) = 4 * ((m : Int) + 1) := by omega
    rw [this]; exact e3
@[simp] theorem b64_4 : b64 4 = true := by decide
theorem yard_sun (p : Int × Int) (n seats hours : Int) (h1 : 1 ≤ hours) (h8 : hours ≤ 8) (kvs : List (Int × Int)) (y : Option Rv) : ∃ (sun : List (Bool × Int × Int)) (q : Int × Int) (x z : Option Rv), 1 ≤ sun.length ∧ (sun.length : Int) ≤ hours ∧ (∀ h ∈ sun, SunV h) ∧
    L_law_yard_1 [some (.m 0), some (.d (.int seats)), some (.d (.int hours)), some (.d (.int n)), some (.m 1), y, some (.m 2), none] [bg p, .dK kvs, .lst []] = some (.nx, [some (.m 0), some (.d (.int seats)), some (.d (.int hours)), some (.d (.int n)), some (.m 1), x, some (.m 2), z], [bg q, .dK kvs, .lst (sun.map hourD)]) := by
  obtain ⟨r, q, r0, r1, e⟩ := take_ev p hours (by omega) (by omega) [.dK kvs, .lst []]
  obtain ⟨m, rfl⟩ := Int.eq_ofNat_of_zero_le r0
  obtain ⟨f, ρ', μ', e, h⟩ := for_ev (m := sRng1 (sCons (s2 (fAdd false) (sC (.int 1)) (sCall 2 g_law_take (sCons (sVar 0) (sCons (sVar 2) sNil)))) sNil)) (t := .nm 5) (body := l_law_yard_1) (ρ := [some (.m 0), some (.d (.int seats)), some (.d (.int hours)), some (.d (.int n)), some (.m 1), y, some (.m 2), none]) (μ := [bg p, .dK kvs, .lst []]) (μ1 := [bg q, .dK kvs, .lst []]) (s := ⟨rngD 0 (m + 1), none⟩) (nums (m + 1)) .int
    (rng1_p (n := m) (by simp [e]) (by omega)) (rng0 _)
    (fun k ρ μ' => ∃ (sun : List (Bool × Int × Int)) (q : Int × Int) (x z : Option Rv), sun.length = k ∧ (∀ h ∈ sun, SunV h) ∧ (z = none ∨ ∃ i, z = some (.d (.int i))) ∧ ρ = [some (.m 0), some (.d (.int seats)), some (.d (.int hours)), some (.d (.int n)), some (.m 1), x, some (.m 2), z] ∧ μ' = [bg q, .dK kvs, .lst (sun.map hourD)])
    (fun _ _ => False) ⟨[], q, y, none, rfl, fun w hw => (by cases hw), .inl rfl, rfl, rfl⟩ (by
      rintro k j ρ μ' hk ⟨sun, q, x, z, hl, hw, hz, rfl, rfl⟩
      obtain ⟨rfl, hk2⟩ := nums_get hk
      obtain ⟨h, q', bot, hb, q1, q2, c, e1, e2, e3, e4⟩ := draw_hour q [.dK kvs, .lst (sun.map hourD)]
      have hlt : sun.length < 4096 := by omega
      have st : l_law_yard_1 [some (.m 0), some (.d (.int seats)), some (.d (.int hours)), some (.d (.int n)), some (.m 1), some (.d (.int k)), some (.m 2), z] [bg q, .dK kvs, .lst (sun.map hourD)] = some (.nx, [some (.m 0), some (.d (.int seats)), some (.d (.int hours)), some (.d (.int n)), some (.m 1), some (.d (.int k)), some (.m 2), some (.d (.int bot))], [bg q', .dK kvs, .lst ((sun ++ [h]).map hourD)]) := by
        have hbot : 1 + (bot - 1) = bot := by omega
        simp [l_law_yard_1, e1, hbot, e2, e3, e4, hlt, hourD]
      refine ⟨_, .nx, _, _, rfl, st, rfl, sun ++ [h], q', some (.d (.int k)), some (.d (.int bot)), by simp [hl], ?_, .inr ⟨_, rfl⟩, by simp, by simp⟩
      intro h2 hh
      rcases List.mem_append.mp hh with hh | hh
      · exact hw h2 hh
      · rw [List.mem_singleton.mp hh]; exact hb)
  cases f with
  | nx =>
    obtain ⟨sun, q, x, z, h1, h2, h3, rfl, rfl⟩ := h
    rw [nums_len] at h1
    exact ⟨sun, q, x, z, by omega, by omega, h2, e⟩
  | _ => exact h.elim
theorem sortP_len (l : List (Int × Int)) : (sortP l).length = l.length := (sortP_perm l).length_eq
theorem law_yard_ev (p : Int × Int) (seats hours : Int) (s1 : 1 ≤ seats) (s8 : seats ≤ 8) (h1 : 1 ≤ hours) (h8 : hours ≤ 8) : ∃ (y : Yd) (q : Int × Int), Drawn y seats hours ∧ g_law_yard [.m 0, .d (.int seats), .d (.int hours)] [bg p] = some (.d (yardD y), [bg q]) := by
  obtain ⟨r, q, r0, r1, e⟩ := take_ev p seats (by omega) (by omega) []
  obtain ⟨kvs, q2, x, a1, a2, e2⟩ := yard_walls q (1 + r) seats hours (by omega) (by omega)
  obtain ⟨sun, q3, x3, z3, b1, b2, b3, e3⟩ := yard_sun q2 (1 + r) seats hours h1 h8 kvs x
  refine ⟨⟨1 + r, sortP kvs, sun⟩, q3, ⟨?_, ?_, ?_, b1, b2, fun w hw => a2 w ((sortP_perm kvs).mem_iff.mp hw), b3, sort_rise a1.2⟩, ?_⟩
  · show 1 ≤ 1 + r
    omega
  · show 1 + r ≤ seats
    omega
  · show (sortP kvs).length ≤ 5
    rw [sortP_len]; exact a1.1
  · have hl : kvs.length ≤ 4096 := by have := a1.1; omega
    simp only [g_law_yard, mkFn, b_law_yard]
    simp [e]
    rw [e2]
    simp
    rw [e3]
    simp [hl, yardD]
    exact fun _ _ _ => rfl
end Sh
set_option Elab.async false
set_option linter.all false
set_option maxRecDepth 100000
set_option maxHeartbeats 1000000
namespace Sh
open PySem L2 PyProof.Rows
/-! ### how many can sit -/
def lens (y : Yd) : List Int := (nums y.sun.length).map fun h => ((seatsAt y h.toNat).length : Int)
theorem lens_comp {f : Fn} {y : Yd} (hl : y.sun.length ≤ 1000) (hf : ∀ (j : Nat) (μ : Mu), j < y.sun.length → f [.d (yardD y), .d (.int j)] μ = some (.d (.list ((seatsAt y j).map .int)), μ)) (μ : Mu) :
    sComp false (sRng1 (sCons (sA fLen (sCons (s2 fIx (sVar 0) (sC (.int 2))) sNil)) sNil)) (.nm 1) sYes (sA fLen (sCons (sCall 2 f (sCons (sVar 0) (sCons (sVar 1) sNil))) sNil)) [1] [some (.d (yardD y)), none] μ = some (.d (.list ((lens y).map .int)), μ) := by
  have e : _ = some (mkL false (((nums y.sun.length).filter fun _ => true).map fun h => .int ((seatsAt y h.toNat).length : Int)) μ) := comp_ev (fl := false) (m := sRng1 (sCons (sA fLen (sCons (s2 fIx (sVar 0) (sC (.int 2))) sNil)) sNil)) (t := .nm 1) (test := sYes) (elt := sA fLen (sCons (sCall 2 f (sCons (sVar 0) (sCons (sVar 1) sNil))) sNil)) (vs := [1]) (ρ := [some (.d (yardD y)), none]) (μ := μ) (s := ⟨rngD 0 y.sun.length, none⟩) (nums y.sun.length) .int
    (rng1_ev (sun_len y μ _) (by omega)) (rng0 _) (ok_none _) (by rw [nums_len]; omega) (fun _ => true) _ (fun h hh acc => by
      obtain ⟨j, hj, rfl⟩ := List.mem_map.mp hh
      have := hf j (μ ++ [.lst acc]) (List.mem_range.mp hj)
      refine ⟨[some (.d (yardD y)), some (.d (.int j))], rfl, rfl, fun _ => ?_⟩
      simp [this])
  rw [e, List.filter_eq_self.mpr (fun _ _ => rfl)]
  unfold lens
  rw [List.map_map]
  rfl
theorem ints_map : ∀ xs : List Int, intsOf (xs.map PyData.int) = some xs
  | [] => rfl
  | x :: xs => by
    show (intsOf (xs.map PyData.int)).map (x :: ·) = _
    rw [ints_map xs]; rfl
def most (y : Yd) : Int := (minI (lens y)).getD 0
theorem most_min {y : Yd} (h : 1 ≤ y.sun.length) : minI (lens y) = some (most y) := by
  unfold most
  cases e : lens y with
  | nil =>
    have := congrArg List.length e
    unfold lens at this
    rw [List.length_map, nums_len, List.length_nil] at this
    omega
  | cons a r => rfl
theorem law_most_ev {y : Yd} (ok : y.Ok) (h1 : 1 ≤ y.sun.length) (μ : Mu) : g_law_most [.d (yardD y)] μ = some (.d (.int (most y)), μ) := by
  have e : C_law_most_1 [some (.d (yardD y)), none] μ = _ := lens_comp (f := g_law_shaded) (by have := ok.sl; omega) (fun j μ hj => law_shaded_ev ok hj μ) μ
  have hm := most_min h1
  generalize lens y = ls at e hm
  simp only [g_law_most, mkFn, b_law_most]
  simp [e, ints_map, hm]
theorem most_ev {y : Yd} (ok : y.Ok) (h1 : 1 ≤ y.sun.length) (μ : Mu) : g_most_sitters [.d (yardD y)] μ = some (.d (.int (most y)), μ) := by
  have e : C_most_sitters_1 [some (.d (yardD y)), none] μ = _ := lens_comp (f := g_shaded) (by have := ok.sl; omega) (fun j μ hj => shaded_ev ok hj μ) μ
  have hm := most_min h1
  generalize lens y = ls at e hm
  simp only [g_most_sitters, mkFn, b_most_sitters]
  simp [e, ints_map, hm]
end Sh
set_option Elab.async false
set_option linter.all false
set_option maxRecDepth 100000
set_option maxHeartbeats 1000000
namespace Sh
open PySem L2 PyProof.Rows
/-! ### a yard in which somebody can sit all day -/
structure Good (y : Yd) : Prop where
  ok : y.Ok
  n7 : y.n ≤ 8
  wl : y.walls.length ≤ 5
  s1 : 1 ≤ y.sun.length
  sl : y.sun.length ≤ 8
  m : 1 ≤ most y
  wv : ∀ w ∈ y.walls, 0 ≤ w.1 ∧ w.1 ≤ y.n ∧ 1 ≤ w.2 ∧ w.2 ≤ 9
  sv : ∀ h ∈ y.sun, SunV h
  r : (y.walls.map (·.1)).Pairwise (· < ·)
def yG (s : Int) : Yd := ⟨s, [(0, 2), (s, 2)], [(true, 9, 1), (false, 1, 1), (false, 9, 1), (true, 2, 1)]⟩
theorem good_ev (p : Int × Int) (seats hours : Int) (s1 : 1 ≤ seats) (s8 : seats ≤ 8) (h1 : 1 ≤ hours) (h8 : hours ≤ 8) (hg : Good (yG seats)) : ∃ (y : Yd) (q : Int × Int), Good y ∧ g_law_good_yard [.m 0, .d (.int seats), .d (.int hours)] [bg p] = some (.d (yardD y), [bg q]) := by
  obtain ⟨f, ρ', μ', e, h⟩ := for_ev (m := sRng1 (sCons (sC (.int 9)) sNil)) (t := .nm 3) (body := l_law_good_yard_1) (ρ := [some (.m 0), some (.d (.int seats)), some (.d (.int hours)), none, none]) (μ := [bg p]) (μ1 := [bg p]) (s := ⟨rngD 0 9, none⟩) (nums 9) .int (by simp) (rng0 _)
    (fun _ ρ μ' => ∃ (q : Int × Int) (a b : Option Rv), ρ = [some (.m 0), some (.d (.int seats)), some (.d (.int hours)), a, b] ∧ μ' = [bg q])
    (fun r μ' => ∃ (y : Yd) (q : Int × Int), Good y ∧ r = .d (yardD y) ∧ μ' = [bg q]) ⟨p, none, none, rfl, rfl⟩ (by
      rintro k j ρ μ' hk ⟨q, a, b, rfl, rfl⟩
      obtain ⟨y, q2, dr, hy⟩ := law_yard_ev q seats hours s1 s8 h1 h8
      have ok := dr.ok s8 h8
      have hm := law_most_ev ok dr.s1 [bg q2]
      by_cases c : 0 < most y
      · have st : l_law_good_yard_1 [some (.m 0), some (.d (.int seats)), some (.d (.int hours)), some (.d (.int j)), b] [bg q] = some (.rt (.d (yardD y)), [some (.m 0), some (.d (.int seats)), some (.d (.int hours)), some (.d (.int j)), some (.d (yardD y))], [bg q2]) := by
          simp [l_law_good_yard_1, hy, hm, c]
        exact ⟨_, .rt _, _, _, rfl, st, y, q2, ⟨ok, by have := dr.n8; omega, dr.wl, dr.s1, by have := dr.sl; omega, by omega, dr.w, dr.s, dr.r⟩, rfl, rfl⟩
      · have st : l_law_good_yard_1 [some (.m 0), some (.d (.int seats)), some (.d (.int hours)), some (.d (.int j)), b] [bg q] = some (.nx, [some (.m 0), some (.d (.int seats)), some (.d (.int hours)), some (.d (.int j)), some (.d (yardD y))], [bg q2]) := by
          simp [l_law_good_yard_1, hy, hm, c]
        exact ⟨_, .nx, _, _, rfl, st, rfl, q2, _, _, rfl, rfl⟩)
  have e : L_law_good_yard_1 [some (.m 0), some (.d (.int seats)), some (.d (.int hours)), none, none] [bg p] = _ := e
  cases f with
  | nx =>
    obtain ⟨q, a, b, rfl, rfl⟩ := h
    refine ⟨yG seats, q, hg, ?_⟩
    simp [g_law_good_yard, mkFn, b_law_good_yard, e, yardD, yG, wallD, hourD, sideS]
  | rt r =>
    obtain ⟨y, q, hy, rfl, rfl⟩ := h
    refine ⟨y, q, hy, ?_⟩
    simp [g_law_good_yard, mkFn, b_law_good_yard, e]
  | ct => exact h.elim
  | bk => exact h.elim
theorem good7 : Good (yG 7) := ⟨⟨by decide, by decide, by decide, by decide, by decide, by decide⟩, by decide, by decide, by decide, by decide, by decide +kernel, by decide, by unfold SunV; decide +kernel, by decide⟩
theorem good8 : Good (yG 8) := ⟨⟨by decide, by decide, by decide, by decide, by decide, by decide⟩, by decide, by decide, by decide, by decide, by decide +kernel, by decide, by unfold SunV; decide +kernel, by decide⟩
end Sh
set_option Elab.async false
set_option linter.all false
set_option maxRecDepth 100000
set_option maxHeartbeats 1000000
namespace Sh
open PySem L2 PyProof.Rows
/-! ### goings -/
def rowD (r : List Int) : PyData := .tuple (r.map .int)
theorem any_ints (x : Int) : ∀ r : List Int, ((r.map PyData.int).any fun z => PyData.eqv z (.int x)) = r.contains x
  | [] => rfl
  | y :: r => by
    rw [List.map_cons, List.any_cons, any_ints x r, eqv_int, List.contains_cons]
    congr 1
    exact Bool.beq_comm
theorem flat_ints (r : List Int) : ((r.map PyData.int).all flatD) = true := by
  rw [List.all_map, List.all_eq_true]
  intro x _; rfl
theorem goings_ev (a b : List Int) (hb : b.length ≤ 1000) (μ : Mu) : g_goings [.d (rowD a), .d (rowD b)] μ = some (.d (.int (gone a b : Int)), μ) := by
  have e : C_goings_1 [some (.d (rowD a)), some (.d (rowD b)), none] μ = some (mkL false ((b.filter fun x => !a.contains x).map .int) μ) := by
    refine comp_ev (s := ⟨b.map .int, none⟩) b .int (by simp [rowD]) rfl (ok_none _) (by omega) (fun x => !a.contains x) .int (fun x hx acc => ?_)
    refine ⟨[some (.d (rowD a)), some (.d (rowD b)), some (.d (.int x))], rfl, ?_, fun _ => by simp⟩
    have h1 := any_ints x a
    have h2 := flat_ints a
    simp only [sTst, s2, sVar, rowD, fIn, rd, itemsD, flatD, h1, h2]
    rw [List.any_map] at h1
    simp
    exact h1.trans (by simp)
  have hl : gone a b = (b.filter fun x => !a.contains x).length := by unfold gone; rw [List.countP_eq_length_filter]
  simp only [g_goings, mkFn, b_goings]
  rw [hl]
  simp [e]
end Sh
set_option Elab.async false
set_option linter.all false
set_option maxRecDepth 100000
set_option maxHeartbeats 1000000
namespace Sh
open PySem L2 PyProof.Rows
/-! ### lots of so many -/
theorem lotsStep_len (n : Nat) (acc : List (List Int)) (x : Int) : (lotsStep n acc x).length ≤ 2 * acc.length := by
  unfold lotsStep
  rw [List.length_append, List.length_map]
  have := List.length_filter_le (fun l : List Int => decide (l.length < n)) acc
  omega
theorem lots_len (n : Nat) : ∀ (xs : List Int) (acc : List (List Int)), (xs.foldl (lotsStep n) acc).length ≤ 2 ^ xs.length * acc.length
  | [], acc => by simp
  | x :: xs, acc => by
    rw [List.foldl_cons, List.length_cons, Nat.pow_succ]
    have h1 := lots_len n xs (lotsStep n acc x)
    have h2 := Nat.mul_le_mul_left (2 ^ xs.length) (lotsStep_len n acc x)
    rw [Nat.mul_assoc]
    omega
theorem lotsTo_take (n : Nat) (xs : List Int) (k : Nat) (x : Int) (e : xs[k]? = some x) : lotsAll n (xs.take (k + 1)) = lotsStep n (lotsAll n (xs.take k)) x := by
  unfold lotsAll
  rw [List.take_succ, e]
  show ((xs.take k) ++ [x]).foldl (lotsStep n) [[]] = _
  rw [List.foldl_append]; rfl
theorem rows_src (ls : List (List Int)) : (Src.mk (ls.map rowD) none).items = ls.map rowD := rfl
theorem grow_ev (n : Nat) (x : Int) (ls : List (List Int)) (hl : ls.length ≤ 1000) (hn : ∀ l ∈ ls, l.length ≤ 100) (μ : Mu) (a : Option Rv) (e : Option Rv) :
    C_lots_of_2 [a, some (.d (.int n)), some (.m μ.length), some (.d (.int x)), e] (μ ++ [.lst (ls.map rowD)]) = some (.d (.list (((ls.filter fun l => decide (l.length < n)).map fun l => l ++ [x]).map rowD)), μ ++ [.lst (ls.map rowD)]) := by
  have h : C_lots_of_2 [a, some (.d (.int n)), some (.m μ.length), some (.d (.int x)), e] (μ ++ [.lst (ls.map rowD)]) = some (mkL false ((ls.filter fun l => decide (l.length < n)).map fun l => rowD (l ++ [x])) (μ ++ [.lst (ls.map rowD)])) := by
    refine comp_ev (s := ⟨ls.map rowD, some (μ.length, ls.map rowD)⟩) ls rowD (by simp) rfl (fun k ds q => by cases q; simp) (by omega) (fun l => decide (l.length < n)) _ (fun l hl2 acc => ?_)
    have h1 := hn l hl2
    refine ⟨[a, some (.d (.int n)), some (.m μ.length), some (.d (.int x)), some (.d (rowD l))], rfl, ?_, fun _ => ?_⟩
    · simp [rowD]
    · simp [rowD]
      omega
  rw [h, List.map_map]
  rfl
theorem lots_sub {n : Nat} {xs : List Int} : ∀ l ∈ lotsAll n xs, l.length ≤ xs.length := by
  intro l h
  obtain ⟨a, s, h1, h2, h3, _⟩ := (lotsAll_mem n xs [[]] l).mp h
  simp at h1
  subst h1
  rw [h3]
  simpa using h2.length_le
theorem lots_of_ev (n : Nat) (xs : List Int) (hx : xs.length ≤ 8) (μ : Mu) : g_lots_of [.d (.list (xs.map .int)), .d (.int n)] μ = some (.d (.list ((lotsL n xs).map rowD)), μ) := by
  obtain ⟨f, ρ', μ', e, h⟩ := for_ev (m := sIt (sVar 0)) (t := .nm 3) (body := l_lots_of_1) (ρ := [some (.d (.list (xs.map .int))), some (.d (.int n)), some (.m μ.length), none, none]) (μ := μ ++ [.lst [.tuple []]]) (μ1 := μ ++ [.lst [.tuple []]]) (s := ⟨xs.map .int, none⟩) xs .int (by simp) rfl
    (fun k ρ μ' => (∃ a b, ρ = [some (.d (.list (xs.map .int))), some (.d (.int n)), some (.m μ.length), a, b]) ∧ μ' = μ ++ [.lst ((lotsAll n (xs.take k)).map rowD)]) (fun _ _ => False) ⟨⟨_, _, rfl⟩, rfl⟩ (by
      rintro k x ρ μ' hk ⟨⟨a, b, rfl⟩, rfl⟩
      have hl := lots_len n (xs.take k) [[]]
      have hs := lots_sub (n := n) (xs := xs.take k)
      have hp : 2 ^ (xs.take k).length ≤ 2 ^ 8 := Nat.pow_le_pow_right (by decide) (by rw [List.length_take]; omega)
      rw [lotsTo_take n xs k x hk]
      have hl : (lotsAll n (xs.take k)).length ≤ 256 := by
        have e1 : (2 ^ (xs.take k).length) * [([] : List Int)].length = 2 ^ (xs.take k).length := Nat.mul_one _
        rw [e1] at hl
        exact Nat.le_trans hl hp
      have hs2 : ∀ l ∈ lotsAll n (xs.take k), l.length ≤ 100 := fun l h => by have := hs l h; rw [List.length_take] at this; omega
      generalize lotsAll n (xs.take k) = ls at hl hs2
      have g := grow_ev n x ls (by omega) hs2 μ (some (.d (.list (xs.map .int)))) b
      have hf := List.length_filter_le (fun l : List Int => decide (l.length < n)) ls
      have st : l_lots_of_1 [some (.d (.list (xs.map .int))), some (.d (.int n)), some (.m μ.length), some (.d (.int x)), b] (μ ++ [.lst (ls.map rowD)]) = some (.nx, [some (.d (.list (xs.map .int))), some (.d (.int n)), some (.m μ.length), some (.d (.int x)), b], μ ++ [.lst ((lotsStep n ls x).map rowD)]) := by
        simp [l_lots_of_1]
        rw [g]
        simp [lotsStep]
        omega
      exact ⟨_, .nx, _, _, rfl, st, by simp [chkB_none], by simp, by simp⟩)
  have hn : f = .nx := by cases f <;> simp at h <;> rfl
  subst hn
  obtain ⟨⟨a, b, rfl⟩, rfl⟩ := h
  rw [List.take_length] at e
  have hl2 : (lotsAll n xs).length ≤ 256 := by
    have := lots_len n xs [[]]
    have e1 : (2 ^ xs.length) * [([] : List Int)].length = 2 ^ xs.length := Nat.mul_one _
    rw [e1] at this
    exact Nat.le_trans this (Nat.pow_le_pow_right (by decide) hx)
  have ec : C_lots_of_1 [some (.d (.list (xs.map .int))), some (.d (.int n)), some (.m μ.length), a, b] (μ ++ [.lst ((lotsAll n xs).map rowD)]) = some (mkL false (((lotsAll n xs).filter fun l => decide (l.length = n)).map rowD) (μ ++ [.lst ((lotsAll n xs).map rowD)])) := by
    refine comp_ev (s := ⟨(lotsAll n xs).map rowD, some (μ.length, (lotsAll n xs).map rowD)⟩) (lotsAll n xs) rowD (by simp) rfl (fun k ds q => by cases q; simp) (by omega) (fun l => decide (l.length = n)) rowD (fun l hl acc => ?_)
    refine ⟨[some (.d (.list (xs.map .int))), some (.d (.int n)), some (.m μ.length), a, some (.d (rowD l))], rfl, ?_, fun _ => by simp⟩
    have : (((l.length : Nat) : Int) == (n : Int)) = decide (l.length = n) := by rw [Bool.eq_iff_iff, beq_iff_eq, decide_eq_true_eq]; omega
    simp [rowD, this]
  have e : L_lots_of_1 [some (.d (.list (xs.map .int))), some (.d (.int n)), some (.m μ.length), none, none] (μ ++ [.lst [.tuple []]]) = _ := e
  simp only [g_lots_of, mkFn, b_lots_of]
  simp [e, ec, lotsL]
end Sh
set_option Elab.async false
set_option linter.all false
set_option maxRecDepth 100000
set_option maxHeartbeats 1000000
namespace Sh
open PySem L2 PyProof.Rows
/-! ### the table's rows -/
def rowE (ls : List (List Int)) (val : List Int → Pt) : List (PyData × PyData) := ls.map fun l => (rowD l, ptD (val l))
theorem rowD_eqv (a b : List Int) : PyData.eqv (rowD a) (.tuple (b.map .int)) = decide (a = b) := eqvAll_ints a b
theorem rowE_get (val : List Int → Pt) (k : List Int) : ∀ ls : List (List Int), k ∈ ls → valD (rowE ls val) k = some (ptD (val k))
  | [], h => by cases h
  | l :: ls, h => by
    show ((((rowD l, ptD (val l)) :: rowE ls val).find? fun p => PyData.eqv p.1 (.tuple (k.map .int))).map (·.2)) = _
    rw [List.find?_cons, rowD_eqv]
    by_cases c : l = k
    · subst c; simp
    · rw [decide_eq_false c]
      exact rowE_get val k ls ((List.mem_cons.mp h).resolve_left fun q => c q.symm)
theorem rowE_put (val : List Int → Pt) (k : List Int) (ls : List (List Int)) (h : k ∉ ls) : putD (rowE ls val) k (ptD (val k)) = rowE (ls ++ [k]) val := by
  unfold putD
  have : ((rowE ls val).any fun p => PyData.eqv p.1 (.tuple (k.map .int))) = false := by
    rw [List.any_eq_false]
    intro p hp
    obtain ⟨l, hl, rfl⟩ := List.mem_map.mp hp
    rw [rowD_eqv]
    have : l ≠ k := fun q => h (q ▸ hl)
    simp [this]
  rw [if_neg (by rw [this]; exact Bool.false_ne_true)]
  unfold rowE
  rw [List.map_append]; rfl
theorem minOf_fst : ∀ (ps : List Pt) (p : Pt), (PySem.W.minOf p ps ∈ p :: ps) ∧ ∀ q ∈ p :: ps, (PySem.W.minOf p ps).1 ≤ q.1
  | [], p => ⟨by simp [PySem.W.minOf], fun q hq => by rw [List.mem_singleton.mp hq]; exact Int.le_refl _⟩
  | x :: ps, p => by
    have e : PySem.W.minOf p (x :: ps) = PySem.W.minOf (if PySem.W.DatumOrd.lt x p = true then x else p) ps := rfl
    have lt_def : PySem.W.DatumOrd.lt x p = if x.1 = p.1 then PySem.W.DatumOrd.lt x.2 p.2 else decide (x.1 < p.1) := rfl
    obtain ⟨h1, h2⟩ := minOf_fst ps (if PySem.W.DatumOrd.lt x p = true then x else p)
    rw [e]
    have h0 := h2 _ List.mem_cons_self
    have hx : (if PySem.W.DatumOrd.lt x p = true then x else p).1 ≤ x.1 ∧ (if PySem.W.DatumOrd.lt x p = true then x else p).1 ≤ p.1 := by
      rw [lt_def]
      by_cases c : x.1 = p.1
      · rw [if_pos c]; split <;> omega
      · rw [if_neg c]; split <;> rename_i d <;> simp at d <;> omega
    refine ⟨?_, fun q hq => ?_⟩
    · rcases List.mem_cons.mp h1 with h | h
      · rw [h]; split
        · exact List.mem_cons_of_mem _ List.mem_cons_self
        · exact List.mem_cons_self
      · exact List.mem_cons_of_mem _ (List.mem_cons_of_mem _ h)
    · rcases List.mem_cons.mp hq with rfl | hq
      · omega
      · rcases List.mem_cons.mp hq with rfl | hq
        · omega
        · exact h2 q (List.mem_cons_of_mem _ hq)
end Sh
set_option Elab.async false
set_option linter.all false
set_option maxRecDepth 100000
set_option maxHeartbeats 1000000
namespace Sh
open PySem L2 PyProof.Rows
/-! ### min and max of pairs, dict comprehensions: as evaluations -/
theorem filter_yes {α : Type} (xs : List α) : (xs.filter fun _ => true) = xs := List.filter_eq_self.mpr fun _ _ => rfl
theorem filter_no {α : Type} (xs : List α) : (xs.filter fun _ => false) = [] := List.filter_eq_nil_iff.mpr fun _ _ => by simp
def leastP : List Pt → Pt
  | [] => (0, ⟨[]⟩)
  | p :: ps => PySem.W.minOf p ps
def mostP : List Pt → Pt
  | [] => (0, ⟨[]⟩)
  | p :: ps => PySem.W.maxOf p ps
theorem minP_ev (μ : Mu) : ∀ ps : List Pt, ps ≠ [] → fMinP μ [.d (.list (ps.map ptD))] = some (.d (ptD (leastP ps)), μ)
  | [], h => absurd rfl h
  | (n, ⟨k⟩) :: ps, _ => by
    have h1 : fMin μ [.d (.list (((n, ⟨k⟩) :: ps : List Pt).map ptD))] = none := rfl
    have h2 : ptsOf (((n, ⟨k⟩) :: ps : List Pt).map ptD) = some ((n, ⟨k⟩) :: ps) := ptsOf_map _
    show (match fMin μ [.d (.list (((n, ⟨k⟩) :: ps : List Pt).map ptD))] with
      | some r => some r
      | none => (listOf μ [.d (.list (((n, ⟨k⟩) :: ps : List Pt).map ptD))]).bind fun ds => (ptsOf ds).bind fun ps => (minPt ps).map fun p => (.d (ptD p), μ)) = _
    rw [h1]
    show ((ptsOf (((n, ⟨k⟩) :: ps : List Pt).map ptD)).bind fun ps => (minPt ps).map fun p => (Rv.d (ptD p), μ)) = _
    rw [h2]; rfl
theorem maxP_ev (μ : Mu) : ∀ ps : List Pt, ps ≠ [] → fMaxP μ [.d (.list (ps.map ptD))] = some (.d (ptD (mostP ps)), μ)
  | [], h => absurd rfl h
  | (n, ⟨k⟩) :: ps, _ => by
    have h1 : fMax μ [.d (.list (((n, ⟨k⟩) :: ps : List Pt).map ptD))] = none := rfl
    have h2 : ptsOf (((n, ⟨k⟩) :: ps : List Pt).map ptD) = some ((n, ⟨k⟩) :: ps) := ptsOf_map _
    show (match fMax μ [.d (.list (((n, ⟨k⟩) :: ps : List Pt).map ptD))] with
      | some r => some r
      | none => (listOf μ [.d (.list (((n, ⟨k⟩) :: ps : List Pt).map ptD))]).bind fun ds => (ptsOf ds).bind fun ps => (maxPt ps).map fun p => (.d (ptD p), μ)) = _
    rw [h1]
    show ((ptsOf (((n, ⟨k⟩) :: ps : List Pt).map ptD)).bind fun ps => (maxPt ps).map fun p => (Rv.d (ptD p), μ)) = _
    rw [h2]; rfl
theorem ptD_all (p : Pt) : ptD p = .tuple [.int p.1, rowD p.2.1] := rfl
theorem tupOf_row (l : List Int) : tupOf (rowD l) = some l := by
  show intsOf (l.map PyData.int) = some l
  induction l with
  | nil => rfl
  | cons x k ih =>
    show (intsOf (k.map PyData.int)).map (x :: ·) = _
    rw [ih]; rfl
/-- a dict comprehension over lots, each put anew -/
theorem dloop_ev {t : Tg} {kx vx : Sm} {ρ : Ro} {μ : Mu} (val : List Int → Pt) : ∀ (xs acc : List (List Int)), acc.length + xs.length ≤ 4096 → (acc ++ xs).Nodup →
    (∀ x ∈ xs, ∀ es, ∃ ρ1, t.put (rowD x) ρ = some ρ1 ∧ kx ρ1 (μ ++ [.dT es]) = some (.d (rowD x), μ ++ [.dT es]) ∧ vx ρ1 (μ ++ [.dT es]) = some (.d (ptD (val x)), μ ++ [.dT es])) →
    dloop t sYes kx vx none μ.length ρ (xs.map rowD) (μ ++ [.dT (rowE acc val)]) = some (μ ++ [.dT (rowE (acc ++ xs) val)])
  | [], acc, _, _, _ => by simp [dloop]
  | x :: xs, acc, hl, hd, h => by
    obtain ⟨ρ1, e1, e2, e3⟩ := h x List.mem_cons_self (rowE acc val)
    have hx : x ∉ acc := by
      intro q
      exact (List.nodup_append.mp hd).2.2 x q x List.mem_cons_self rfl
    have hd2 : ((acc ++ [x]) ++ xs).Nodup := by rw [List.append_assoc]; exact hd
    rw [List.length_cons] at hl
    have ih := dloop_ev (t := t) (kx := kx) (vx := vx) (ρ := ρ) (μ := μ) val xs (acc ++ [x]) (by rw [List.length_append, List.length_singleton]; omega) hd2 (fun y hy => h y (List.mem_cons_of_mem _ hy))
    rw [List.map_cons]
    unfold dloop
    rw [e1]
    simp only [Option.bind_some, sYes, if_true, e2, e3]
    unfold dput
    simp only [get_last, take_front]
    rw [tupOf_row]
    simp only [Option.bind_some]
    have hle : (rowE acc val).length = acc.length := by unfold rowE; rw [List.length_map]
    rw [if_pos ⟨by omega, rfl⟩, rowE_put val x acc hx, ih, List.append_assoc]; rfl
theorem dct_ev {m : Si} {t : Tg} {kx vx : Sm} {vs : List Nat} {ρ : Ro} {μ : Mu} {ds : List PyData} (val : List Int → Pt) (xs : List (List Int)) (hm : m ρ μ = some (⟨ds, none⟩, μ)) (hs : ds = xs.map rowD) (hl : xs.length ≤ 4096) (hd : xs.Nodup)
    (h : ∀ x ∈ xs, ∀ es, ∃ ρ1, t.put (rowD x) (wipeR ρ vs) = some ρ1 ∧ kx ρ1 (μ ++ [.dT es]) = some (.d (rowD x), μ ++ [.dT es]) ∧ vx ρ1 (μ ++ [.dT es]) = some (.d (ptD (val x)), μ ++ [.dT es])) :
    sDcT m t sYes kx vx vs ρ μ = some (.d (.dict (rowE xs val)), μ) := by
  unfold sDcT
  rw [hm]
  simp only [Option.bind_some]
  subst hs
  have := dloop_ev (t := t) (kx := kx) (vx := vx) (ρ := wipeR ρ vs) (μ := μ) val xs [] (by simpa using hl) (by simpa using hd) h
  have e0 : rowE [] val = [] := rfl
  rw [e0] at this
  rw [this]
  simp
/-! ### the table -/
def nextV (ls : List (List Int)) (val : List Int → Pt) (l : List Int) : Pt := leastP (ls.map fun b => ((val b).1 + (gone b l : Int), ⟨b⟩))
def tabV (Ls : Nat → List (List Int)) : Nat → List Int → Pt
  | 0 => fun l => ((l.length : Int), ⟨[]⟩)
  | t + 1 => nextV (Ls t) (tabV Ls t)
def tabD (Ls : Nat → List (List Int)) (t : Nat) : PyData := .dict (rowE (Ls t) (tabV Ls t))
theorem cell_ev (ls : List (List Int)) (val : List Int → Pt) (l : List Int) (hl : l.length ≤ 1000) (h1 : ls.length ≤ 1000) (μ : Mu) (a b c d e f : Option Rv) :
    C_table_1 [a, b, c, some (.d (rowD l)), d, some (.d (.dict (rowE ls val))), e, f] μ = some (.d (.list ((ls.map fun b => (((val b).1 + (gone b l : Int), ⟨b⟩) : Pt)).map ptD)), μ) := by
  have h : C_table_1 [a, b, c, some (.d (rowD l)), d, some (.d (.dict (rowE ls val))), e, f] μ = some (mkL false ((ls.filter fun _ => true).map fun b => ptD ((val b).1 + (gone b l : Int), ⟨b⟩)) μ) := by
    refine comp_ev (s := ⟨(rowE ls val).map (·.1), none⟩) ls rowD (by simp) (by simp [rowE]) (ok_none _) (by omega) (fun _ => true) _ (fun x hx acc => ?_)
    refine ⟨[a, b, c, some (.d (rowD l)), d, some (.d (.dict (rowE ls val))), e, some (.d (rowD x))], rfl, rfl, fun _ => ?_⟩
    have g := goings_ev x l hl (μ ++ [.lst acc])
    have v := rowE_get val x ls hx
    simp [-tupOf, tupOf_row, v, g, ptD_all]
  rw [h, filter_yes]
  simp [mkL, Function.comp_def]
end Sh
set_option Elab.async false
set_option linter.all false
set_option maxRecDepth 100000
set_option maxHeartbeats 1000000
namespace Sh
open PySem L2 PyProof.Rows
/-! ### the table, whole -/
theorem take_snoc {α : Type} {xs : List α} {k : Nat} {x : α} (e : xs[k]? = some x) : xs.take (k + 1) = xs.take k ++ [x] := by
  rw [List.take_succ, e]; rfl
theorem take_two {α : Type} (l : List α) (x y : α) : (l ++ [x, y]).take (l.length + 1) = l ++ [x] := by
  have : l ++ [x, y] = (l ++ [x]) ++ [y] := by simp
  rw [this]
  exact List.take_left' (by simp)
theorem not_mem_take {α : Type} {xs : List α} (h : xs.Nodup) {k : Nat} {x : α} (e : xs[k]? = some x) : x ∉ xs.take k := by
  have h2 : (xs.take (k + 1)).Nodup := h.sublist (List.take_sublist _ _)
  rw [take_snoc e] at h2
  intro q
  exact (List.nodup_append.mp h2).2.2 x q x List.mem_cons_self rfl
theorem rowE_len (ls : List (List Int)) (val : List Int → Pt) : (rowE ls val).length = ls.length := by unfold rowE; rw [List.length_map]
theorem setT_ev (μ : Mu) (val : List Int → Pt) (ls : List (List Int)) (l : List Int) (h : l ∉ ls) (hl : ls.length ≤ 1000) : fSetD (μ ++ [.dT (rowE ls val)]) (.m μ.length) (.d (rowD l)) (.d (ptD (val l))) = some (μ ++ [.dT (rowE (ls ++ [l]) val)]) := by
  have e : (μ ++ [Mo.dT (rowE ls val)])[μ.length]? = some (.dT (rowE ls val)) := get_last _ _
  unfold fSetD
  simp only [e, tupOf_row, Option.bind_some]
  rw [if_pos (by rw [rowE_len]; omega), rowE_put val l ls h, set_last]
theorem row_ev (ls ms : List (List Int)) (val : List Int → Pt) (hne : ls ≠ []) (h1 : ls.length ≤ 1000) (h2 : ms.length ≤ 1000) (hd : ms.Nodup) (hl : ∀ l ∈ ms, l.length ≤ 1000) (μ : Mu) (r : Nat) (hr : r < μ.length) (a b : PyData) (x : Option Rv) :
    ∃ x', L_table_1 [some (.d a), some (.d b), some (.m r), x, some (.d (.list (ms.map rowD))), some (.d (.dict (rowE ls val))), some (.m μ.length), none] (μ ++ [.dT []]) = some (.nx, [some (.d a), some (.d b), some (.m r), x', some (.d (.list (ms.map rowD))), some (.d (.dict (rowE ls val))), some (.m μ.length), none], μ ++ [.dT (rowE ms (nextV ls val))]) := by
  obtain ⟨f, ρ', μ', e, h⟩ := for_ev (m := sIt (sVar 4)) (t := .nm 3) (body := l_table_1) (ρ := [some (.d a), some (.d b), some (.m r), x, some (.d (.list (ms.map rowD))), some (.d (.dict (rowE ls val))), some (.m μ.length), none]) (μ := μ ++ [.dT []]) (μ1 := μ ++ [.dT []]) (s := ⟨ms.map rowD, none⟩) ms rowD (by simp) rfl
    (fun j ρ μ' => (∃ x, ρ = [some (.d a), some (.d b), some (.m r), x, some (.d (.list (ms.map rowD))), some (.d (.dict (rowE ls val))), some (.m μ.length), none]) ∧ μ' = μ ++ [.dT (rowE (ms.take j) (nextV ls val))]) (fun _ _ => False) ⟨⟨_, rfl⟩, rfl⟩ (by
      rintro j l ρ μ' hj ⟨⟨x, rfl⟩, rfl⟩
      have hm : l ∈ ms := List.mem_of_getElem? hj
      have st : l_table_1 [some (.d a), some (.d b), some (.m r), some (.d (rowD l)), some (.d (.list (ms.map rowD))), some (.d (.dict (rowE ls val))), some (.m μ.length), none] (μ ++ [.dT (rowE (ms.take j) (nextV ls val))]) = some (.nx, [some (.d a), some (.d b), some (.m r), some (.d (rowD l)), some (.d (.list (ms.map rowD))), some (.d (.dict (rowE ls val))), some (.m μ.length), none], μ ++ [.dT (rowE (ms.take (j + 1)) (nextV ls val))]) := by
        have c := cell_ev ls val l (hl l hm) h1 (μ ++ [.dT (rowE (ms.take j) (nextV ls val))]) (some (.d a)) (some (.d b)) (some (.m r)) (some (.d (.list (ms.map rowD)))) (some (.m μ.length)) none
        have m := minP_ev (μ ++ [.dT (rowE (ms.take j) (nextV ls val))]) (ls.map fun b => (((val b).1 + (gone b l : Int), ⟨b⟩) : Pt)) (by simpa using hne)
        have s := setT_ev μ (nextV ls val) (ms.take j) l (not_mem_take hd hj) (by rw [List.length_take]; omega)
        have hv : nextV ls val l = leastP (ls.map fun b => (((val b).1 + (gone b l : Int), ⟨b⟩) : Pt)) := rfl
        rw [take_snoc hj]
        rw [hv] at s
        unfold l_table_1 sStD
        have e1 : sA fMinP (sCons C_table_1 sNil) [some (.d a), some (.d b), some (.m r), some (.d (rowD l)), some (.d (.list (ms.map rowD))), some (.d (.dict (rowE ls val))), some (.m μ.length), none] (μ ++ [.dT (rowE (ms.take j) (nextV ls val))]) = some (.d (ptD (leastP (ls.map fun b => (((val b).1 + (gone b l : Int), ⟨b⟩) : Pt)))), μ ++ [.dT (rowE (ms.take j) (nextV ls val))]) := by
          unfold sA
          simp only [sCons, sNil, c, Option.bind_some, Option.map_some]
          exact m
        rw [e1]
        simp only [Option.bind_some, sVar]
        simp [-fSetD, s]
      exact ⟨_, .nx, _, _, rfl, st, by simp [chkB_none], by simp; omega, by simp⟩)
  have hn : f = .nx := by cases f <;> simp at h <;> rfl
  subst hn
  obtain ⟨⟨x', rfl⟩, rfl⟩ := h
  rw [List.take_length] at e
  exact ⟨x', e⟩
structure LotsOk (Ls : Nat → List (List Int)) (m : Nat) : Prop where
  nd : ∀ t, t ≤ m → (Ls t).Nodup
  ne : ∀ t, t ≤ m → Ls t ≠ []
  le : ∀ t, t ≤ m → (Ls t).length ≤ 1000
  ln : ∀ t, t ≤ m → ∀ l ∈ Ls t, l.length ≤ 1000
def lotsD (ls : List (List Int)) : PyData := .list (ls.map rowD)
theorem range_get {m j t : Nat} (h : (List.range m)[j]? = some t) : t = j ∧ j < m := by
  by_cases c : j < m
  · rw [List.getElem?_range c] at h
    cases h
    exact ⟨rfl, c⟩
  · rw [List.getElem?_eq_none (by rw [List.length_range]; omega)] at h
    cases h
theorem first_ev (ls : List (List Int)) (hd : ls.Nodup) (h1 : ls.length ≤ 1000) (hl : ∀ l ∈ ls, l.length ≤ 1000) (μ : Mu) (a : Option Rv) (c d e f g h : Option Rv) :
    C_table_2 [a, some (.d (lotsD ls)), c, d, e, f, g, h] μ = some (.d (.dict (rowE ls fun l => ((l.length : Int), ⟨[]⟩))), μ) := by
  refine dct_ev (fun l => ((l.length : Int), ⟨[]⟩)) ls (m := sIt (sVar 1)) (ds := ls.map rowD) (by simp [lotsD]) rfl (by omega) hd (fun x hx es => ?_)
  refine ⟨[a, some (.d (lotsD ls)), c, some (.d (rowD x)), e, f, g, h], rfl, rfl, ?_⟩
  have := hl x hx
  simp [rowD, ptD_all]
theorem table_ev (Ls : Nat → List (List Int)) (m : Nat) (hm : m ≤ 100) (H : LotsOk Ls m) (μ : Mu) :
    g_table [.d (.list ((List.range m).map fun t => lotsD (Ls (t + 1)))), .d (lotsD (Ls 0))] μ = some (.d (.list ((List.range (m + 1)).map (tabD Ls))), μ) := by
  let A : PyData := .list ((List.range m).map fun t => lotsD (Ls (t + 1)))
  obtain ⟨f, ρ', μ', e, h⟩ := for_ev (m := sIt (sVar 0)) (t := .nm 4) (body := l_table_2) (ρ := [some (.d A), some (.d (lotsD (Ls 0))), some (.m μ.length), none, none, none, none, none]) (μ := μ ++ [.lst ((List.range 1).map (tabD Ls))]) (μ1 := μ ++ [.lst ((List.range 1).map (tabD Ls))]) (s := ⟨(List.range m).map fun t => lotsD (Ls (t + 1)), none⟩) (List.range m) (fun t => lotsD (Ls (t + 1))) (by simp [A]) rfl
    (fun j ρ μ' => (∃ x y z w, ρ = [some (.d A), some (.d (lotsD (Ls 0))), some (.m μ.length), x, y, z, w, none]) ∧ μ' = μ ++ [.lst ((List.range (j + 1)).map (tabD Ls))]) (fun _ _ => False) ⟨⟨_, _, _, _, rfl⟩, rfl⟩ (by
      rintro j t ρ μ' hj ⟨⟨x, y, z, w, rfl⟩, rfl⟩
      obtain ⟨rfl, hj⟩ := range_get hj
      obtain ⟨x', r⟩ := row_ev (Ls t) (Ls (t + 1)) (tabV Ls t) (H.ne t (by omega)) (H.le t (by omega)) (H.le (t + 1) (by omega)) (H.nd (t + 1) (by omega)) (H.ln (t + 1) (by omega)) (μ ++ [.lst ((List.range (t + 1)).map (tabD Ls))]) μ.length (by rw [List.length_append]; simp) A (lotsD (Ls 0)) x
      have st : ∃ x', l_table_2 [some (.d A), some (.d (lotsD (Ls 0))), some (.m μ.length), x, some (.d (lotsD (Ls (t + 1)))), z, w, none] (μ ++ [.lst ((List.range (t + 1)).map (tabD Ls))]) = some (.nx, [some (.d A), some (.d (lotsD (Ls 0))), some (.m μ.length), x', some (.d (lotsD (Ls (t + 1)))), some (.d (tabD Ls t)), some (.m (μ.length + 1)), none], μ ++ [.lst ((List.range (t + 1 + 1)).map (tabD Ls)), .dead]) := by
        refine ⟨x', ?_⟩
        unfold l_table_2
        rw [seq_nx (ρ' := [some (.d A), some (.d (lotsD (Ls 0))), some (.m μ.length), x, some (.d (lotsD (Ls (t + 1)))), some (.d (tabD Ls t)), w, none]) (μ' := μ ++ [.lst ((List.range (t + 1)).map (tabD Ls))]) (by
          rw [List.range_succ, List.map_append]
          simp)]
        rw [seq_nx (ρ' := [some (.d A), some (.d (lotsD (Ls 0))), some (.m μ.length), x, some (.d (lotsD (Ls (t + 1)))), some (.d (tabD Ls t)), some (.m (μ.length + 1)), none]) (μ' := (μ ++ [.lst ((List.range (t + 1)).map (tabD Ls))]) ++ [.dT []]) (by simp)]
        have len : (μ ++ [Mo.lst ((List.range (t + 1)).map (tabD Ls))]).length = μ.length + 1 := by simp
        rw [len] at r
        have r2 : L_table_1 [some (.d A), some (.d (lotsD (Ls 0))), some (.m μ.length), x, some (.d (lotsD (Ls (t + 1)))), some (.d (tabD Ls t)), some (.m (μ.length + 1)), none] ((μ ++ [.lst ((List.range (t + 1)).map (tabD Ls))]) ++ [.dT []]) = some (.nx, [some (.d A), some (.d (lotsD (Ls 0))), some (.m μ.length), x', some (.d (lotsD (Ls (t + 1)))), some (.d (tabD Ls t)), some (.m (μ.length + 1)), none], (μ ++ [.lst ((List.range (t + 1)).map (tabD Ls))]) ++ [.dT (rowE (Ls (t + 1)) (nextV (Ls t) (tabV Ls t)))]) := r
        rw [seq_nx r2]
        have ev : (.dict (rowE (Ls (t + 1)) (nextV (Ls t) (tabV Ls t))) : PyData) = tabD Ls (t + 1) := rfl
        have g1 : ((μ ++ [Mo.lst ((List.range (t + 1)).map (tabD Ls))]) ++ [Mo.dT (rowE (Ls (t + 1)) (nextV (Ls t) (tabV Ls t)))])[μ.length]? = some (.lst ((List.range (t + 1)).map (tabD Ls))) := by
          rw [List.getElem?_append_left (by simp), get_last]
        have g2 : ((μ ++ [Mo.lst ((List.range (t + 1)).map (tabD Ls))]) ++ [Mo.dT (rowE (Ls (t + 1)) (nextV (Ls t) (tabV Ls t)))])[μ.length + 1]? = some (.dT (rowE (Ls (t + 1)) (nextV (Ls t) (tabV Ls t)))) := by
          rw [← len, get_last]
        have g3 : ((μ ++ [Mo.lst ((List.range (t + 1)).map (tabD Ls))]) ++ [Mo.dT (rowE (Ls (t + 1)) (nextV (Ls t) (tabV Ls t)))]).set (μ.length + 1) .dead = μ ++ [Mo.lst ((List.range (t + 1)).map (tabD Ls)), .dead] := by
          rw [← len, set_last, List.append_assoc]; rfl
        have g4 : (μ ++ [Mo.lst ((List.range (t + 1)).map (tabD Ls)), .dead])[μ.length]? = some (.lst ((List.range (t + 1)).map (tabD Ls))) := by
          rw [List.getElem?_append_right (Nat.le_refl _), Nat.sub_self]; rfl
        have g5 : ∀ ds, (μ ++ [Mo.lst ((List.range (t + 1)).map (tabD Ls)), .dead]).set μ.length (.lst ds) = μ ++ [.lst ds, .dead] := fun ds => by
          rw [List.set_append_right _ _ (Nat.le_refl _), Nat.sub_self]; rfl
        rw [List.range_succ (n := t + 1), List.map_append]
        simp only [sExpr, sMet, sVar, List.getElem?_cons_zero, List.getElem?_cons_succ, Option.bind_some, isLst, g1, sCons, sNil, sFz, rd, g2, g3, fApp, g4, g5, Option.map_some, ev, Option.some.injEq, if_true]
        simp [tabD]
        omega
      obtain ⟨x', st⟩ := st
      exact ⟨_, .nx, _, _, rfl, st, by simp [chkB_none], by
        refine ⟨(cutR (μ.length + 1) [x']).head!, some (.d (lotsD (Ls (t + 1)))), some (.d (tabD Ls t)), none, ?_⟩
        simp [A]
        rfl, by rw [List.length_append]; exact take_two _ _ _⟩)
  have hn : f = .nx := by cases f <;> simp at h <;> rfl
  subst hn
  obtain ⟨⟨x, y, z, w, rfl⟩, rfl⟩ := h
  rw [List.length_range] at e
  have e : L_table_2 [some (.d A), some (.d (lotsD (Ls 0))), some (.m μ.length), none, none, none, none, none] (μ ++ [.lst ((List.range 1).map (tabD Ls))]) = _ := e
  have c := first_ev (Ls 0) (H.nd 0 (by omega)) (H.le 0 (by omega)) (H.ln 0 (by omega)) μ (some (.d A)) none none none none none none
  have e0 : (.dict (rowE (Ls 0) fun l => ((l.length : Int), ⟨[]⟩)) : PyData) = tabD Ls 0 := rfl
  rw [e0] at c
  refine fn_dm (ρ := [some (.d A), some (.d (lotsD (Ls 0))), none, none, none, none, none, none]) ?_ rfl rfl
  unfold b_table
  rw [seq_nx (ρ' := [some (.d A), some (.d (lotsD (Ls 0))), some (.m μ.length), none, none, none, none, none]) (μ' := μ ++ [.lst ((List.range 1).map (tabD Ls))]) (by simp [c])]
  rw [seq_nx e]
  exact ⟨_, _, by simp; exact ⟨rfl, rfl⟩, by simp⟩
end Sh
set_option Elab.async false
set_option linter.all false
set_option maxRecDepth 100000
set_option maxHeartbeats 1000000
namespace Sh
open PySem L2 PyProof.Rows
/-! ### the fewest, and a seating of so many -/
theorem leastP_mem : ∀ (ps : List Pt), ps ≠ [] → leastP ps ∈ ps ∧ ∀ q ∈ ps, (leastP ps).1 ≤ q.1
  | [], h => absurd rfl h
  | p :: ps, _ => minOf_fst ps p
theorem tabV_step {Ls : Nat → List (List Int)} {m : Nat} (H : LotsOk Ls m) {t : Nat} (ht : t + 1 ≤ m) (l : List Int) :
    (tabV Ls (t + 1) l).2.1 ∈ Ls t ∧ (tabV Ls (t + 1) l).1 = (tabV Ls t (tabV Ls (t + 1) l).2.1).1 + (gone (tabV Ls (t + 1) l).2.1 l : Int) ∧ ∀ b ∈ Ls t, (tabV Ls (t + 1) l).1 ≤ (tabV Ls t b).1 + (gone b l : Int) := by
  obtain ⟨h1, h2⟩ := leastP_mem ((Ls t).map fun b => (((tabV Ls t b).1 + (gone b l : Int), ⟨b⟩) : Pt)) (by have := H.ne t (by omega); simpa using this)
  have e : tabV Ls (t + 1) l = leastP ((Ls t).map fun b => (((tabV Ls t b).1 + (gone b l : Int), ⟨b⟩) : Pt)) := rfl
  rw [← e] at h1 h2
  obtain ⟨b, hb, eb⟩ := List.mem_map.mp h1
  refine ⟨?_, ?_, fun c hc => h2 _ (List.mem_map.mpr ⟨c, hc, rfl⟩)⟩
  · rw [← eb]; exact hb
  · rw [← eb]
def pth (Ls : Nat → List (List Int)) (m : Nat) (b : List Int) : Nat → List Int
  | 0 => b
  | j + 1 => (tabV Ls (m - j) (pth Ls m b j)).2.1
theorem pth_mem {Ls : Nat → List (List Int)} {m : Nat} (H : LotsOk Ls m) {b : List Int} (hb : b ∈ Ls m) : ∀ {j : Nat}, j ≤ m → pth Ls m b j ∈ Ls (m - j)
  | 0, _ => hb
  | j + 1, h => by
    have e : m - j = (m - (j + 1)) + 1 := by omega
    show (tabV Ls (m - j) (pth Ls m b j)).2.1 ∈ _
    rw [e]
    exact (tabV_step H (by omega) _).1
def lastP (Ls : Nat → List (List Int)) (m : Nat) : Pt := leastP ((Ls m).map fun l => (((tabV Ls m l).1, ⟨l⟩) : Pt))
theorem rev_range {α : Type} (f : Nat → α) (m : Nat) : ((List.range m).map f).reverse = (List.range m).map fun t => f (m - 1 - t) := by
  apply List.ext_getElem
  · simp
  · intro i h1 h2
    simp at h1 h2 ⊢
theorem drop_range {α : Type} (f : Nat → α) (m : Nat) : ((List.range (m + 1)).map f).drop 1 = (List.range m).map fun t => f (t + 1) := by
  rw [List.range_succ_eq_map]
  simp [Function.comp_def]
theorem best_list_ev (Ls : Nat → List (List Int)) (m : Nat) (H : LotsOk Ls m) (μ : Mu) (a b c d e f : Option Rv) :
    C_best_1 [a, b, some (.d (.list ((List.range (m + 1)).map (tabD Ls)))), d, none, e, f] μ = some (.d (.list (((Ls m).map fun l => (((tabV Ls m l).1, ⟨l⟩) : Pt)).map ptD)), μ) := by
  have hl : atI ((List.range (m + 1)).map (tabD Ls)) (-1) = some (tabD Ls m) := by
    rw [List.range_succ, List.map_append]; exact atI_last _ _
  have h : C_best_1 [a, b, some (.d (.list ((List.range (m + 1)).map (tabD Ls)))), d, none, e, f] μ = some (mkL false (((Ls m).filter fun _ => true).map fun l => ptD ((tabV Ls m l).1, ⟨l⟩)) μ) := by
    refine comp_ev (s := ⟨(rowE (Ls m) (tabV Ls m)).map (·.1), none⟩) (Ls m) rowD (by simp [hl, tabD]) (by simp [rowE]) (ok_none _) (by have := H.le m (Nat.le_refl _); omega) (fun _ => true) _ (fun x hx acc => ?_)
    refine ⟨[a, b, some (.d (.list ((List.range (m + 1)).map (tabD Ls)))), d, some (.d (rowD x)), e, f], rfl, rfl, fun _ => ?_⟩
    have v := rowE_get (tabV Ls m) x (Ls m) hx
    simp [-tupOf, hl, tabD, tupOf_row, v, ptD_all]
  rw [h, filter_yes]
  simp [mkL, Function.comp_def]
def seatD (Ls : Nat → List (List Int)) (m : Nat) : PyData := .tuple ((List.range (m + 1)).map fun t => rowD (pth Ls m (lastP Ls m).2.1 (m - t)))
theorem best_ev (Ls : Nat → List (List Int)) (m : Nat) (hm : m ≤ 100) (H : LotsOk Ls m) (μ : Mu) :
    g_best [.d (.list ((List.range m).map fun t => lotsD (Ls (t + 1)))), .d (lotsD (Ls 0))] μ = some (.d (.tuple [.int (lastP Ls m).1, seatD Ls m]), μ) := by
  let A : PyData := .list ((List.range m).map fun t => lotsD (Ls (t + 1)))
  let R : PyData := .list ((List.range (m + 1)).map (tabD Ls))
  let p := lastP Ls m
  let b := p.2.1
  have hb : b ∈ Ls m := by
    obtain ⟨h1, _⟩ := leastP_mem ((Ls m).map fun l => (((tabV Ls m l).1, ⟨l⟩) : Pt)) (by have := H.ne m (Nat.le_refl _); simpa using this)
    obtain ⟨l, hl, el⟩ := List.mem_map.mp h1
    have : b = l := by show (lastP Ls m).2.1 = l; unfold lastP; rw [← el]
    rw [this]; exact hl
  have hk : (((List.range (m + 1)).map (tabD Ls)).drop 1).reverse = (List.range m).map fun j => tabD Ls (m - j) := by
    rw [drop_range, rev_range]
    refine List.map_congr_left fun j hj => ?_
    have := List.mem_range.mp hj
    congr 1
    omega
  obtain ⟨f, ρ', μ', e, h⟩ := for_ev (m := sRev (sSl false (sVar 2) (sPart (sC (.int 1))) sNoP)) (t := .nm 6) (body := l_best_1) (ρ := [some (.d A), some (.d (lotsD (Ls 0))), some (.d R), some (.d (.int p.1)), some (.d (rowD b)), some (.m μ.length), none]) (μ := μ ++ [.lst [rowD b]]) (μ1 := μ ++ [.lst [rowD b]]) (s := ⟨(((List.range (m + 1)).map (tabD Ls)).drop 1).reverse, none⟩) (List.range m) (fun j => tabD Ls (m - j)) (by simp [R]) hk
    (fun j ρ μ' => (∃ x, ρ = [some (.d A), some (.d (lotsD (Ls 0))), some (.d R), some (.d (.int p.1)), some (.d (rowD b)), some (.m μ.length), x]) ∧ μ' = μ ++ [.lst ((List.range (j + 1)).map fun i => rowD (pth Ls m b i))]) (fun _ _ => False) ⟨⟨_, rfl⟩, rfl⟩ (by
      rintro j t ρ μ' hj ⟨⟨x, rfl⟩, rfl⟩
      obtain ⟨rfl, hj⟩ := range_get hj
      have hp := pth_mem H hb (j := t) (by omega)
      have v := rowE_get (tabV Ls (m - t)) (pth Ls m b t) (Ls (m - t)) hp
      have hr := tupOf_row (pth Ls m b t)
      have st : l_best_1 [some (.d A), some (.d (lotsD (Ls 0))), some (.d R), some (.d (.int p.1)), some (.d (rowD b)), some (.m μ.length), some (.d (tabD Ls (m - t)))] (μ ++ [.lst ((List.range (t + 1)).map fun i => rowD (pth Ls m b i))]) = some (.nx, [some (.d A), some (.d (lotsD (Ls 0))), some (.d R), some (.d (.int p.1)), some (.d (rowD b)), some (.m μ.length), some (.d (tabD Ls (m - t)))], μ ++ [.lst ((List.range (t + 1 + 1)).map fun i => rowD (pth Ls m b i))]) := by
        have e1 : rowD (pth Ls m b (t + 1)) = rowD (tabV Ls (m - t) (pth Ls m b t)).2.1 := rfl
        have hl : atI ((List.range (t + 1)).map fun i => rowD (pth Ls m b i)) (-1) = some (rowD (pth Ls m b t)) := by
          rw [List.range_succ, List.map_append]; exact atI_last _ _
        rw [List.range_succ (n := t + 1), List.map_append]
        unfold l_best_1
        simp [-tupOf, hl, tabD, hr, v, ptD_all, e1]
        omega
      exact ⟨_, .nx, _, _, rfl, st, by simp [chkB_none], by simp, by simp⟩)
  have hn : f = .nx := by cases f <;> simp at h <;> rfl
  subst hn
  obtain ⟨⟨x, rfl⟩, rfl⟩ := h
  rw [List.length_range] at e
  have e : L_best_1 [some (.d A), some (.d (lotsD (Ls 0))), some (.d R), some (.d (.int p.1)), some (.d (rowD b)), some (.m μ.length), none] (μ ++ [.lst [rowD b]]) = _ := e
  have tb : g_table [.d A, .d (lotsD (Ls 0))] μ = some (.d R, μ) := table_ev Ls m hm H μ
  have cb : C_best_1 [some (.d A), some (.d (lotsD (Ls 0))), some (.d R), none, none, none, none] μ = some (.d (.list (((Ls m).map fun l => (((tabV Ls m l).1, ⟨l⟩) : Pt)).map ptD)), μ) := best_list_ev Ls m H μ _ _ none _ _ _
  have mb := minP_ev μ ((Ls m).map fun l => (((tabV Ls m l).1, ⟨l⟩) : Pt)) (by have := H.ne m (Nat.le_refl _); simpa using this)
  refine fn_dm (ρ := [some (.d A), some (.d (lotsD (Ls 0))), none, none, none, none, none]) ?_ rfl rfl
  unfold b_best
  rw [seq_nx (ρ' := [some (.d A), some (.d (lotsD (Ls 0))), some (.d R), none, none, none, none]) (μ' := μ) (by simp [tb])]
  have s1 : sAsg (sA fMinP (sCons C_best_1 sNil)) (.tp [3, 4]) [some (.d A), some (.d (lotsD (Ls 0))), some (.d R), none, none, none, none] μ = some (.nx, [some (.d A), some (.d (lotsD (Ls 0))), some (.d R), some (.d (.int p.1)), some (.d (rowD b)), none, none], μ) := by
    have e1 : sA fMinP (sCons C_best_1 sNil) [some (.d A), some (.d (lotsD (Ls 0))), some (.d R), none, none, none, none] μ = some (.d (ptD p), μ) := by
      unfold sA
      simp only [sCons, sNil, cb, Option.bind_some, Option.map_some]
      exact mb
    unfold sAsg
    rw [e1, ptD_all]
    simp
    rfl
  rw [seq_nx s1]
  rw [seq_nx (ρ' := [some (.d A), some (.d (lotsD (Ls 0))), some (.d R), some (.d (.int p.1)), some (.d (rowD b)), some (.m μ.length), none]) (μ' := μ ++ [.lst [rowD b]]) (by simp)]
  rw [seq_nx e]
  have rv : ((List.range (m + 1)).map fun i => rowD (pth Ls m b i)).reverse = (List.range (m + 1)).map fun t => rowD (pth Ls m b (m - t)) := by
    rw [rev_range]
    refine List.map_congr_left fun j hj => ?_
    have := List.mem_range.mp hj
    congr 2
  refine ⟨[some (.d A), some (.d (lotsD (Ls 0))), some (.d R), some (.d (.int p.1)), some (.d (rowD b)), some (.m μ.length), x], μ ++ [.lst ((List.range (m + 1)).map fun i => rowD (pth Ls m b i))], ?_, by simp⟩
  simp [rv]
  exact ⟨rfl, rfl⟩
end Sh
set_option Elab.async false
set_option linter.all false
set_option maxRecDepth 100000
set_option maxHeartbeats 1000000
namespace Sh
open PySem L2 PyProof.Rows
/-! ### fewest -/
theorem seats_len {y : Yd} (h : y.n ≤ 8) (hour : Nat) : (seatsAt y hour).length ≤ 8 := by
  have h1 := List.length_filter_le (fun s => sh y s hour) ((List.range y.n.toNat).map fun (i : Nat) => (i : Int))
  rw [List.length_map, List.length_range] at h1
  unfold seatsAt
  omega
theorem seats_rise (y : Yd) (hour : Nat) : (seatsAt y hour).Pairwise (· < ·) := List.Pairwise.sublist List.filter_sublist (nums_rise y.n.toNat)
theorem foldl_min_le : ∀ (l : List Int) (a : Int), l.foldl (fun m x => if x < m then x else m) a ≤ a ∧ ∀ x ∈ l, l.foldl (fun m x => if x < m then x else m) a ≤ x
  | [], a => ⟨Int.le_refl _, fun x h => by cases h⟩
  | y :: l, a => by
    rw [List.foldl_cons]
    obtain ⟨h1, h2⟩ := foldl_min_le l (if y < a then y else a)
    have h3 : (if y < a then y else a) ≤ a ∧ (if y < a then y else a) ≤ y := by split <;> omega
    refine ⟨Int.le_trans h1 h3.1, fun x hx => ?_⟩
    rcases List.mem_cons.mp hx with rfl | hx
    · exact Int.le_trans h1 h3.2
    · exact h2 x hx
def lotsAt (y : Yd) (n : Nat) (t : Nat) : List (List Int) := lotsL n (seatsAt y t)
theorem lotsAt_len {y : Yd} (h : y.n ≤ 8) (n t : Nat) : (lotsAt y n t).length ≤ 1000 := by
  have h1 := lots_len n (seatsAt y t) [[]]
  have h2 := seats_len h t
  have e1 : (2 ^ (seatsAt y t).length) * [([] : List Int)].length = 2 ^ (seatsAt y t).length := Nat.mul_one _
  rw [e1] at h1
  have h3 : 2 ^ (seatsAt y t).length ≤ 2 ^ 8 := Nat.pow_le_pow_right (by decide) h2
  have h4 := List.length_filter_le (fun l : List Int => decide (l.length = n)) (lotsAll n (seatsAt y t))
  unfold lotsAt lotsL
  have h5 : (lotsAll n (seatsAt y t)).length ≤ 256 := Nat.le_trans h1 h3
  omega
theorem lotsOk {y : Yd} (h : y.n ≤ 8) {n m : Nat} (hn : ∀ t, t ≤ m → n ≤ (seatsAt y t).length) : LotsOk (lotsAt y n) m where
  nd t _ := lots_nodup n _ (rise_nodup (seats_rise y t))
  ne t ht := lots_ne (hn t ht)
  le t _ := lotsAt_len h n t
  ln t _ l hl := by
    have h1 := (lots_mem.mp hl).1.length_le
    have h2 := seats_len h t
    omega
theorem lots_comp {y : Yd} (ok : y.Ok) (n8 : y.n ≤ 8) (n : Nat) (μ : Mu) (a b c : Option Rv) :
    C_fewest_1 [some (.d (yardD y)), some (.d (.int n)), a, b, c] μ = some (.d (.list ((List.range y.sun.length).map fun t => lotsD (lotsAt y n t))), μ) := by
  have h : C_fewest_1 [some (.d (yardD y)), some (.d (.int n)), a, b, c] μ = some (mkL false (((List.range y.sun.length).filter fun _ => true).map fun t => lotsD (lotsAt y n t)) μ) := by
    refine comp_ev (s := ⟨rngD 0 y.sun.length, none⟩) (List.range y.sun.length) (fun (i : Nat) => .int (i : Int)) ?_ ?_ (ok_none _) ?_ (fun _ => true) _ (fun t ht acc => ?_)
    · exact rng1_ev (sun_len y μ _) (by have := ok.sl; omega)
    · show rngD 0 y.sun.length = _
      unfold rngD
      simp
    · rw [List.length_range]; have := ok.sl; omega
    · refine ⟨[some (.d (yardD y)), some (.d (.int n)), a, b, some (.d (.int t))], rfl, rfl, fun _ => ?_⟩
      have e1 := shaded_ev ok (List.mem_range.mp ht) (μ ++ [.lst acc])
      have e2 := lots_of_ev n (seatsAt y t) (seats_len n8 t) (μ ++ [.lst acc])
      simp [e1, e2, lotsD, lotsAt]
  rw [h, filter_yes]
  rfl
theorem fewest_ev {y : Yd} (ok : y.Ok) (n8 : y.n ≤ 8) {n m : Nat} (hm : y.sun.length = m + 1) (hn : ∀ t, t ≤ m → n ≤ (seatsAt y t).length) (μ : Mu) :
    g_fewest [.d (yardD y), .d (.int n), .d .none] μ = some (.d (.tuple [.int (lastP (lotsAt y n) m).1, seatD (lotsAt y n) m]), μ) := by
  have c := lots_comp ok n8 n μ (some (.d .none)) none none
  have hs := ok.sl
  have b := best_ev (lotsAt y n) m (by omega) (lotsOk n8 hn) μ
  rw [hm] at c
  have e0 : ((List.range (m + 1)).map fun t => lotsD (lotsAt y n t)).drop 1 = (List.range m).map fun t => lotsD (lotsAt y n (t + 1)) := drop_range _ _
  have e1 : atI ((List.range (m + 1)).map fun t => lotsD (lotsAt y n t)) 0 = some (lotsD (lotsAt y n 0)) := by
    rw [List.range_succ_eq_map]; exact atI_0 _ _
  refine fn_dm (ρ := [some (.d (yardD y)), some (.d (.int n)), some (.d .none), none, none]) ?_ rfl rfl
  unfold b_fewest
  rw [seq_nx (ρ' := [some (.d (yardD y)), some (.d (.int n)), some (.d .none), some (.d (.list ((List.range (m + 1)).map fun t => lotsD (lotsAt y n t)))), none]) (μ' := μ) (by simp [c])]
  refine ⟨[some (.d (yardD y)), some (.d (.int n)), some (.d .none), some (.d (.list ((List.range (m + 1)).map fun t => lotsD (lotsAt y n t)))), none], μ, ?_, by simp⟩
  rw [List.drop_one] at e0
  simp [e0, e1, b, isN]
/-- the table's values are the least costs -/
theorem tabV_isB {S : Nat → List Int} {n m : Nat} (H : LotsOk (fun t => lotsL n (S t)) m) : ∀ {t : Nat}, t ≤ m → ∀ {l : List Int}, l ∈ lotsL n (S t) → IsB S n t l (tabV (fun t => lotsL n (S t)) t l).1
  | 0, _, l, hl => by
    show (l.length : Int) = (n : Int)
    rw [(lots_mem.mp hl).2]
  | t + 1, ht, l, hl => by
    obtain ⟨h1, h2, h3⟩ := tabV_step H ht l
    refine ⟨⟨_, _, h1, tabV_isB H (by omega) h1, h2⟩, fun a va ha hva => ?_⟩
    have e := IsB.uniq hva (tabV_isB H (by omega) ha)
    rw [e]
    exact h3 a ha
theorem lastP_spec {S : Nat → List Int} {n m : Nat} (H : LotsOk (fun t => lotsL n (S t)) m) : (lastP (fun t => lotsL n (S t)) m).2.1 ∈ lotsL n (S m) ∧ IsB S n m (lastP (fun t => lotsL n (S t)) m).2.1 (lastP (fun t => lotsL n (S t)) m).1 ∧
    ∀ c w, c ∈ lotsL n (S m) → IsB S n m c w → (lastP (fun t => lotsL n (S t)) m).1 ≤ w := by
  obtain ⟨h1, h2⟩ := leastP_mem ((lotsL n (S m)).map fun l => (((tabV (fun t => lotsL n (S t)) m l).1, ⟨l⟩) : Pt)) (by have := H.ne m (Nat.le_refl _); simpa using this)
  have e : lastP (fun t => lotsL n (S t)) m = leastP ((lotsL n (S m)).map fun l => (((tabV (fun t => lotsL n (S t)) m l).1, ⟨l⟩) : Pt)) := rfl
  rw [← e] at h1 h2
  obtain ⟨l, hl, el⟩ := List.mem_map.mp h1
  have e1 : (lastP (fun t => lotsL n (S t)) m).2.1 = l := by rw [← el]
  have e2 : (lastP (fun t => lotsL n (S t)) m).1 = (tabV (fun t => lotsL n (S t)) m l).1 := by rw [← el]
  refine ⟨by rw [e1]; exact hl, by rw [e1, e2]; exact tabV_isB H (Nat.le_refl _) hl, fun c w hc hw => ?_⟩
  rw [IsB.uniq hw (tabV_isB H (Nat.le_refl _) hc)]
  exact h2 ((tabV (fun t => lotsL n (S t)) m c).1, ⟨c⟩) (List.mem_map.mpr ⟨c, hc, rfl⟩)
/-! ### the seating told -/
def stOf (Ls : Nat → List (List Int)) (m t : Nat) : List Int := pth Ls m (lastP Ls m).2.1 (m - t)
theorem lastP_mem {Ls : Nat → List (List Int)} {m : Nat} (H : LotsOk Ls m) : (lastP Ls m).2.1 ∈ Ls m ∧ (lastP Ls m).1 = (tabV Ls m (lastP Ls m).2.1).1 := by
  obtain ⟨h1, _⟩ := leastP_mem ((Ls m).map fun l => (((tabV Ls m l).1, ⟨l⟩) : Pt)) (by have := H.ne m (Nat.le_refl _); simpa using this)
  have e : lastP Ls m = leastP ((Ls m).map fun l => (((tabV Ls m l).1, ⟨l⟩) : Pt)) := rfl
  rw [← e] at h1
  obtain ⟨l, hl, el⟩ := List.mem_map.mp h1
  rw [← el]
  exact ⟨hl, rfl⟩
theorem stOf_mem {Ls : Nat → List (List Int)} {m : Nat} (H : LotsOk Ls m) {t : Nat} (ht : t ≤ m) : stOf Ls m t ∈ Ls t := by
  have := pth_mem H (lastP_mem H).1 (j := m - t) (by omega)
  have e : m - (m - t) = t := by omega
  rw [e] at this
  exact this
theorem stOf_cst {Ls : Nat → List (List Int)} {m : Nat} (H : LotsOk Ls m) : ∀ {t : Nat}, t ≤ m → (tabV Ls t (stOf Ls m t)).1 = (cst (stOf Ls m) (t + 1) : Int)
  | 0, _ => by
    show ((stOf Ls m 0).length : Int) = ((0 + gone [] (stOf Ls m 0) : Nat) : Int)
    rw [gone_nil]; simp
  | t + 1, ht => by
    have e : stOf Ls m t = (tabV Ls (t + 1) (stOf Ls m (t + 1))).2.1 := by
      have e1 : m - t = (m - (t + 1)) + 1 := by omega
      have e2 : m - (m - (t + 1)) = t + 1 := by omega
      show pth Ls m _ (m - t) = _
      rw [e1]
      show (tabV Ls (m - (m - (t + 1))) (pth Ls m _ (m - (t + 1)))).2.1 = _
      rw [e2]; rfl
    obtain ⟨h1, h2, h3⟩ := tabV_step H ht (stOf Ls m (t + 1))
    rw [← e] at h2
    rw [h2, stOf_cst H (by omega)]
    show _ = ((cst (stOf Ls m) (t + 1) + gone (stOf Ls m t) (stOf Ls m (t + 1)) : Nat) : Int)
    omega
theorem number_cst {Ls : Nat → List (List Int)} {m : Nat} (H : LotsOk Ls m) : (lastP Ls m).1 = (cst (stOf Ls m) (m + 1) : Int) := by
  rw [← stOf_cst H (Nat.le_refl _), (lastP_mem H).2]
  have e : stOf Ls m m = (lastP Ls m).2.1 := by
    show pth Ls m _ (m - m) = _
    rw [Nat.sub_self]; rfl
  rw [e]
end Sh
set_option Elab.async false
set_option linter.all false
set_option maxRecDepth 100000
set_option maxHeartbeats 1000000
namespace Sh
open PySem L2 PyProof.Rows
/-! ### is it a seating -/
def rowsD (st : Nat → List Int) (T : Nat) : PyData := .tuple ((List.range T).map fun t => rowD (st t))
structure Seated (y : Yd) (n : Nat) (st : Nat → List Int) : Prop where
  sub : ∀ t, t < y.sun.length → (st t).Sublist (seatsAt y t)
  len : ∀ t, t < y.sun.length → (st t).length = n
theorem enum_range {T : Nat} (g : Nat → PyData) : enD ((List.range T).map g) = (List.range T).map fun (t : Nat) => .tuple [.int (t : Int), g t] := by
  unfold enD
  apply List.ext_getElem
  · simp
  · intro i h1 h2
    simp
theorem bools_map {α : Type} (f : α → Bool) : ∀ xs : List α, boolsOf (xs.map fun x => PyData.bool (f x)) = some (xs.map f)
  | [] => rfl
  | x :: xs => by
    show (boolsOf (xs.map fun x => PyData.bool (f x))).map (f x :: ·) = _
    rw [bools_map f xs]; rfl
theorem all_ev {α : Type} {m : Sm} {ρ : Ro} {μ : Mu} (f : α → Bool) (xs : List α) (e : m ρ μ = some (.d (.list (xs.map fun x => .bool (f x))), μ)) : sA fAll (sCons m sNil) ρ μ = some (.d (.bool (xs.all f)), μ) := by
  have eb := bools_map f xs
  simp only [sA, sCons, sNil, e, fAll, listOf, rd, eb, Option.bind_some, Option.map_some, List.all_map]
  rfl
theorem if_no {t : Sb} {a : Ss} {ρ : Ro} {μ : Mu} (e : t ρ μ = some (false, μ)) : sIf t a sSkip ρ μ = some (.nx, ρ, μ) := by simp [e]
theorem or_ff {s t : Sb} {ρ : Ro} {μ : Mu} (e : s ρ μ = some (false, μ)) (e2 : t ρ μ = some (false, μ)) : sOr s t ρ μ = some (false, μ) := by simp [e, e2]
theorem not_t {t : Sb} {b : Bool} {ρ : Ro} {μ : Mu} (e : t ρ μ = some (b, μ)) : sNot t ρ μ = some (!b, μ) := by simp [e]
theorem tst_b {m : Sm} {b : Bool} {ρ : Ro} {μ : Mu} (e : m ρ μ = some (.d (.bool b), μ)) : sTst m ρ μ = some (b, μ) := by simp [e]
theorem isi_row (l : List Int) {m : Sm} {ρ : Ro} {μ : Mu} (e : m ρ μ = some (.d (rowD l), μ)) : sTst (s1 (fIsi .tuple) m) ρ μ = some (true, μ) := by simp [e, rowD]
theorem sortI_self {l : List Int} (h : l.Pairwise (· < ·)) : sortI l = l := (rise_eq h (sortI_rise _) fun y => (sortI_mem _ y).symm).symm
theorem eqvAll_self (l : List Int) : PyData.eqvAll (l.map .int) (l.map .int) = true := by rw [eqvAll_ints]; simp
theorem zipD_self {α : Type} (f : α → PyData) (ws : List α) : zipD (ws.map f) ((ws.map f).drop 1) = (ws.zip (ws.drop 1)).map fun p => .tuple [f p.1, f p.2] := by
  unfold zipD
  rw [← List.map_drop, List.zipWith_map, List.zip, List.map_zipWith]
theorem rise_zip : ∀ {l : List Int}, l.Pairwise (· < ·) → ∀ p ∈ l.zip (l.drop 1), p.1 < p.2
  | [], _, p, h => by cases h
  | [x], _, p, h => by cases h
  | x :: y :: r, hp, p, h => by
    obtain ⟨h1, h2⟩ := List.pairwise_cons.mp hp
    have h : p ∈ (x, y) :: (y :: r).zip r := h
    rcases List.mem_cons.mp h with rfl | h
    · exact h1 y List.mem_cons_self
    · exact rise_zip h2 p h
theorem seat_in {y : Yd} {hour : Nat} {x : Int} (h : x ∈ seatsAt y hour) : 0 ≤ x ∧ x < y.n ∧ sh y x hour = true := by
  obtain ⟨h1, h2⟩ := List.mem_filter.mp h
  obtain ⟨h3, h4⟩ := mem_rng h1
  exact ⟨h3, h4, h2⟩
section
variable {y : Yd} (ok : y.Ok) (n8 : y.n ≤ 8) {n : Nat} {st : Nat → List Int} (hs : Seated y n st)
include ok n8 hs
theorem st_len {t : Nat} (ht : t < y.sun.length) : (st t).length ≤ 8 := Nat.le_trans (hs.sub t ht).length_le (seats_len n8 t)
theorem st_rise {t : Nat} (ht : t < y.sun.length) : (st t).Pairwise (· < ·) := List.Pairwise.sublist (hs.sub t ht) (seats_rise y t)
end
end Sh
set_option Elab.async false
set_option linter.all false
set_option maxRecDepth 100000
set_option maxHeartbeats 1000000
namespace Sh
open PySem L2 PyProof.Rows
/-! ### what a lot shows -/
theorem call_ev {n : Nat} {g : Fn} {a : Sa} {ρ : Ro} {μ μ1 μ2 : Mu} {rs : List Rv} {r : Rv} (e : a ρ μ = some (rs, μ1)) (h : rs.length = n) (eg : g rs μ1 = some (r, μ2)) : sCall n g a ρ μ = some (r, μ2) := by
  unfold sCall sA
  rw [e]
  simp only [Option.bind_some]
  rw [if_pos h, eg]
theorem ret_ev {m : Sm} {ρ : Ro} {μ μ2 : Mu} {r : Rv} (e : m ρ μ = some (r, μ2)) : sRet m ρ μ = some (.rt r, ρ, μ2) := by
  unfold sRet
  rw [e]; rfl
theorem cons_ev {a : Sm} {b : Sa} {ρ : Ro} {μ μ1 μ2 : Mu} {r : Rv} {rs : List Rv} (e : a ρ μ = some (r, μ1)) (e2 : b ρ μ1 = some (rs, μ2)) : sCons a b ρ μ = some (r :: rs, μ2) := by
  unfold sCons
  rw [e]
  simp only [Option.bind_some]
  rw [e2]; rfl
theorem nil_ev {ρ : Ro} {μ : Mu} : sNil ρ μ = some ([], μ) := rfl
theorem tup2_ev {a b : Sm} {ρ : Ro} {μ : Mu} {x y : PyData} (e : a ρ μ = some (.d x, μ)) (e2 : b ρ μ = some (.d y, μ)) : sA fTup (sCons a (sCons b sNil)) ρ μ = some (.d (.tuple [x, y]), μ) := by
  unfold sA
  rw [cons_ev e (cons_ev e2 nil_ev)]
  rfl
theorem runs_le (hs : List Int) : ∀ p ∈ runsL hs, p.1 ≤ p.2 := by
  have key : ∀ (hs : List Int) (acc : List (Int × Int)), (∀ p ∈ acc, p.1 ≤ p.2) → ∀ p ∈ hs.foldl runStep acc, p.1 ≤ p.2 := by
    intro hs
    induction hs with
    | nil => intro acc h; exact h
    | cons x hs ih =>
      intro acc h
      refine ih _ ?_
      intro p hp
      unfold runStep at hp
      split at hp
      · rename_i q hq
        have hq2 := h q (List.mem_of_getLast? hq)
        split at hp
        · rename_i c
          rcases List.mem_append.mp hp with hp | hp
          · exact h p (List.dropLast_subset _ hp)
          · rw [List.mem_singleton.mp hp]
            simp at c ⊢
            omega
        · rcases List.mem_append.mp hp with hp | hp
          · exact h p hp
          · rw [List.mem_singleton.mp hp]; exact Int.le_refl _
      · rw [List.mem_singleton.mp hp]; exact Int.le_refl _
  exact key hs [] (fun p h => by cases h)
def spP (y : Yd) : List (Int × Int) := (spansL y).map (·.2)
theorem spP_eq (y : Yd) : spP y = spR y.n.toNat y.sun.length (sh y) := by
  unfold spP spansL spansTo spR
  rw [List.map_flatMap]
  congr 1
  funext s
  unfold spansAt
  rw [List.map_map]
  show (runsL (hoursAt y s)).map (fun p => p) = _
  rw [List.map_id']
  rfl
theorem spansL_le {y : Yd} : ∀ p ∈ spansL y, p.2.1 ≤ p.2.2 := by
  intro p hp
  unfold spansL spansTo at hp
  obtain ⟨s, _, hp⟩ := List.mem_flatMap.mp hp
  obtain ⟨q, hq, rfl⟩ := List.mem_map.mp hp
  exact runs_le _ q hq
theorem spansL_len {y : Yd} (ok : y.Ok) (n8 : y.n ≤ 8) (s8 : y.sun.length ≤ 8) : (spansL y).length ≤ 64 := by
  have h := spansTo_len y (nums y.n.toNat)
  rw [nums_len] at h
  have h1 : y.n.toNat ≤ 8 := by omega
  have h2 := Nat.mul_le_mul h1 s8
  unfold spansL
  omega
theorem mul_len_ev (q : Int) (hb : b64 q = true) (a : Sm) (i : Nat) (l : List Int) (ρ : Ro) (μ : Mu) (ha : a ρ μ = some (.d (.int q), μ)) (hi : sVar i ρ μ = some (.d (rowD l), μ)) : s2 fMul a (sA fLen (sCons (sVar i) sNil)) ρ μ = some (.d (.int (q * (l.length : Int))), μ) := by
  simp only [s2, sA, sCons, sNil, ha, hi, Option.bind_some]
  simp [rowD, hb]
theorem asg_nm {m : Sm} {i : Nat} {d : PyData} {ρ : Ro} {μ : Mu} (e : m ρ μ = some (.d d, μ)) : sAsg m (.nm i) ρ μ = some (.nx, ρ.set i (some (.d d)), μ) := by
  unfold sAsg
  rw [e]
  rfl
theorem max0_ev (k : Nat) : (if (k : Int) - 1 > 0 then (k : Int) - 1 else 0) = ((k - 1 : Nat) : Int) := by
  split <;> omega
def partN (sp : List (Int × Int)) (l : List Int) : Nat := (sp.map fun p => ins p l - 1).sum
theorem partN_snoc (sp : List (Int × Int)) (p : Int × Int) (l : List Int) : partN (sp ++ [p]) l = partN sp l + (ins p l - 1) := by
  unfold partN
  rw [List.map_append, List.sum_append]
  simp
theorem shN_part (sp : List (Int × Int)) (n : Nat) (l : List Int) : shN sp n l = (n : Int) * (l.length : Int) - (partN sp l : Int) := rfl
end Sh
namespace Sh
/-! ### first seats given -/
def firstS (S : Nat → List Int) (F : List Int) : Nat → List Int
  | 0 => F
  | t + 1 => S (t + 1)
theorem lots_self {F : List Int} (h : F.Nodup) : lotsL F.length F = [F] := by
  have h1 := lots_nodup F.length F h
  have h2 : ∀ l ∈ lotsL F.length F, l = F := fun l hl => (lots_mem.mp hl).1.eq_of_length (lots_mem.mp hl).2
  have h3 : F ∈ lotsL F.length F := lots_mem.mpr ⟨List.Sublist.refl _, rfl⟩
  generalize lotsL F.length F = ls at h1 h2 h3
  cases ls with
  | nil => cases h3
  | cons a r =>
    have ea := h2 a List.mem_cons_self
    cases r with
    | nil => rw [ea]
    | cons b r =>
      have eb := h2 b (by simp)
      subst ea
      exact absurd (by rw [eb]; simp) (List.nodup_cons.mp h1).1
theorem sub_filter : ∀ {F xs : List Int}, F.Sublist xs → xs.Nodup → F = xs.filter fun x => F.contains x
  | _, _, .slnil, _ => rfl
  | F, x :: xs, .cons _ h, hn => by
    obtain ⟨n1, n2⟩ := List.nodup_cons.mp hn
    have hx : F.contains x = false := by
      cases c : F.contains x with
      | false => rfl
      | true => exact absurd (h.subset (List.contains_iff_mem.mp c)) n1
    rw [List.filter_cons_of_neg (by rw [hx]; exact Bool.false_ne_true)]
    exact sub_filter h n2
  | x :: F, _ :: xs, .cons_cons _ h, hn => by
    obtain ⟨n1, n2⟩ := List.nodup_cons.mp hn
    have ih := sub_filter h n2
    rw [List.filter_cons_of_pos (by simp)]
    congr 1
    refine ih.trans (List.filter_congr fun y hy => ?_)
    rw [List.contains_cons]
    have : (y == x) = false := by
      rw [beq_eq_false_iff_ne]
      intro q
      exact n1 (q ▸ hy)
    rw [this, Bool.false_or]
/-- N is the least number of sittings -/
def Least (S : Nat → List Int) (n T : Nat) (N : Int) : Prop := (∃ R rs, Sit S n (T - 1) (R :: rs) (N - n)) ∧ ∀ R rs g, Sit S n (T - 1) (R :: rs) g → N ≤ (n : Int) + g
theorem number_least {S : Nat → List Int} (hS : ∀ t, (S t).Nodup) {n T : Nat} (hT : 1 ≤ T) (hn : ∀ t, t < T → n ≤ (S t).length) {N : Int} {b : List Int} (hb : b ∈ lotsL n (S (T - 1))) (h1 : IsB S n (T - 1) b N)
    (h2 : ∀ c w, c ∈ lotsL n (S (T - 1)) → IsB S n (T - 1) c w → N ≤ w) : Least S n T N := by
  obtain ⟨rs, hs⟩ := IsB.sit hS h1 hb
  refine ⟨⟨b, rs, hs⟩, fun R rs' g d1 => ?_⟩
  obtain ⟨r1, r2, r3, r4⟩ := d1.top
  have pm := canon_perm (hS (T - 1)) r1 r2
  have hm : canon (S (T - 1)) R ∈ lotsL n (S (T - 1)) := lots_mem.mpr ⟨List.filter_sublist, pm.length_eq.trans r3⟩
  obtain ⟨v, hv⟩ := IsB.ex (S := S) (n := n) (T - 1) (fun u hu => hn u (by omega)) (canon (S (T - 1)) R)
  have l1 := low hS (fun u hu => hn u (by omega)) d1 v hv
  have l2 := h2 _ _ hm hv
  omega
theorem Sit.mono {S S' : Nat → List Int} {n : Nat} (h : ∀ t, ∀ x ∈ S t, x ∈ S' t) {t : Nat} {Rs : List (List Int)} {g : Int} (s : Sit S n t Rs g) : Sit S' n t Rs g := by
  induction s with
  | one h1 h2 h3 => exact .one h1 (fun x hx => h 0 x (h2 x hx)) h3
  | step s h1 h2 h3 ih => exact .step ih h1 (fun x hx => h _ x (h2 x hx)) h3
theorem Sit.bottom {S : Nat → List Int} {n t : Nat} {Rs : List (List Int)} {g : Int} (s : Sit S n t Rs g) : ∃ R0 : List Int, R0.Nodup ∧ (∀ x ∈ R0, x ∈ S 0) ∧ R0.length = n ∧ ∀ F : List Int, (∀ x ∈ R0, x ∈ F) → Sit (firstS S F) n t Rs g := by
  induction s with
  | @one R h1 h2 h3 => exact ⟨R, h1, h2, h3, fun F hF => .one h1 hF h3⟩
  | step s h1 h2 h3 ih =>
    obtain ⟨R0, a, b, c, d⟩ := ih
    exact ⟨R0, a, b, c, fun F hF => .step (d F hF) h1 h2 h3⟩
theorem Sit.swap {S : Nat → List Int} {n : Nat} {F : List Int} (hF : F.Nodup) (hn : F.length = n) {t : Nat} {R : List Int} {rs : List (List Int)} {g : Int} (s : Sit S n t (R :: rs) g) :
    ∃ R' rs' g', Sit (firstS S F) n t (R' :: rs') g' ∧ g' ≤ g + n ∧ (t = 0 → R' = F ∧ g' = 0) ∧ (0 < t → R' = R) := by
  generalize e : R :: rs = Rs at s
  induction s generalizing R rs with
  | one h1 h2 h3 => exact ⟨F, [], 0, .one hF (fun x hx => hx) hn, by omega, fun _ => ⟨rfl, rfl⟩, fun h => by omega⟩
  | @step t R0 R1 rs0 g0 s h1 h2 h3 ih =>
    cases e
    obtain ⟨R', rs', g', a, b, c, d⟩ := ih rfl
    have g0n := s.top.2.2.2
    refine ⟨R1, R' :: rs', _, .step a h1 h2 h3, ?_, fun h => by omega, fun _ => rfl⟩
    by_cases z : t = 0
    · obtain ⟨c1, c2⟩ := c z
      have := List.countP_le_length (p := fun x => !R'.contains x) (l := R1)
      rw [h3] at this
      have h0 : (0 : Int) ≤ (R1.countP fun x => !R0.contains x : Nat) := Int.natCast_nonneg _
      omega
    · rw [d (by omega)]
      omega
theorem first_ge {S : Nat → List Int} {n T : Nat} {N M : Int} {F : List Int} (hF : ∀ x ∈ F, x ∈ S 0) (h : Least S n T N) (h' : Least (firstS S F) n T M) : N ≤ M := by
  obtain ⟨⟨R, rs, s⟩, _⟩ := h'
  have := h.2 R rs _ (s.mono (S' := S) fun t x hx => by
    cases t with
    | zero => exact hF x hx
    | succ t => exact hx)
  omega
theorem first_eq {S : Nat → List Int} (hS : ∀ t, (S t).Nodup) {n T : Nat} {N : Int} (h : Least S n T N) : ∃ F ∈ lotsL n (S 0), ∀ M, Least (firstS S F) n T M → M ≤ N := by
  obtain ⟨⟨R, rs, s⟩, _⟩ := h
  obtain ⟨R0, a, b, c, d⟩ := s.bottom
  have pm := canon_perm (hS 0) a b
  refine ⟨canon (S 0) R0, lots_mem.mpr ⟨List.filter_sublist, pm.length_eq.trans c⟩, fun M hM => ?_⟩
  have := hM.2 R rs _ (d (canon (S 0) R0) fun x hx => (canon_mem b x).mpr hx)
  omega
theorem first_le {S : Nat → List Int} {n T : Nat} {N M : Int} {F : List Int} (hF : F.Nodup) (hn : F.length = n) (h : Least S n T N) (h' : Least (firstS S F) n T M) : M ≤ N + n := by
  obtain ⟨⟨R, rs, s⟩, _⟩ := h
  obtain ⟨R', rs', g', a, b, _, _⟩ := s.swap hF hn
  have := h'.2 R' rs' g' a
  omega
/-! ### the stretches that count -/
def adjR (F : List Int) (s : Int) (r : Int × Int) : Int × Int := if r.1 = 0 ∧ F.contains s = false then (1, r.2) else r
theorem runs_nonneg (hs : List Int) (h : ∀ x ∈ hs, 0 ≤ x) : ∀ p ∈ runsL hs, 0 ≤ p.1 := by
  have key : ∀ (hs : List Int) (acc : List (Int × Int)), (∀ x ∈ hs, 0 ≤ x) → (∀ p ∈ acc, 0 ≤ p.1) → ∀ p ∈ hs.foldl runStep acc, 0 ≤ p.1 := by
    intro hs
    induction hs with
    | nil => intro acc _ h; exact h
    | cons x hs ih =>
      intro acc hx h
      have x0 := hx x List.mem_cons_self
      refine ih _ (fun y hy => hx y (List.mem_cons_of_mem _ hy)) ?_
      intro p hp
      unfold runStep at hp
      split at hp
      · rename_i q hq
        have hq2 := h q (List.mem_of_getLast? hq)
        split at hp
        · rcases List.mem_append.mp hp with hp | hp
          · exact h p (List.dropLast_subset _ hp)
          · rw [List.mem_singleton.mp hp]; exact hq2
        · rcases List.mem_append.mp hp with hp | hp
          · exact h p hp
          · rw [List.mem_singleton.mp hp]; exact x0
      · rw [List.mem_singleton.mp hp]; exact x0
  exact key hs [] h (fun p h => by cases h)
theorem upto_nonneg (p : Nat → Bool) (T : Nat) : ∀ x ∈ upto p T, 0 ≤ x := by
  intro x hx
  have := (List.mem_filter.mp hx).1
  unfold nums at this
  obtain ⟨i, _, rfl⟩ := List.mem_map.mp this
  omega
def noFirst (p : Nat → Bool) (t : Nat) : Bool := decide (t ≠ 0) && p t
def cut1 (r : Int × Int) : Int × Int := if r.1 = 0 then (1, r.2) else r
theorem runs_prs1 (p : Nat → Bool) (T : Nat) (L : List Nat) (hp : L.Pairwise (· < ·)) (hl : ∀ x ∈ L, x < T) :
    ((runsL (upto p T)).map fun r => L.countP (inR (cut1 r)) - 1).sum = prs (fun l m => decide (∀ h, h < m + 1 → l ≤ h → noFirst p h = true)) L := by
  have e : ((runsL (upto p T)).map fun r => L.countP (inR (cut1 r)) - 1) = (runsL (upto p T)).map fun r => prs (fun l m => decide ((cut1 r).1 ≤ (l : Int)) && decide ((m : Int) ≤ (cut1 r).2)) L :=
    List.map_congr_left fun r _ => run_prs (cut1 r) L hp
  rw [e, sum_prs (α := Int × Int) (fun (r : Int × Int) (l m : Nat) => decide ((cut1 r).1 ≤ (l : Int)) && decide ((m : Int) ≤ (cut1 r).2)) L, prs_prN]
  refine prN_congr (T := T) (fun l m h1 h2 => ?_) L hp hl
  have nn := runs_nonneg _ (upto_nonneg p T)
  by_cases z : l = 0
  · subst z
    have a : decide (∀ h, h < m + 1 → 0 ≤ h → noFirst p h = true) = false := by
      rw [decide_eq_false_iff_not]
      intro q
      have := q 0 (by omega) (by omega)
      simp [noFirst] at this
    rw [a, List.countP_eq_zero.mpr]
    · simp
    · intro r hr q
      have := nn r hr
      simp only [Bool.and_eq_true, decide_eq_true_eq] at q
      obtain ⟨q1, _⟩ := q
      unfold cut1 at q1
      split at q1
      · simp at q1
      · have : r.1 ≤ 0 := q1; omega
  · have c := (rinv p T).cnt l m (by omega) h2
    have e1 : (runsL (upto p T)).countP (fun r => decide ((cut1 r).1 ≤ (l : Int)) && decide ((m : Int) ≤ (cut1 r).2)) = (runsL (upto p T)).countP (fun r => decide (r.1 ≤ (l : Int)) && decide ((m : Int) ≤ r.2)) := by
      refine List.countP_congr fun r hr => ?_
      have := nn r hr
      unfold cut1
      split
      · rename_i h0
        simp only [Bool.and_eq_true, decide_eq_true_eq]
        constructor
        · rintro ⟨a, b⟩; exact ⟨by omega, b⟩
        · rintro ⟨a, b⟩; exact ⟨by omega, b⟩
      · rfl
    rw [e1, c]
    have e2 : (∀ h, h < m + 1 → l ≤ h → p h = true) ↔ (∀ h, h < m + 1 → l ≤ h → noFirst p h = true) := by
      constructor
      · intro q h a b
        have := q h a b
        have : h ≠ 0 := by omega
        simp [noFirst, *]
      · intro q h a b
        have := q h a b
        simp [noFirst] at this
        exact this.2
    by_cases q : ∀ h, h < m + 1 → l ≤ h → p h = true
    · rw [if_pos q, decide_eq_true (e2.mp q)]; rfl
    · rw [if_neg q, decide_eq_false (fun z => q (e2.mpr z))]; rfl
/-- as shows_wt, told by what each seat brings -/
theorem shows_wtG (Ss : List Int) (f : Int → Nat → Bool) (W : Int → Nat) (n T : Nat) (L : List Nat) (h0 : L ≠ []) (hp : L.Pairwise (· < ·)) (hl : ∀ x ∈ L, x < T)
    (hW : ∀ s ∈ Ss, W s = prs (fun l m => decide (∀ h, h < m + 1 → l ≤ h → f s h = true)) L) :
    (n : Int) * (L.length : Int) - ((Ss.map W).sum : Nat) = (n : Int) + wt (fun t => Ss.filter fun s => f s t) n L.reverse := by
  have e : Ss.map W = Ss.map fun s => prs (fun l m => decide (∀ h, h < m + 1 → l ≤ h → f s h = true)) L := List.map_congr_left hW
  rw [e, sum_prs (α := Int) (fun (s : Int) (l m : Nat) => decide (∀ h, h < m + 1 → l ≤ h → f s h = true)) L]
  have e2 : prN (fun l m => Ss.countP fun s => decide (∀ h, h < m + 1 → l ≤ h → f s h = true)) L = prN (cc fun t => Ss.filter fun s => f s t) L :=
    prN_congr (T := T) (fun l m h1 h2 => (cc_cnt (by omega)).symm) L hp hl
  rw [e2]
  have := wt_rev (S := fun t => Ss.filter fun s => f s t) (n := n) L h0
  omega
/-- the stretches of all seats that count -/
def spFs (P T : Nat) (f : Int → Nat → Bool) (F : List Int) : List (Int × Int) := (nums P).flatMap fun s => (runsL (upto (f s) T)).map (adjR F s)
def fF (f : Int → Nat → Bool) (F : List Int) (s : Int) (t : Nat) : Bool := if t = 0 then F.contains s else f s t
theorem firstS_filter {P : Nat} {f : Int → Nat → Bool} {F : List Int} (hF : F.Sublist ((nums P).filter fun s => f s 0)) : firstS (fun t => (nums P).filter fun s => f s t) F = fun t => (nums P).filter fun s => fF f F s t := by
  funext t
  cases t with
  | zero => exact sub_filter (hF.trans List.filter_sublist) (nums_nodup P)
  | succ t =>
    refine List.filter_congr fun s _ => ?_
    unfold fF
    rw [if_neg (by omega)]
theorem shN_wtF (P : Nat) (f : Int → Nat → Bool) (F : List Int) (hF : F.Sublist ((nums P).filter fun s => f s 0)) (n T : Nat) (L : List Nat) (h0 : L ≠ []) (hp : L.Pairwise (· < ·)) (hl : ∀ x ∈ L, x < T) :
    shN (spFs P T f F) n (L.map fun (i : Nat) => (i : Int)) = (n : Int) + wt (firstS (fun t => (nums P).filter fun s => f s t) F) n L.reverse := by
  rw [firstS_filter hF]
  have := shows_wtG (nums P) (fF f F) (fun s => ((runsL (upto (f s) T)).map fun r => L.countP (inR (adjR F s r)) - 1).sum) n T L h0 hp hl (fun s _ => by
    cases c : F.contains s with
    | true =>
      have hs0 : f s 0 = true := (List.mem_filter.mp (hF.subset (List.contains_iff_mem.mp c))).2
      have e1 : ((runsL (upto (f s) T)).map fun r => L.countP (inR (adjR F s r)) - 1) = (runsL (upto (f s) T)).map fun r => L.countP (inR r) - 1 := by
        refine List.map_congr_left fun r _ => ?_
        unfold adjR
        rw [if_neg (by rintro ⟨_, q⟩; rw [c] at q; cases q)]
      have e2 : fF f F s = f s := by
        funext t
        unfold fF
        by_cases z : t = 0
        · subst z; rw [if_pos rfl, c, hs0]
        · rw [if_neg z]
      rw [e1, e2]
      exact runs_prs (f s) T L hp hl
    | false =>
      have e1 : ((runsL (upto (f s) T)).map fun r => L.countP (inR (adjR F s r)) - 1) = (runsL (upto (f s) T)).map fun r => L.countP (inR (cut1 r)) - 1 := by
        refine List.map_congr_left fun r _ => ?_
        have : adjR F s r = cut1 r := by
          unfold adjR cut1
          by_cases z : r.1 = 0
          · rw [if_pos ⟨z, c⟩, if_pos z]
          · rw [if_neg (fun q => z q.1), if_neg z]
        rw [this]
      have e2 : fF f F s = noFirst (f s) := by
        funext t
        unfold fF noFirst
        by_cases z : t = 0
        · subst z; rw [if_pos rfl, c]; rfl
        · simp [z]
      rw [e1, e2]
      exact runs_prs1 (f s) T L hp hl)
  unfold shN spFs
  rw [List.length_map, sum_flat, ← this]
  congr 2
  congr 1
  refine List.map_congr_left fun s _ => ?_
  rw [List.map_map]
  congr 1
  refine List.map_congr_left fun r _ => ?_
  show ins (adjR F s r) _ - 1 = _
  rw [ins_map]
/-- the number told is the greatest that a lot shows: any stretches that show as the rows do -/
theorem shows_maxG {S : Nat → List Int} (hS : ∀ t, (S t).Nodup) (sp : List (Int × Int)) {n T : Nat} (hT : 1 ≤ T) (hn : ∀ t, t < T → n ≤ (S t).length) {N : Int} {b : List Int} (hb : b ∈ lotsL n (S (T - 1)))
    (h1 : IsB S n (T - 1) b N) (h2 : ∀ c w, c ∈ lotsL n (S (T - 1)) → IsB S n (T - 1) c w → N ≤ w)
    (hw : ∀ L : List Nat, L ≠ [] → L.Pairwise (· < ·) → (∀ x ∈ L, x < T) → shN sp n (L.map fun (i : Nat) => (i : Int)) = (n : Int) + wt S n L.reverse) :
    (∀ l ∈ allL T, showsV sp n l ≤ N) ∧ (∃ l ∈ allL T, showsV sp n l = N) ∧ (n : Int) ≤ N := by
  obtain ⟨⟨L, l1, l2, l3, l4⟩, m, k⟩ := number_dual (S := S) hS hT hn hb h1 h2
  refine ⟨fun l hl => ?_, ?_, k⟩
  · obtain ⟨A, rfl, hA⟩ := nums_sub (allL_mem.mp hl)
    unfold showsV
    by_cases c : A = []
    · subst c
      have : shN sp n (([] : List Nat).map fun (i : Nat) => (i : Int)) ≤ 0 := by
        unfold shN
        simp
      rw [if_neg (by omega)]
      omega
    · obtain ⟨a1, a2⟩ := range_pw hA
      have e := hw A c a1 a2
      have w := m A.reverse (List.pairwise_reverse.mpr a1) (fun x hx => a2 x (List.mem_reverse.mp hx))
      split <;> omega
  · have p1 : L.reverse.Pairwise (· < ·) := by
      rw [List.pairwise_reverse]; exact l2
    have p2 : ∀ x ∈ L.reverse, x < T := fun x hx => l3 x (List.mem_reverse.mp hx)
    refine ⟨L.reverse.map fun (i : Nat) => (i : Int), allL_mem.mpr ?_, ?_⟩
    · exact (range_sub p1 p2).map _
    · have e := hw L.reverse (by simpa using l1) p1 p2
      rw [List.reverse_reverse] at e
      unfold showsV
      split <;> omega
end Sh
namespace Sh
/-! ### numbers compared -/
theorem least_dual {S : Nat → List Int} (hS : ∀ t, (S t).Nodup) {n T : Nat} (hT : 1 ≤ T) (hn : ∀ t, t < T → n ≤ (S t).length) {N : Int} (h : Least S n T N) :
    (∃ L : List Nat, L ≠ [] ∧ L.Pairwise (· > ·) ∧ (∀ x ∈ L, x < T) ∧ N = (n : Int) + wt S n L) ∧ (∀ L : List Nat, L.Pairwise (· > ·) → (∀ x ∈ L, x < T) → (n : Int) + wt S n L ≤ N) ∧ (n : Int) ≤ N := by
  obtain ⟨R, rs, g, L, d1, d2, d3, d4, d5, d6⟩ := duality hS hT hn
  obtain ⟨⟨R', rs', s⟩, l2⟩ := h
  have a := l2 _ _ _ d1
  have b := d6 _ _ _ s
  have c := s.top.2.2.2
  refine ⟨⟨L, d2, d3, d4, by omega⟩, fun L' p1 p2 => ?_, by omega⟩
  have := weak_lot hS hT s L' p1 p2
  omega
theorem least_uniq {S : Nat → List Int} {n T : Nat} {N M : Int} (h : Least S n T N) (h' : Least S n T M) : N = M := by
  obtain ⟨⟨R, rs, s⟩, a⟩ := h
  obtain ⟨⟨R', rs', s'⟩, b⟩ := h'
  have := a _ _ _ s'
  have := b _ _ _ s
  omega
theorem wt_map {S S' : Nat → List Int} {n T : Nat} (ι : Nat → Nat) (hc : ∀ a b, a < b → b < T → cc S' (ι a) (ι b) ≤ cc S a b) : ∀ L : List Nat, L.Pairwise (· > ·) → (∀ x ∈ L, x < T) → wt S n L ≤ wt S' n (L.map ι)
  | [], _, _ => Int.le_refl _
  | [u], _, _ => Int.le_refl _
  | u :: v :: r, hp, hl => by
    obtain ⟨h1, h2⟩ := List.pairwise_cons.mp hp
    have ih := wt_map (S := S) (S' := S') (n := n) ι hc (v :: r) h2 fun x hx => hl x (List.mem_cons_of_mem _ hx)
    have c := hc v u (h1 v List.mem_cons_self) (hl u List.mem_cons_self)
    show ((n : Int) - (cc S v u : Int)) + wt S n (v :: r) ≤ ((n : Int) - (cc S' (ι v) (ι u) : Int)) + wt S' n ((v :: r).map ι)
    omega
/-- a day's hours found in another day, in their order, with no more seats kept: no more sittings -/
theorem num_map {S S' : Nat → List Int} (hS : ∀ t, (S t).Nodup) (hS' : ∀ t, (S' t).Nodup) {n T T' : Nat} (hT : 1 ≤ T) (hT' : 1 ≤ T') (hn : ∀ t, t < T → n ≤ (S t).length) (hn' : ∀ t, t < T' → n ≤ (S' t).length) {N N' : Int} (h : Least S n T N) (h' : Least S' n T' N')
    (ι : Nat → Nat) (hi : ∀ a b, a < b → b < T → ι a < ι b) (hb : ∀ t, t < T → ι t < T') (hc : ∀ a b, a < b → b < T → cc S' (ι a) (ι b) ≤ cc S a b) : N ≤ N' := by
  obtain ⟨⟨L, l1, l2, l3, l4⟩, _⟩ := least_dual hS hT hn h
  obtain ⟨_, m, _⟩ := least_dual hS' hT' hn' h'
  have w := wt_map (n := n) ι hc L l2 l3
  have q := m (L.map ι) (by
    rw [List.pairwise_map]
    exact List.Pairwise.imp_of_mem (fun {a b} ha _ hab => hi b a hab (l3 a ha)) l2) (fun x hx => by
    obtain ⟨t, ht, rfl⟩ := List.mem_map.mp hx
    exact hb t (l3 t ht))
  omega
theorem wt_revmap {S S' : Nat → List Int} {n T : Nat} (ι : Nat → Nat) (hc : ∀ a b, a < b → b < T → cc S' (ι b) (ι a) ≤ cc S a b) : ∀ L : List Nat, L.Pairwise (· > ·) → (∀ x ∈ L, x < T) → wt S n L ≤ wt S' n (L.map ι).reverse
  | [], _, _ => Int.le_refl _
  | [u], _, _ => Int.le_refl _
  | u :: v :: r, hp, hl => by
    obtain ⟨h1, h2⟩ := List.pairwise_cons.mp hp
    have ih := wt_revmap (S := S) (S' := S') (n := n) ι hc (v :: r) h2 fun x hx => hl x (List.mem_cons_of_mem _ hx)
    have c := hc v u (h1 v List.mem_cons_self) (hl u List.mem_cons_self)
    have e : wt S' n ((u :: v :: r).map ι).reverse = wt S' n ((v :: r).map ι).reverse + ((n : Int) - (cc S' (ι u) (ι v) : Int)) := by
      rw [List.map_cons, List.map_cons, List.reverse_cons, List.reverse_cons, List.append_assoc]
      show wt S' n ((r.map ι).reverse ++ [ι v, ι u]) = _
      rw [wt_snoc]
    show ((n : Int) - (cc S v u : Int)) + wt S n (v :: r) ≤ _
    rw [e]
    omega
/-- the day gone backward -/
theorem num_rev {S S' : Nat → List Int} (hS : ∀ t, (S t).Nodup) (hS' : ∀ t, (S' t).Nodup) {n T : Nat} (hT : 1 ≤ T) (hn : ∀ t, t < T → n ≤ (S t).length) (hn' : ∀ t, t < T → n ≤ (S' t).length) {N N' : Int} (h : Least S n T N) (h' : Least S' n T N')
    (he : ∀ t, t < T → S' t = S (T - 1 - t)) : N ≤ N' := by
  obtain ⟨⟨L, l1, l2, l3, l4⟩, _⟩ := least_dual hS hT hn h
  obtain ⟨_, m, _⟩ := least_dual hS' hT hn' h'
  have hc : ∀ a b, a < b → b < T → cc S' (T - 1 - b) (T - 1 - a) ≤ cc S a b := by
    intro a b hab hb
    have e1 : S' (T - 1 - b) = S b := by rw [he _ (by omega)]; congr 1; omega
    unfold cc
    rw [e1, List.countP_eq_length_filter, List.countP_eq_length_filter]
    refine ((hS b).sublist List.filter_sublist).length_le_of_subset ?_
    intro x hx
    obtain ⟨h1, h2⟩ := List.mem_filter.mp hx
    have h2 := al_iff.mp h2
    have hall : ∀ v, a ≤ v → v ≤ b → x ∈ S v := fun v v1 v2 => by
      have := h2 (T - 1 - v) (by omega) (by omega)
      rw [he _ (by omega)] at this
      have e : T - 1 - (T - 1 - v) = v := by omega
      rwa [e] at this
    exact List.mem_filter.mpr ⟨hall a (Nat.le_refl _) (by omega), al_iff.mpr hall⟩
  have w := wt_revmap (n := n) (fun t => T - 1 - t) hc L l2 l3
  have q := m (L.map fun t => T - 1 - t).reverse (by
    rw [List.pairwise_reverse, List.pairwise_map]
    exact List.Pairwise.imp_of_mem (fun {a b} ha hb hab => by
      have := l3 a ha
      show T - 1 - b > T - 1 - a
      omega) l2) (fun x hx => by
    obtain ⟨t, ht, rfl⟩ := List.mem_map.mp (List.mem_reverse.mp hx)
    omega)
  omega
theorem sit_le {S : Nat → List Int} {n t : Nat} {Rs : List (List Int)} {g : Int} (h : Sit S n t Rs g) : g ≤ (n : Int) * (t : Int) := by
  induction h with
  | one => simp
  | @step t R R' rs g h h1 h2 h3 ih =>
    have := List.countP_le_length (p := fun x => !R.contains x) (l := R')
    rw [h3] at this
    have e : (n : Int) * ((t + 1 : Nat) : Int) = (n : Int) * (t : Int) + n := by rw [Int.natCast_add, Int.mul_add]; simp
    rw [e]
    omega
/-- no more than sit, by hours -/
theorem num_most {S : Nat → List Int} {n T : Nat} (hT : 1 ≤ T) {N : Int} (h : Least S n T N) : N ≤ (n : Int) * (T : Int) := by
  obtain ⟨⟨R, rs, s⟩, _⟩ := h
  have := sit_le s
  obtain ⟨m, rfl⟩ : ∃ m, T = m + 1 := ⟨T - 1, by omega⟩
  have e : (n : Int) * ((m + 1 : Nat) : Int) = (n : Int) * (m : Int) + n := by rw [Int.natCast_add, Int.mul_add]; simp
  rw [Nat.add_sub_cancel] at this
  rw [e]
  omega
theorem num_sub {S S' : Nat → List Int} {n T : Nat} {N N' : Int} (h : Least S n T N) (h' : Least S' n T N') (hs : ∀ t, t < T → ∀ x ∈ S t, x ∈ S' t) (hT : 1 ≤ T) : N' ≤ N := by
  obtain ⟨⟨R, rs, s⟩, _⟩ := h
  have key : ∀ {t : Nat} {Rs : List (List Int)} {g : Int}, Sit S n t Rs g → t < T → Sit S' n t Rs g := by
    intro t Rs g s
    induction s with
    | one h1 h2 h3 => exact fun ht => .one h1 (fun x hx => hs 0 ht x (h2 x hx)) h3
    | step s h1 h2 h3 ih => exact fun ht => .step (ih (by omega)) h1 (fun x hx => hs _ ht x (h2 x hx)) h3
  have := h'.2 R rs _ (key s (by omega))
  omega
theorem num_more1 {S : Nat → List Int} (hS : ∀ t, (S t).Nodup) {n T : Nat} (hT : 1 ≤ T) (hn : ∀ t, t < T → n + 1 ≤ (S t).length) {N M : Int} (h : Least S n T N) (h' : Least S (n + 1) T M) : N + 1 ≤ M := by
  obtain ⟨⟨L, _, l2, l3, l4⟩, _⟩ := least_dual hS hT (fun t ht => by have := hn t ht; omega) h
  obtain ⟨_, m, _⟩ := least_dual hS hT hn h'
  have a := m L l2 l3
  have w := wt_mono S n L
  omega
/-- all hours alike -/
theorem num_still {S : Nat → List Int} (hS : ∀ t, (S t).Nodup) {n T : Nat} (hT : 1 ≤ T) (hn : n ≤ (S 0).length) (he : ∀ t, t < T → S t = S 0) {N : Int} (h : Least S n T N) : N = n := by
  have key : ∀ t, t < T → ∃ rs, Sit S n t ((S 0).take n :: rs) 0 := by
    intro t
    induction t with
    | zero => exact fun _ => ⟨[], .one ((hS 0).sublist (List.take_sublist _ _)) (fun x hx => List.take_subset _ _ hx) (by rw [List.length_take]; omega)⟩
    | succ t ih =>
      intro ht
      obtain ⟨rs, s⟩ := ih (by omega)
      refine ⟨(S 0).take n :: rs, ?_⟩
      have z : (((S 0).take n).countP (fun x => !((S 0).take n).contains x)) = 0 := by
        rw [List.countP_eq_zero]
        intro x hx
        simp [hx]
      have st := Sit.step s ((hS 0).sublist (List.take_sublist n _)) (fun x hx => by rw [he (t + 1) ht]; exact List.take_subset _ _ hx) (by rw [List.length_take]; omega)
      rw [z] at st
      exact st
  obtain ⟨rs, s⟩ := key (T - 1) (by omega)
  have a := h.2 _ _ _ s
  have b := (least_dual hS hT (fun t ht => by rw [he t ht]; exact hn) h).2.2
  omega
/-- each hour twice -/
theorem num_twice {S S' : Nat → List Int} (hS : ∀ t, (S t).Nodup) (hS' : ∀ t, (S' t).Nodup) {n T : Nat} (hT : 1 ≤ T) (hn : ∀ t, t < T → n ≤ (S t).length) (he : ∀ t, t < 2 * T → S' t = S (t / 2)) {N N' : Int} (h : Least S n T N) (h' : Least S' n (2 * T) N') : N' = N := by
  have hn' : ∀ t, t < 2 * T → n ≤ (S' t).length := fun t ht => by rw [he t ht]; exact hn _ (by omega)
  have a : N ≤ N' := by
    refine num_map hS hS' hT (by omega) hn hn' h h' (fun t => 2 * t) (fun a b h _ => by omega) (fun t ht => by omega) fun a b hab hb => ?_
    have e1 : S' (2 * a) = S a := by rw [he _ (by omega)]; congr 1; omega
    unfold cc
    rw [e1]
    refine List.countP_mono_left fun x hx hq => ?_
    have hq := al_iff.mp hq
    refine al_iff.mpr fun v v1 v2 => ?_
    have := hq (2 * v) (by omega) (by omega)
    rw [he _ (by omega)] at this
    have e : 2 * v / 2 = v := by omega
    rwa [e] at this
  have b : N' ≤ N := by
    have same : ∀ R : List Int, R.countP (fun x => !R.contains x) = 0 := fun R => by
      rw [List.countP_eq_zero]
      intro x hx
      simp [hx]
    have key : ∀ {t : Nat} {Rs : List (List Int)} {g : Int}, Sit S n t Rs g → t < T → ∀ R rs, Rs = R :: rs → ∃ rs', Sit S' n (2 * t + 1) (R :: rs') g := by
      intro t Rs g s
      induction s with
      | @one R h1 h2 h3 =>
        intro ht R' rs e
        cases e
        have a0 : S' 0 = S 0 := he 0 (by omega)
        have a1 : S' 1 = S 0 := he 1 (by omega)
        have s0 : Sit S' n 0 [R] 0 := .one h1 (fun x hx => by rw [a0]; exact h2 x hx) h3
        have s1 := Sit.step s0 h1 (fun x hx => by rw [a1]; exact h2 x hx) h3
        rw [same R] at s1
        exact ⟨[R], s1⟩
      | @step t R R1 rs0 g s h1 h2 h3 ih =>
        intro ht R' rs e
        cases e
        obtain ⟨rs', s'⟩ := ih (by omega) R rs0 rfl
        have a0 : S' (2 * t + 1 + 1) = S (t + 1) := by rw [he _ (by omega)]; congr 1; omega
        have a1 : S' (2 * t + 1 + 1 + 1) = S (t + 1) := by rw [he _ (by omega)]; congr 1; omega
        have s1 := Sit.step s' h1 (fun x hx => by rw [a0]; exact h2 x hx) h3
        have s2 := Sit.step s1 h1 (fun x hx => by rw [a1]; exact h2 x hx) h3
        rw [same R1] at s2
        have e2 : 2 * (t + 1) + 1 = 2 * t + 1 + 1 + 1 := by omega
        rw [e2]
        refine ⟨R1 :: R :: rs', ?_⟩
        have e3 : g + ((R1.countP fun x => !R.contains x : Nat) : Int) + ((0 : Nat) : Int) = g + ((R1.countP fun x => !R.contains x : Nat) : Int) := by omega
        rw [e3] at s2
        exact s2
    obtain ⟨⟨R, rs, s⟩, _⟩ := h
    obtain ⟨rs', s'⟩ := key s (by omega) R rs rfl
    have e : 2 * T - 1 = 2 * (T - 1) + 1 := by omega
    have := h'.2 R rs' _ (by rw [e]; exact s')
    omega
  omega
/-- seats told otherwise, one by one -/
theorem num_seats {S S' : Nat → List Int} (hS : ∀ t, (S t).Nodup) (hS' : ∀ t, (S' t).Nodup) {n T : Nat} (hT : 1 ≤ T) (hn : ∀ t, t < T → n ≤ (S t).length) (f : Int → Int) (hf : ∀ x y, f x = f y → x = y) (he : ∀ t, t < T → ∀ x, x ∈ S t → f x ∈ S' t) (he' : ∀ t, t < T → ∀ y, y ∈ S' t → ∃ x, x ∈ S t ∧ f x = y) {N N' : Int} (h : Least S n T N) (h' : Least S' n T N') : N ≤ N' := by
  have hp : ∀ t, t < T → ((S t).map f).Perm (S' t) := fun t ht => (List.perm_ext_iff_of_nodup ((List.pairwise_map.mpr ((hS t).imp fun q z => q (hf _ _ z)))) (hS' t)).mpr fun y => by
    rw [List.mem_map]
    exact ⟨fun ⟨x, hx, e⟩ => e ▸ he t ht x hx, fun hy => he' t ht y hy⟩
  have hn' : ∀ t, t < T → n ≤ (S' t).length := fun t ht => by
    rw [← (hp t ht).length_eq, List.length_map]; exact hn t ht
  refine num_map hS hS' hT hT hn hn' h h' id (fun a b h _ => h) (fun t h => h) fun a b hab hb => ?_
  unfold cc
  show (S' a).countP (al S' a b) ≤ _
  rw [← (hp a (by omega)).countP_eq, List.countP_map]
  refine List.countP_mono_left fun x hx hq => ?_
  have hq := al_iff.mp hq
  refine al_iff.mpr fun v v1 v2 => ?_
  obtain ⟨z, hz, e⟩ := he' v (by omega) (f x) (hq v v1 v2)
  rw [← hf _ _ e]
  exact hz
end Sh
set_option Elab.async false
set_option linter.all false
set_option maxRecDepth 100000
set_option maxHeartbeats 1000000
namespace Sh
open PySem L2 PyProof.Rows
/-! ### the number of a yard -/
structure GoodN (y : Yd) (n : Nat) : Prop where
  ok : y.Ok
  n7 : y.n ≤ 8
  s1 : 1 ≤ y.sun.length
  sl : y.sun.length ≤ 8
  room : ∀ t, t < y.sun.length → n ≤ (seatsAt y t).length
def hi (y : Yd) : Nat := y.sun.length - 1
def num (y : Yd) (n : Nat) : Int := (lastP (lotsAt y n) (hi y)).1
theorem arg1_ev {f : FA} {m : Sm} {ρ : Ro} {μ μ1 : Mu} {x : Rv} {r : Rv × Mu} (e : m ρ μ = some (x, μ1)) (ef : f μ1 [x] = some r) : sA f (sCons m sNil) ρ μ = some r := by
  unfold sA
  rw [cons_ev e nil_ev]
  exact ef
theorem nd (y : Yd) (t : Nat) : (seatsAt y t).Nodup := rise_nodup (seats_rise y t)
section
variable {y : Yd} {n : Nat} (g : GoodN y n)
include g
theorem hi_eq : y.sun.length = hi y + 1 := by have := g.s1; unfold hi; omega
theorem lok : LotsOk (lotsAt y n) (hi y) := lotsOk g.n7 fun t ht => g.room t (by have := hi_eq g; omega)
theorem fewest_num (μ : Mu) : ∃ D, g_fewest [.d (yardD y), .d (.int n), .d .none] μ = some (.d (.tuple [.int (num y n), D]), μ) :=
  ⟨_, fewest_ev g.ok g.n7 (n := n) (m := hi y) (hi_eq g) (fun t ht => g.room t (by have := hi_eq g; omega)) μ⟩
theorem num_least : Least (seatsAt y) n y.sun.length (num y n) := by
  obtain ⟨h1, h2, h3⟩ := lastP_spec (S := seatsAt y) (lok g)
  exact number_least (S := seatsAt y) (nd y) g.s1 g.room h1 h2 h3
theorem count_ev (μ : Mu) : g_law_count [.d (yardD y), .d (.int n)] μ = some (.d (.int (num y n)), μ) := by
  obtain ⟨D, h⟩ := fewest_num g μ
  generalize num y n = N at h
  refine fn_d (ρ := [some (.d (yardD y)), some (.d (.int n))]) (ρ' := [some (.d (yardD y)), some (.d (.int n))]) ?_ rfl rfl
  unfold b_law_count
  have c1 : sCallD 2 g_fewest (sCons (sVar 0) (sCons (sVar 1) sNil)) [some (.d (yardD y)), some (.d (.int n))] μ = some (.d (.tuple [.int N, D]), μ) := by
    unfold sCallD sA
    rw [cons_ev (μ1 := μ) (r := .d (yardD y)) rfl (cons_ev (μ1 := μ) (r := .d (.int n)) rfl nil_ev)]
    exact h
  refine ret_ev ?_
  unfold s2
  rw [c1]
  simp
theorem num_low : (n : Int) ≤ num y n := (least_dual (nd y) g.s1 g.room (num_least g)).2.2
theorem num_high : num y n ≤ (n : Int) * (y.sun.length : Int) := num_most g.s1 (num_least g)
end
/-! ### yards with other hours -/
theorem seats_congr {y y' : Yd} {t u : Nat} (hn : y'.n = y.n) (hw : y'.walls = y.walls) (hs : y'.sun[t]? = y.sun[u]?) : seatsAt y' t = seatsAt y u := by
  unfold seatsAt
  rw [hn]
  refine List.filter_congr fun s _ => ?_
  unfold sh
  rw [hs, hw]
def withSun (y : Yd) (sun : List (Bool × Int × Int)) : Yd := ⟨y.n, y.walls, sun⟩
theorem withSun_ok {y : Yd} (ok : y.Ok) {sun : List (Bool × Int × Int)} (hl : sun.length ≤ 16) (h : ∀ x ∈ sun, x ∈ y.sun) : (withSun y sun).Ok :=
  ⟨ok.n1, ok.n8, ok.wl, hl, ok.w, fun x hx => ok.s x (h x hx)⟩
/-- an hour's row in the other yard -/
theorem withSun_good {y : Yd} {n : Nat} (g : GoodN y n) {sun : List (Bool × Int × Int)} (h1 : 1 ≤ sun.length) (h8 : sun.length ≤ 8) (ι : Nat → Nat) (hi : ∀ t, t < sun.length → ι t < y.sun.length) (he : ∀ t, t < sun.length → sun[t]? = y.sun[ι t]?) : GoodN (withSun y sun) n ∧ ∀ t, t < sun.length → seatsAt (withSun y sun) t = seatsAt y (ι t) := by
  have hs : ∀ t, t < sun.length → seatsAt (withSun y sun) t = seatsAt y (ι t) := fun t ht => seats_congr rfl rfl (he t ht)
  refine ⟨⟨withSun_ok g.ok (by omega) (fun x hx => ?_), g.n7, h1, h8, fun t ht => ?_⟩, hs⟩
  · obtain ⟨t, ht⟩ := List.mem_iff_getElem?.mp hx
    have hlt : t < sun.length := (List.getElem?_eq_some_iff.mp ht).1
    rw [he t hlt] at ht
    exact List.mem_of_getElem? ht
  · have ht : t < sun.length := ht
    rw [hs t ht]
    exact g.room _ (hi t ht)
theorem num_back {y : Yd} {n : Nat} (g : GoodN y n) : GoodN (withSun y y.sun.reverse) n ∧ num (withSun y y.sun.reverse) n = num y n := by
  have hl : y.sun.reverse.length = y.sun.length := List.length_reverse
  have s1 := g.s1
  obtain ⟨g', hs⟩ := withSun_good g (sun := y.sun.reverse) (by omega) (by have := g.sl; omega) (fun t => y.sun.length - 1 - t) (fun t ht => by omega) (fun t ht => by rw [List.getElem?_reverse (by omega)])
  refine ⟨g', ?_⟩
  have hT : (withSun y y.sun.reverse).sun.length = y.sun.length := hl
  have l1 := num_least g
  have l2 := num_least g'
  rw [hT] at l2
  rw [hl] at hs
  have r' : ∀ t, t < y.sun.length → n ≤ (seatsAt (withSun y y.sun.reverse) t).length := fun t ht => by rw [hs t ht]; exact g.room _ (by omega)
  have a := num_rev (nd y) (nd _) s1 g.room r' l1 l2 hs
  have b := num_rev (nd _) (nd y) s1 r' g.room l2 l1 fun t ht => by
    rw [hs _ (by omega)]
    congr 1
    omega
  omega
theorem num_drop {y : Yd} {n : Nat} (g : GoodN y n) (h2 : 1 < y.sun.length) {a : Nat} (ha : a < y.sun.length) : GoodN (withSun y (y.sun.take a ++ y.sun.drop (a + 1))) n ∧ num (withSun y (y.sun.take a ++ y.sun.drop (a + 1))) n ≤ num y n := by
  have hl : (y.sun.take a ++ y.sun.drop (a + 1)).length = y.sun.length - 1 := by
    rw [List.length_append, List.length_take, List.length_drop]; omega
  have sl := g.sl
  let ι : Nat → Nat := fun t => if t < a then t else t + 1
  have hι : ∀ t, ι t = if t < a then t else t + 1 := fun t => rfl
  obtain ⟨g', hs⟩ := withSun_good g (sun := y.sun.take a ++ y.sun.drop (a + 1)) (by omega) (by omega) ι (fun t ht => by rw [hι]; split <;> omega) (fun t ht => by
    rw [hι]
    by_cases c : t < a
    · rw [if_pos c, List.getElem?_append_left (by rw [List.length_take]; omega), List.getElem?_take, if_pos c]
    · rw [if_neg c, List.getElem?_append_right (by rw [List.length_take]; omega), List.getElem?_drop, List.length_take]
      congr 1
      omega)
  refine ⟨g', ?_⟩
  have hT : (withSun y (y.sun.take a ++ y.sun.drop (a + 1))).sun.length = y.sun.length - 1 := hl
  have l2 := num_least g'
  rw [hT] at l2
  rw [hl] at hs
  have r' : ∀ t, t < y.sun.length - 1 → n ≤ (seatsAt (withSun y (y.sun.take a ++ y.sun.drop (a + 1))) t).length := fun t ht => g'.room t (by omega)
  refine num_map (nd _) (nd y) (by omega) g.s1 r' g.room l2 (num_least g) ι (fun b c h1 h2 => by rw [hι, hι]; split <;> split <;> omega) (fun t ht => by rw [hι]; split <;> omega) fun b c hbc hc => ?_
  unfold cc
  rw [hs b (by omega)]
  refine List.countP_mono_left fun x hx hq => ?_
  have hq := al_iff.mp hq
  refine al_iff.mpr fun v v1 v2 => ?_
  rw [hs v (by omega)]
  exact hq (ι v) (by rw [hι, hι]; split <;> split <;> omega) (by rw [hι, hι]; split <;> split <;> omega)
theorem num_stillY {y : Yd} {n : Nat} (ok : y.Ok) (n7 : y.n ≤ 8) (s1 : 1 ≤ y.sun.length) (sl : y.sun.length ≤ 8) (hn : n ≤ (seatsAt y 0).length) {h0 : Bool × Int × Int} (h : y.sun[0]? = some h0) : GoodN (withSun y (List.replicate y.sun.length h0)) n ∧ num (withSun y (List.replicate y.sun.length h0)) n = n := by
  have hl : (List.replicate y.sun.length h0).length = y.sun.length := List.length_replicate
  have hs : ∀ t, t < y.sun.length → seatsAt (withSun y (List.replicate y.sun.length h0)) t = seatsAt y 0 := fun t ht => seats_congr rfl rfl (by
    show (List.replicate y.sun.length h0)[t]? = _
    rw [List.getElem?_replicate, if_pos ht, h])
  have g' : GoodN (withSun y (List.replicate y.sun.length h0)) n := ⟨withSun_ok ok (by omega) (fun x hx => by rw [List.eq_of_mem_replicate hx]; exact List.mem_of_getElem? h), n7, by show 1 ≤ (List.replicate y.sun.length h0).length; omega, by show (List.replicate y.sun.length h0).length ≤ 8; omega, fun t ht => by
    have ht : t < (List.replicate y.sun.length h0).length := ht
    rw [hs t (by omega)]; exact hn⟩
  refine ⟨g', ?_⟩
  have hT : (withSun y (List.replicate y.sun.length h0)).sun.length = y.sun.length := hl
  have l2 := num_least g'
  rw [hT] at l2
  exact num_still (nd _) s1 (by rw [hs 0 (by omega)]; exact hn) (fun t ht => by rw [hs t ht, hs 0 (by omega)]) l2
theorem num_twiceY {y : Yd} {n : Nat} (g : GoodN y n) (h4 : y.sun.length ≤ 4) {sun : List (Bool × Int × Int)} (hl : sun.length = 2 * y.sun.length) (he : ∀ t, t < sun.length → sun[t]? = y.sun[t / 2]?) : GoodN (withSun y sun) n ∧ num (withSun y sun) n = num y n := by
  have s1 := g.s1
  obtain ⟨g', hs⟩ := withSun_good g (sun := sun) (by omega) (by omega) (fun t => t / 2) (fun t ht => by omega) he
  refine ⟨g', ?_⟩
  have hT : (withSun y sun).sun.length = 2 * y.sun.length := hl
  have l2 := num_least g'
  rw [hT] at l2
  rw [hl] at hs
  exact num_twice (nd y) (nd _) s1 g.room hs (num_least g) l2
/-! ### more shade -/
theorem hit_mono {h : Bool × Int × Int} (h0 : 0 ≤ h.2.1) {s : Int} {w w' : Int × Int} (e1 : w'.1 = w.1) (e2 : w.2 ≤ w'.2) (hh : hit h s w = true) : hit h s w' = true := by
  unfold hit at hh ⊢
  rw [e1]
  simp only [Bool.and_eq_true, decide_eq_true_eq] at hh ⊢
  refine ⟨hh.1, Int.le_trans hh.2 ?_⟩
  exact Int.mul_le_mul_of_nonneg_right (by omega) h0
theorem seats_more {y y' : Yd} (ok : y.Ok) (hn : y.n ≤ y'.n) (hs : y'.sun = y.sun) (hw : ∀ w ∈ y.walls, ∃ w' ∈ y'.walls, w'.1 = w.1 ∧ w.2 ≤ w'.2) {t : Nat} {x : Int} (hx : x ∈ seatsAt y t) : x ∈ seatsAt y' t := by
  obtain ⟨h1, h2, h3⟩ := seat_in hx
  refine List.mem_filter.mpr ⟨?_, ?_⟩
  · exact List.mem_map.mpr ⟨x.toNat, List.mem_range.mpr (by omega), by omega⟩
  · unfold sh at h3 ⊢
    rw [hs]
    cases e : y.sun[t]? with
    | none => rw [e] at h3; cases h3
    | some h =>
      rw [e] at h3
      simp only at h3 ⊢
      obtain ⟨w, hw1, hw2⟩ := List.any_eq_true.mp h3
      obtain ⟨w', a, b, c⟩ := hw w hw1
      exact List.any_eq_true.mpr ⟨w', a, hit_mono (ok.s h (List.mem_of_getElem? e)).1 b c hw2⟩
theorem len_more {l m : List Int} (hl : l.Nodup) (h : ∀ x ∈ l, x ∈ m) : l.length ≤ m.length := hl.length_le_of_subset h
theorem most_le {y : Yd} (h1 : 1 ≤ y.sun.length) {t : Nat} (ht : t < y.sun.length) : most y ≤ ((seatsAt y t).length : Int) := by
  refine (minI_ok (most_min h1)).2 _ ?_
  unfold lens
  refine List.mem_map.mpr ⟨(t : Int), ?_, by simp⟩
  unfold nums
  exact List.mem_map.mpr ⟨t, List.mem_range.mpr ht, rfl⟩
theorem most_at {y : Yd} (h1 : 1 ≤ y.sun.length) : ∃ t, t < y.sun.length ∧ most y = ((seatsAt y t).length : Int) := by
  obtain ⟨x, hx, e⟩ := List.mem_map.mp (minI_ok (most_min h1)).1
  obtain ⟨i, hi, rfl⟩ := List.mem_map.mp hx
  exact ⟨i, List.mem_range.mp hi, by rw [← e]; simp⟩
theorem most_more {y y' : Yd} (h1 : 1 ≤ y.sun.length) (hs : y'.sun = y.sun) (h : ∀ t x, x ∈ seatsAt y t → x ∈ seatsAt y' t) : most y ≤ most y' := by
  obtain ⟨t, ht, e⟩ := most_at (y := y') (by rw [hs]; exact h1)
  rw [hs] at ht
  have a := most_le h1 ht
  have b := len_more (nd y t) (h t)
  omega
theorem num_wide {y y' : Yd} {n : Nat} (g : GoodN y n) (ok' : y'.Ok) (n7 : y'.n ≤ 8) (hs : y'.sun = y.sun) (h : ∀ t x, x ∈ seatsAt y t → x ∈ seatsAt y' t) : GoodN y' n ∧ num y' n ≤ num y n := by
  have g' : GoodN y' n := ⟨ok', n7, by rw [hs]; exact g.s1, by rw [hs]; exact g.sl, fun t ht => Nat.le_trans (g.room t (by rw [← hs]; exact ht)) (len_more (nd y t) (h t))⟩
  refine ⟨g', ?_⟩
  have l2 := num_least g'
  rw [hs] at l2
  exact num_sub (num_least g) l2 (fun t _ x hx => h t x hx) g.s1
/-! ### seen from behind -/
def flipH (h : Bool × Int × Int) : Bool × Int × Int := (!h.1, h.2)
def behindY (y : Yd) : Yd := ⟨y.n, sortP (y.walls.map fun w => (y.n - w.1, w.2)), y.sun.map flipH⟩
theorem hit_flip (n : Int) (h : Bool × Int × Int) (s : Int) (w : Int × Int) : hit (flipH h) (n - 1 - s) (n - w.1, w.2) = hit h s w := by
  obtain ⟨e, a, b⟩ := h
  cases e
  · show (decide (0 < 2 * ((n - w.1) - (n - 1 - s)) - 1) && decide ((2 * ((n - w.1) - (n - 1 - s)) - 1) * b ≤ 2 * w.2 * a)) = (decide (0 < 2 * (s - w.1) + 1) && decide ((2 * (s - w.1) + 1) * b ≤ 2 * w.2 * a))
    have : 2 * ((n - w.1) - (n - 1 - s)) - 1 = 2 * (s - w.1) + 1 := by omega
    rw [this]
  · show (decide (0 < 2 * ((n - 1 - s) - (n - w.1)) + 1) && decide ((2 * ((n - 1 - s) - (n - w.1)) + 1) * b ≤ 2 * w.2 * a)) = (decide (0 < 2 * (w.1 - s) - 1) && decide ((2 * (w.1 - s) - 1) * b ≤ 2 * w.2 * a))
    have : 2 * ((n - 1 - s) - (n - w.1)) + 1 = 2 * (w.1 - s) - 1 := by omega
    rw [this]
theorem any_perm {α : Type} {l m : List α} (h : l.Perm m) (p : α → Bool) : l.any p = m.any p := by
  rw [Bool.eq_iff_iff, List.any_eq_true, List.any_eq_true]
  exact ⟨fun ⟨x, hx, e⟩ => ⟨x, h.mem_iff.mp hx, e⟩, fun ⟨x, hx, e⟩ => ⟨x, h.mem_iff.mpr hx, e⟩⟩
theorem sh_behind (y : Yd) (s : Int) (t : Nat) : sh (behindY y) (y.n - 1 - s) t = sh y s t := by
  unfold sh
  show (match (y.sun.map flipH)[t]? with | some h => _ | none => false) = _
  rw [List.getElem?_map]
  cases y.sun[t]? with
  | none => rfl
  | some h =>
    show (sortP (y.walls.map fun w => (y.n - w.1, w.2))).any (hit (flipH h) (y.n - 1 - s)) = y.walls.any (hit h s)
    rw [any_perm (sortP_perm _), List.any_map]
    congr 1
    funext w
    exact hit_flip y.n h s w
theorem behind_mem {y : Yd} {t : Nat} {x : Int} : x ∈ seatsAt y t → y.n - 1 - x ∈ seatsAt (behindY y) t := by
  intro hx
  obtain ⟨h1, h2, h3⟩ := seat_in hx
  refine List.mem_filter.mpr ⟨?_, by rw [sh_behind]; exact h3⟩
  show y.n - 1 - x ∈ (List.range y.n.toNat).map fun (i : Nat) => (i : Int)
  exact List.mem_map.mpr ⟨(y.n - 1 - x).toNat, List.mem_range.mpr (by omega), by omega⟩
theorem behind_mem2 {y : Yd} {t : Nat} {z : Int} (hz : z ∈ seatsAt (behindY y) t) : ∃ x, x ∈ seatsAt y t ∧ y.n - 1 - x = z := by
  obtain ⟨h1, h2, h3⟩ := seat_in hz
  have h2 : z < y.n := h2
  refine ⟨y.n - 1 - z, List.mem_filter.mpr ⟨List.mem_map.mpr ⟨(y.n - 1 - z).toNat, List.mem_range.mpr (by omega), by omega⟩, ?_⟩, by omega⟩
  rw [← sh_behind y (y.n - 1 - z) t]
  have : y.n - 1 - (y.n - 1 - z) = z := by omega
  rw [this]
  exact h3
theorem behind_list (y : Yd) (t : Nat) : seatsAt (behindY y) t = (seatsAt y t).reverse.map fun x => y.n - 1 - x := by
  refine rise_eq (seats_rise _ t) ?_ fun z => ?_
  · rw [List.pairwise_map, List.pairwise_reverse]
    exact (seats_rise y t).imp fun h => by omega
  · rw [List.mem_map]
    constructor
    · intro hz
      obtain ⟨x, hx, e⟩ := behind_mem2 hz
      exact ⟨x, List.mem_reverse.mpr hx, e⟩
    · rintro ⟨x, hx, rfl⟩
      exact behind_mem (List.mem_reverse.mp hx)
theorem behind_ok {y : Yd} (ok : y.Ok) (n8 : y.n ≤ 8) (hw : ∀ w ∈ y.walls, w.1 ≤ y.n) : (behindY y).Ok := by
  refine ⟨ok.n1, ok.n8, ?_, ?_, fun w hw2 => ?_, fun h hh => ?_⟩
  · show (sortP _).length ≤ 9
    rw [(sortP_perm _).length_eq, List.length_map]; exact ok.wl
  · show (y.sun.map flipH).length ≤ 16
    rw [List.length_map]; exact ok.sl
  · obtain ⟨v, hv, rfl⟩ := List.mem_map.mp ((sortP_perm _).mem_iff.mp hw2)
    have a := ok.w v hv
    have b := hw v hv
    show 0 ≤ y.n - v.1 ∧ y.n - v.1 ≤ 9 ∧ 1 ≤ v.2 ∧ v.2 ≤ 9
    omega
  · obtain ⟨v, hv, rfl⟩ := List.mem_map.mp hh
    exact ok.s v hv
theorem num_behind {y : Yd} {n : Nat} (g : GoodN y n) (hw : ∀ w ∈ y.walls, w.1 ≤ y.n) : GoodN (behindY y) n ∧ num (behindY y) n = num y n := by
  have hl : (behindY y).sun.length = y.sun.length := by show (y.sun.map flipH).length = _; rw [List.length_map]
  have hlen : ∀ t, (seatsAt (behindY y) t).length = (seatsAt y t).length := fun t => by rw [behind_list, List.length_map, List.length_reverse]
  have g' : GoodN (behindY y) n := ⟨behind_ok g.ok g.n7 hw, g.n7, by rw [hl]; exact g.s1, by rw [hl]; exact g.sl, fun t ht => by rw [hlen]; exact g.room t (by omega)⟩
  refine ⟨g', ?_⟩
  have l1 := num_least g
  have l2 := num_least g'
  rw [hl] at l2
  have r' : ∀ t, t < y.sun.length → n ≤ (seatsAt (behindY y) t).length := fun t ht => by rw [hlen]; exact g.room t ht
  have a := num_seats (nd y) (nd (behindY y)) g.s1 g.room (fun x => y.n - 1 - x) (fun x z e => by omega) (fun t _ x hx => behind_mem hx) (fun t _ z hz => behind_mem2 hz) l1 l2
  have b := num_seats (nd (behindY y)) (nd y) g.s1 r' (fun x => y.n - 1 - x) (fun x z e => by omega) (fun t _ x hx => by
    obtain ⟨z, hz, e⟩ := behind_mem2 hx
    have : y.n - 1 - x = z := by omega
    show y.n - 1 - x ∈ _
    rw [this]; exact hz) (fun t _ z hz => ⟨y.n - 1 - z, behind_mem hz, by omega⟩) l2 l1
  omega
end Sh
set_option Elab.async false
set_option linter.all false
set_option maxRecDepth 100000
set_option maxHeartbeats 1000000
namespace Sh
open PySem L2 PyProof.Rows
/-! ### a yard by the program's look -/
theorem is_from_int (i : Int) (lo hi : Int) (μ : Mu) : g_is_from [.d (.int i), .d (.int lo), .d (.int hi)] μ = some (.d (.bool (decide (lo ≤ i) && decide (i ≤ hi))), μ) := by
  simp only [g_is_from, mkFn, b_is_from]
  by_cases c : lo ≤ i <;> simp [c]
theorem gt0_ev (r : List Rv) (a b c : Option Rv) (μ : Mu) (y : Nat) : sTst (s2 fGt (sVar 3) (sC (.int 0))) [a, b, c, some (.d (.int y))] μ = some (decide (y ≠ 0), μ) := by
  rcases Nat.eq_zero_or_pos y with rfl | h
  · simp
  · have : y ≠ 0 := by omega
    simp [h, this]
theorem gstep2_ev (a b : Option Rv) (μ : Mu) (x y : Nat) (h : y ≠ 0) : w_is_lowest_1 [a, b, some (.d (.int x)), some (.d (.int y))] μ = some (.nx, [a, b, some (.d (.int y)), some (.d (.int ((x % y : Nat) : Int)))], μ) := by
  have : 0 < y := by omega
  simp [w_is_lowest_1, this]
theorem is_lowest_ev (a b : Nat) (hb : b < FUEL) (μ : Mu) : g_is_lowest [.d (.int a), .d (.int b)] μ = some (.d (.bool (decide (Nat.gcd a b = 1))), μ) := by
  have e := gcd_loop (m := μ.length) (test := sTst (s2 fGt (sVar 3) (sC (.int 0)))) (body := w_is_lowest_1) (t := .d (.int a)) (b := .d (.int b)) (μ := μ) rfl (fun x y => gt0_ev [] _ _ _ _ _) (fun x y h => gstep2_ev _ _ _ _ _ h) (fun x y => by simp) FUEL b a hb
  have e : W_is_lowest_1 [some (.d (.int a)), some (.d (.int b)), some (.d (.int a)), some (.d (.int b))] μ = _ := e
  simp only [g_is_lowest, mkFn, b_is_lowest]
  have hd : (((Nat.gcd a b : Nat) : Int) == 1) = decide (Nat.gcd a b = 1) := by
    rw [Bool.eq_iff_iff, beq_iff_eq, decide_eq_true_eq]; omega
  simp [e]
  exact hd
def slOk : PyData → Bool
  | .tuple [.int a, .int b] => decide (1 ≤ b) && decide (0 ≤ a) && decide (a ≤ 9 * b) && decide (Nat.gcd a.toNat b.toNat = 1)
  | _ => false
@[simp] theorem b64_9 : b64 9 = true := by decide
theorem slant_ii (a b : Int) (a0 : -1000000 ≤ a) (a1 : a ≤ 1000000) (b0 : -1000000 ≤ b) (b1 : b ≤ 1000000) (μ : Mu) : g_is_slant [.d (.tuple [.int a, .int b])] μ = some (.d (.bool (slOk (.tuple [.int a, .int b]))), μ) := by
  simp only [g_is_slant, mkFn, b_is_slant]
  have hB : b ≤ 100000000000000000000 := by omega
  by_cases c1 : 1 ≤ b
  · by_cases c2 : 0 ≤ a
    · by_cases c3 : a ≤ 9 * b
      · obtain ⟨m, rfl⟩ := Int.eq_ofNat_of_zero_le c2
        obtain ⟨n, rfl⟩ := Int.eq_ofNat_of_zero_le (show 0 ≤ b by omega)
        have hl := is_lowest_ev m n (Nat.lt_of_le_of_lt (show n ≤ 1000000 by omega) (by decide)) μ
        simp [is_from_int, slOk, c1, c2, c3, hB, hl]
      · simp [is_from_int, slOk, c1, c2, c3, hB]
    · simp [is_from_int, slOk, c1, c2, hB]
  · simp [is_from_int, slOk, c1]
def wallOk (n : Int) (w : Int × Int) : Bool := (decide (0 ≤ w.1) && decide (w.1 ≤ n)) && (decide (1 ≤ w.2) && decide (w.2 ≤ 9))
def rise (ws : List (Int × Int)) : Bool := (ws.zip (ws.drop 1)).all fun p => decide (p.1.1 < p.2.1)
theorem rise_pair : ∀ ws : List (Int × Int), rise ws = true ↔ (ws.map (·.1)).Pairwise (· < ·)
  | [] => by simp [rise]
  | [a] => by simp [rise]
  | a :: b :: r => by
    have ih := rise_pair (b :: r)
    have e : rise (a :: b :: r) = (decide (a.1 < b.1) && rise (b :: r)) := rfl
    rw [e, Bool.and_eq_true, decide_eq_true_eq, ih, List.map_cons, List.map_cons, List.pairwise_cons (a := a.1)]
    constructor
    · rintro ⟨h1, h2⟩
      refine ⟨fun y hy => ?_, h2⟩
      rcases List.mem_cons.mp hy with rfl | hy
      · exact h1
      · exact Int.lt_trans h1 ((List.pairwise_cons.mp h2).1 y hy)
    · rintro ⟨h1, h2⟩
      exact ⟨h1 _ List.mem_cons_self, h2⟩
theorem zip_walls (ws : List (Int × Int)) : zipD (ws.map wallD) ((ws.map wallD).drop 1) = (ws.zip (ws.drop 1)).map fun p => .tuple [wallD p.1, wallD p.2] := by
  unfold zipD
  rw [← List.map_drop, List.zipWith_map, List.zip, List.map_zipWith]
theorem are_walls_ev (n : Int) (ws : List (Int × Int)) (hl : ws.length ≤ 1000) (μ : Mu) : g_are_walls [.d (.int n), .d (.tuple (ws.map wallD))] μ = some (.d (.bool (decide (ws.length ≤ 8) && ws.all (wallOk n) && rise ws)), μ) := by
  have st : ∃ ρ', L_are_walls_1 [some (.d (.int n)), some (.d (.tuple (ws.map wallD))), none, none, none] μ = some (if ws.any (fun w => !wallOk n w) then .rt (.d (.bool false)) else .nx, ρ', μ) ∧ _ :=
    search_ev (ds := ws.map wallD) ws wallD (by simp) rfl (fun w => !wallOk n w) (.d (.bool false))
    (fun ρ => ∃ p, ρ = [some (.d (.int n)), some (.d (.tuple (ws.map wallD))), p, none, none]) ⟨_, rfl⟩ (by
      rintro ⟨a, b⟩ hw ρ ⟨p, rfl⟩
      refine ⟨_, rfl, ?_⟩
      by_cases c1 : 0 ≤ a <;> by_cases c2 : a ≤ n <;> by_cases c3 : 1 ≤ b <;> by_cases c4 : b ≤ 9 <;> simp [l_are_walls_1, wallD, is_from_int, wallOk, c1, c2, c3, c4])
  obtain ⟨ρ', e, h⟩ := st
  have ha : (ws.any fun w => !wallOk n w) = !ws.all (wallOk n) := by rw [List.all_eq_not_any_not, Bool.not_not]
  rw [ha] at e h
  have e0 : (sIf (sOr (sNot (sTst (s1 (fIsi .tuple) (sVar 1)))) (sTst (s2 fGt (sA fLen (sCons (sVar 1) sNil)) (sC (.int 8))))) (sRet (sC (.bool false))) sSkip) [some (.d (.int n)), some (.d (.tuple (ws.map wallD))), none, none, none] μ = some (if ws.length ≤ 8 then .nx else .rt (.d (.bool false)), [some (.d (.int n)), some (.d (.tuple (ws.map wallD))), none, none, none], μ) := by
    by_cases h8 : ws.length ≤ 8
    · have h8' : ¬ ((8 : Int) < (ws.length : Int)) := by omega
      simp [h8, h8']
    · have h8' : (8 : Int) < (ws.length : Int) := by omega
      simp [h8, h8']
  have fin : ∀ ρ2, b_are_walls [some (.d (.int n)), some (.d (.tuple (ws.map wallD))), none, none, none] μ = some (.rt (.d (.bool (decide (ws.length ≤ 8) && ws.all (wallOk n) && rise ws))), ρ2, μ) → g_are_walls [.d (.int n), .d (.tuple (ws.map wallD))] μ = some (.d (.bool (decide (ws.length ≤ 8) && ws.all (wallOk n) && rise ws)), μ) := by
    intro ρ2 e
    exact fn_d e rfl rfl
  by_cases h8 : ws.length ≤ 8
  · rw [if_pos h8] at e0
    have hd : decide (ws.length ≤ 8) = true := by simpa using h8
    cases hb : ws.all (wallOk n) with
    | false =>
      rw [hb] at e
      rw [hb] at fin
      rw [hd] at fin ⊢
      refine fin ρ' ?_
      unfold b_are_walls
      rw [seq_nx e0, seq_rt e]
      rfl
    | true =>
      rw [hb] at e h
      rw [hb] at fin
      rw [hd] at fin ⊢
      obtain ⟨p, rfl⟩ := h rfl
      have ec : C_are_walls_1 [some (.d (.int n)), some (.d (.tuple (ws.map wallD))), p, none, none] μ = some (mkL false (((ws.zip (ws.drop 1)).filter fun _ => true).map fun p => .bool (decide (p.1.1 < p.2.1))) μ) := by
        refine comp_ev (s := ⟨zipD (ws.map wallD) ((ws.map wallD).drop 1), none⟩) (ws.zip (ws.drop 1)) (fun p => .tuple [wallD p.1, wallD p.2]) ?_ (zip_walls ws) (ok_none _) ?_ (fun _ => true) _ ?_
        · simp
        · rw [List.length_zip]; omega
        · intro q hq acc
          refine ⟨[some (.d (.int n)), some (.d (.tuple (ws.map wallD))), p, some (.d (wallD q.1)), some (.d (wallD q.2))], rfl, rfl, fun _ => ?_⟩
          simp [wallD]
      rw [List.filter_eq_self.mpr (fun _ _ => rfl)] at ec
      have hr : ((ws.zip (ws.drop 1)).map fun p => decide (p.1.1 < p.2.1)).all id = rise ws := by
        unfold rise
        rw [List.all_map]; rfl
      have eb := bools_map (fun p : (Int × Int) × (Int × Int) => decide (p.1.1 < p.2.1)) (ws.zip (ws.drop 1))
      generalize hz : ws.zip (ws.drop 1) = zs at ec hr eb
      have ec : C_are_walls_1 [some (.d (.int n)), some (.d (.tuple (ws.map wallD))), p, none, none] μ = some (.d (.list (zs.map fun p => .bool (decide (p.1.1 < p.2.1)))), μ) := ec
      have es : (sRet (sA fAll (sCons C_are_walls_1 sNil))) [some (.d (.int n)), some (.d (.tuple (ws.map wallD))), p, none, none] μ = some (.rt (.d (.bool (rise ws))), [some (.d (.int n)), some (.d (.tuple (ws.map wallD))), p, none, none], μ) := by
        rw [← hr]
        simp only [sRet, sA, sCons, sNil, fAll, listOf, rd, ec, eb, Option.bind_some, Option.map_some]
      refine fin [some (.d (.int n)), some (.d (.tuple (ws.map wallD))), p, none, none] ?_
      unfold b_are_walls
      rw [seq_nx e0, seq_nx e]
      exact es
  · rw [if_neg h8] at e0
    have hd : decide (ws.length ≤ 8) = false := by simpa using h8
    rw [hd] at fin ⊢
    refine fin [some (.d (.int n)), some (.d (.tuple (ws.map wallD))), none, none, none] ?_
    unfold b_are_walls
    rw [seq_rt e0]
    rfl
structure Valid (y : Yd) : Prop where
  n1 : 1 ≤ y.n
  n8 : y.n ≤ 8
  wl : y.walls.length ≤ 8
  w : ∀ w ∈ y.walls, 0 ≤ w.1 ∧ w.1 ≤ y.n ∧ 1 ≤ w.2 ∧ w.2 ≤ 9
  r : (y.walls.map (·.1)).Pairwise (· < ·)
  s1 : 1 ≤ y.sun.length
  sl : y.sun.length ≤ 8
  s : ∀ h ∈ y.sun, 0 ≤ h.2.1 ∧ h.2.1 ≤ 9 * h.2.2 ∧ 1 ≤ h.2.2 ∧ h.2.2 ≤ 100000 ∧ Nat.gcd h.2.1.toNat h.2.2.toNat = 1
theorem Valid.ok {y : Yd} (v : Valid y) : y.Ok :=
  ⟨v.n1, by have := v.n8; omega, by have := v.wl; omega, by have := v.sl; omega, fun w hw => by have := v.w w hw; have := v.n8; omega, fun h hh => by have := v.s h hh; omega⟩
theorem valid_walls {y : Yd} (v : Valid y) : (decide (y.walls.length ≤ 8) && y.walls.all (wallOk y.n) && rise y.walls) = true := by
  rw [decide_eq_true v.wl, (rise_pair y.walls).mpr v.r]
  have : y.walls.all (wallOk y.n) = true := List.all_eq_true.mpr fun w hw => by
    obtain ⟨a, b, c, d⟩ := v.w w hw
    simp [wallOk, a, b, c, d]
  rw [this]; rfl
theorem is_yard_ev {y : Yd} (v : Valid y) (μ : Mu) : g_is_yard [.d (yardD y)] μ = some (.d (.bool true), μ) := by
  have n1 := v.n1
  have n8 := v.n8
  have s1 := v.s1
  have sl := v.sl
  have aw := are_walls_ev y.n y.walls (by have := v.wl; omega) μ
  rw [valid_walls v] at aw
  obtain ⟨ρ', e, h⟩ := search_ev (m := sIt (s2 fIx (sVar 0) (sC (.int 2)))) (t := .nm 1) (body := l_is_yard_1) (ρ := [some (.d (yardD y)), none]) (μ := μ) (ds := y.sun.map hourD) y.sun hourD (by rw [yardD_eq]; simp) rfl (fun _ => false) (.d (.bool false)) (fun ρ => ∃ a, ρ = [some (.d (yardD y)), a]) ⟨_, rfl⟩ (by
    rintro ⟨sd, a, b⟩ hh ρ ⟨x, rfl⟩
    obtain ⟨a0, a9, b1, b2, hg⟩ := v.s _ hh
    have hg : Nat.gcd a.toNat b.toNat = 1 := hg
    have a0 : 0 ≤ a := a0
    have a9 : a ≤ 9 * b := a9
    have b1 : 1 ≤ b := b1
    have b2 : b ≤ 100000 := b2
    have sv := slant_ii a b (by omega) (by omega) (by omega) (by omega) μ
    have so : slOk (.tuple [.int a, .int b]) = true := by simp [slOk, a0, a9, b1, hg]
    rw [so] at sv
    refine ⟨_, rfl, [some (.d (yardD y)), some (.d (hourD (sd, a, b)))], ?_, _, rfl⟩
    unfold l_is_yard_1 hourD
    cases sd <;> simp [sv, sideS])
  have e : L_is_yard_1 [some (.d (yardD y)), none] μ = _ := e
  have hf : (y.sun.any fun _ => false) = false := by simp
  rw [hf] at e
  refine fn_d (ρ := [some (.d (yardD y)), none]) (ρ' := ρ') ?_ rfl rfl
  unfold b_is_yard
  rw [seq_nx (ρ' := [some (.d (yardD y)), none]) (μ' := μ) (by
    rw [yardD_eq]
    simp [is_from_int, n1, n8])]
  have h1 : (1 : Int) ≤ (y.sun.length : Int) := by omega
  have h8 : (y.sun.length : Int) ≤ 8 := by omega
  rw [seq_nx (ρ' := [some (.d (yardD y)), none]) (μ' := μ) (by
    rw [yardD_eq]
    simp [aw, h1, h8]
    try omega)]
  rw [seq_nx e]
  simp
end Sh
set_option Elab.async false
set_option linter.all false
set_option maxRecDepth 100000
set_option maxHeartbeats 1000000
namespace Sh
open PySem L2 PyProof.Rows
/-! ### small steps -/
theorem cat_ev {b : Bool} {m k : Sm} {ρ : Ro} {μ μ1 μ2 : Mu} {xs ys : List PyData} (e : m ρ μ = some (.d (.tuple xs), μ1)) (e2 : k ρ μ1 = some (.d (.tuple ys), μ2)) (hl : xs.length + ys.length ≤ 4096) : s2 (fAdd b) m k ρ μ = some (.d (.tuple (xs ++ ys)), μ2) := by
  unfold s2
  rw [e]
  simp only [Option.bind_some]
  rw [e2]
  simp only [Option.bind_some, fAdd, rd]
  rw [if_pos hl]
theorem sl_take {base m : Sm} {ρ : Ro} {μ : Mu} {xs : List PyData} {a : Nat} (hv : base ρ μ = some (.d (.tuple xs), μ)) (hm : m ρ μ = some (.d (.int a), μ)) : sSl false base sNoP (sPart m) ρ μ = some (.d (.tuple (xs.take a)), μ) := by
  have c1 : cutG xs none (some (a : Int)) = xs.take a := cut_take _ a
  unfold sSl
  rw [hv]
  simp only [Option.bind_some]
  rw [← c1]
  unfold sPart
  rw [show sNoP ρ μ = some (none, μ) from rfl]
  simp only [Option.bind_some]
  rw [hm]
  rfl
theorem sl_drop {base m : Sm} {ρ : Ro} {μ : Mu} {xs : List PyData} {a : Nat} (hv : base ρ μ = some (.d (.tuple xs), μ)) (hm : m ρ μ = some (.d (.int a), μ)) : sSl false base (sPart (s2 (fAdd false) m (sC (.int 1)))) sNoP ρ μ = some (.d (.tuple (xs.drop (a + 1))), μ) := by
  have c3 : cutG xs (some ((a : Int) + 1)) none = xs.drop (a + 1) := cut_drop _ (a + 1)
  unfold sSl
  rw [hv]
  simp only [Option.bind_some]
  rw [← c3]
  unfold sPart s2
  rw [hm]
  rfl
theorem met_ev {f : FM} {o : Sm} {a : Sa} {ρ : Ro} {μ μ1 μ2 : Mu} {x : Rv} {rs : List Rv} {r : Rv × Mu} (e : o ρ μ = some (x, μ1)) (hl : isLst μ1 x = true) (ea : a ρ μ1 = some (rs, μ2)) (ef : f μ2 x rs = some r) : sMet f o a ρ μ = some r := by
  unfold sMet
  rw [e]
  simp only [Option.bind_some]
  rw [if_pos hl, ea]
  exact ef
theorem ex_ev {m : Sm} {ρ : Ro} {μ μ2 : Mu} {x : Rv} (e : m ρ μ = some (x, μ2)) : sExpr m ρ μ = some (.nx, ρ, μ2) := by
  unfold sExpr
  rw [e]; rfl
theorem tup3_ev {a b c : Sm} {ρ : Ro} {μ μ2 : Mu} {x y z : PyData} (e : a ρ μ = some (.d x, μ)) (e2 : b ρ μ = some (.d y, μ2)) (e3 : c ρ μ2 = some (.d z, μ2)) : sA fTup (sCons a (sCons b (sCons c sNil))) ρ μ = some (.d (.tuple [x, y, z]), μ2) := by
  unfold sA
  rw [cons_ev e (cons_ev e2 (cons_ev e3 nil_ev))]
  rfl
theorem pair_ev {a b : Sm} {ρ : Ro} {μ μ2 : Mu} {x y : PyData} (e : a ρ μ = some (.d x, μ)) (e2 : b ρ μ = some (.d y, μ2)) : sA fTup (sCons a (sCons b sNil)) ρ μ = some (.d (.tuple [x, y]), μ2) := by
  unfold sA
  rw [cons_ev e (cons_ev e2 nil_ev)]
  rfl
theorem one_ev {a : Sm} {ρ : Ro} {μ μ2 : Mu} {x : PyData} (e : a ρ μ = some (.d x, μ2)) : sA fTup (sCons a sNil) ρ μ = some (.d (.tuple [x]), μ2) := by
  unfold sA
  rw [cons_ev e nil_ev]
  rfl
theorem asg_to {m : Sm} {i : Nat} {d : PyData} {ρ : Ro} {μ μ2 : Mu} (e : m ρ μ = some (.d d, μ2)) : sAsg m (.nm i) ρ μ = some (.nx, ρ.set i (some (.d d)), μ2) := by
  unfold sAsg
  rw [e]
  rfl
theorem and_f {s t : Sb} {ρ : Ro} {μ : Mu} (e : s ρ μ = some (false, μ)) : sAnd s t ρ μ = some (false, μ) := by simp [e]
theorem and_t {s t : Sb} {ρ : Ro} {μ μ2 : Mu} {b : Bool} (e : s ρ μ = some (true, μ)) (e2 : t ρ μ = some (b, μ2)) : sAnd s t ρ μ = some (b, μ2) := by simp [e, e2]
theorem or_f {s t : Sb} {ρ : Ro} {μ μ2 : Mu} {b : Bool} (e : s ρ μ = some (false, μ)) (e2 : t ρ μ = some (b, μ2)) : sOr s t ρ μ = some (b, μ2) := by simp [e, e2]
theorem if_yes {t : Sb} {a b : Ss} {ρ : Ro} {μ : Mu} (e : t ρ μ = some (true, μ)) : sIf t a b ρ μ = a ρ μ := by simp [e]
/-! ### wider yards -/
structure Wider (y w : Yd) : Prop where
  v : Valid w
  sun : w.sun = y.sun
  n : y.n ≤ w.n
  wl : ∀ a ∈ y.walls, ∃ b ∈ w.walls, b.1 = a.1 ∧ a.2 ≤ b.2
def wide1 (y : Yd) : Yd := ⟨if y.n + 1 < 8 then y.n + 1 else 8, y.walls, y.sun⟩
theorem wide1_ok {y : Yd} (v : Valid y) : Wider y (wide1 y) := by
  have n1 := v.n1
  have n8 := v.n8
  have hn : y.n ≤ (wide1 y).n ∧ (wide1 y).n ≤ 8 := by
    show y.n ≤ (if y.n + 1 < 8 then y.n + 1 else 8) ∧ (if y.n + 1 < 8 then y.n + 1 else 8) ≤ 8
    split <;> omega
  refine ⟨⟨by omega, hn.2, v.wl, fun w hw => ?_, v.r, v.s1, v.sl, v.s⟩, rfl, hn.1, fun a ha => ⟨a, ha, rfl, Int.le_refl _⟩⟩
  obtain ⟨a, b, c, d⟩ := v.w w hw
  exact ⟨a, by omega, c, d⟩
def wide2 (y : Yd) (a : Nat) (pl h : Int) : Yd := ⟨y.n, (y.walls.take a ++ [(pl, h)]) ++ y.walls.drop (a + 1), y.sun⟩
theorem split_at {α : Type} {l : List α} {a : Nat} {x : α} (h : l[a]? = some x) : l = (l.take a ++ [x]) ++ l.drop (a + 1) := by
  rw [List.append_assoc, List.singleton_append]
  have hlt : a < l.length := (List.getElem?_eq_some_iff.mp h).1
  have e := List.drop_eq_getElem_cons hlt
  have hx : l[a] = x := (List.getElem?_eq_some_iff.mp h).2
  rw [hx] at e
  rw [← e, List.take_append_drop]
theorem wide2_ok {y : Yd} (v : Valid y) {a : Nat} {pl h0 h : Int} (ha : y.walls[a]? = some (pl, h0)) (h1 : h0 ≤ h) (h9 : h ≤ 9) : Wider y (wide2 y a pl h) := by
  have sp := split_at ha
  have hm : (pl, h0) ∈ y.walls := List.mem_of_getElem? ha
  obtain ⟨b1, b2, b3, b4⟩ := v.w _ hm
  have b1 : 0 ≤ pl := b1
  have b2 : pl ≤ y.n := b2
  have b3 : 1 ≤ h0 := b3
  have keys : (wide2 y a pl h).walls.map (·.1) = y.walls.map (·.1) := by
    conv => rhs; rw [sp]
    show ((y.walls.take a ++ [(pl, h)]) ++ y.walls.drop (a + 1)).map (·.1) = _
    rw [List.map_append, List.map_append, List.map_append, List.map_append]
    rfl
  have hl : (wide2 y a pl h).walls.length = y.walls.length := by
    have := congrArg List.length keys
    rwa [List.length_map, List.length_map] at this
  refine ⟨⟨v.n1, v.n8, by rw [hl]; exact v.wl, fun w hw => ?_, by rw [keys]; exact v.r, v.s1, v.sl, v.s⟩, rfl, Int.le_refl _, fun w hw => ?_⟩
  · rcases List.mem_append.mp hw with hw | hw
    · rcases List.mem_append.mp hw with hw | hw
      · exact v.w w (List.take_subset _ _ hw)
      · rw [List.mem_singleton.mp hw]
        exact ⟨b1, b2, by show 1 ≤ h; omega, h9⟩
    · exact v.w w (List.drop_subset _ _ hw)
  · rw [sp] at hw
    rcases List.mem_append.mp hw with hw | hw
    · rcases List.mem_append.mp hw with hw | hw
      · exact ⟨w, List.mem_append_left _ (List.mem_append_left _ hw), rfl, Int.le_refl _⟩
      · rw [List.mem_singleton.mp hw]
        exact ⟨(pl, h), List.mem_append_left _ (List.mem_append_right _ (List.mem_singleton.mpr rfl)), rfl, h1⟩
    · exact ⟨w, List.mem_append_right _ hw, rfl, Int.le_refl _⟩
def wide3 (y : Yd) (pl h : Int) : Yd := ⟨y.n, sortP (y.walls ++ [(pl, h)]), y.sun⟩
theorem wide3_ok {y : Yd} (v : Valid y) {pl h : Int} (p0 : 0 ≤ pl) (pn : pl ≤ y.n) (h1 : 1 ≤ h) (h9 : h ≤ 9) (hp : pl ∉ y.walls.map (·.1)) (hl : y.walls.length < 8) : Wider y (wide3 y pl h) := by
  have pm := sortP_perm (y.walls ++ [(pl, h)])
  have nd : ((y.walls ++ [(pl, h)]).map (·.1)).Nodup := by
    rw [List.map_append]
    refine List.nodup_append.mpr ⟨v.r.imp fun q => by omega, by simp, ?_⟩
    rintro a ha b hb rfl
    have : a = pl := by simpa using hb
    exact hp (this ▸ ha)
  refine ⟨⟨v.n1, v.n8, ?_, fun w hw => ?_, sort_rise nd, v.s1, v.sl, v.s⟩, rfl, Int.le_refl _, fun w hw => ⟨w, pm.mem_iff.mpr (List.mem_append_left _ hw), rfl, Int.le_refl _⟩⟩
  · show (sortP (y.walls ++ [(pl, h)])).length ≤ 8
    rw [pm.length_eq, List.length_append, List.length_singleton]; omega
  · rcases List.mem_append.mp (pm.mem_iff.mp hw) with hw | hw
    · exact v.w w hw
    · rw [List.mem_singleton.mp hw]; exact ⟨p0, pn, h1, h9⟩
theorem pl_wall (w : Int × Int) (k : Nat) : pl (k + 2) (wallD w) = true := by simp [wallD]
theorem walls_ne (ws : List (Int × Int)) (μ : Mu) : fEq true μ (.d (.tuple (ws.map wallD))) (.d (.tuple [])) = some (.d (.bool (!ws.isEmpty)), μ) := by
  have h1 : pl 9 (.tuple (ws.map wallD)) = true := by
    show plAll 8 (ws.map wallD) = true
    exact plAll_of fun w _ => pl_wall w 6
  have h2 : pl 9 (.tuple []) = true := rfl
  unfold fEq
  simp only [rd, h1, h2, Bool.and_self, if_true]
  cases ws <;> rfl
theorem keys_ev {y : Yd} (hl : y.walls.length ≤ 100) (r0 r1 r2 r4 r5 r6 r7 r8 r9 : Option Rv) (μ : Mu) : C_law_wider_1 [r0, r1, r2, some (.d (.tuple (y.walls.map wallD))), r4, r5, r6, r7, r8, r9] μ = some (.d (.list ((y.walls.map (·.1)).map .int)), μ) := by
  have h : C_law_wider_1 [r0, r1, r2, some (.d (.tuple (y.walls.map wallD))), r4, r5, r6, r7, r8, r9] μ = some (mkL false ((y.walls.filter fun _ => true).map fun w => .int w.1) μ) := by
    refine comp_ev (s := ⟨y.walls.map wallD, none⟩) y.walls wallD (by simp) rfl (ok_none _) (by omega) (fun _ => true) _ (fun w hw acc => ?_)
    refine ⟨[r0, r1, r2, some (.d (.tuple (y.walls.map wallD))), r4, r5, r6, r7, r8, some (.d (wallD w))], rfl, rfl, fun _ => ?_⟩
    simp [wallD]
  rw [h, filter_yes, List.map_map]
  rfl
theorem in_ints (x : Int) (F : List Int) (μ : Mu) : fIn true μ (.d (.int x)) (.d (.list (F.map .int))) = some (.d (.bool (!F.contains x)), μ) := by
  have h1 := any_ints x F
  have h2 := flat_ints F
  unfold fIn
  simp only [rd, Option.bind_some, itemsD, flatD, h1, h2, Bool.and_self, if_true]
theorem wider_ev {y : Yd} (v : Valid y) (p : Int × Int) :
    ∃ (ws : List Yd) (p' : Int × Int), (∀ w ∈ ws, Wider y w) ∧ ws.length ≤ 5 ∧ g_law_wider [.m 0, .d (yardD y)] [bg p] = some (.d (.list (ws.map yardD)), [bg p']) := by
  have n1 := v.n1
  have n8 := v.n8
  have wl := v.wl
  have ey := yardD_eq y
  -- the walls made higher, if any
  have stB : ∃ (ws : List Yd) (p1 : Int × Int) (r6 r7 r8 : Option Rv), (∀ w ∈ ws, Wider y w) ∧ ws.length ≤ 2 ∧ sIf (sTst (s2 (fEq true) (sVar 3) (sA fTup sNil))) (sSeq (sAsg (sCall 2 g_law_take (sCons (sVar 0) (sCons (sA fLen (sCons (sVar 3) sNil)) sNil))) (.nm 6))
      (sSeq (sAsg (s2 fIx (sVar 3) (sVar 6)) (.tp [7, 8]))
      (sExpr (sMet fApp (sVar 5) (sCons (sA fTup (sCons (sVar 2) (sCons (s2 (fAdd false) (s2 (fAdd false) (sSl false (sVar 3) sNoP (sPart (sVar 6))) (sA fTup (sCons (sA fTup (sCons (sVar 7) (sCons (sA fMin (sCons (sC (.int 9)) (sCons (s2 (fAdd false) (s2 (fAdd false) (sVar 8) (sC (.int 1))) (sCall 2 g_law_take (sCons (sVar 0) (sCons (sC (.int 3)) sNil)))) sNil))) sNil))) sNil))) (sSl false (sVar 3) (sPart (s2 (fAdd false) (sVar 6) (sC (.int 1)))) sNoP)) (sCons (sVar 4) sNil)))) sNil))))) sSkip [some (.m 0), some (.d (yardD y)), some (.d (.int y.n)), some (.d (.tuple (y.walls.map wallD))), some (.d (.tuple (y.sun.map hourD))), some (.m 1), none, none, none, none] [bg p, .lst [yardD (wide1 y)]] = some (.nx, [some (.m 0), some (.d (yardD y)), some (.d (.int y.n)), some (.d (.tuple (y.walls.map wallD))), some (.d (.tuple (y.sun.map hourD))), some (.m 1), r6, r7, r8, none], [bg p1, .lst (ws.map yardD)]) := by
    have tne := walls_ne y.walls [bg p, .lst [yardD (wide1 y)]]
    by_cases hw : y.walls = []
    · refine ⟨[wide1 y], p, none, none, none, fun w hw => by rw [List.mem_singleton.mp hw]; exact wide1_ok v, by simp, ?_⟩
      have : (!y.walls.isEmpty) = false := by rw [hw]; rfl
      rw [this] at tne
      exact if_no (tst_b tne)
    · have : (!y.walls.isEmpty) = true := by
        cases h : y.walls with
        | nil => exact absurd h hw
        | cons a r => rfl
      rw [this] at tne
      have hpos : 0 < y.walls.length := List.length_pos_iff.mpr hw
      obtain ⟨ai, p1, i0, i1, e1⟩ := take_ev p (y.walls.length : Int) (by omega) (by omega) [.lst [yardD (wide1 y)]]
      obtain ⟨a, rfl⟩ := Int.eq_ofNat_of_zero_le i0
      have ha : a < y.walls.length := by omega
      obtain ⟨⟨pl0, h0⟩, hx⟩ : ∃ w, y.walls[a]? = some w := ⟨_, List.getElem?_eq_getElem ha⟩
      obtain ⟨t, p2, t0, t1, e2⟩ := take_ev p1 3 (by omega) (by omega) [.lst [yardD (wide1 y)]]
      obtain ⟨b1, b2, b3, b4⟩ := v.w _ (List.mem_of_getElem? hx)
      have b4 : h0 ≤ 9 := b4
      have hix : atI (y.walls.map wallD) (a : Int) = some (wallD (pl0, h0)) := atI_at (by rw [List.getElem?_map, hx]; rfl)
      generalize hH : (if h0 + 1 + t < 9 then h0 + 1 + t else 9) = H
      have hH1 : h0 ≤ H ∧ H ≤ 9 := by subst hH; split <;> omega
      refine ⟨[wide1 y, wide2 y a pl0 H], p2, some (.d (.int a)), some (.d (.int pl0)), some (.d (.int h0)), fun w hw => ?_, by simp, ?_⟩
      · simp only [List.mem_cons, List.not_mem_nil, or_false] at hw
        rcases hw with rfl | rfl
        · exact wide1_ok v
        · exact wide2_ok v hx hH1.1 hH1.2
      · rw [if_yes (tst_b tne)]
        have g1 : sCall 2 g_law_take (sCons (sVar 0) (sCons (sA fLen (sCons (sVar 3) sNil)) sNil)) [some (.m 0), some (.d (yardD y)), some (.d (.int y.n)), some (.d (.tuple (y.walls.map wallD))), some (.d (.tuple (y.sun.map hourD))), some (.m 1), none, none, none, none] [bg p, .lst [yardD (wide1 y)]] = some (.d (.int a), [bg p1, .lst [yardD (wide1 y)]]) := call_ev (cons_ev rfl (cons_ev (arg1_ev (x := .d (.tuple (y.walls.map wallD))) rfl (by simp)) nil_ev)) rfl e1
        rw [seq_nx (asg_to g1)]
        simp only [List.set_cons_succ, List.set_cons_zero]
        rw [seq_nx (ρ' := [some (.m 0), some (.d (yardD y)), some (.d (.int y.n)), some (.d (.tuple (y.walls.map wallD))), some (.d (.tuple (y.sun.map hourD))), some (.m 1), some (.d (.int a)), some (.d (.int pl0)), some (.d (.int h0)), none]) (μ' := [bg p1, .lst [yardD (wide1 y)]]) (by
          have s1 : s2 fIx (sVar 3) (sVar 6) [some (.m 0), some (.d (yardD y)), some (.d (.int y.n)), some (.d (.tuple (y.walls.map wallD))), some (.d (.tuple (y.sun.map hourD))), some (.m 1), some (.d (.int a)), none, none, none] [bg p1, .lst [yardD (wide1 y)]] = some (.d (wallD (pl0, h0)), [bg p1, .lst [yardD (wide1 y)]]) := by simp [hix]
          unfold sAsg
          rw [s1]
          rfl)]
        generalize hR : ([some (.m 0), some (.d (yardD y)), some (.d (.int y.n)), some (.d (.tuple (y.walls.map wallD))), some (.d (.tuple (y.sun.map hourD))), some (.m 1), some (.d (.int a)), some (.d (.int pl0)), some (.d (.int h0)), none] : Ro) = R
        have v3 : ∀ μ, sVar 3 R μ = some (.d (.tuple (y.walls.map wallD)), μ) := fun μ => by subst hR; rfl
        have v6 : ∀ μ, sVar 6 R μ = some (.d (.int a), μ) := fun μ => by subst hR; rfl
        have v7 : ∀ μ, sVar 7 R μ = some (.d (.int pl0), μ) := fun μ => by subst hR; rfl
        have v8 : ∀ μ, sVar 8 R μ = some (.d (.int h0), μ) := fun μ => by subst hR; rfl
        have v2 : ∀ μ, sVar 2 R μ = some (.d (.int y.n), μ) := fun μ => by subst hR; rfl
        have v4 : ∀ μ, sVar 4 R μ = some (.d (.tuple (y.sun.map hourD)), μ) := fun μ => by subst hR; rfl
        have v5 : ∀ μ, sVar 5 R μ = some (.m 1, μ) := fun μ => by subst hR; rfl
        have v0 : ∀ μ, sVar 0 R μ = some (.m 0, μ) := fun μ => by subst hR; rfl
        have c2 : sCall 2 g_law_take (sCons (sVar 0) (sCons (sC (.int 3)) sNil)) R [bg p1, .lst [yardD (wide1 y)]] = some (.d (.int t), [bg p2, .lst [yardD (wide1 y)]]) := call_ev (cons_ev (v0 _) (cons_ev rfl nil_ev)) rfl e2
        have c3 : s2 (fAdd false) (s2 (fAdd false) (sVar 8) (sC (.int 1))) (sCall 2 g_law_take (sCons (sVar 0) (sCons (sC (.int 3)) sNil))) R [bg p1, .lst [yardD (wide1 y)]] = some (.d (.int (h0 + 1 + t)), [bg p2, .lst [yardD (wide1 y)]]) := by
          have : s2 (fAdd false) (sVar 8) (sC (.int 1)) R [bg p1, .lst [yardD (wide1 y)]] = some (.d (.int (h0 + 1)), [bg p1, .lst [yardD (wide1 y)]]) := by unfold s2; rw [v8]; rfl
          rw [show s2 (fAdd false) (s2 (fAdd false) (sVar 8) (sC (.int 1))) (sCall 2 g_law_take (sCons (sVar 0) (sCons (sC (.int 3)) sNil))) R [bg p1, .lst [yardD (wide1 y)]] = ((s2 (fAdd false) (sVar 8) (sC (.int 1)) R [bg p1, .lst [yardD (wide1 y)]]).bind fun q => (sCall 2 g_law_take (sCons (sVar 0) (sCons (sC (.int 3)) sNil)) R q.2).bind fun z => fAdd false z.2 q.1 z.1) from rfl, this]
          simp only [Option.bind_some]
          rw [c2]
          rfl
        have c4 : sA fMin (sCons (sC (.int 9)) (sCons (s2 (fAdd false) (s2 (fAdd false) (sVar 8) (sC (.int 1))) (sCall 2 g_law_take (sCons (sVar 0) (sCons (sC (.int 3)) sNil)))) sNil)) R [bg p1, .lst [yardD (wide1 y)]] = some (.d (.int H), [bg p2, .lst [yardD (wide1 y)]]) := by
          unfold sA
          rw [cons_ev (μ1 := [bg p1, .lst [yardD (wide1 y)]]) (r := .d (.int 9)) rfl (cons_ev c3 nil_ev), ← hH]
          rfl
        have c5 := one_ev (pair_ev (v7 _) c4)
        have c6 := cat_ev (b := false) (sl_take (v3 [bg p1, .lst [yardD (wide1 y)]]) (v6 _)) c5 (by simp; omega)
        have c7 : s2 (fAdd false) (s2 (fAdd false) (sSl false (sVar 3) sNoP (sPart (sVar 6))) (sA fTup (sCons (sA fTup (sCons (sVar 7) (sCons (sA fMin (sCons (sC (.int 9)) (sCons (s2 (fAdd false) (s2 (fAdd false) (sVar 8) (sC (.int 1))) (sCall 2 g_law_take (sCons (sVar 0) (sCons (sC (.int 3)) sNil)))) sNil))) sNil))) sNil))) (sSl false (sVar 3) (sPart (s2 (fAdd false) (sVar 6) (sC (.int 1)))) sNoP) R [bg p1, .lst [yardD (wide1 y)]] = some (.d (.tuple ((wide2 y a pl0 H).walls.map wallD)), [bg p2, .lst [yardD (wide1 y)]]) := by
          have e3 := sl_drop (v3 [bg p2, .lst [yardD (wide1 y)]]) (v6 _)
          have c7 := cat_ev (b := false) c6 e3 (by simp; omega)
          have : (wide2 y a pl0 H).walls.map wallD = ((y.walls.map wallD).take a ++ [wallD (pl0, H)]) ++ (y.walls.map wallD).drop (a + 1) := by
            show ((y.walls.take a ++ [(pl0, H)]) ++ y.walls.drop (a + 1)).map wallD = _
            rw [List.map_append, List.map_append, List.map_take, List.map_drop]; rfl
          rw [this]; exact c7
        have c8 := tup3_ev (v2 _) c7 (v4 _)
        refine ex_ev (met_ev (v5 _) (by simp) (cons_ev c8 nil_ev) (r := (.d .none, [bg p2, .lst ([wide1 y, wide2 y a pl0 H].map yardD)])) ?_)
        simp
        rfl
  obtain ⟨ws, p1, r6, r7, r8, hws, hwl, eB⟩ := stB
  obtain ⟨pl0, p2, q0, q1, e2⟩ := take_ev p1 (y.n + 1) (by omega) (by omega) [.lst (ws.map yardD)]
  -- a wall more
  have stD : ∃ (ws2 : List Yd) (p3 : Int × Int), (∀ w ∈ ws2, Wider y w) ∧ ws2.length ≤ 3 ∧ sIf (sAnd (sTst (s2 (fIn true) (sVar 7) C_law_wider_1)) (sTst (s2 fLt (sA fLen (sCons (sVar 3) sNil)) (sC (.int 8))))) (sExpr (sMet fApp (sVar 5) (sCons (sA fTup (sCons (sVar 2) (sCons (sA fTupOf (sCons (sA (fSortQ false) (sCons (s2 (fAdd false) (sVar 3) (sA fTup (sCons (sA fTup (sCons (sVar 7) (sCons (s2 (fAdd false) (sC (.int 1)) (sCall 2 g_law_take (sCons (sVar 0) (sCons (sC (.int 9)) sNil)))) sNil))) sNil))) sNil)) sNil)) (sCons (sVar 4) sNil)))) sNil))) sSkip [some (.m 0), some (.d (yardD y)), some (.d (.int y.n)), some (.d (.tuple (y.walls.map wallD))), some (.d (.tuple (y.sun.map hourD))), some (.m 1), r6, some (.d (.int pl0)), r8, none] [bg p2, .lst (ws.map yardD)] = some (.nx, [some (.m 0), some (.d (yardD y)), some (.d (.int y.n)), some (.d (.tuple (y.walls.map wallD))), some (.d (.tuple (y.sun.map hourD))), some (.m 1), r6, some (.d (.int pl0)), r8, none], [bg p3, .lst (ws2.map yardD)]) := by
    have ke := keys_ev (y := y) (by omega) (some (.m 0)) (some (.d (yardD y))) (some (.d (.int y.n))) (some (.d (.tuple (y.sun.map hourD)))) (some (.m 1)) r6 (some (.d (.int pl0))) r8 none [bg p2, .lst (ws.map yardD)]
    have ie := in_ints pl0 (y.walls.map (·.1)) [bg p2, .lst (ws.map yardD)]
    have t1 : sTst (s2 (fIn true) (sVar 7) C_law_wider_1) [some (.m 0), some (.d (yardD y)), some (.d (.int y.n)), some (.d (.tuple (y.walls.map wallD))), some (.d (.tuple (y.sun.map hourD))), some (.m 1), r6, some (.d (.int pl0)), r8, none] [bg p2, .lst (ws.map yardD)] = some (!(y.walls.map (·.1)).contains pl0, [bg p2, .lst (ws.map yardD)]) := by
      refine tst_b ?_
      unfold s2
      rw [show sVar 7 [some (.m 0), some (.d (yardD y)), some (.d (.int y.n)), some (.d (.tuple (y.walls.map wallD))), some (.d (.tuple (y.sun.map hourD))), some (.m 1), r6, some (.d (.int pl0)), r8, none] [bg p2, .lst (ws.map yardD)] = some (.d (.int pl0), [bg p2, .lst (ws.map yardD)]) from rfl]
      simp only [Option.bind_some]
      rw [ke]
      exact ie
    cases hc : (y.walls.map (·.1)).contains pl0 with
    | true =>
      rw [hc] at t1
      exact ⟨ws, p2, hws, by omega, if_no (and_f t1)⟩
    | false =>
      rw [hc] at t1
      have t2 : sTst (s2 fLt (sA fLen (sCons (sVar 3) sNil)) (sC (.int 8))) [some (.m 0), some (.d (yardD y)), some (.d (.int y.n)), some (.d (.tuple (y.walls.map wallD))), some (.d (.tuple (y.sun.map hourD))), some (.m 1), r6, some (.d (.int pl0)), r8, none] [bg p2, .lst (ws.map yardD)] = some (decide (y.walls.length < 8), [bg p2, .lst (ws.map yardD)]) := by
        refine tst_b ?_
        by_cases c : y.walls.length < 8
        · have c2 : (y.walls.length : Int) < 8 := by omega
          simp [c, c2]
        · have c2 : ¬ ((y.walls.length : Int) < 8) := by omega
          simp [c, c2]
      by_cases c8 : y.walls.length < 8
      · rw [decide_eq_true c8] at t2
        obtain ⟨t, p3, t0, t9, e3⟩ := take_ev p2 9 (by omega) (by omega) [.lst (ws.map yardD)]
        have hnp : pl0 ∉ y.walls.map (·.1) := fun q => by rw [List.contains_iff_mem.mpr q] at hc; cases hc
        refine ⟨ws ++ [wide3 y pl0 (1 + t)], p3, fun w hw => ?_, by rw [List.length_append, List.length_singleton]; omega, ?_⟩
        · rcases List.mem_append.mp hw with hw | hw
          · exact hws w hw
          · rw [List.mem_singleton.mp hw]
            exact wide3_ok v q0 (by omega) (by omega) (by omega) hnp c8
        · rw [if_yes (and_t t1 t2)]
          generalize hR : ([some (.m 0), some (.d (yardD y)), some (.d (.int y.n)), some (.d (.tuple (y.walls.map wallD))), some (.d (.tuple (y.sun.map hourD))), some (.m 1), r6, some (.d (.int pl0)), r8, none] : Ro) = R
          have v3 : ∀ μ, sVar 3 R μ = some (.d (.tuple (y.walls.map wallD)), μ) := fun μ => by subst hR; rfl
          have v7 : ∀ μ, sVar 7 R μ = some (.d (.int pl0), μ) := fun μ => by subst hR; rfl
          have v2 : ∀ μ, sVar 2 R μ = some (.d (.int y.n), μ) := fun μ => by subst hR; rfl
          have v4 : ∀ μ, sVar 4 R μ = some (.d (.tuple (y.sun.map hourD)), μ) := fun μ => by subst hR; rfl
          have v5 : ∀ μ, sVar 5 R μ = some (.m 1, μ) := fun μ => by subst hR; rfl
          have v0 : ∀ μ, sVar 0 R μ = some (.m 0, μ) := fun μ => by subst hR; rfl
          have d1 : sCall 2 g_law_take (sCons (sVar 0) (sCons (sC (.int 9)) sNil)) R [bg p2, .lst (ws.map yardD)] = some (.d (.int t), [bg p3, .lst (ws.map yardD)]) := call_ev (cons_ev (v0 _) (cons_ev rfl nil_ev)) rfl e3
          have d2 : s2 (fAdd false) (sC (.int 1)) (sCall 2 g_law_take (sCons (sVar 0) (sCons (sC (.int 9)) sNil))) R [bg p2, .lst (ws.map yardD)] = some (.d (.int (1 + t)), [bg p3, .lst (ws.map yardD)]) := by
            unfold s2
            rw [show sC (.int 1) R [bg p2, .lst (ws.map yardD)] = some (.d (.int 1), [bg p2, .lst (ws.map yardD)]) from rfl]
            simp only [Option.bind_some]
            rw [d1]
            rfl
          have d3 := cat_ev (b := false) (v3 [bg p2, .lst (ws.map yardD)]) (one_ev (pair_ev (v7 _) d2)) (by simp; omega)
          have ew : (y.walls.map wallD ++ [.tuple [.int pl0, .int (1 + t)]]) = (y.walls ++ [(pl0, 1 + t)]).map prD := by rw [List.map_append]; rfl
          rw [ew] at d3
          have d4 : sA (fSortQ false) (sCons (s2 (fAdd false) (sVar 3) (sA fTup (sCons (sA fTup (sCons (sVar 7) (sCons (s2 (fAdd false) (sC (.int 1)) (sCall 2 g_law_take (sCons (sVar 0) (sCons (sC (.int 9)) sNil)))) sNil))) sNil))) sNil) R [bg p2, .lst (ws.map yardD)] = some (.d (.list ((wide3 y pl0 (1 + t)).walls.map wallD)), [bg p3, .lst (ws.map yardD)]) := by
            refine arg1_ev d3 ?_
            have pd := pairsD_map (y.walls ++ [(pl0, 1 + t)])
            show ((pairsD ((y.walls ++ [(pl0, 1 + t)]).map prD)).map fun ps => mkL false ((sortP ps).map prD) [bg p3, Mo.lst (ws.map yardD)]) = _
            rw [pd]
            rfl
          have d5 : sA fTupOf (sCons (sA (fSortQ false) (sCons (s2 (fAdd false) (sVar 3) (sA fTup (sCons (sA fTup (sCons (sVar 7) (sCons (s2 (fAdd false) (sC (.int 1)) (sCall 2 g_law_take (sCons (sVar 0) (sCons (sC (.int 9)) sNil)))) sNil))) sNil))) sNil)) sNil) R [bg p2, .lst (ws.map yardD)] = some (.d (.tuple ((wide3 y pl0 (1 + t)).walls.map wallD)), [bg p3, .lst (ws.map yardD)]) := arg1_ev d4 rfl
          have d6 := tup3_ev (v2 _) d5 (v4 _)
          refine ex_ev (met_ev (v5 _) (by simp) (cons_ev d6 nil_ev) (r := (.d .none, [bg p3, .lst ((ws ++ [wide3 y pl0 (1 + t)]).map yardD)])) ?_)
          have hwl2 : (ws.map yardD).length < 4096 := by rw [List.length_map]; omega
          rw [List.map_append]
          generalize ws.map yardD = W at hwl2
          simp [hwl2]
          rfl
      · rw [decide_eq_false c8] at t2
        exact ⟨ws, p2, hws, by omega, if_no (and_t t1 t2)⟩
  obtain ⟨ws2, p3, h2, h2l, eD⟩ := stD
  refine ⟨ws2, p3, h2, by omega, ?_⟩
  have st : b_law_wider [some (.m 0), some (.d (yardD y)), none, none, none, none, none, none, none, none] [bg p] = some (.rt (.d (.list (ws2.map yardD))), [some (.m 0), some (.d (yardD y)), some (.d (.int y.n)), some (.d (.tuple (y.walls.map wallD))), some (.d (.tuple (y.sun.map hourD))), some (.m 1), r6, some (.d (.int pl0)), r8, none], [bg p3, .dead]) := by
    unfold b_law_wider
    rw [seq_nx (ρ' := [some (.m 0), some (.d (yardD y)), some (.d (.int y.n)), some (.d (.tuple (y.walls.map wallD))), some (.d (.tuple (y.sun.map hourD))), none, none, none, none, none]) (μ' := [bg p]) (by rw [ey]; simp)]
    rw [seq_nx (ρ' := [some (.m 0), some (.d (yardD y)), some (.d (.int y.n)), some (.d (.tuple (y.walls.map wallD))), some (.d (.tuple (y.sun.map hourD))), some (.m 1), none, none, none, none]) (μ' := [bg p, .lst [yardD (wide1 y)]]) (by
      have : yardD (wide1 y) = .tuple [.int (if y.n + 1 < 8 then y.n + 1 else 8), .tuple (y.walls.map wallD), .tuple (y.sun.map hourD)] := rfl
      rw [this]
      simp)]
    rw [seq_nx eB]
    have g2 : sCall 2 g_law_take (sCons (sVar 0) (sCons (s2 (fAdd false) (sVar 2) (sC (.int 1))) sNil)) [some (.m 0), some (.d (yardD y)), some (.d (.int y.n)), some (.d (.tuple (y.walls.map wallD))), some (.d (.tuple (y.sun.map hourD))), some (.m 1), r6, r7, r8, none] [bg p1, .lst (ws.map yardD)] = some (.d (.int pl0), [bg p2, .lst (ws.map yardD)]) := call_ev (cons_ev rfl (cons_ev (r := .d (.int (y.n + 1))) (μ1 := [bg p1, .lst (ws.map yardD)]) rfl nil_ev)) rfl e2
    rw [seq_nx (asg_to g2)]
    simp only [List.set_cons_succ, List.set_cons_zero]
    rw [seq_nx eD]
    simp
  have h := fn_rt (n := 2) (N := 10) (rs := [.m 0, .d (yardD y)]) st rfl rfl
  show mkFn 2 10 b_law_wider _ _ = _
  rw [h]
  rfl
end Sh
set_option Elab.async false
set_option linter.all false
set_option maxRecDepth 100000
set_option maxHeartbeats 1000000
namespace Sh
open PySem L2 PyProof.Rows
/-! ### seen from behind: the def -/
theorem good_valid {y : Yd} (g : Good y) : Valid y := ⟨g.ok.n1, g.n7, by have := g.wl; omega, g.wv, g.r, g.s1, g.sl, fun h hh => g.sv h hh⟩
theorem behind_valid {y : Yd} (v : Valid y) : Valid (behindY y) := by
  have pm := sortP_perm (y.walls.map fun w => (y.n - w.1, w.2))
  refine ⟨v.n1, v.n8, ?_, fun w hw => ?_, ?_, ?_, ?_, fun h hh => ?_⟩
  · show (sortP _).length ≤ 8
    rw [pm.length_eq, List.length_map]; exact v.wl
  · obtain ⟨u, hu, rfl⟩ := List.mem_map.mp (pm.mem_iff.mp hw)
    obtain ⟨a, b, c, d⟩ := v.w u hu
    show 0 ≤ y.n - u.1 ∧ y.n - u.1 ≤ y.n ∧ 1 ≤ u.2 ∧ u.2 ≤ 9
    omega
  · refine sort_rise ?_
    rw [List.map_map]
    refine List.pairwise_map.mpr ?_
    refine (List.pairwise_map.mp v.r).imp fun {a b} h => ?_
    show y.n - a.1 ≠ y.n - b.1
    omega
  · show 1 ≤ (y.sun.map flipH).length
    rw [List.length_map]; exact v.s1
  · show (y.sun.map flipH).length ≤ 8
    rw [List.length_map]; exact v.sl
  · obtain ⟨u, hu, rfl⟩ := List.mem_map.mp hh
    exact v.s u hu
theorem behind_ev {y : Yd} (v : Valid y) (μ : Mu) : g_law_behind [.d (yardD y)] μ = some (.d (yardD (behindY y)), μ) := by
  have ey := yardD_eq y
  have wl := v.wl
  have sl := v.sl
  have c2 : C_law_behind_2 [some (.d (yardD y)), some (.d (.int y.n)), some (.d (.tuple (y.walls.map wallD))), some (.d (.tuple (y.sun.map hourD))), none, none, none, none, none] μ = some (.d (.list ((y.walls.map fun w => (y.n - w.1, w.2)).map prD)), μ) := by
    have h : C_law_behind_2 [some (.d (yardD y)), some (.d (.int y.n)), some (.d (.tuple (y.walls.map wallD))), some (.d (.tuple (y.sun.map hourD))), none, none, none, none, none] μ = some (mkL false ((y.walls.filter fun _ => true).map fun w => prD (y.n - w.1, w.2)) μ) := by
      refine comp_ev (s := ⟨y.walls.map wallD, none⟩) y.walls wallD (by simp) rfl (ok_none _) (by omega) (fun _ => true) _ (fun w hw acc => ?_)
      refine ⟨[some (.d (yardD y)), some (.d (.int y.n)), some (.d (.tuple (y.walls.map wallD))), some (.d (.tuple (y.sun.map hourD))), none, some (.d (.int w.1)), some (.d (.int w.2)), none, none], rfl, rfl, fun _ => ?_⟩
      simp [prD_eq]
    rw [h, filter_yes, List.map_map]
    rfl
  have s2 : sA fTupOf (sCons (sA (fSortQ false) (sCons C_law_behind_2 sNil)) sNil) [some (.d (yardD y)), some (.d (.int y.n)), some (.d (.tuple (y.walls.map wallD))), some (.d (.tuple (y.sun.map hourD))), none, none, none, none, none] μ = some (.d (.tuple ((behindY y).walls.map wallD)), μ) := by
    have s : sA (fSortQ false) (sCons C_law_behind_2 sNil) [some (.d (yardD y)), some (.d (.int y.n)), some (.d (.tuple (y.walls.map wallD))), some (.d (.tuple (y.sun.map hourD))), none, none, none, none, none] μ = some (.d (.list ((behindY y).walls.map wallD)), μ) := by
      refine arg1_ev c2 ?_
      have pd := pairsD_map (y.walls.map fun w => (y.n - w.1, w.2))
      show ((pairsD ((y.walls.map fun w => (y.n - w.1, w.2)).map prD)).map fun ps => mkL false ((sortP ps).map prD) μ) = _
      rw [pd]
      rfl
    exact arg1_ev s rfl
  have c1 : C_law_behind_1 [some (.d (yardD y)), some (.d (.int y.n)), some (.d (.tuple (y.walls.map wallD))), some (.d (.tuple (y.sun.map hourD))), some (.d (.tuple ((behindY y).walls.map wallD))), none, none, none, none] μ = some (.d (.list ((behindY y).sun.map hourD)), μ) := by
    have h : C_law_behind_1 [some (.d (yardD y)), some (.d (.int y.n)), some (.d (.tuple (y.walls.map wallD))), some (.d (.tuple (y.sun.map hourD))), some (.d (.tuple ((behindY y).walls.map wallD))), none, none, none, none] μ = some (mkL false ((y.sun.filter fun _ => true).map fun w => hourD (flipH w)) μ) := by
      refine comp_ev (s := ⟨y.sun.map hourD, none⟩) y.sun hourD (by simp) rfl (ok_none _) (by omega) (fun _ => true) _ (fun w hw acc => ?_)
      refine ⟨[some (.d (yardD y)), some (.d (.int y.n)), some (.d (.tuple (y.walls.map wallD))), some (.d (.tuple (y.sun.map hourD))), some (.d (.tuple ((behindY y).walls.map wallD))), none, none, some (.d (.str (sideS w.1))), some (.d (.tuple [.int w.2.1, .int w.2.2]))], rfl, rfl, fun _ => ?_⟩
      obtain ⟨e, a, b⟩ := w
      cases e <;> simp [hourD, flipH] <;> rfl
    have q : (behindY y).sun.map hourD = y.sun.map fun w => hourD (flipH w) := by
      show (y.sun.map flipH).map hourD = _
      rw [List.map_map]; rfl
    rw [h, filter_yes, q]
    rfl
  refine fn_d (ρ := [some (.d (yardD y)), none, none, none, none, none, none, none, none]) (ρ' := [some (.d (yardD y)), some (.d (.int y.n)), some (.d (.tuple (y.walls.map wallD))), some (.d (.tuple (y.sun.map hourD))), some (.d (.tuple ((behindY y).walls.map wallD))), none, none, none, none]) ?_ rfl rfl
  unfold b_law_behind
  rw [seq_nx (ρ' := [some (.d (yardD y)), some (.d (.int y.n)), some (.d (.tuple (y.walls.map wallD))), some (.d (.tuple (y.sun.map hourD))), none, none, none, none, none]) (μ' := μ) (by rw [ey]; simp)]
  rw [seq_nx (asg_to s2)]
  simp only [List.set_cons_succ, List.set_cons_zero]
  exact ret_ev (tup3_ev rfl rfl (arg1_ev c1 rfl))
/-! ### yards of other hours, as values -/
theorem wsD (y : Yd) (sun : List (Bool × Int × Int)) : yardD (withSun y sun) = .tuple [.int y.n, .tuple (y.walls.map wallD), .tuple (sun.map hourD)] := rfl
theorem mul1_ev (x : PyData) (T : Nat) (h1 : 1 ≤ T) (h8 : T ≤ 20) (μ : Mu) : fMul1 μ (.d (.tuple [x])) (.d (.int T)) = some (.d (.tuple (List.replicate T x)), μ) := by
  by_cases c : T = 1
  · subst c; rfl
  · have h2 : (2 : Int) ≤ T := by omega
    have h3 : (T : Int) ≤ 20 := by omega
    unfold fMul1
    split
    · rename_i xs e1 e2
      simp at e2
      omega
    · simp [h2, h3]
def twice (y : Yd) : List (Bool × Int × Int) := (List.range (min 8 (2 * y.sun.length))).map fun t => (y.sun[t / 2]?).getD (true, 0, 1)
theorem twice_len (y : Yd) : (twice y).length = min 8 (2 * y.sun.length) := by unfold twice; rw [List.length_map, List.length_range]
theorem twice_at {y : Yd} {t : Nat} (ht : t < (twice y).length) : (twice y)[t]? = y.sun[t / 2]? := by
  rw [twice_len] at ht
  have hlt : t / 2 < y.sun.length := by omega
  unfold twice
  rw [List.getElem?_map, List.getElem?_range ht]
  simp [List.getElem?_eq_getElem hlt]
theorem twice_ev {y : Yd} (s1 : 1 ≤ y.sun.length) (s8 : y.sun.length ≤ 8) (r0 r1 r2 r4 r5 r7 r8 r9 r10 r11 r12 r13 r14 : Option Rv) (μ : Mu) : C_law_1 [r0, r1, r2, some (.d (yardD y)), r4, r5, some (.d (.int y.sun.length)), r7, r8, r9, r10, r11, r12, r13, r14] μ = some (.d (.list ((twice y).map hourD)), μ) := by
  have hr : sRng1 (sCons (sA fMin (sCons (sC (.int 8)) (sCons (s2 fMul (sC (.int 2)) (sVar 6)) sNil))) sNil) [r0, r1, r2, some (.d (yardD y)), r4, r5, some (.d (.int y.sun.length)), r7, r8, r9, r10, r11, r12, r13, r14] μ = some (⟨rngD 0 (min 8 (2 * y.sun.length)), none⟩, μ) := by
    refine rng1_ev ?_ (by omega)
    by_cases c : 2 * (y.sun.length : Int) < 8
    · have : ((min 8 (2 * y.sun.length) : Nat) : Int) = 2 * (y.sun.length : Int) := by omega
      rw [this]
      simp [c]
    · have : ((min 8 (2 * y.sun.length) : Nat) : Int) = 8 := by omega
      rw [this]
      simp [c]
  have h : C_law_1 [r0, r1, r2, some (.d (yardD y)), r4, r5, some (.d (.int y.sun.length)), r7, r8, r9, r10, r11, r12, r13, r14] μ = some (mkL false (((List.range (min 8 (2 * y.sun.length))).filter fun _ => true).map fun t => hourD ((y.sun[t / 2]?).getD (true, 0, 1))) μ) := by
    refine comp_ev (s := ⟨rngD 0 (min 8 (2 * y.sun.length)), none⟩) (List.range (min 8 (2 * y.sun.length))) (fun (t : Nat) => .int (t : Int)) hr (by rw [rng0, List.map_map]; rfl) (ok_none _) (by rw [List.length_range]; omega) (fun _ => true) _ (fun t ht acc => ?_)
    refine ⟨[r0, r1, r2, some (.d (yardD y)), r4, r5, some (.d (.int y.sun.length)), r7, r8, r9, r10, r11, some (.d (.int t)), r13, r14], rfl, rfl, fun _ => ?_⟩
    have ht := List.mem_range.mp ht
    have hlt : t / 2 < y.sun.length := by omega
    have ha : atI (y.sun.map hourD) ((t : Int) / 2) = some (hourD ((y.sun[t / 2]?).getD (true, 0, 1))) := by
      have : ((t : Int) / 2) = ((t / 2 : Nat) : Int) := by omega
      rw [this]
      refine atI_at ?_
      rw [List.getElem?_map, List.getElem?_eq_getElem hlt]
      rfl
    generalize hourD ((y.sun[t / 2]?).getD (true, 0, 1)) = X at ha
    rw [yardD_eq]
    simp [ha]
  rw [h, filter_yes]
  unfold twice
  rw [List.map_map]
  rfl
theorem ints_list (F : List Int) (b : Bool) (μ : Mu) : fEq true μ (.d (.list (F.map .int))) (.d (.list (F.map .int))) = some (.d (.bool false), μ) := by
  have h := plAll_ints 8 F
  have h2 := eqvAll_self F
  unfold fEq
  simp only [rd, pl_list, h, eqv_lst, h2, Bool.and_self, if_true]
  rfl
theorem mirror_ev {y : Yd} (ok : y.Ok) (n8 : y.n ≤ 8) (s1 : 1 ≤ y.sun.length) (r0 r1 r2 r4 r5 r6 r7 r8 r9 r10 r11 r12 r13 r14 : Option Rv) (μ : Mu) : C_law_2 [r0, r1, r2, some (.d (yardD y)), r4, r5, r6, r7, r8, r9, r10, r11, r12, r13, r14] μ = some (.d (.list ((seatsAt (behindY y) 0).map .int)), μ) := by
  have e := shaded_ev ok (hour := 0) (by omega) μ
  have e : g_shaded [.d (yardD y), .d (.int 0)] μ = some (.d (.list ((seatsAt y 0).map .int)), μ) := e
  have hl := seats_len n8 0
  have h : C_law_2 [r0, r1, r2, some (.d (yardD y)), r4, r5, r6, r7, r8, r9, r10, r11, r12, r13, r14] μ = some (mkL false ((((seatsAt y 0).reverse).filter fun _ => true).map fun x => .int (y.n - 1 - x)) μ) := by
    refine comp_ev (s := ⟨(seatsAt y 0).reverse.map .int, none⟩) (seatsAt y 0).reverse .int (by simp [e]) rfl (ok_none _) (by rw [List.length_reverse]; omega) (fun _ => true) _ (fun x hx acc => ?_)
    refine ⟨[r0, r1, r2, some (.d (yardD y)), r4, r5, r6, r7, r8, r9, r10, some (.d (.int x)), r12, r13, r14], rfl, rfl, fun _ => ?_⟩
    rw [yardD_eq]
    simp
  rw [h, filter_yes, behind_list, List.map_map]
  rfl
end Sh
set_option Elab.async false
set_option linter.all false
set_option maxRecDepth 100000
set_option maxHeartbeats 1000000
namespace Sh
open PySem L2 PyProof.Rows
/-! ### the law's turn, part by part -/
theorem good_room {y : Yd} (g : Good y) {n : Nat} (hn : (n : Int) ≤ most y) : GoodN y n := ⟨g.ok, g.n7, g.s1, g.sl, fun t ht => by have := most_le g.s1 ht; omega⟩
theorem most8 {y : Yd} (g : Good y) : most y ≤ 8 := by
  have h1 := most_le g.s1 (t := 0) (by have := g.s1; omega)
  have h2 := seats_len g.n7 0
  omega
theorem wide_turn {y w : Yd} (g : Good y) {n : Nat} (gn : GoodN y n) (hw : Wider y w) (r0 r1 r2 r3 r6 r9 r10 r11 r12 r13 r14 : Option Rv) (μ : Mu) :
    l_law_1 [r0, r1, r2, r3, some (.d (.int (most y))), some (.d (.int n)), r6, some (.d (.int (num y n))), some (.d (yardD w)), r9, r10, r11, r12, r13, r14] μ = some (.nx, [r0, r1, r2, r3, some (.d (.int (most y))), some (.d (.int n)), r6, some (.d (.int (num y n))), some (.d (yardD w)), r9, r10, r11, r12, r13, r14], μ) := by
  have hs : ∀ t x, x ∈ seatsAt y t → x ∈ seatsAt w t := fun t x hx => seats_more g.ok hw.n hw.sun hw.wl hx
  have e1 := is_yard_ev hw.v μ
  have e2 := most_ev hw.v.ok (by rw [hw.sun]; exact g.s1) μ
  have m := most_more g.s1 hw.sun hs
  obtain ⟨gw, le⟩ := num_wide gn hw.v.ok hw.v.n8 hw.sun hs
  have e3 := count_ev gw μ
  unfold l_law_1
  generalize num y n = N at *
  generalize num w n = N' at *
  generalize most y = M at *
  generalize most w = M' at *
  generalize (n : Int) = k at *
  generalize yardD w = W at *
  have h1 : ¬ M' < M := by omega
  have h2 : ¬ N < N' := by omega
  simp [e1, e2, e3, h1, h2]
theorem wide_loop {y : Yd} (g : Good y) {n : Nat} (gn : GoodN y n) (p : Int × Int) (ns : List Int) (k T : Int) (r8 r9 r10 r11 r12 r13 r14 : Option Rv) :
    ∃ (p' : Int × Int) (r8' r9' r10' r11' r12' r13' r14' : Option Rv), L_law_1 [some (.s ns), some (.d (.int k)), some (.m 0), some (.d (yardD y)), some (.d (.int (most y))), some (.d (.int n)), some (.d (.int T)), some (.d (.int (num y n))), r8, r9, r10, r11, r12, r13, r14] [bg p] = some (.nx, [some (.s ns), some (.d (.int k)), some (.m 0), some (.d (yardD y)), some (.d (.int (most y))), some (.d (.int n)), some (.d (.int T)), some (.d (.int (num y n))), r8', r9', r10', r11', r12', r13', r14'], [bg p']) := by
  obtain ⟨ws, p', hws, hl, he⟩ := wider_ev (good_valid g) p
  obtain ⟨f, ρ', μ', e, h⟩ := for_ev (m := sIt (sCall 2 g_law_wider (sCons (sVar 2) (sCons (sVar 3) sNil)))) (t := .nm 8) (body := l_law_1) (ρ := [some (.s ns), some (.d (.int k)), some (.m 0), some (.d (yardD y)), some (.d (.int (most y))), some (.d (.int n)), some (.d (.int T)), some (.d (.int (num y n))), r8, r9, r10, r11, r12, r13, r14]) (μ := [bg p]) (μ1 := [bg p']) (s := ⟨ws.map yardD, none⟩) ws yardD (by simp [he]) rfl
    (fun _ ρ μ' => (∃ r8 r9 r10 r11 r12 r13 r14, ρ = [some (.s ns), some (.d (.int k)), some (.m 0), some (.d (yardD y)), some (.d (.int (most y))), some (.d (.int n)), some (.d (.int T)), some (.d (.int (num y n))), r8, r9, r10, r11, r12, r13, r14]) ∧ μ' = [bg p']) (fun _ _ => False) ⟨⟨_, _, _, _, _, _, _, rfl⟩, rfl⟩ (by
      rintro j w ρ μ' hj ⟨⟨r8, r9, r10, r11, r12, r13, r14, rfl⟩, rfl⟩
      have st := wide_turn g gn (hws w (List.mem_of_getElem? hj)) (some (.s ns)) (some (.d (.int k))) (some (.m 0)) (some (.d (yardD y))) (some (.d (.int T))) r9 r10 r11 r12 r13 r14 [bg p']
      exact ⟨_, .nx, _, _, rfl, st, rfl, ⟨_, _, _, _, _, _, _, rfl⟩, rfl⟩)
  cases f with
  | nx =>
    obtain ⟨⟨r8, r9, r10, r11, r12, r13, r14, rfl⟩, rfl⟩ := h
    exact ⟨_, _, _, _, _, _, _, _, e⟩
  | rt r => exact h.elim
  | ct => exact h.elim
  | bk => exact h.elim
theorem count_val {y' : Yd} {n : Nat} {V : PyData} (g : GoodN y' n) (hV : yardD y' = V) (μ : Mu) : g_law_count [.d V, .d (.int n)] μ = some (.d (.int (num y' n)), μ) := by
  rw [← hV]; exact count_ev g μ
end Sh
set_option Elab.async false
set_option linter.all false
set_option maxRecDepth 100000
set_option maxHeartbeats 1000000
namespace Sh
open PySem L2 PyProof.Rows
/-! ### the turn's other yards -/
section
variable (y : Yd) (r0 r1 r2 : Option Rv) (rest : Ro) (μ : Mu)
theorem ix0 : s2 fIx (sVar 3) (sC (.int 0)) (r0 :: r1 :: r2 :: some (.d (yardD y)) :: rest) μ = some (.d (.int y.n), μ) := by rw [yardD_eq]; simp
theorem ix1 : s2 fIx (sVar 3) (sC (.int 1)) (r0 :: r1 :: r2 :: some (.d (yardD y)) :: rest) μ = some (.d (.tuple (y.walls.map wallD)), μ) := by rw [yardD_eq]; simp
theorem ix2 : s2 fIx (sVar 3) (sC (.int 2)) (r0 :: r1 :: r2 :: some (.d (yardD y)) :: rest) μ = some (.d (.tuple (y.sun.map hourD)), μ) := by rw [yardD_eq]; simp
end
theorem revT_ev {m : Sm} {ρ : Ro} {μ : Mu} {ds : List PyData} (e : m ρ μ = some (.d (.tuple ds), μ)) : s1 fRevT m ρ μ = some (.d (.tuple ds.reverse), μ) := by simp [e]
section
variable {y : Yd} (g : Good y) {n : Nat} (hn : (n : Int) ≤ most y) (r0 r1 r2 r4 r6 : Option Rv) (rest : Ro) (μ : Mu)
include g hn
theorem more_turn : sIf (sAnd (sTst (s2 fLt (sVar 5) (sVar 4))) (sTst (s2 fLt (sCall 2 g_law_count (sCons (sVar 3) (sCons (s2 (fAdd false) (sVar 5) (sC (.int 1))) sNil))) (s2 (fAdd false) (sVar 7) (sC (.int 1)))))) (sRet (sC (.bool false))) sSkip (r0 :: r1 :: r2 :: some (.d (yardD y)) :: some (.d (.int (most y))) :: some (.d (.int n)) :: r6 :: some (.d (.int (num y n))) :: rest) μ = some (.nx, r0 :: r1 :: r2 :: some (.d (yardD y)) :: some (.d (.int (most y))) :: some (.d (.int n)) :: r6 :: some (.d (.int (num y n))) :: rest, μ) := by
  by_cases c : (n : Int) < most y
  · have g2 := good_room g (n := n + 1) (by omega)
    have e := count_ev g2 μ
    have e : g_law_count [.d (yardD y), .d (.int ((n : Int) + 1))] μ = some (.d (.int (num y (n + 1))), μ) := e
    have h := num_more1 (nd y) g.s1 (fun t ht => g2.room t ht) (num_least (good_room g hn)) (num_least g2)
    generalize num y (n + 1) = N' at *
    generalize num y n = N at *
    generalize (n : Int) = k at *
    generalize most y = M at *
    generalize yardD y = Y at *
    have h1 : ¬ N' < N + 1 := by omega
    simp [c, e, h1]
  · generalize (n : Int) = k at *
    generalize most y = M at *
    simp [c]
theorem both_turn (r11 : Ro) (r8 : Option Rv) : sIf (sOr (sTst (s2 (fEq true) (sCall 2 g_law_count (sCons (sVar 9) (sCons (sVar 5) sNil))) (sVar 7))) (sOr (sNot (sTst (sCall 1 g_is_yard (sCons (sVar 10) sNil)))) (sTst (s2 (fEq true) (sCall 2 g_law_count (sCons (sVar 10) (sCons (sVar 5) sNil))) (sVar 7))))) (sRet (sC (.bool false))) sSkip
    (r0 :: r1 :: r2 :: some (.d (yardD y)) :: r4 :: some (.d (.int n)) :: r6 :: some (.d (.int (num y n))) :: r8 :: some (.d (yardD (withSun y y.sun.reverse))) :: some (.d (yardD (behindY y))) :: r11) μ = some (.nx, r0 :: r1 :: r2 :: some (.d (yardD y)) :: r4 :: some (.d (.int n)) :: r6 :: some (.d (.int (num y n))) :: r8 :: some (.d (yardD (withSun y y.sun.reverse))) :: some (.d (yardD (behindY y))) :: r11, μ) := by
  have gn := good_room g hn
  obtain ⟨g1, e1⟩ := num_back gn
  obtain ⟨g2, e2⟩ := num_behind gn (fun w hw => (g.wv w hw).2.1)
  have c1 := count_ev g1 μ
  have c2 := count_ev g2 μ
  have c3 := is_yard_ev (behind_valid (good_valid g)) μ
  rw [e1] at c1
  rw [e2] at c2
  generalize num y n = N at *
  generalize (n : Int) = k at *
  generalize yardD y = Y at *
  generalize yardD (withSun y y.sun.reverse) = Y1 at *
  generalize yardD (behindY y) = Y2 at *
  simp [c1, c2, c3]
theorem mirror_turn (hl : 1 ≤ y.sun.length) (r5 r7 r8 r9 r11 r12 r13 r14 : Option Rv) : sIf (sTst (s2 (fEq true) (sCall 2 g_shaded (sCons (sVar 10) (sCons (sC (.int 0)) sNil))) C_law_2)) (sRet (sC (.bool false))) sSkip
    [r0, r1, r2, some (.d (yardD y)), r4, r5, r6, r7, r8, r9, some (.d (yardD (behindY y))), r11, r12, r13, r14] μ = some (.nx, [r0, r1, r2, some (.d (yardD y)), r4, r5, r6, r7, r8, r9, some (.d (yardD (behindY y))), r11, r12, r13, r14], μ) := by
  have v := behind_valid (good_valid g)
  have e := shaded_ev v.ok (hour := 0) (by have := v.s1; omega) μ
  have e : g_shaded [.d (yardD (behindY y)), .d (.int 0)] μ = some (.d (.list ((seatsAt (behindY y) 0).map .int)), μ) := e
  have c := mirror_ev g.ok g.n7 hl r0 r1 r2 r4 r5 r6 r7 r8 r9 (some (.d (yardD (behindY y)))) r11 r12 r13 r14 μ
  refine if_no (tst_b ?_)
  have c1 : sCall 2 g_shaded (sCons (sVar 10) (sCons (sC (.int 0)) sNil)) [r0, r1, r2, some (.d (yardD y)), r4, r5, r6, r7, r8, r9, some (.d (yardD (behindY y))), r11, r12, r13, r14] μ = some (.d (.list ((seatsAt (behindY y) 0).map .int)), μ) := call_ev (cons_ev rfl (cons_ev rfl nil_ev)) rfl e
  unfold s2
  rw [c1]
  simp only [Option.bind_some]
  rw [c]
  exact ints_list _ true μ
theorem fewer_turn (p : Int × Int) (r8 r9 r10 r11 r12 r13 r14 : Option Rv) : ∃ (p' : Int × Int) (r12' : Option Rv), sIf (sTst (s2 fGt (sVar 6) (sC (.int 1)))) (sSeq (sAsg (sCall 2 g_law_take (sCons (sVar 2) (sCons (sVar 6) sNil))) (.nm 12))
    (sIf (sTst (s2 fGt (sCall 2 g_law_count (sCons (sA fTup (sCons (s2 fIx (sVar 3) (sC (.int 0))) (sCons (s2 fIx (sVar 3) (sC (.int 1))) (sCons (s2 (fAdd false) (sSl false (s2 fIx (sVar 3) (sC (.int 2))) sNoP (sPart (sVar 12))) (sSl false (s2 fIx (sVar 3) (sC (.int 2))) (sPart (s2 (fAdd false) (sVar 12) (sC (.int 1)))) sNoP)) sNil)))) (sCons (sVar 5) sNil))) (sVar 7))) (sRet (sC (.bool false))) sSkip)) sSkip
    [r0, r1, some (.m 0), some (.d (yardD y)), r4, some (.d (.int n)), some (.d (.int y.sun.length)), some (.d (.int (num y n))), r8, r9, r10, r11, r12, r13, r14] [bg p] = some (.nx, [r0, r1, some (.m 0), some (.d (yardD y)), r4, some (.d (.int n)), some (.d (.int y.sun.length)), some (.d (.int (num y n))), r8, r9, r10, r11, r12', r13, r14], [bg p']) := by
  have gn := good_room g hn
  have sl := g.sl
  by_cases c : (1 : Int) < (y.sun.length : Int)
  · obtain ⟨ai, p1, a0, a1, e1⟩ := take_ev p (y.sun.length : Int) (by omega) (by omega) []
    obtain ⟨a, rfl⟩ := Int.eq_ofNat_of_zero_le a0
    have ha : a < y.sun.length := by omega
    obtain ⟨g2, le⟩ := num_drop gn (by omega) ha
    have ce := count_ev g2 [bg p1]
    refine ⟨p1, some (.d (.int a)), ?_⟩
    rw [if_yes (tst_b (b := true) (by simp [c]))]
    have g1 : sCall 2 g_law_take (sCons (sVar 2) (sCons (sVar 6) sNil)) [r0, r1, some (.m 0), some (.d (yardD y)), r4, some (.d (.int n)), some (.d (.int y.sun.length)), some (.d (.int (num y n))), r8, r9, r10, r11, r12, r13, r14] [bg p] = some (.d (.int a), [bg p1]) := call_ev (cons_ev rfl (cons_ev rfl nil_ev)) rfl e1
    rw [seq_nx (asg_to g1)]
    simp only [List.set_cons_succ, List.set_cons_zero]
    refine if_no ?_
    have t3 := cat_ev (b := false) (sl_take (ix2 y r0 r1 (some (.m 0)) [r4, some (.d (.int n)), some (.d (.int y.sun.length)), some (.d (.int (num y n))), r8, r9, r10, r11, some (.d (.int a)), r13, r14] [bg p1]) (m := sVar 12) (a := a) rfl) (sl_drop (ix2 y r0 r1 (some (.m 0)) [r4, some (.d (.int n)), some (.d (.int y.sun.length)), some (.d (.int (num y n))), r8, r9, r10, r11, some (.d (.int a)), r13, r14] [bg p1]) (m := sVar 12) (a := a) rfl) (by simp; omega)
    have t4 := tup3_ev (ix0 y r0 r1 (some (.m 0)) [r4, some (.d (.int n)), some (.d (.int y.sun.length)), some (.d (.int (num y n))), r8, r9, r10, r11, some (.d (.int a)), r13, r14] [bg p1]) (ix1 y r0 r1 (some (.m 0)) [r4, some (.d (.int n)), some (.d (.int y.sun.length)), some (.d (.int (num y n))), r8, r9, r10, r11, some (.d (.int a)), r13, r14] [bg p1]) t3
    have e : (y.sun.map hourD).take a ++ (y.sun.map hourD).drop (a + 1) = (y.sun.take a ++ y.sun.drop (a + 1)).map hourD := by rw [List.map_append, List.map_take, List.map_drop]
    rw [e, ← wsD] at t4
    have t5 := call_ev (n := 2) (cons_ev t4 (cons_ev (b := sNil) (a := sVar 5) (r := .d (.int n)) rfl nil_ev)) rfl ce
    have h1 : ¬ num y n < num (withSun y (y.sun.take a ++ y.sun.drop (a + 1))) n := by omega
    refine tst_b ?_
    unfold s2 at t5 ⊢
    rw [t5]
    simp [h1]
  · refine ⟨p, r12, if_no (tst_b ?_)⟩
    simp [c]
theorem still_asg (hl : 1 ≤ y.sun.length) {h0 : Bool × Int × Int} (hh : y.sun[0]? = some h0) (r5 r7 r8 r9 r10 r11 r12 r13 r14 : Option Rv) : sAsg (sA fTup (sCons (s2 fIx (sVar 3) (sC (.int 0))) (sCons (s2 fIx (sVar 3) (sC (.int 1))) (sCons (s2 fMul1 (sA fTup (sCons (s2 fIx (s2 fIx (sVar 3) (sC (.int 2))) (sC (.int 0))) sNil)) (sVar 6)) sNil)))) (.nm 13)
    [r0, r1, r2, some (.d (yardD y)), r4, r5, some (.d (.int y.sun.length)), r7, r8, r9, r10, r11, r12, r13, r14] μ = some (.nx, [r0, r1, r2, some (.d (yardD y)), r4, r5, some (.d (.int y.sun.length)), r7, r8, r9, r10, r11, r12, some (.d (yardD (withSun y (List.replicate y.sun.length h0)))), r14], μ) := by
  have sl := g.sl
  have a : s2 fIx (s2 fIx (sVar 3) (sC (.int 2))) (sC (.int 0)) [r0, r1, r2, some (.d (yardD y)), r4, r5, some (.d (.int y.sun.length)), r7, r8, r9, r10, r11, r12, r13, r14] μ = some (.d (hourD h0), μ) := by
    have ha : atI (y.sun.map hourD) 0 = some (hourD h0) := yard_hour hh
    generalize hourD h0 = X at ha
    rw [yardD_eq]
    simp [ha]
  have b := one_ev a
  have c : s2 fMul1 (sA fTup (sCons (s2 fIx (s2 fIx (sVar 3) (sC (.int 2))) (sC (.int 0))) sNil)) (sVar 6) [r0, r1, r2, some (.d (yardD y)), r4, r5, some (.d (.int y.sun.length)), r7, r8, r9, r10, r11, r12, r13, r14] μ = some (.d (.tuple ((List.replicate y.sun.length h0).map hourD)), μ) := by
    rw [List.map_replicate]
    have m := mul1_ev (hourD h0) y.sun.length hl (by omega) μ
    show ((sA fTup (sCons (s2 fIx (s2 fIx (sVar 3) (sC (.int 2))) (sC (.int 0))) sNil)) _ μ).bind _ = _
    rw [b]
    exact m
  have d := tup3_ev (ix0 y r0 r1 r2 [r4, r5, some (.d (.int y.sun.length)), r7, r8, r9, r10, r11, r12, r13, r14] μ) (ix1 y r0 r1 r2 [r4, r5, some (.d (.int y.sun.length)), r7, r8, r9, r10, r11, r12, r13, r14] μ) c
  exact asg_to d
theorem still_turn {h0 : Bool × Int × Int} (hh : y.sun[0]? = some h0) (r7 r8 r9 r10 r11 r12 r14 : Option Rv) : sIf (sAnd (sTst (s2 fGe (sA fLen (sCons (sCall 2 g_shaded (sCons (sVar 3) (sCons (sC (.int 0)) sNil))) sNil)) (sVar 5))) (sTst (s2 (fEq true) (sCall 2 g_law_count (sCons (sVar 13) (sCons (sVar 5) sNil))) (sVar 5)))) (sRet (sC (.bool false))) sSkip
    [r0, r1, r2, some (.d (yardD y)), r4, some (.d (.int n)), r6, r7, r8, r9, r10, r11, r12, some (.d (yardD (withSun y (List.replicate y.sun.length h0)))), r14] μ = some (.nx, [r0, r1, r2, some (.d (yardD y)), r4, some (.d (.int n)), r6, r7, r8, r9, r10, r11, r12, some (.d (yardD (withSun y (List.replicate y.sun.length h0)))), r14], μ) := by
  have gn := good_room g hn
  have s1 := g.s1
  have hr : n ≤ (seatsAt y 0).length := gn.room 0 (by omega)
  obtain ⟨g2, e2⟩ := num_stillY g.ok g.n7 g.s1 g.sl hr hh
  have ce := count_ev g2 μ
  rw [e2] at ce
  have e := shaded_ev g.ok (hour := 0) (by omega) μ
  have e : g_shaded [.d (yardD y), .d (.int 0)] μ = some (.d (.list ((seatsAt y 0).map .int)), μ) := e
  have hr2 : (n : Int) ≤ ((seatsAt y 0).length : Int) := by omega
  generalize (n : Int) = k at *
  generalize yardD y = Y at *
  generalize yardD (withSun y (List.replicate y.sun.length h0)) = Y1 at *
  simp [ce, e, hr2]
theorem twice_asg (r5 r7 r8 r9 r10 r11 r12 r13 r14 : Option Rv) : sAsg (sA fTup (sCons (s2 fIx (sVar 3) (sC (.int 0))) (sCons (s2 fIx (sVar 3) (sC (.int 1))) (sCons (sA fTupOf (sCons C_law_1 sNil)) sNil)))) (.nm 14)
    [r0, r1, r2, some (.d (yardD y)), r4, r5, some (.d (.int y.sun.length)), r7, r8, r9, r10, r11, r12, r13, r14] μ = some (.nx, [r0, r1, r2, some (.d (yardD y)), r4, r5, some (.d (.int y.sun.length)), r7, r8, r9, r10, r11, r12, r13, some (.d (yardD (withSun y (twice y))))], μ) := by
  have a := twice_ev g.s1 g.sl r0 r1 r2 r4 r5 r7 r8 r9 r10 r11 r12 r13 r14 μ
  have c := arg1_ev (f := fTupOf) (r := (.d (.tuple ((twice y).map hourD)), μ)) a rfl
  have d := tup3_ev (ix0 y r0 r1 r2 [r4, r5, some (.d (.int y.sun.length)), r7, r8, r9, r10, r11, r12, r13, r14] μ) (ix1 y r0 r1 r2 [r4, r5, some (.d (.int y.sun.length)), r7, r8, r9, r10, r11, r12, r13, r14] μ) c
  exact asg_to d
theorem twice_turn (r8 r9 r10 r11 r12 r13 : Option Rv) : sIf (sAnd (sTst (s2 fLt (sVar 6) (sC (.int 5)))) (sTst (s2 (fEq true) (sCall 2 g_law_count (sCons (sVar 14) (sCons (sVar 5) sNil))) (sVar 7)))) (sRet (sC (.bool false))) sSkip
    [r0, r1, r2, some (.d (yardD y)), r4, some (.d (.int n)), some (.d (.int y.sun.length)), some (.d (.int (num y n))), r8, r9, r10, r11, r12, r13, some (.d (yardD (withSun y (twice y))))] μ = some (.nx, [r0, r1, r2, some (.d (yardD y)), r4, some (.d (.int n)), some (.d (.int y.sun.length)), some (.d (.int (num y n))), r8, r9, r10, r11, r12, r13, some (.d (yardD (withSun y (twice y))))], μ) := by
  have gn := good_room g hn
  by_cases c : (y.sun.length : Int) < 5
  · obtain ⟨g2, e2⟩ := num_twiceY gn (by omega) (sun := twice y) (by rw [twice_len]; omega) (fun t ht => twice_at ht)
    have ce := count_ev g2 μ
    rw [e2] at ce
    generalize num y n = N at *
    generalize (n : Int) = k at *
    generalize yardD y = Y at *
    generalize yardD (withSun y (twice y)) = Y1 at *
    simp [c, ce]
  · simp [c]
end
end Sh
set_option Elab.async false
set_option linter.all false
set_option maxRecDepth 100000
set_option maxHeartbeats 1000000
namespace Sh
open PySem L2 PyProof.Rows
/-! ### the law's turns -/
theorem st_chain (r0 r1 r2 r3 r4 : Option Rv) (rest : Ro) (n T N : Int) (hb : b64 n = true) (lo : n ≤ N) (hi : N ≤ n * T) (μ : Mu) : sIf (sNot (sTst (sChain fLe fLe (sVar 5) (sVar 7) (s2 fMul (sVar 5) (sVar 6))))) (sRet (sC (.bool false))) sSkip (r0 :: r1 :: r2 :: r3 :: r4 :: some (.d (.int n)) :: some (.d (.int T)) :: some (.d (.int N)) :: rest) μ = some (.nx, r0 :: r1 :: r2 :: r3 :: r4 :: some (.d (.int n)) :: some (.d (.int T)) :: some (.d (.int N)) :: rest, μ) := by
  simp [hb, lo, hi]
theorem turn2 (ns : List Int) (k : Nat) (hk : k ≤ 100) (r2 r3 r4 r5 r6 r7 r8 r9 r10 r11 r12 r13 r14 : Option Rv) : ∃ (a2 a3 a4 a5 a6 a7 a8 a9 a10 a11 a12 a13 a14 : Option Rv) (μ' : Mu), l_law_2 [some (.s ns), some (.d (.int k)), r2, r3, r4, r5, r6, r7, r8, r9, r10, r11, r12, r13, r14] [] = some (.nx, [some (.s ns), some (.d (.int k)), a2, a3, a4, a5, a6, a7, a8, a9, a10, a11, a12, a13, a14], μ') := by
  obtain ⟨q, hb⟩ := bag_ev ns k hk
  obtain ⟨y, q1, gd, hy⟩ := good_ev q 7 7 (by omega) (by omega) (by omega) (by omega) good7
  have m1 := gd.m
  have m8 := most8 gd
  have s1 := gd.s1
  have sl := gd.sl
  have m2 := most_ev gd.ok gd.s1 [bg q1]
  obtain ⟨r, q2, r0, rl, ht⟩ := take_ev q1 (most y) (by omega) (by omega) []
  obtain ⟨n, hn⟩ : ∃ n : Nat, 1 + r = (n : Int) := ⟨(1 + r).toNat, by omega⟩
  have n1 : 1 ≤ n := by omega
  have nm : (n : Int) ≤ most y := by omega
  have gn := good_room gd nm
  have ce := count_ev gn [bg q2]
  have lo := num_low gn
  have hi := num_high gn
  obtain ⟨h0, hh⟩ : ∃ h, y.sun[0]? = some h := ⟨_, List.getElem?_eq_getElem (by omega)⟩
  obtain ⟨p', b8, b9, b10, b11, b12, b13, b14, hw⟩ := wide_loop gd gn q2 ns (k : Int) (y.sun.length : Int) r8 r9 r10 r11 r12 r13 r14
  obtain ⟨p'', b12', hf⟩ := fewer_turn gd nm (some (.s ns)) (some (.d (.int k))) (some (.d (.int (most y)))) p' b8 (some (.d (yardD (withSun y y.sun.reverse)))) (some (.d (yardD (behindY y)))) b11 b12 b13 b14
  unfold l_law_2
  rw [seq_nx (ρ' := [some (.s ns), some (.d (.int k)), some (.m 0), r3, r4, r5, r6, r7, r8, r9, r10, r11, r12, r13, r14]) (μ' := [bg q]) (by simp [hb])]
  rw [seq_nx (ρ' := [some (.s ns), some (.d (.int k)), some (.m 0), some (.d (yardD y)), r4, r5, r6, r7, r8, r9, r10, r11, r12, r13, r14]) (μ' := [bg q1]) (by simp [hy])]
  rw [seq_nx (ρ' := [some (.s ns), some (.d (.int k)), some (.m 0), some (.d (yardD y)), some (.d (.int (most y))), r5, r6, r7, r8, r9, r10, r11, r12, r13, r14]) (μ' := [bg q1]) (by
    generalize most y = M at *
    simp [m2])]
  rw [seq_nx (ρ' := [some (.s ns), some (.d (.int k)), some (.m 0), some (.d (yardD y)), some (.d (.int (most y))), some (.d (.int n)), some (.d (.int y.sun.length)), r7, r8, r9, r10, r11, r12, r13, r14]) (μ' := [bg q2]) (by
    have a : s2 (fAdd false) (sC (.int 1)) (sCall 2 g_law_take (sCons (sVar 2) (sCons (sVar 4) sNil))) [some (.s ns), some (.d (.int k)), some (.m 0), some (.d (yardD y)), some (.d (.int (most y))), r5, r6, r7, r8, r9, r10, r11, r12, r13, r14] [bg q1] = some (.d (.int n), [bg q2]) := by
      have c : sCall 2 g_law_take (sCons (sVar 2) (sCons (sVar 4) sNil)) [some (.s ns), some (.d (.int k)), some (.m 0), some (.d (yardD y)), some (.d (.int (most y))), r5, r6, r7, r8, r9, r10, r11, r12, r13, r14] [bg q1] = some (.d (.int r), [bg q2]) := call_ev (cons_ev rfl (cons_ev rfl nil_ev)) rfl ht
      rw [← hn]
      show (sCall 2 g_law_take (sCons (sVar 2) (sCons (sVar 4) sNil)) _ [bg q1]).bind _ = _
      rw [c]
      rfl
    have b := arg1_ev (f := fLen) (r := (.d (.int y.sun.length), [bg q2])) (ix2 y (some (.s ns)) (some (.d (.int k))) (some (.m 0)) [some (.d (.int (most y))), r5, r6, r7, r8, r9, r10, r11, r12, r13, r14] [bg q2]) (by simp)
    have c := cons_ev a (cons_ev b nil_ev)
    unfold sPar
    rw [c]
    rfl)]
  rw [seq_nx (ρ' := [some (.s ns), some (.d (.int k)), some (.m 0), some (.d (yardD y)), some (.d (.int (most y))), some (.d (.int n)), some (.d (.int y.sun.length)), some (.d (.int (num y n))), r8, r9, r10, r11, r12, r13, r14]) (μ' := [bg q2]) (by
    exact asg_to (call_ev (cons_ev rfl (cons_ev rfl nil_ev)) rfl ce))]
  rw [seq_nx (ρ' := [some (.s ns), some (.d (.int k)), some (.m 0), some (.d (yardD y)), some (.d (.int (most y))), some (.d (.int n)), some (.d (.int y.sun.length)), some (.d (.int (num y n))), r8, r9, r10, r11, r12, r13, r14]) (μ' := [bg q2]) (by
    exact st_chain _ _ _ _ _ _ _ _ _ (small_b64 (by omega) (by omega)) lo hi _)]
  rw [seq_nx hw]
  rw [seq_nx (more_turn gd nm (some (.s ns)) (some (.d (.int k))) (some (.m 0)) (some (.d (.int y.sun.length))) [b8, b9, b10, b11, b12, b13, b14] [bg p'])]
  rw [seq_nx (ρ' := [some (.s ns), some (.d (.int k)), some (.m 0), some (.d (yardD y)), some (.d (.int (most y))), some (.d (.int n)), some (.d (.int y.sun.length)), some (.d (.int (num y n))), b8, some (.d (yardD (withSun y y.sun.reverse))), b10, b11, b12, b13, b14]) (μ' := [bg p']) (by
    have d := tup3_ev (ix0 y (some (.s ns)) (some (.d (.int k))) (some (.m 0)) [some (.d (.int (most y))), some (.d (.int n)), some (.d (.int y.sun.length)), some (.d (.int (num y n))), b8, b9, b10, b11, b12, b13, b14] [bg p']) (ix1 y (some (.s ns)) (some (.d (.int k))) (some (.m 0)) [some (.d (.int (most y))), some (.d (.int n)), some (.d (.int y.sun.length)), some (.d (.int (num y n))), b8, b9, b10, b11, b12, b13, b14] [bg p']) (revT_ev (ix2 y (some (.s ns)) (some (.d (.int k))) (some (.m 0)) [some (.d (.int (most y))), some (.d (.int n)), some (.d (.int y.sun.length)), some (.d (.int (num y n))), b8, b9, b10, b11, b12, b13, b14] [bg p']))
    rw [← List.map_reverse, ← wsD] at d
    exact asg_to d)]
  rw [seq_nx (ρ' := [some (.s ns), some (.d (.int k)), some (.m 0), some (.d (yardD y)), some (.d (.int (most y))), some (.d (.int n)), some (.d (.int y.sun.length)), some (.d (.int (num y n))), b8, some (.d (yardD (withSun y y.sun.reverse))), some (.d (yardD (behindY y))), b11, b12, b13, b14]) (μ' := [bg p']) (by
    exact asg_to (call_ev (cons_ev rfl nil_ev) rfl (behind_ev (good_valid gd) [bg p'])))]
  rw [seq_nx (both_turn gd nm (some (.s ns)) (some (.d (.int k))) (some (.m 0)) (some (.d (.int (most y)))) (some (.d (.int y.sun.length))) [bg p'] [b11, b12, b13, b14] b8)]
  rw [seq_nx (mirror_turn gd nm (some (.s ns)) (some (.d (.int k))) (some (.m 0)) (some (.d (.int (most y)))) (some (.d (.int y.sun.length))) [bg p'] s1 (some (.d (.int n))) (some (.d (.int (num y n)))) b8 (some (.d (yardD (withSun y y.sun.reverse)))) b11 b12 b13 b14)]
  rw [seq_nx hf]
  rw [seq_nx (still_asg gd nm (some (.s ns)) (some (.d (.int k))) (some (.m 0)) (some (.d (.int (most y)))) [bg p''] s1 hh (some (.d (.int n))) (some (.d (.int (num y n)))) b8 (some (.d (yardD (withSun y y.sun.reverse)))) (some (.d (yardD (behindY y)))) b11 b12' b13 b14)]
  rw [seq_nx (still_turn gd nm (some (.s ns)) (some (.d (.int k))) (some (.m 0)) (some (.d (.int (most y)))) (some (.d (.int y.sun.length))) [bg p''] hh (some (.d (.int (num y n)))) b8 (some (.d (yardD (withSun y y.sun.reverse)))) (some (.d (yardD (behindY y)))) b11 b12' b14)]
  rw [seq_nx (twice_asg gd nm (some (.s ns)) (some (.d (.int k))) (some (.m 0)) (some (.d (.int (most y)))) [bg p''] (some (.d (.int n))) (some (.d (.int (num y n)))) b8 (some (.d (yardD (withSun y y.sun.reverse)))) (some (.d (yardD (behindY y)))) b11 b12' (some (.d (yardD (withSun y (List.replicate y.sun.length h0))))) b14)]
  exact ⟨_, _, _, _, _, _, _, _, _, _, _, _, _, _, twice_turn gd nm (some (.s ns)) (some (.d (.int k))) (some (.m 0)) (some (.d (.int (most y)))) [bg p''] b8 (some (.d (yardD (withSun y y.sun.reverse)))) (some (.d (yardD (behindY y)))) b11 b12' (some (.d (yardD (withSun y (List.replicate y.sun.length h0)))))⟩
theorem law_true (ns : List Int) (h : ns.length ≤ 63) : ∃ μ', g_law [.s ns] [] = some (.d (.bool true), μ') := by
  obtain ⟨f, ρ', μ', e, h⟩ := for_ev (m := sRng1 (sCons (s2 (fAdd false) (sA fMin (sCons (sA fLen (sCons (sVar 0) sNil)) (sCons (sC (.int 5)) sNil))) (sC (.int 2))) sNil)) (t := .nm 1) (body := l_law_2) (ρ := [some (.s ns), none, none, none, none, none, none, none, none, none, none, none, none, none, none]) (μ := []) (μ1 := []) (s := ⟨rngD 0 (min ns.length 5 + 2), none⟩) (nums (min ns.length 5 + 2)) .int (rng1_ev (by
      by_cases c : (5 : Int) < (ns.length : Int)
      · have : ((min ns.length 5 + 2 : Nat) : Int) = 7 := by omega
        rw [this]
        simp [c]
      · have : ((min ns.length 5 + 2 : Nat) : Int) = (ns.length : Int) + 2 := by omega
        rw [this]
        simp [c]) (by omega)) (rng0 _)
    (fun _ ρ μ' => (∃ a b c d e f g h i j k l m n, ρ = [some (.s ns), a, b, c, d, e, f, g, h, i, j, k, l, m, n]) ∧ μ' = []) (fun _ _ => False) ⟨⟨_, _, _, _, _, _, _, _, _, _, _, _, _, _, rfl⟩, rfl⟩ (by
      rintro j s ρ μ' hk ⟨⟨a, b, c, d, e, f, g, h, i, r10, r11, r12, r13, r14, rfl⟩, rfl⟩
      obtain ⟨rfl, hk2⟩ := nums_get hk
      obtain ⟨a2, a3, a4, a5, a6, a7, a8, a9, a10, a11, a12, a13, a14, μ2, st⟩ := turn2 ns j (by omega) b c d e f g h i r10 r11 r12 r13 r14
      exact ⟨_, .nx, _, _, rfl, st, rfl, ⟨_, _, _, _, _, _, _, _, _, _, _, _, _, _, rfl⟩, List.take_zero⟩)
  cases f with
  | nx =>
    obtain ⟨⟨a, b, c, d, e', f, g, h, i, j, k, l, m, n, rfl⟩, rfl⟩ := h
    have e : L_law_2 [some (.s ns), none, none, none, none, none, none, none, none, none, none, none, none, none, none] [] = some (.nx, [some (.s ns), a, b, c, d, e', f, g, h, i, j, k, l, m, n], []) := e
    refine ⟨[], fn_d (ρ := [some (.s ns), none, none, none, none, none, none, none, none, none, none, none, none, none, none]) (ρ' := [some (.s ns), a, b, c, d, e', f, g, h, i, j, k, l, m, n]) ?_ rfl rfl⟩
    unfold b_law
    rw [seq_nx e]
    simp
  | rt r => exact h.elim
  | ct => exact h.elim
  | bk => exact h.elim
end Sh
set_option Elab.async false
set_option linter.all false
set_option maxRecDepth 100000
namespace Sh
open PySem L2 PyProof.Rows
theorem law_sp {K : PySem.W.Frag} {H : Hp} {a : Addr} {ns : List Int} {g : Fn} {μ' : Mu} (e : g [.s ns] [] = some (.d (.bool true), μ')) (hS : SqL K H a (ns.map V.int)) : spF K 1 g [.ref a] H (fun v _ => v = .bl true) fun _ _ _ => False := by
  refine ⟨⟨[], [], H⟩, [.s ns], _, μ', rfl, rfl, e, ⟨rfl, fun i j o u b h => by simp at h, fun k o b h => by simp at h⟩, .cons ⟨a, rfl, ?_⟩ .nil, fun u v _ _ _ h => by cases h; rfl⟩
  have hF : (Wd.mk [] [] H).F = H := by
    funext b
    exact Wd.F_not (fun ⟨k, o, h, _⟩ => by simp at h)
  rw [hF]
  exact hS
end Sh
set_option Elab.async false
set_option linter.all false
set_option maxRecDepth 100000
namespace Sh
open PySem L2 PyProof.Rows
set_option maxHeartbeats 4000000 in
theorem all_mk {l : PySem.W.OpenLaw} {w : World} {K : PySem.W.Frag} {h : Heap} {mg : Str → Option Value} {fa : Addr} (X : K.In h) (G : h.Ns mainGlobals mg) (hfa : mg "law" = some (.ref fa))
    {f_law_bag f_law_take f_law_of f_law_lowest f_law_yard f_law_is_shaded f_law_shaded f_law_most f_law_good_yard f_is_shaded f_shaded f_most_sitters f_goings f_table f_best f_lots_of f_fewest f_law_count f_law_wider f_law_behind f_is_from f_are_walls f_is_lowest f_is_slant f_is_yard f_law D_fewest : Addr} {od_law_bag an_law_bag od_law_take an_law_take od_law_of an_law_of od_law_lowest an_law_lowest od_law_yard an_law_yard od_law_is_shaded an_law_is_shaded od_law_shaded an_law_shaded od_law_most an_law_most od_law_good_yard an_law_good_yard od_is_shaded an_is_shaded od_shaded an_shaded od_most_sitters an_most_sitters od_goings an_goings od_table an_table od_best an_best od_lots_of an_lots_of od_fewest an_fewest od_law_count an_law_count od_law_wider an_law_wider od_law_behind an_law_behind od_is_from an_is_from od_are_walls an_are_walls od_is_lowest an_is_lowest od_is_slant an_is_slant od_is_yard an_is_yard od_law an_law : Option Addr} {sl_law_bag sl_law_take sl_law_of sl_law_lowest sl_law_yard sl_law_is_shaded sl_law_shaded sl_law_most sl_law_good_yard sl_is_shaded sl_shaded sl_most_sitters sl_goings sl_table sl_best sl_lots_of sl_fewest sl_law_count sl_law_wider sl_law_behind sl_is_from sl_are_walls sl_is_lowest sl_is_slant sl_is_yard sl_law : Array (Option Value)} {oc_law_bag kV_law_bag dc_law_bag pm_law_bag cd_law_bag ct_law_bag oc_law_take kV_law_take dc_law_take pm_law_take cd_law_take ct_law_take oc_law_of kV_law_of dc_law_of pm_law_of cd_law_of ct_law_of oc_law_lowest kV_law_lowest dc_law_lowest pm_law_lowest cd_law_lowest ct_law_lowest oc_law_yard kV_law_yard dc_law_yard pm_law_yard cd_law_yard ct_law_yard oc_law_is_shaded kV_law_is_shaded dc_law_is_shaded pm_law_is_shaded cd_law_is_shaded ct_law_is_shaded oc_law_shaded kV_law_shaded dc_law_shaded pm_law_shaded cd_law_shaded ct_law_shaded oc_law_most kV_law_most dc_law_most pm_law_most cd_law_most ct_law_most oc_law_good_yard kV_law_good_yard dc_law_good_yard pm_law_good_yard cd_law_good_yard ct_law_good_yard oc_is_shaded kV_is_shaded dc_is_shaded pm_is_shaded cd_is_shaded ct_is_shaded oc_shaded kV_shaded dc_shaded pm_shaded cd_shaded ct_shaded oc_most_sitters kV_most_sitters dc_most_sitters pm_most_sitters cd_most_sitters ct_most_sitters oc_goings kV_goings dc_goings pm_goings cd_goings ct_goings oc_table kV_table dc_table pm_table cd_table ct_table oc_best kV_best dc_best pm_best cd_best ct_best oc_lots_of kV_lots_of dc_lots_of pm_lots_of cd_lots_of ct_lots_of oc_fewest dc_fewest pm_fewest cd_fewest ct_fewest oc_law_count kV_law_count dc_law_count pm_law_count cd_law_count ct_law_count oc_law_wider kV_law_wider dc_law_wider pm_law_wider cd_law_wider ct_law_wider oc_law_behind kV_law_behind dc_law_behind pm_law_behind cd_law_behind ct_law_behind oc_is_from kV_is_from dc_is_from pm_is_from cd_is_from ct_is_from oc_are_walls kV_are_walls dc_are_walls pm_are_walls cd_are_walls ct_are_walls oc_is_lowest kV_is_lowest dc_is_lowest pm_is_lowest cd_is_lowest ct_is_lowest oc_is_slant kV_is_slant dc_is_slant pm_is_slant cd_is_slant ct_is_slant oc_is_yard kV_is_yard dc_is_yard pm_is_yard cd_is_yard ct_is_yard oc_law kV_law dc_law pm_law cd_law ct_law : Value}
    (a_law_bag : PySem.W.nsIn K mainGlobals "_law_bag" = some (some (.ref f_law_bag))) (l_law_bag : K.lookup f_law_bag = some ⟨oc_law_bag, od_law_bag, .func (PySem.W.fnOf "_law_bag" "_law_bag" (defArgs s_law_bag) (defBody s_law_bag) (defScope s_law_bag) .none kV_law_bag dc_law_bag pm_law_bag an_law_bag cd_law_bag ct_law_bag), sl_law_bag⟩) (c_law_bag : PySem.W.codeIn K cd_law_bag "_law_bag" = true) (k_law_bag : PySem.W.keepIn K (.ref f_law_bag) = true)
    (a_law_take : PySem.W.nsIn K mainGlobals "_law_take" = some (some (.ref f_law_take))) (l_law_take : K.lookup f_law_take = some ⟨oc_law_take, od_law_take, .func (PySem.W.fnOf "_law_take" "_law_take" (defArgs s_law_take) (defBody s_law_take) (defScope s_law_take) .none kV_law_take dc_law_take pm_law_take an_law_take cd_law_take ct_law_take), sl_law_take⟩) (c_law_take : PySem.W.codeIn K cd_law_take "_law_take" = true) (k_law_take : PySem.W.keepIn K (.ref f_law_take) = true)
    (a_law_of : PySem.W.nsIn K mainGlobals "_law_of" = some (some (.ref f_law_of))) (l_law_of : K.lookup f_law_of = some ⟨oc_law_of, od_law_of, .func (PySem.W.fnOf "_law_of" "_law_of" (defArgs s_law_of) (defBody s_law_of) (defScope s_law_of) .none kV_law_of dc_law_of pm_law_of an_law_of cd_law_of ct_law_of), sl_law_of⟩) (c_law_of : PySem.W.codeIn K cd_law_of "_law_of" = true) (k_law_of : PySem.W.keepIn K (.ref f_law_of) = true)
    (a_law_lowest : PySem.W.nsIn K mainGlobals "_law_lowest" = some (some (.ref f_law_lowest))) (l_law_lowest : K.lookup f_law_lowest = some ⟨oc_law_lowest, od_law_lowest, .func (PySem.W.fnOf "_law_lowest" "_law_lowest" (defArgs s_law_lowest) (defBody s_law_lowest) (defScope s_law_lowest) .none kV_law_lowest dc_law_lowest pm_law_lowest an_law_lowest cd_law_lowest ct_law_lowest), sl_law_lowest⟩) (c_law_lowest : PySem.W.codeIn K cd_law_lowest "_law_lowest" = true) (k_law_lowest : PySem.W.keepIn K (.ref f_law_lowest) = true)
    (a_law_yard : PySem.W.nsIn K mainGlobals "_law_yard" = some (some (.ref f_law_yard))) (l_law_yard : K.lookup f_law_yard = some ⟨oc_law_yard, od_law_yard, .func (PySem.W.fnOf "_law_yard" "_law_yard" (defArgs s_law_yard) (defBody s_law_yard) (defScope s_law_yard) .none kV_law_yard dc_law_yard pm_law_yard an_law_yard cd_law_yard ct_law_yard), sl_law_yard⟩) (c_law_yard : PySem.W.codeIn K cd_law_yard "_law_yard" = true) (k_law_yard : PySem.W.keepIn K (.ref f_law_yard) = true)
    (a_law_is_shaded : PySem.W.nsIn K mainGlobals "_law_is_shaded" = some (some (.ref f_law_is_shaded))) (l_law_is_shaded : K.lookup f_law_is_shaded = some ⟨oc_law_is_shaded, od_law_is_shaded, .func (PySem.W.fnOf "_law_is_shaded" "_law_is_shaded" (defArgs s_law_is_shaded) (defBody s_law_is_shaded) (defScope s_law_is_shaded) .none kV_law_is_shaded dc_law_is_shaded pm_law_is_shaded an_law_is_shaded cd_law_is_shaded ct_law_is_shaded), sl_law_is_shaded⟩) (c_law_is_shaded : PySem.W.codeIn K cd_law_is_shaded "_law_is_shaded" = true) (k_law_is_shaded : PySem.W.keepIn K (.ref f_law_is_shaded) = true)
    (a_law_shaded : PySem.W.nsIn K mainGlobals "_law_shaded" = some (some (.ref f_law_shaded))) (l_law_shaded : K.lookup f_law_shaded = some ⟨oc_law_shaded, od_law_shaded, .func (PySem.W.fnOf "_law_shaded" "_law_shaded" (defArgs s_law_shaded) (defBody s_law_shaded) (defScope s_law_shaded) .none kV_law_shaded dc_law_shaded pm_law_shaded an_law_shaded cd_law_shaded ct_law_shaded), sl_law_shaded⟩) (c_law_shaded : PySem.W.codeIn K cd_law_shaded "_law_shaded" = true) (k_law_shaded : PySem.W.keepIn K (.ref f_law_shaded) = true)
    (a_law_most : PySem.W.nsIn K mainGlobals "_law_most" = some (some (.ref f_law_most))) (l_law_most : K.lookup f_law_most = some ⟨oc_law_most, od_law_most, .func (PySem.W.fnOf "_law_most" "_law_most" (defArgs s_law_most) (defBody s_law_most) (defScope s_law_most) .none kV_law_most dc_law_most pm_law_most an_law_most cd_law_most ct_law_most), sl_law_most⟩) (c_law_most : PySem.W.codeIn K cd_law_most "_law_most" = true) (k_law_most : PySem.W.keepIn K (.ref f_law_most) = true)
    (a_law_good_yard : PySem.W.nsIn K mainGlobals "_law_good_yard" = some (some (.ref f_law_good_yard))) (l_law_good_yard : K.lookup f_law_good_yard = some ⟨oc_law_good_yard, od_law_good_yard, .func (PySem.W.fnOf "_law_good_yard" "_law_good_yard" (defArgs s_law_good_yard) (defBody s_law_good_yard) (defScope s_law_good_yard) .none kV_law_good_yard dc_law_good_yard pm_law_good_yard an_law_good_yard cd_law_good_yard ct_law_good_yard), sl_law_good_yard⟩) (c_law_good_yard : PySem.W.codeIn K cd_law_good_yard "_law_good_yard" = true) (k_law_good_yard : PySem.W.keepIn K (.ref f_law_good_yard) = true)
    (a_is_shaded : PySem.W.nsIn K mainGlobals "is_shaded" = some (some (.ref f_is_shaded))) (l_is_shaded : K.lookup f_is_shaded = some ⟨oc_is_shaded, od_is_shaded, .func (PySem.W.fnOf "is_shaded" "is_shaded" (defArgs s_is_shaded) (defBody s_is_shaded) (defScope s_is_shaded) .none kV_is_shaded dc_is_shaded pm_is_shaded an_is_shaded cd_is_shaded ct_is_shaded), sl_is_shaded⟩) (c_is_shaded : PySem.W.codeIn K cd_is_shaded "is_shaded" = true) (k_is_shaded : PySem.W.keepIn K (.ref f_is_shaded) = true)
    (a_shaded : PySem.W.nsIn K mainGlobals "shaded" = some (some (.ref f_shaded))) (l_shaded : K.lookup f_shaded = some ⟨oc_shaded, od_shaded, .func (PySem.W.fnOf "shaded" "shaded" (defArgs s_shaded) (defBody s_shaded) (defScope s_shaded) .none kV_shaded dc_shaded pm_shaded an_shaded cd_shaded ct_shaded), sl_shaded⟩) (c_shaded : PySem.W.codeIn K cd_shaded "shaded" = true) (k_shaded : PySem.W.keepIn K (.ref f_shaded) = true)
    (a_most_sitters : PySem.W.nsIn K mainGlobals "most_sitters" = some (some (.ref f_most_sitters))) (l_most_sitters : K.lookup f_most_sitters = some ⟨oc_most_sitters, od_most_sitters, .func (PySem.W.fnOf "most_sitters" "most_sitters" (defArgs s_most_sitters) (defBody s_most_sitters) (defScope s_most_sitters) .none kV_most_sitters dc_most_sitters pm_most_sitters an_most_sitters cd_most_sitters ct_most_sitters), sl_most_sitters⟩) (c_most_sitters : PySem.W.codeIn K cd_most_sitters "most_sitters" = true) (k_most_sitters : PySem.W.keepIn K (.ref f_most_sitters) = true)
    (a_goings : PySem.W.nsIn K mainGlobals "goings" = some (some (.ref f_goings))) (l_goings : K.lookup f_goings = some ⟨oc_goings, od_goings, .func (PySem.W.fnOf "goings" "goings" (defArgs s_goings) (defBody s_goings) (defScope s_goings) .none kV_goings dc_goings pm_goings an_goings cd_goings ct_goings), sl_goings⟩) (c_goings : PySem.W.codeIn K cd_goings "goings" = true) (k_goings : PySem.W.keepIn K (.ref f_goings) = true)
    (a_table : PySem.W.nsIn K mainGlobals "table" = some (some (.ref f_table))) (l_table : K.lookup f_table = some ⟨oc_table, od_table, .func (PySem.W.fnOf "table" "table" (defArgs s_table) (defBody s_table) (defScope s_table) .none kV_table dc_table pm_table an_table cd_table ct_table), sl_table⟩) (c_table : PySem.W.codeIn K cd_table "table" = true) (k_table : PySem.W.keepIn K (.ref f_table) = true)
    (a_best : PySem.W.nsIn K mainGlobals "best" = some (some (.ref f_best))) (l_best : K.lookup f_best = some ⟨oc_best, od_best, .func (PySem.W.fnOf "best" "best" (defArgs s_best) (defBody s_best) (defScope s_best) .none kV_best dc_best pm_best an_best cd_best ct_best), sl_best⟩) (c_best : PySem.W.codeIn K cd_best "best" = true) (k_best : PySem.W.keepIn K (.ref f_best) = true)
    (a_lots_of : PySem.W.nsIn K mainGlobals "lots_of" = some (some (.ref f_lots_of))) (l_lots_of : K.lookup f_lots_of = some ⟨oc_lots_of, od_lots_of, .func (PySem.W.fnOf "lots_of" "lots_of" (defArgs s_lots_of) (defBody s_lots_of) (defScope s_lots_of) .none kV_lots_of dc_lots_of pm_lots_of an_lots_of cd_lots_of ct_lots_of), sl_lots_of⟩) (c_lots_of : PySem.W.codeIn K cd_lots_of "lots_of" = true) (k_lots_of : PySem.W.keepIn K (.ref f_lots_of) = true)
    (a_fewest : PySem.W.nsIn K mainGlobals "fewest" = some (some (.ref f_fewest))) (l_fewest : K.lookup f_fewest = some ⟨oc_fewest, od_fewest, .func (PySem.W.fnOf "fewest" "fewest" (defArgs s_fewest) (defBody s_fewest) (defScope s_fewest) .none (.ref D_fewest) dc_fewest pm_fewest an_fewest cd_fewest ct_fewest), sl_fewest⟩) (c_fewest : PySem.W.codeIn K cd_fewest "fewest" = true) (k_fewest : PySem.W.keepIn K (.ref f_fewest) = true) (d_fewest : PySem.W.nsIn K D_fewest "first" = some (some .none))
    (a_law_count : PySem.W.nsIn K mainGlobals "_law_count" = some (some (.ref f_law_count))) (l_law_count : K.lookup f_law_count = some ⟨oc_law_count, od_law_count, .func (PySem.W.fnOf "_law_count" "_law_count" (defArgs s_law_count) (defBody s_law_count) (defScope s_law_count) .none kV_law_count dc_law_count pm_law_count an_law_count cd_law_count ct_law_count), sl_law_count⟩) (c_law_count : PySem.W.codeIn K cd_law_count "_law_count" = true) (k_law_count : PySem.W.keepIn K (.ref f_law_count) = true)
    (a_law_wider : PySem.W.nsIn K mainGlobals "_law_wider" = some (some (.ref f_law_wider))) (l_law_wider : K.lookup f_law_wider = some ⟨oc_law_wider, od_law_wider, .func (PySem.W.fnOf "_law_wider" "_law_wider" (defArgs s_law_wider) (defBody s_law_wider) (defScope s_law_wider) .none kV_law_wider dc_law_wider pm_law_wider an_law_wider cd_law_wider ct_law_wider), sl_law_wider⟩) (c_law_wider : PySem.W.codeIn K cd_law_wider "_law_wider" = true) (k_law_wider : PySem.W.keepIn K (.ref f_law_wider) = true)
    (a_law_behind : PySem.W.nsIn K mainGlobals "_law_behind" = some (some (.ref f_law_behind))) (l_law_behind : K.lookup f_law_behind = some ⟨oc_law_behind, od_law_behind, .func (PySem.W.fnOf "_law_behind" "_law_behind" (defArgs s_law_behind) (defBody s_law_behind) (defScope s_law_behind) .none kV_law_behind dc_law_behind pm_law_behind an_law_behind cd_law_behind ct_law_behind), sl_law_behind⟩) (c_law_behind : PySem.W.codeIn K cd_law_behind "_law_behind" = true) (k_law_behind : PySem.W.keepIn K (.ref f_law_behind) = true)
    (a_is_from : PySem.W.nsIn K mainGlobals "is_from" = some (some (.ref f_is_from))) (l_is_from : K.lookup f_is_from = some ⟨oc_is_from, od_is_from, .func (PySem.W.fnOf "is_from" "is_from" (defArgs s_is_from) (defBody s_is_from) (defScope s_is_from) .none kV_is_from dc_is_from pm_is_from an_is_from cd_is_from ct_is_from), sl_is_from⟩) (c_is_from : PySem.W.codeIn K cd_is_from "is_from" = true) (k_is_from : PySem.W.keepIn K (.ref f_is_from) = true)
    (a_are_walls : PySem.W.nsIn K mainGlobals "are_walls" = some (some (.ref f_are_walls))) (l_are_walls : K.lookup f_are_walls = some ⟨oc_are_walls, od_are_walls, .func (PySem.W.fnOf "are_walls" "are_walls" (defArgs s_are_walls) (defBody s_are_walls) (defScope s_are_walls) .none kV_are_walls dc_are_walls pm_are_walls an_are_walls cd_are_walls ct_are_walls), sl_are_walls⟩) (c_are_walls : PySem.W.codeIn K cd_are_walls "are_walls" = true) (k_are_walls : PySem.W.keepIn K (.ref f_are_walls) = true)
    (a_is_lowest : PySem.W.nsIn K mainGlobals "is_lowest" = some (some (.ref f_is_lowest))) (l_is_lowest : K.lookup f_is_lowest = some ⟨oc_is_lowest, od_is_lowest, .func (PySem.W.fnOf "is_lowest" "is_lowest" (defArgs s_is_lowest) (defBody s_is_lowest) (defScope s_is_lowest) .none kV_is_lowest dc_is_lowest pm_is_lowest an_is_lowest cd_is_lowest ct_is_lowest), sl_is_lowest⟩) (c_is_lowest : PySem.W.codeIn K cd_is_lowest "is_lowest" = true) (k_is_lowest : PySem.W.keepIn K (.ref f_is_lowest) = true)
    (a_is_slant : PySem.W.nsIn K mainGlobals "is_slant" = some (some (.ref f_is_slant))) (l_is_slant : K.lookup f_is_slant = some ⟨oc_is_slant, od_is_slant, .func (PySem.W.fnOf "is_slant" "is_slant" (defArgs s_is_slant) (defBody s_is_slant) (defScope s_is_slant) .none kV_is_slant dc_is_slant pm_is_slant an_is_slant cd_is_slant ct_is_slant), sl_is_slant⟩) (c_is_slant : PySem.W.codeIn K cd_is_slant "is_slant" = true) (k_is_slant : PySem.W.keepIn K (.ref f_is_slant) = true)
    (a_is_yard : PySem.W.nsIn K mainGlobals "is_yard" = some (some (.ref f_is_yard))) (l_is_yard : K.lookup f_is_yard = some ⟨oc_is_yard, od_is_yard, .func (PySem.W.fnOf "is_yard" "is_yard" (defArgs s_is_yard) (defBody s_is_yard) (defScope s_is_yard) .none kV_is_yard dc_is_yard pm_is_yard an_is_yard cd_is_yard ct_is_yard), sl_is_yard⟩) (c_is_yard : PySem.W.codeIn K cd_is_yard "is_yard" = true) (k_is_yard : PySem.W.keepIn K (.ref f_is_yard) = true)
    (a_law : PySem.W.nsIn K mainGlobals "law" = some (some (.ref f_law))) (l_law : K.lookup f_law = some ⟨oc_law, od_law, .func (PySem.W.fnOf "law" "law" (defArgs s_law) (defBody s_law) (defScope s_law) .none kV_law dc_law pm_law an_law cd_law ct_law), sl_law⟩) (c_law : PySem.W.codeIn K cd_law "law" = true) (k_law : PySem.W.keepIn K (.ref f_law) = true)
    (z_all : PySem.W.nsIn K mainGlobals "all" = some none)
    (z_bool : PySem.W.nsIn K mainGlobals "bool" = some none)
    (z_int : PySem.W.nsIn K mainGlobals "int" = some none)
    (z_isinstance : PySem.W.nsIn K mainGlobals "isinstance" = some none)
    (z_len : PySem.W.nsIn K mainGlobals "len" = some none)
    (z_min : PySem.W.nsIn K mainGlobals "min" = some none)
    (z_range : PySem.W.nsIn K mainGlobals "range" = some none)
    (z_reversed : PySem.W.nsIn K mainGlobals "reversed" = some none)
    (z_sorted : PySem.W.nsIn K mainGlobals "sorted" = some none)
    (z_str : PySem.W.nsIn K mainGlobals "str" = some none)
    (z_tuple : PySem.W.nsIn K mainGlobals "tuple" = some none)
    (z_zip : PySem.W.nsIn K mainGlobals "zip" = some none)
    {t_HIGH : Tok} (q_HIGH : PySem.W.nsIn K mainGlobals "HIGH" = some (some (.int 9 t_HIGH)))
    {t_HOURS : Tok} (q_HOURS : PySem.W.nsIn K mainGlobals "HOURS" = some (some (.int 8 t_HOURS)))
    {t_SEATS : Tok} (q_SEATS : PySem.W.nsIn K mainGlobals "SEATS" = some (some (.int 8 t_SEATS)))
    {t_SLANT : Tok} (q_SLANT : PySem.W.nsIn K mainGlobals "SLANT" = some (some (.int 9 t_SLANT)))
    {t_WALLS : Tok} (q_WALLS : PySem.W.nsIn K mainGlobals "WALLS" = some (some (.int 8 t_WALLS))) :
    ∃ fd : FuncData, (∀ (s : Shared) (v : Value), BindsTo s fd ⟨[v], []⟩ [("script", v)]) ∧ ∀ base : Heap, K.In base → base.Ns mainGlobals mg → FnOk l.prog w K mg base CX0 6 fa fd ["script"] (spF K 1 g_law) := by
  have e := hfa.symm.trans (PySem.W.mg_of X G a_law)
  cases e
  have T : Txt mg := ⟨PySem.W.mg_none_of X G z_all, PySem.W.mg_none_of X G z_bool, PySem.W.mg_none_of X G z_int, PySem.W.mg_none_of X G z_isinstance, PySem.W.mg_none_of X G z_len, PySem.W.mg_none_of X G z_min, PySem.W.mg_none_of X G z_range, PySem.W.mg_none_of X G z_reversed, PySem.W.mg_none_of X G z_sorted, PySem.W.mg_none_of X G z_str, PySem.W.mg_none_of X G z_tuple, PySem.W.mg_none_of X G z_zip, ⟨_, PySem.W.mg_of X G q_HIGH⟩, ⟨_, PySem.W.mg_of X G q_HOURS⟩, ⟨_, PySem.W.mg_of X G q_SEATS⟩, ⟨_, PySem.W.mg_of X G q_SLANT⟩, ⟨_, PySem.W.mg_of X G q_WALLS⟩⟩
  have F_law_bag := fun_mk (st := s_law_bag) l_law_bag c_law_bag k_law_bag
  have F_law_take := fun_mk (st := s_law_take) l_law_take c_law_take k_law_take
  have F_law_of := fun_mk (st := s_law_of) l_law_of c_law_of k_law_of
  have F_law_lowest := fun_mk (st := s_law_lowest) l_law_lowest c_law_lowest k_law_lowest
  have F_law_yard := fun_mk (st := s_law_yard) l_law_yard c_law_yard k_law_yard
  have F_law_is_shaded := fun_mk (st := s_law_is_shaded) l_law_is_shaded c_law_is_shaded k_law_is_shaded
  have F_law_shaded := fun_mk (st := s_law_shaded) l_law_shaded c_law_shaded k_law_shaded
  have F_law_most := fun_mk (st := s_law_most) l_law_most c_law_most k_law_most
  have F_law_good_yard := fun_mk (st := s_law_good_yard) l_law_good_yard c_law_good_yard k_law_good_yard
  have F_is_shaded := fun_mk (st := s_is_shaded) l_is_shaded c_is_shaded k_is_shaded
  have F_shaded := fun_mk (st := s_shaded) l_shaded c_shaded k_shaded
  have F_most_sitters := fun_mk (st := s_most_sitters) l_most_sitters c_most_sitters k_most_sitters
  have F_goings := fun_mk (st := s_goings) l_goings c_goings k_goings
  have F_table := fun_mk (st := s_table) l_table c_table k_table
  have F_best := fun_mk (st := s_best) l_best c_best k_best
  have F_lots_of := fun_mk (st := s_lots_of) l_lots_of c_lots_of k_lots_of
  have F_fewest := fund_mk (st := s_fewest) l_fewest c_fewest k_fewest d_fewest
  have F_law_count := fun_mk (st := s_law_count) l_law_count c_law_count k_law_count
  have F_law_wider := fun_mk (st := s_law_wider) l_law_wider c_law_wider k_law_wider
  have F_law_behind := fun_mk (st := s_law_behind) l_law_behind c_law_behind k_law_behind
  have F_is_from := fun_mk (st := s_is_from) l_is_from c_is_from k_is_from
  have F_are_walls := fun_mk (st := s_are_walls) l_are_walls c_are_walls k_are_walls
  have F_is_lowest := fun_mk (st := s_is_lowest) l_is_lowest c_is_lowest k_is_lowest
  have F_is_slant := fun_mk (st := s_is_slant) l_is_slant c_is_slant k_is_slant
  have F_is_yard := fun_mk (st := s_is_yard) l_is_yard c_is_yard k_is_yard
  have F_law := fun_mk (st := s_law) l_law c_law k_law
  refine ⟨PySem.W.fnOf "law" "law" (defArgs s_law) (defBody s_law) (defScope s_law) .none kV_law dc_law pm_law an_law cd_law ct_law, fun s v => .of_eq rfl, fun base _ _ => ?_⟩
  have C_law_bag := cal_law_bag (P := l.prog) (w := w) (base := base) T  F_law_bag (PySem.W.mg_of X G a_law_bag)
  have C_law_take := cal_law_take (P := l.prog) (w := w) (base := base) T  F_law_take (PySem.W.mg_of X G a_law_take)
  have C_law_of := cal_law_of (P := l.prog) (w := w) (base := base) T C_law_take F_law_of (PySem.W.mg_of X G a_law_of)
  have C_law_lowest := cal_law_lowest (P := l.prog) (w := w) (base := base) T  F_law_lowest (PySem.W.mg_of X G a_law_lowest)
  have C_law_yard := cal_law_yard (P := l.prog) (w := w) (base := base) T C_law_lowest C_law_of C_law_take F_law_yard (PySem.W.mg_of X G a_law_yard)
  have C_law_is_shaded := cal_law_is_shaded (P := l.prog) (w := w) (base := base) T  F_law_is_shaded (PySem.W.mg_of X G a_law_is_shaded)
  have C_law_shaded := cal_law_shaded (P := l.prog) (w := w) (base := base) T C_law_is_shaded F_law_shaded (PySem.W.mg_of X G a_law_shaded)
  have C_law_most := cal_law_most (P := l.prog) (w := w) (base := base) T C_law_shaded F_law_most (PySem.W.mg_of X G a_law_most)
  have C_law_good_yard := cal_law_good_yard (P := l.prog) (w := w) (base := base) T C_law_most C_law_yard F_law_good_yard (PySem.W.mg_of X G a_law_good_yard)
  have C_is_shaded := cal_is_shaded (P := l.prog) (w := w) (base := base) T  F_is_shaded (PySem.W.mg_of X G a_is_shaded)
  have C_shaded := cal_shaded (P := l.prog) (w := w) (base := base) T C_is_shaded F_shaded (PySem.W.mg_of X G a_shaded)
  have C_most_sitters := cal_most_sitters (P := l.prog) (w := w) (base := base) T C_shaded F_most_sitters (PySem.W.mg_of X G a_most_sitters)
  have C_goings := cal_goings (P := l.prog) (w := w) (base := base) T  F_goings (PySem.W.mg_of X G a_goings)
  have C_table := cal_table (P := l.prog) (w := w) (base := base) T C_goings F_table (PySem.W.mg_of X G a_table)
  have C_best := cal_best (P := l.prog) (w := w) (base := base) T C_table F_best (PySem.W.mg_of X G a_best)
  have C_lots_of := cal_lots_of (P := l.prog) (w := w) (base := base) T  F_lots_of (PySem.W.mg_of X G a_lots_of)
  have C_fewest := cal_fewest (P := l.prog) (w := w) (base := base) T C_best C_lots_of C_shaded F_fewest (PySem.W.mg_of X G a_fewest)
  have C_law_count := cal_law_count (P := l.prog) (w := w) (base := base) T C_fewest F_law_count (PySem.W.mg_of X G a_law_count)
  have C_law_wider := cal_law_wider (P := l.prog) (w := w) (base := base) T C_law_take F_law_wider (PySem.W.mg_of X G a_law_wider)
  have C_law_behind := cal_law_behind (P := l.prog) (w := w) (base := base) T  F_law_behind (PySem.W.mg_of X G a_law_behind)
  have C_is_from := cal_is_from (P := l.prog) (w := w) (base := base) T  F_is_from (PySem.W.mg_of X G a_is_from)
  have C_are_walls := cal_are_walls (P := l.prog) (w := w) (base := base) T C_is_from F_are_walls (PySem.W.mg_of X G a_are_walls)
  have C_is_lowest := cal_is_lowest (P := l.prog) (w := w) (base := base) T  F_is_lowest (PySem.W.mg_of X G a_is_lowest)
  have C_is_slant := cal_is_slant (P := l.prog) (w := w) (base := base) T C_is_from C_is_lowest F_is_slant (PySem.W.mg_of X G a_is_slant)
  have C_is_yard := cal_is_yard (P := l.prog) (w := w) (base := base) T C_are_walls C_is_from C_is_slant F_is_yard (PySem.W.mg_of X G a_is_yard)
  exact ok_law T C_law_bag C_law_behind C_law_count C_law_good_yard C_law_take C_law_wider C_is_yard C_most_sitters C_shaded F_law
theorem walk {l : PySem.W.OpenLaw} {q : Program} {loose : List Str} {XP : (Str → Option Value) → Heap → Prop} {YP : World → Heap → Prop} {d : DefRec} {K : Params → PySem.W.Frag} (hn : l.most = some 63) (hdf : d.params.defaults = [])
    (hY : ∀ (w : World) (h : Heap), YP w h → (K w.params).In h)
    (F : ∀ (w : World) (mg : Str → Option Value) (fa : Addr) (h : Heap), (K w.params).In h → h.Ns mainGlobals mg → mg d.name = some (.ref fa) →
      ∃ fd : FuncData, (∀ (s : Shared) (u : Value), BindsTo s fd ⟨[u], []⟩ [("script", u)]) ∧ ∀ base : Heap, (K w.params).In base → base.Ns mainGlobals mg → FnOk l.prog w (K w.params) mg base CX0 6 fa fd ["script"] (spF (K w.params) 1 g_law)) :
    PySem.W.WalkO q loose XP YP l.row.toRowW d [] (fun f vs => PySem.call f vs) :=
  L2.walk_of (n := 63) (k := 6) (x := "script") (CX := fun _ => CX0) (sp := fun w => spF (K w.params) 1 g_law) hn (by decide) hdf ⟨rfl, by decide, by decide⟩ hY F (fun w H a ns hl _ hS => by
    obtain ⟨μ', e⟩ := law_true ns hl
    exact law_sp e hS) fun _ _ _ _ _ z => z
end Sh
open PySem PySem.W PyProof.Rows in
set_option maxRecDepth 100000 in
set_option maxHeartbeats 0 in
theorem PySem.Challenge.cw_shadehours_k05_whole_yards_go_together_holds : PySem.Challenge.rw_shadehours_k05_whole_yards_go_together.Holds := by
  w_on; o_law; k_head; (case hw => w_witness2)
  k_fill
  refine Sh.walk (l := PySem.Challenge.rw_shadehours_k05_whole_yards_go_together) rfl rfl (fun w h Y => PySem.W.kIn_of Y) ?F
  case F =>
    intro w mg fa h KX G hmg
    refine' Sh.all_mk KX G hmg ?a_law_bag ?l_law_bag ?c_law_bag ?k_law_bag ?a_law_take ?l_law_take ?c_law_take ?k_law_take ?a_law_of ?l_law_of ?c_law_of ?k_law_of ?a_law_lowest ?l_law_lowest ?c_law_lowest ?k_law_lowest ?a_law_yard ?l_law_yard ?c_law_yard ?k_law_yard ?a_law_is_shaded ?l_law_is_shaded ?c_law_is_shaded ?k_law_is_shaded ?a_law_shaded ?l_law_shaded ?c_law_shaded ?k_law_shaded ?a_law_most ?l_law_most ?c_law_most ?k_law_most ?a_law_good_yard ?l_law_good_yard ?c_law_good_yard ?k_law_good_yard ?a_is_shaded ?l_is_shaded ?c_is_shaded ?k_is_shaded ?a_shaded ?l_shaded ?c_shaded ?k_shaded ?a_most_sitters ?l_most_sitters ?c_most_sitters ?k_most_sitters ?a_goings ?l_goings ?c_goings ?k_goings ?a_table ?l_table ?c_table ?k_table ?a_best ?l_best ?c_best ?k_best ?a_lots_of ?l_lots_of ?c_lots_of ?k_lots_of ?a_fewest ?l_fewest ?c_fewest ?k_fewest ?d_fewest ?a_law_count ?l_law_count ?c_law_count ?k_law_count ?a_law_wider ?l_law_wider ?c_law_wider ?k_law_wider ?a_law_behind ?l_law_behind ?c_law_behind ?k_law_behind ?a_is_from ?l_is_from ?c_is_from ?k_is_from ?a_are_walls ?l_are_walls ?c_are_walls ?k_are_walls ?a_is_lowest ?l_is_lowest ?c_is_lowest ?k_is_lowest ?a_is_slant ?l_is_slant ?c_is_slant ?k_is_slant ?a_is_yard ?l_is_yard ?c_is_yard ?k_is_yard ?a_law ?l_law ?c_law ?k_law ?z_all ?z_bool ?z_int ?z_isinstance ?z_len ?z_min ?z_range ?z_reversed ?z_sorted ?z_str ?z_tuple ?z_zip ?q_HIGH ?q_HOURS ?q_SEATS ?q_SLANT ?q_WALLS
    (case a_law_bag => k_is)
    (case l_law_bag => k_is)
    (case c_law_bag => k_is)
    (case k_law_bag => k_is)
    (case a_law_take => k_is)
    (case l_law_take => k_is)
    (case c_law_take => k_is)
    (case k_law_take => k_is)
    (case a_law_of => k_is)
    (case l_law_of => k_is)
    (case c_law_of => k_is)
    (case k_law_of => k_is)
    (case a_law_lowest => k_is)
    (case l_law_lowest => k_is)
    (case c_law_lowest => k_is)
    (case k_law_lowest => k_is)
    (case a_law_yard => k_is)
    (case l_law_yard => k_is)
    (case c_law_yard => k_is)
    (case k_law_yard => k_is)
    (case a_law_is_shaded => k_is)
    (case l_law_is_shaded => k_is)
    (case c_law_is_shaded => k_is)
    (case k_law_is_shaded => k_is)
    (case a_law_shaded => k_is)
    (case l_law_shaded => k_is)
    (case c_law_shaded => k_is)
    (case k_law_shaded => k_is)
    (case a_law_most => k_is)
    (case l_law_most => k_is)
    (case c_law_most => k_is)
    (case k_law_most => k_is)
    (case a_law_good_yard => k_is)
    (case l_law_good_yard => k_is)
    (case c_law_good_yard => k_is)
    (case k_law_good_yard => k_is)
    (case a_is_shaded => k_is)
    (case l_is_shaded => k_is)
    (case c_is_shaded => k_is)
    (case k_is_shaded => k_is)
    (case a_shaded => k_is)
    (case l_shaded => k_is)
    (case c_shaded => k_is)
    (case k_shaded => k_is)
    (case a_most_sitters => k_is)
    (case l_most_sitters => k_is)
    (case c_most_sitters => k_is)
    (case k_most_sitters => k_is)
    (case a_goings => k_is)
    (case l_goings => k_is)
    (case c_goings => k_is)
    (case k_goings => k_is)
    (case a_table => k_is)
    (case l_table => k_is)
    (case c_table => k_is)
    (case k_table => k_is)
    (case a_best => k_is)
    (case l_best => k_is)
    (case c_best => k_is)
    (case k_best => k_is)
    (case a_lots_of => k_is)
    (case l_lots_of => k_is)
    (case c_lots_of => k_is)
    (case k_lots_of => k_is)
    (case a_fewest => k_is)
    (case l_fewest => k_is)
    (case c_fewest => k_is)
    (case k_fewest => k_is)
    (case d_fewest => k_is)
    (case a_law_count => k_is)
    (case l_law_count => k_is)
    (case c_law_count => k_is)
    (case k_law_count => k_is)
    (case a_law_wider => k_is)
    (case l_law_wider => k_is)
    (case c_law_wider => k_is)
    (case k_law_wider => k_is)
    (case a_law_behind => k_is)
    (case l_law_behind => k_is)
    (case c_law_behind => k_is)
    (case k_law_behind => k_is)
    (case a_is_from => k_is)
    (case l_is_from => k_is)
    (case c_is_from => k_is)
    (case k_is_from => k_is)
    (case a_are_walls => k_is)
    (case l_are_walls => k_is)
    (case c_are_walls => k_is)
    (case k_are_walls => k_is)
    (case a_is_lowest => k_is)
    (case l_is_lowest => k_is)
    (case c_is_lowest => k_is)
    (case k_is_lowest => k_is)
    (case a_is_slant => k_is)
    (case l_is_slant => k_is)
    (case c_is_slant => k_is)
    (case k_is_slant => k_is)
    (case a_is_yard => k_is)
    (case l_is_yard => k_is)
    (case c_is_yard => k_is)
    (case k_is_yard => k_is)
    (case a_law => k_is)
    (case l_law => k_is)
    (case c_law => k_is)
    (case k_law => k_is)
    (case z_all => k_is)
    (case z_bool => k_is)
    (case z_int => k_is)
    (case z_isinstance => k_is)
    (case z_len => k_is)
    (case z_min => k_is)
    (case z_range => k_is)
    (case z_reversed => k_is)
    (case z_sorted => k_is)
    (case z_str => k_is)
    (case z_tuple => k_is)
    (case z_zip => k_is)
    (case q_HIGH => k_is)
    (case q_HOURS => k_is)
    (case q_SEATS => k_is)
    (case q_SLANT => k_is)
    (case q_WALLS => k_is)
#print axioms PySem.Challenge.cw_shadehours_k05_whole_yards_go_together_holds
