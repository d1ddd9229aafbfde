import PyProof.Rows.All
import Wide.All
import OpenK.AllK
import Wide.FinOn
import HandS.ForMost
import HandS.Style
import HandS.TupAny
import HandS.IsInst
import HandS.Wide
import HandS.TupMul
import HandS.Zip
import HandS.Rev
import HandS.SetFor
import HandS.Strs
import HandS.DictTup
import HandS.SortInts
import HandS.Conv
import KE.DatumOrd
import KE.GoesEnum
import HandS.Defaults
import HandS.DictComp
import HandS.Iter
import HandS.SortRule
import PyProof.TupleOfSeq
import PySem.Challenge.RW_shadehours_k08_whole_written_yards_at_ev
set_option Elab.async false
set_option linter.all false
set_option maxRecDepth 100000
namespace Sh
open PySem L2

/-! ### values of the evaluator -/
/-- what an expression yields: data that stands still; a thing of the store; the script -/
inductive Rv where
  | d (x : PyData)
  | m (k : Nat)
  | s (ns : List Int)
/-- a thing of the store, which may change -/
inductive Mo where
  | lst (xs : List PyData)
  | dT (es : List (PyData × PyData))
  | dK (kvs : List (Int × Int))
  | day (C : Addr) (y : PyData) (j : Nat)
  | dead
abbrev Mu := List Mo
abbrev Ro := List (Option Rv)

mutual
inductive Rp (F : Hp) : V → PyData → Prop
  | non : Rp F .non .none
  | bl (b : Bool) : Rp F (.bl b) (.bool b)
  | int (i : Int) : Rp F (.int i) (.int i)
  | str (z : Str) : Rp F (.str z) (.str z)
  | lst {a : Addr} {xs : List V} {ds : List PyData} : F a = some (.lst xs) → RpAll F xs ds → Rp F (.ref a) (.list ds)
  | tup {a : Addr} {xs : List V} {ds : List PyData} : F a = some (.tup xs) → RpAll F xs ds → Rp F (.ref a) (.tuple ds)
  | dct {a : Addr} {ws : List (List Key × V)} {es : List (PyData × PyData)} : Rd F a (.dT ws) → RpKV F ws es → Rp F (.ref a) (.dict es)
inductive RpAll (F : Hp) : List V → List PyData → Prop
  | nil : RpAll F [] []
  | cons {v : V} {vs : List V} {d : PyData} {ds : List PyData} : Rp F v d → RpAll F vs ds → RpAll F (v :: vs) (d :: ds)
inductive RpKV (F : Hp) : List (List Key × V) → List (PyData × PyData) → Prop
  | nil : RpKV F [] []
  | cons {k : List Int} {v : V} {ws : List (List Key × V)} {e : PyData} {es : List (PyData × PyData)} : Rp F v e → RpKV F ws es →
      RpKV F ((k.map Sum.inl, v) :: ws) ((.tuple (k.map .int), e) :: es)
end

/-- what is read of still things stays -/
structure LeR (F F' : Hp) : Prop where
  lst : ∀ a xs, F a = some (.lst xs) → F' a = some (.lst xs)
  tup : ∀ a xs, F a = some (.tup xs) → F' a = some (.tup xs)
  rdl : ∀ a xs, Rd F a (.lst xs) → Rd F' a (.lst xs)
  rdt : ∀ a ws, Rd F a (.dT ws) → Rd F' a (.dT ws)
theorem LeR.refl (F : Hp) : LeR F F := ⟨fun _ _ h => h, fun _ _ h => h, fun _ _ h => h, fun _ _ h => h⟩
theorem LeR.trans {F G J : Hp} (x : LeR F G) (y : LeR G J) : LeR F J :=
  ⟨fun a u h => y.lst a u (x.lst a u h), fun a u h => y.tup a u (x.tup a u h), fun a u h => y.rdl a u (x.rdl a u h), fun a u h => y.rdt a u (x.rdt a u h)⟩
theorem LeR.of_same {F F' : Hp} (h : ∀ a u, F a = some u → F' a = some u) : LeR F F' :=
  ⟨fun a _ e => h a _ e, fun a _ e => h a _ e, fun a _ e => e.elim (fun e => .inl (h a _ e)) fun ⟨o, e⟩ => .inr ⟨o, h a _ e⟩,
   fun a _ e => e.elim (fun e => .inl (h a _ e)) fun ⟨o, e⟩ => .inr ⟨o, h a _ e⟩⟩

section
variable {F F' : Hp} (hl : LeR F F')
mutual
theorem Rp.mono {F F' : Hp} (hl : LeR F F') : ∀ (d : PyData) (v : V), Rp F v d → Rp F' v d
  | .none, _, h => by cases h; exact .non
  | .bool _, _, h => by cases h; exact .bl _
  | .int _, _, h => by cases h; exact .int _
  | .str _, _, h => by cases h; exact .str _
  | .list ds, _, h => by
    cases h with
    | lst e r => exact .lst (hl.lst _ _ e) (RpAll.mono hl ds _ r)
  | .tuple ds, _, h => by
    cases h with
    | tup e r => exact .tup (hl.tup _ _ e) (RpAll.mono hl ds _ r)
  | .dict es, _, h => by
    cases h with
    | dct e r => exact .dct (hl.rdt _ _ e) (RpKV.mono hl es _ r)
theorem RpAll.mono {F F' : Hp} (hl : LeR F F') : ∀ (ds : List PyData) (vs : List V), RpAll F vs ds → RpAll F' vs ds
  | [], _, h => by cases h; exact .nil
  | d :: ds, _, h => by
    cases h with
    | cons h1 h2 => exact .cons (Rp.mono hl d _ h1) (RpAll.mono hl ds _ h2)
theorem RpKV.mono {F F' : Hp} (hl : LeR F F') : ∀ (es : List (PyData × PyData)) (ws : List (List Key × V)), RpKV F ws es → RpKV F' ws es
  | [], _, h => by cases h; exact .nil
  | (_, e) :: es, _, h => by
    cases h with
    | cons h1 h2 => exact .cons (Rp.mono hl e _ h1) (RpKV.mono hl es _ h2)
end
end

theorem RpAll.length {F : Hp} : ∀ {vs : List V} {ds : List PyData}, RpAll F vs ds → vs.length = ds.length
  | _, _, .nil => rfl
  | _, _, .cons _ t => congrArg (· + 1) t.length
theorem RpAll.get {F : Hp} : ∀ {vs : List V} {ds : List PyData} {i : Nat} {d : PyData}, RpAll F vs ds → ds[i]? = some d → ∃ v, vs[i]? = some v ∧ Rp F v d
  | _, _, _, _, .nil, e => by simp at e
  | _, _, 0, _, .cons r _, e => by simp at e; subst e; exact ⟨_, rfl, r⟩
  | _, _, i + 1, _, .cons _ t, e => by
    obtain ⟨v, h1, h2⟩ := RpAll.get (i := i) t (by simpa using e)
    exact ⟨v, by simpa using h1, h2⟩
theorem RpAll.getV {F : Hp} {vs : List V} {ds : List PyData} {i : Nat} {v : V} (r : RpAll F vs ds) (e : vs[i]? = some v) : ∃ d, ds[i]? = some d ∧ Rp F v d := by
  have hlt : i < ds.length := by rw [← r.length]; exact (List.getElem?_eq_some_iff.mp e).1
  obtain ⟨v', h1, h2⟩ := r.get (List.getElem?_eq_getElem hlt)
  rw [e] at h1; cases h1
  exact ⟨_, List.getElem?_eq_getElem hlt, h2⟩
theorem RpAll.append {F : Hp} : ∀ {vs : List V} {ds : List PyData} {us : List V} {es : List PyData}, RpAll F vs ds → RpAll F us es → RpAll F (vs ++ us) (ds ++ es)
  | _, _, _, _, .nil, h => h
  | _, _, _, _, .cons r t, h => .cons r (t.append h)
theorem RpAll.one {F : Hp} {v : V} {d : PyData} (h : Rp F v d) : RpAll F [v] [d] := .cons h .nil
theorem RpAll.set {F : Hp} {v : V} {d : PyData} (h : Rp F v d) : ∀ {vs : List V} {ds : List PyData} (i : Nat), RpAll F vs ds → RpAll F (vs.set i v) (ds.set i d)
  | _, _, _, .nil => .nil
  | _, _, 0, .cons _ t => .cons h t
  | _, _, i + 1, .cons r t => .cons r (RpAll.set h i t)
theorem RpAll.take {F : Hp} : ∀ {vs : List V} {ds : List PyData} (n : Nat), RpAll F vs ds → RpAll F (vs.take n) (ds.take n)
  | _, _, 0, _ => .nil
  | _, _, _ + 1, .nil => .nil
  | _, _, n + 1, .cons r t => .cons r (t.take n)
theorem RpAll.drop {F : Hp} : ∀ {vs : List V} {ds : List PyData} (n : Nat), RpAll F vs ds → RpAll F (vs.drop n) (ds.drop n)
  | _, _, 0, r => r
  | _, _, _ + 1, .nil => .nil
  | _, _, n + 1, .cons _ t => t.drop n
theorem RpAll.eraseIdx {F : Hp} : ∀ {vs : List V} {ds : List PyData} (n : Nat), RpAll F vs ds → RpAll F (vs.eraseIdx n) (ds.eraseIdx n)
  | _, _, _, .nil => .nil
  | _, _, 0, .cons _ t => t
  | _, _, n + 1, .cons r t => .cons r (t.eraseIdx n)
theorem RpAll.reverse {F : Hp} : ∀ {vs : List V} {ds : List PyData}, RpAll F vs ds → RpAll F vs.reverse ds.reverse
  | _, _, .nil => .nil
  | _, _, .cons r t => by rw [List.reverse_cons, List.reverse_cons]; exact t.reverse.append (.one r)
theorem RpAll.dropLast {F : Hp} {vs : List V} {ds : List PyData} (h : RpAll F vs ds) : RpAll F vs.dropLast ds.dropLast := by
  rw [List.dropLast_eq_take, List.dropLast_eq_take, h.length]; exact h.take _
theorem RpAll.rep {F : Hp} {vs : List V} {ds : List PyData} (h : RpAll F vs ds) : ∀ k : Nat, RpAll F (List.replicate k vs).flatten (List.replicate k ds).flatten
  | 0 => .nil
  | k + 1 => by rw [List.replicate_succ, List.replicate_succ, List.flatten_cons, List.flatten_cons]; exact h.append (h.rep k)
theorem RpAll.ints {F : Hp} : ∀ {ns : List Int} {vs : List V}, RpAll F vs (ns.map .int) → vs = ns.map V.int
  | [], _, h => by cases h; rfl
  | n :: ns, _, h => by
    cases h with
    | cons h1 h2 => cases h1; rw [RpAll.ints h2]; rfl
theorem RpAll.ofInts {F : Hp} : ∀ ns : List Int, RpAll F (ns.map V.int) (ns.map .int)
  | [] => .nil
  | n :: ns => .cons (.int n) (RpAll.ofInts ns)
theorem RpAll.bools {F : Hp} : ∀ {bs : List Bool} {vs : List V}, RpAll F vs (bs.map .bool) → vs = bs.map V.bl
  | [], _, h => by cases h; rfl
  | n :: ns, _, h => by
    cases h with
    | cons h1 h2 => cases h1; rw [RpAll.bools h2]; rfl

/-! ### worlds: the store, its places, the abstract heap -/
structure Wd where
  μ : Mu
  A : List Addr
  H : Hp
def Wd.live (w : Wd) (a : Addr) : Prop := ∃ (k : Nat) (o : Mo), w.μ[k]? = some o ∧ o ≠ Mo.dead ∧ w.A[k]? = some a
open Classical in
/-- the heap but for what may change -/
noncomputable def Wd.F (w : Wd) : Hp := fun a => if w.live a then none else w.H a
theorem Wd.F_live {w : Wd} {a : Addr} (h : w.live a) : w.F a = none := by unfold Wd.F; rw [if_pos h]
theorem Wd.F_not {w : Wd} {a : Addr} (h : ¬ w.live a) : w.F a = w.H a := by unfold Wd.F; rw [if_neg h]
theorem Wd.F_some {w : Wd} {a : Addr} {o : HO} (h : w.F a = some o) : w.H a = some o ∧ ¬ w.live a := by
  by_cases hl : w.live a
  · rw [Wd.F_live hl] at h; cases h
  · rw [Wd.F_not hl] at h; exact ⟨h, hl⟩
theorem Wd.toH (w : Wd) : LeR w.F w.H := LeR.of_same fun _ _ h => (Wd.F_some h).1

def dayF (y : V) (l : Addr) : List (Str × V) := [("yard", y), ("rows", .ref l)]
def MoOk (A : List Addr) (k : Nat) (F H : Hp) (a : Addr) : Mo → Prop
  | .lst ds => ∃ xs, H a = some (.lst xs) ∧ RpAll F xs ds
  | .dT es => ∃ ws, H a = some (.dT ws) ∧ RpKV F ws es
  | .dK kvs => H a = some (.dK (kvs.map fun p => (Sum.inl p.1, V.int p.2)))
  | .day C y j => ∃ dx v l, H a = some (.ins C dx (dayF v l)) ∧ Rp F v y ∧ j < k ∧ A[j]? = some l
  | .dead => True
structure Wd.Ok (w : Wd) : Prop where
  len : w.A.length = w.μ.length
  inj : ∀ (i j : Nat) (o u : Mo) (a : Addr), w.μ[i]? = some o → w.μ[j]? = some u → o ≠ Mo.dead → u ≠ Mo.dead → w.A[i]? = some a → w.A[j]? = some a → i = j
  ok : ∀ (k : Nat) (o : Mo) (a : Addr), w.μ[k]? = some o → w.A[k]? = some a → MoOk w.A k w.F w.H a o

structure Wd.le (w u : Wd) : Prop where
  pre : w.A <+: u.A
  le : LeR w.F u.F
  frz : ∀ a o z, w.F a = some (.frz o z) → u.F a = some (.frz o z)
  ins : ∀ a C dx fs, w.F a = some (.ins C dx fs) → u.F a = some (.ins C dx fs)
theorem Wd.le.refl (w : Wd) : w.le w := ⟨List.prefix_rfl, LeR.refl _, fun _ _ _ h => h, fun _ _ _ _ h => h⟩
theorem Wd.le.trans {w u z : Wd} (x : w.le u) (y : u.le z) : w.le z := ⟨x.pre.trans y.pre, x.le.trans y.le, fun a o q h => y.frz a o q (x.frz a o q h), fun a o q r h => y.ins a o q r (x.ins a o q r h)⟩
theorem Wd.le.at {w u : Wd} (x : w.le u) {k : Nat} {a : Addr} (h : w.A[k]? = some a) : u.A[k]? = some a := by
  obtain ⟨t, e⟩ := x.pre
  rw [← e, List.getElem?_append_left (List.getElem?_eq_some_iff.mp h).1]; exact h

theorem Wd.Ok.lives {w : Wd} (h : w.Ok) {a : Addr} (hl : w.live a) : ∃ o, w.H a = some o := by
  obtain ⟨k, o, e1, e2, e3⟩ := hl
  have := h.ok k o a e1 e3
  cases o with
  | lst ds => obtain ⟨xs, e, _⟩ := this; exact ⟨_, e⟩
  | dT es => obtain ⟨ws, e, _⟩ := this; exact ⟨_, e⟩
  | dK kvs => exact ⟨_, this⟩
  | day C y j => obtain ⟨dx, v, l, e, _⟩ := this; exact ⟨_, e⟩
  | dead => exact absurd rfl e2
theorem Wd.Ok.free {w : Wd} (h : w.Ok) {p : Addr} (hp : w.H p = none) : ¬ w.live p := fun hl => by
  obtain ⟨o, e⟩ := h.lives hl
  rw [hp] at e; cases e
theorem Wd.Ok.addr {w : Wd} (h : w.Ok) {k : Nat} {o : Mo} (e : w.μ[k]? = some o) : ∃ a, w.A[k]? = some a := by
  have hk : k < w.A.length := by rw [h.len]; exact (List.getElem?_eq_some_iff.mp e).1
  exact ⟨_, List.getElem?_eq_getElem hk⟩
theorem MoOk.mono {A A' : List Addr} {k : Nat} {F F' H H' : Hp} {a : Addr} {o : Mo} (h : MoOk A k F H a o) (hl : LeR F F') (e : o ≠ Mo.dead → H' a = H a) (hA : ∀ j l, j < k → A[j]? = some l → A'[j]? = some l) : MoOk A' k F' H' a o := by
  cases o with
  | lst ds => obtain ⟨xs, e1, r⟩ := h; exact ⟨xs, (e (by intro z; cases z)).trans e1, RpAll.mono hl _ _ r⟩
  | dT es => obtain ⟨xs, e1, r⟩ := h; exact ⟨xs, (e (by intro z; cases z)).trans e1, RpKV.mono hl _ _ r⟩
  | dK kvs => exact (e (by intro z; cases z)).trans h
  | day C y j => obtain ⟨dx, v, l, e1, r, hj, q⟩ := h; exact ⟨dx, v, l, (e (by intro z; cases z)).trans e1, Rp.mono hl _ _ r, hj, hA j l hj q⟩
  | dead => trivial
@[simp] def Mo.isDay : Mo → Bool
  | .day _ _ _ => true
  | _ => false
/-- a thing other than a day may stand anywhere in the store -/
theorem MoOk.move {A A' : List Addr} {k k' : Nat} {F F' H H' : Hp} {a : Addr} {o : Mo} (h : MoOk A k F H a o) (hd : o.isDay = false) (hl : LeR F F') (e : o ≠ Mo.dead → H' a = H a) : MoOk A' k' F' H' a o := by
  cases o with
  | lst ds => obtain ⟨xs, e1, r⟩ := h; exact ⟨xs, (e (by intro z; cases z)).trans e1, RpAll.mono hl _ _ r⟩
  | dT es => obtain ⟨xs, e1, r⟩ := h; exact ⟨xs, (e (by intro z; cases z)).trans e1, RpKV.mono hl _ _ r⟩
  | dK kvs => exact (e (by intro z; cases z)).trans h
  | day C y j => cases hd
  | dead => trivial

/-- a new thing that stands still -/
def Wd.put (w : Wd) (p : Addr) (o : HO) : Wd := { w with H := upd w.H p o }
theorem Wd.put_F {w : Wd} (h : w.Ok) {p : Addr} {o : HO} (hp : w.H p = none) : (w.put p o).F = upd w.F p o := by
  funext a
  have hl : (w.put p o).live a ↔ w.live a := Iff.rfl
  by_cases ha : a = p
  · subst ha
    rw [upd_same, Wd.F_not (fun z => h.free hp (hl.mp z))]
    exact upd_same
  · rw [upd_ne ha]
    by_cases hv : w.live a
    · rw [Wd.F_live (hl.mpr hv), Wd.F_live hv]
    · rw [Wd.F_not (fun z => hv (hl.mp z)), Wd.F_not hv]
      exact upd_ne ha
theorem Wd.put_le {w : Wd} (h : w.Ok) {p : Addr} {o : HO} (hp : w.H p = none) : w.le (w.put p o) := by
  have hs : ∀ a u, w.F a = some u → (w.put p o).F a = some u := fun a u e => by
    rw [Wd.put_F h hp, upd_ne (ne_of_none (Wd.F_some e).1 hp)]; exact e
  exact ⟨List.prefix_rfl, LeR.of_same hs, fun a _ _ e => hs a _ e, fun a _ _ _ e => hs a _ e⟩
theorem Wd.put_ok {w : Wd} (h : w.Ok) {p : Addr} {o : HO} (hp : w.H p = none) : (w.put p o).Ok := by
  refine ⟨h.len, h.inj, fun k m a e1 e2 => (h.ok k m a e1 e2).mono (Wd.put_le h hp).le (fun hd => ?_) fun _ _ _ q => q⟩
  have hl : w.live a := ⟨k, m, e1, hd, e2⟩
  obtain ⟨u, e⟩ := h.lives hl
  exact upd_ne (ne_of_none e hp)
theorem Wd.put_at {w : Wd} (h : w.Ok) {p : Addr} {o : HO} (hp : w.H p = none) : (w.put p o).F p = some o := by rw [Wd.put_F h hp, upd_same]

/-- a new thing that may change -/
def Wd.new (w : Wd) (p : Addr) (m : Mo) (o : HO) : Wd := ⟨w.μ ++ [m], w.A ++ [p], upd w.H p o⟩
theorem get_snoc {α : Type} (l : List α) (x : α) (k : Nat) (y : α) : (l ++ [x])[k]? = some y ↔ l[k]? = some y ∨ (k = l.length ∧ x = y) := by
  rcases Nat.lt_trichotomy k l.length with h | h | h
  · rw [List.getElem?_append_left h]
    constructor
    · exact .inl
    · rintro (e | ⟨e, _⟩)
      · exact e
      · omega
  · subst h
    rw [List.getElem?_append_right (Nat.le_refl _), Nat.sub_self, List.getElem?_eq_none (Nat.le_refl l.length)]
    constructor
    · intro e; exact .inr ⟨rfl, by simpa using e⟩
    · rintro (e | ⟨_, e⟩)
      · cases e
      · simpa using e
  · rw [List.getElem?_eq_none (by rw [List.length_append, List.length_singleton]; omega), List.getElem?_eq_none (by omega)]
    constructor
    · intro e; cases e
    · rintro (e | ⟨e, _⟩)
      · cases e
      · omega
theorem Wd.new_live {w : Wd} (h : w.Ok) {p : Addr} {m : Mo} {o : HO} (hd : m ≠ Mo.dead) (a : Addr) : (w.new p m o).live a ↔ w.live a ∨ a = p := by
  constructor
  · rintro ⟨k, u, e1, e2, e3⟩
    rcases (get_snoc _ _ _ _).mp e1 with e1 | ⟨e1, rfl⟩
    · rcases (get_snoc _ _ _ _).mp e3 with e3 | ⟨e3, e4⟩
      · exact .inl ⟨k, u, e1, e2, e3⟩
      · exact .inr e4.symm
    · rcases (get_snoc _ _ _ _).mp e3 with e3 | ⟨e3, e4⟩
      · have := (List.getElem?_eq_some_iff.mp e3).1
        rw [h.len] at this; omega
      · exact .inr e4.symm
  · rintro (⟨k, u, e1, e2, e3⟩ | rfl)
    · exact ⟨k, u, (get_snoc _ _ _ _).mpr (.inl e1), e2, (get_snoc _ _ _ _).mpr (.inl e3)⟩
    · exact ⟨w.μ.length, m, (get_snoc _ _ _ _).mpr (.inr ⟨rfl, rfl⟩), hd, (get_snoc _ _ _ _).mpr (.inr ⟨h.len.symm, rfl⟩)⟩
theorem Wd.new_same {w : Wd} (h : w.Ok) {p : Addr} {m : Mo} {o : HO} (hd : m ≠ Mo.dead) (hp : w.H p = none) : ∀ a u, w.F a = some u → (w.new p m o).F a = some u := fun a u e => by
  obtain ⟨e1, e2⟩ := Wd.F_some e
  have ne := ne_of_none e1 hp
  rw [Wd.F_not (fun z => ((Wd.new_live h hd a).mp z).elim e2 ne)]
  exact (upd_ne ne).trans e1
theorem Wd.new_le {w : Wd} (h : w.Ok) {p : Addr} {m : Mo} {o : HO} (hd : m ≠ Mo.dead) (hp : w.H p = none) : w.le (w.new p m o) :=
  ⟨List.prefix_append _ _, LeR.of_same (Wd.new_same h hd hp), fun a _ _ e => Wd.new_same h hd hp a _ e, fun a _ _ _ e => Wd.new_same h hd hp a _ e⟩
theorem Wd.new_at {w : Wd} (h : w.Ok) {p : Addr} {m : Mo} {o : HO} {k : Nat} {x : Mo} {a : Addr} (e1 : (w.new p m o).μ[k]? = some x) (e2 : (w.new p m o).A[k]? = some a) :
    (w.μ[k]? = some x ∧ w.A[k]? = some a) ∨ (k = w.μ.length ∧ x = m ∧ a = p) := by
  rcases (get_snoc _ _ _ _).mp e1 with e1 | ⟨e1, e3⟩
  · rcases (get_snoc _ _ _ _).mp e2 with e2 | ⟨e2, _⟩
    · exact .inl ⟨e1, e2⟩
    · have := (List.getElem?_eq_some_iff.mp e1).1
      rw [← h.len, ← e2] at this
      exact absurd this (Nat.lt_irrefl _)
  · rcases (get_snoc _ _ _ _).mp e2 with e2 | ⟨_, e4⟩
    · have := (List.getElem?_eq_some_iff.mp e2).1
      rw [h.len, ← e1] at this
      exact absurd this (Nat.lt_irrefl _)
    · exact .inr ⟨e1, e3.symm, e4.symm⟩
theorem Wd.new_ok {w : Wd} (h : w.Ok) {p : Addr} {m : Mo} {o : HO} (hd : m ≠ Mo.dead) (hp : w.H p = none) (hm : MoOk (w.A ++ [p]) w.μ.length w.F (upd w.H p o) p m) : (w.new p m o).Ok := by
  refine ⟨by show (w.A ++ [p]).length = (w.μ ++ [m]).length; rw [List.length_append, List.length_append, h.len]; rfl, ?_, ?_⟩
  · intro i j x y a e1 e2 d1 d2 f1 f2
    have nA : ∀ (k : Nat) (x : Mo), w.μ[k]? = some x → x ≠ Mo.dead → w.A[k]? = some p → False := fun k x q1 q2 q3 => h.free hp ⟨k, x, q1, q2, q3⟩
    rcases Wd.new_at h e1 f1 with ⟨g1, h1⟩ | ⟨g1, r1, s1⟩ <;> rcases Wd.new_at h e2 f2 with ⟨g2, h2⟩ | ⟨g2, r2, s2⟩
    · exact h.inj i j x y a g1 g2 d1 d2 h1 h2
    · rw [s2] at h1; exact (nA _ _ g1 d1 h1).elim
    · rw [s1] at h2; exact (nA _ _ g2 d2 h2).elim
    · rw [g1, g2]
  · intro k x a e1 e2
    rcases Wd.new_at h e1 e2 with ⟨e1, e2⟩ | ⟨rfl, rfl, rfl⟩
    · refine (h.ok k x a e1 e2).mono (Wd.new_le h hd hp).le (fun hx => ?_) fun j l _ q => (get_snoc _ _ _ _).mpr (.inl q)
      obtain ⟨u, e⟩ := h.lives ⟨k, x, e1, hx, e2⟩
      exact upd_ne (ne_of_none e hp)
    · exact hm.mono (Wd.new_le h hd hp).le (fun _ => rfl) fun _ _ _ q => q

/-- a thing of the store changed -/
def Wd.chg (w : Wd) (k : Nat) (a : Addr) (m : Mo) (o : HO) : Wd := ⟨w.μ.set k m, w.A, upd w.H a o⟩
theorem get_set {α : Type} {l : List α} {k j : Nat} {x y : α} (h : (l.set k x)[j]? = some y) : (j = k ∧ x = y ∧ k < l.length) ∨ (j ≠ k ∧ l[j]? = some y) := by
  by_cases e : k = j
  · subst e
    have hk : k < l.length := by have := (List.getElem?_eq_some_iff.mp h).1; rwa [List.length_set] at this
    rw [List.getElem?_set_self hk] at h
    exact .inl ⟨rfl, by simpa using h, hk⟩
  · rw [List.getElem?_set_ne e] at h
    exact .inr ⟨fun z => e z.symm, h⟩
section
variable {w : Wd} {k : Nat} {a : Addr} {m m' : Mo} {o : HO}
theorem Wd.chg_live (h : w.Ok) (hk : w.μ[k]? = some m) (hd : m ≠ Mo.dead) (hd' : m' ≠ Mo.dead) (ha : w.A[k]? = some a) (b : Addr) : (w.chg k a m' o).live b ↔ w.live b := by
  constructor
  · rintro ⟨j, u, e1, e2, e3⟩
    rcases get_set e1 with ⟨rfl, rfl, _⟩ | ⟨_, e1⟩
    · exact ⟨_, m, hk, hd, e3⟩
    · exact ⟨j, u, e1, e2, e3⟩
  · rintro ⟨j, u, e1, e2, e3⟩
    by_cases e : k = j
    · subst e
      exact ⟨k, m', by show (w.μ.set k m')[k]? = _; rw [List.getElem?_set_self (List.getElem?_eq_some_iff.mp e1).1], hd', e3⟩
    · exact ⟨j, u, by show (w.μ.set k m')[j]? = _; rw [List.getElem?_set_ne e]; exact e1, e2, e3⟩
theorem Wd.chg_F (h : w.Ok) (hk : w.μ[k]? = some m) (hd : m ≠ Mo.dead) (hd' : m' ≠ Mo.dead) (ha : w.A[k]? = some a) : (w.chg k a m' o).F = w.F := by
  funext b
  by_cases hb : w.live b
  · rw [Wd.F_live hb, Wd.F_live ((Wd.chg_live h hk hd hd' ha b).mpr hb)]
  · rw [Wd.F_not hb, Wd.F_not (fun z => hb ((Wd.chg_live h hk hd hd' ha b).mp z))]
    refine upd_ne fun e => hb ?_
    subst e; exact ⟨k, m, hk, hd, ha⟩
theorem Wd.chg_le (h : w.Ok) (hk : w.μ[k]? = some m) (hd : m ≠ Mo.dead) (hd' : m' ≠ Mo.dead) (ha : w.A[k]? = some a) : w.le (w.chg k a m' o) :=
  ⟨List.prefix_rfl, by rw [Wd.chg_F h hk hd hd' ha]; exact LeR.refl _, fun b _ _ e => by rw [Wd.chg_F h hk hd hd' ha]; exact e, fun b _ _ _ e => by rw [Wd.chg_F h hk hd hd' ha]; exact e⟩
theorem Wd.chg_ok (h : w.Ok) (hk : w.μ[k]? = some m) (hd : m ≠ Mo.dead) (hd' : m' ≠ Mo.dead) (ha : w.A[k]? = some a) (hm : MoOk w.A k w.F (upd w.H a o) a m') : (w.chg k a m' o).Ok := by
  have hF := Wd.chg_F (o := o) h hk hd hd' ha
  refine ⟨by show w.A.length = (w.μ.set k m').length; rw [List.length_set]; exact h.len, ?_, ?_⟩
  · intro i j x y b e1 e2 d1 d2 f1 f2
    rcases get_set e1 with ⟨r1, _, _⟩ | ⟨n1, g1⟩ <;> rcases get_set e2 with ⟨r2, _, _⟩ | ⟨n2, g2⟩
    · rw [r1, r2]
    · exact h.inj _ _ _ _ _ (by rw [r1]; exact hk) g2 hd d2 f1 f2
    · exact h.inj _ _ _ _ _ g1 (by rw [r2]; exact hk) d1 hd f1 f2
    · exact h.inj _ _ _ _ _ g1 g2 d1 d2 f1 f2
  · intro j x b e1 e2
    rw [hF]
    rcases get_set e1 with ⟨rfl, rfl, _⟩ | ⟨n1, g1⟩
    · have e2 : w.A[j]? = some b := e2
      rw [ha] at e2; cases e2; exact hm
    · refine (h.ok j x b g1 e2).mono (LeR.refl _) (fun hx => upd_ne fun e => n1 ?_) fun _ _ _ q => q
      exact h.inj _ _ _ _ _ g1 hk hx hd (by rw [← e]; exact e2) ha
end

/-- a thing of the store is let stand still -/
def Wd.stop (w : Wd) (k : Nat) : Wd := { w with μ := w.μ.set k .dead }
section
variable {w : Wd} {k : Nat} {a : Addr} {m : Mo}
theorem Wd.stop_live (h : w.Ok) (hk : w.μ[k]? = some m) (hd : m ≠ Mo.dead) (ha : w.A[k]? = some a) (b : Addr) : (w.stop k).live b ↔ w.live b ∧ b ≠ a := by
  constructor
  · rintro ⟨j, u, e1, e2, e3⟩
    rcases get_set e1 with ⟨rfl, rfl, _⟩ | ⟨n, e1⟩
    · exact absurd rfl e2
    · refine ⟨⟨j, u, e1, e2, e3⟩, fun e => ?_⟩
      subst e
      exact n (h.inj _ _ _ _ _ e1 hk e2 hd e3 ha)
  · rintro ⟨⟨j, u, e1, e2, e3⟩, n⟩
    have hj : k ≠ j := fun e => n (by subst e; rw [ha] at e3; exact (Option.some.inj e3).symm)
    exact ⟨j, u, by show (w.μ.set k .dead)[j]? = _; rw [List.getElem?_set_ne hj]; exact e1, e2, e3⟩
theorem Wd.stop_same (h : w.Ok) (hk : w.μ[k]? = some m) (hd : m ≠ Mo.dead) (ha : w.A[k]? = some a) : ∀ b u, w.F b = some u → (w.stop k).F b = some u := fun b u e => by
  obtain ⟨e1, e2⟩ := Wd.F_some e
  rw [Wd.F_not (fun z => e2 ((Wd.stop_live h hk hd ha b).mp z).1)]; exact e1
theorem Wd.stop_le (h : w.Ok) (hk : w.μ[k]? = some m) (hd : m ≠ Mo.dead) (ha : w.A[k]? = some a) : w.le (w.stop k) :=
  ⟨List.prefix_rfl, LeR.of_same (Wd.stop_same h hk hd ha), fun b _ _ e => Wd.stop_same h hk hd ha b _ e, fun b _ _ _ e => Wd.stop_same h hk hd ha b _ e⟩
theorem Wd.stop_ok (h : w.Ok) (hk : w.μ[k]? = some m) (hd : m ≠ Mo.dead) (ha : w.A[k]? = some a) : (w.stop k).Ok := by
  refine ⟨by show w.A.length = (w.μ.set k .dead).length; rw [List.length_set]; exact h.len, ?_, ?_⟩
  · intro i j x y b e1 e2 d1 d2 f1 f2
    rcases get_set e1 with ⟨_, rfl, _⟩ | ⟨_, e1⟩
    · exact absurd rfl d1
    rcases get_set e2 with ⟨_, rfl, _⟩ | ⟨_, e2⟩
    · exact absurd rfl d2
    exact h.inj _ _ _ _ _ e1 e2 d1 d2 f1 f2
  · intro j x b e1 e2
    rcases get_set e1 with ⟨_, rfl, _⟩ | ⟨_, e1⟩
    · trivial
    · exact (h.ok j x b e1 e2).mono (Wd.stop_le h hk hd ha).le (fun _ => rfl) fun _ _ _ q => q
theorem Wd.stop_at (h : w.Ok) (hk : w.μ[k]? = some m) (hd : m ≠ Mo.dead) (ha : w.A[k]? = some a) : (w.stop k).F a = w.H a := by
  rw [Wd.F_not (fun z => ((Wd.stop_live h hk hd ha a).mp z).2 rfl)]; rfl
end

/-- the store is cut behind its first n things -/
def Wd.cut (w : Wd) (n : Nat) : Wd := ⟨w.μ.take n, w.A.take n, w.H⟩
theorem get_take {α : Type} {l : List α} {n k : Nat} {x : α} : (l.take n)[k]? = some x ↔ k < n ∧ l[k]? = some x := by
  rw [List.getElem?_take]
  by_cases h : k < n
  · rw [if_pos h]; exact Iff.intro (fun e => And.intro h e) (fun e => e.2)
  · rw [if_neg h]; exact Iff.intro (fun e => nomatch e) (fun e => absurd e.1 h)
section
variable {w : Wd}
theorem Wd.cut_live (n : Nat) (b : Addr) : (w.cut n).live b → w.live b := by
  rintro ⟨k, o, e1, e2, e3⟩
  exact ⟨k, o, (get_take.mp e1).2, e2, (get_take.mp e3).2⟩
theorem Wd.cut_same (n : Nat) : ∀ b u, w.F b = some u → (w.cut n).F b = some u := fun b u e => by
  obtain ⟨e1, e2⟩ := Wd.F_some e
  rw [Wd.F_not (fun z => e2 (Wd.cut_live n b z))]; exact e1
theorem Wd.cut_leR (n : Nat) : LeR w.F (w.cut n).F := LeR.of_same (Wd.cut_same n)
theorem Wd.cut_ok (h : w.Ok) (n : Nat) : (w.cut n).Ok := by
  refine ⟨by show (w.A.take n).length = (w.μ.take n).length; rw [List.length_take, List.length_take, h.len], ?_, ?_⟩
  · intro i j x y b e1 e2 d1 d2 f1 f2
    exact h.inj _ _ _ _ _ (get_take.mp e1).2 (get_take.mp e2).2 d1 d2 (get_take.mp f1).2 (get_take.mp f2).2
  · intro k o a e1 e2
    exact (h.ok k o a (get_take.mp e1).2 (get_take.mp e2).2).mono (Wd.cut_leR n) (fun _ => rfl) fun j l hj q => get_take.mpr ⟨Nat.lt_trans hj (get_take.mp e1).1, q⟩
/-- behind a block that began at u -/
theorem Wd.cut_le {u : Wd} (hu : u.Ok) (h : u.le w) : u.le (w.cut u.μ.length) := by
  refine ⟨?_, h.le.trans (Wd.cut_leR _), fun a o z e => Wd.cut_same _ a _ (h.frz a o z e), fun a o z r e => Wd.cut_same _ a _ (h.ins a o z r e)⟩
  obtain ⟨t, e⟩ := h.pre
  show u.A <+: w.A.take u.μ.length
  rw [← e, ← hu.len, List.take_left]
  exact List.prefix_rfl
theorem Wd.cut_A {u : Wd} (hu : u.Ok) (h : u.le w) : (w.cut u.μ.length).A = u.A := by
  obtain ⟨t, e⟩ := h.pre
  show w.A.take u.μ.length = u.A
  rw [← e, ← hu.len, List.take_left]
end

/-! ### what a value of the evaluator is in a world -/
def RpR (K : PySem.W.Frag) (w : Wd) : Rv → V → Prop
  | .d x, v => Rp w.F v x
  | .m k, v => ∃ a, w.A[k]? = some a ∧ v = .ref a
  | .s ns, v => ∃ a, v = .ref a ∧ SqL K w.F a (ns.map V.int)
theorem SqL.monoR {K : PySem.W.Frag} {F F' : Hp} {a : Addr} {xs : List V} (hl : LeR F F') (h : SqL K F a xs) : SqL K F' a xs := by
  rcases h with h | h
  · exact .inl (hl.rdl _ _ h)
  · exact .inr h
theorem RpR.mono {K : PySem.W.Frag} {w u : Wd} (h : w.le u) : ∀ {r : Rv} {v : V}, RpR K w r v → RpR K u r v
  | .d x, v, r => Rp.mono h.le x v r
  | .m k, v, ⟨a, e, r⟩ => ⟨a, h.at e, r⟩
  | .s ns, v, ⟨a, e, r⟩ => ⟨a, e, SqL.monoR h.le r⟩
/-- the names' values -/
structure Slots (K : PySem.W.Frag) (ρ : Ro) (w : Wd) (σ : L2.St) : Prop where
  len : ρ.length = σ.length
  get : ∀ (i : Nat) (r : Rv), ρ[i]? = some (some r) → ∃ v, σ[i]? = some (some v) ∧ RpR K w r v
theorem Slots.mono {K : PySem.W.Frag} {ρ : Ro} {w u : Wd} {σ : L2.St} (h : w.le u) (s : Slots K ρ w σ) : Slots K ρ u σ :=
  ⟨s.len, fun i r e => let ⟨v, e1, e2⟩ := s.get i r e; ⟨v, e1, e2.mono h⟩⟩
theorem Slots.set {K : PySem.W.Frag} {ρ : Ro} {w : Wd} {σ : L2.St} (s : Slots K ρ w σ) {r : Rv} {v : V} (h : RpR K w r v) (i : Nat) : Slots K (ρ.set i (some r)) w (σ.set i (some v)) := by
  refine ⟨by rw [List.length_set, List.length_set, s.len], fun j q e => ?_⟩
  rcases get_set e with ⟨rfl, e, hj⟩ | ⟨n, e⟩
  · cases e
    exact ⟨v, by rw [List.getElem?_set_self (by rw [← s.len]; exact hj)], h⟩
  · obtain ⟨u, e1, e2⟩ := s.get j q e
    exact ⟨u, by rw [List.getElem?_set_ne (Ne.symm n)]; exact e1, e2⟩
/-- names of things behind n are forgotten -/
@[simp] def cutR (n : Nat) (ρ : Ro) : Ro := ρ.map fun o => match o with
  | some (.m k) => if k < n then some (.m k) else none
  | o => o
theorem Slots.cut {K : PySem.W.Frag} {ρ : Ro} {w : Wd} {σ : L2.St} (s : Slots K ρ w σ) (n : Nat) : Slots K (cutR n ρ) (w.cut n) σ := by
  refine ⟨by unfold cutR; rw [List.length_map]; exact s.len, fun i r e => ?_⟩
  unfold cutR at e
  rw [List.getElem?_map] at e
  cases q : ρ[i]? with
  | none => rw [q] at e; cases e
  | some o =>
    rw [q] at e
    simp only [Option.map_some, Option.some.injEq] at e
    cases o with
    | none => cases e
    | some x =>
      obtain ⟨v, e1, e2⟩ := s.get i x q
      cases x with
      | d x =>
        simp only [Option.some.injEq] at e; subst e
        exact ⟨v, e1, Rp.mono (Wd.cut_leR n) _ _ e2⟩
      | m k =>
        simp only at e
        split at e
        · rename_i hk
          simp only [Option.some.injEq] at e; subst e
          obtain ⟨a, e3, e4⟩ := e2
          exact ⟨v, e1, a, get_take.mpr ⟨hk, e3⟩, e4⟩
        · cases e
      | s ns =>
        simp only [Option.some.injEq] at e; subst e
        obtain ⟨a, e3, e4⟩ := e2
        exact ⟨v, e1, a, e3, SqL.monoR (Wd.cut_leR n) e4⟩
theorem Slots.wipe {K : PySem.W.Frag} {ρ : Ro} {w : Wd} {σ : L2.St} (s : Slots K ρ w σ) : ∀ vs : List Nat, ∃ ρ', ρ' = vs.foldr (fun i ρ => ρ.set i none) ρ ∧ Slots K ρ' w (L2.wipe σ vs)
  | [] => ⟨_, rfl, s⟩
  | i :: vs => by
    obtain ⟨ρ', e, h⟩ := Slots.wipe s vs
    refine ⟨_, rfl, ?_⟩
    rw [List.foldr_cons, ← e]
    show Slots K (ρ'.set i none) w ((L2.wipe σ vs).set i none)
    refine ⟨by rw [List.length_set, List.length_set, h.len], fun j q e => ?_⟩
    rcases get_set e with ⟨rfl, e, _⟩ | ⟨n, e⟩
    · cases e
    · obtain ⟨u, e1, e2⟩ := h.get j q e
      exact ⟨u, by rw [List.getElem?_set_ne (Ne.symm n)]; exact e1, e2⟩

/-! ### reading -/
/-- the data that stands there now -/
@[simp] def rd (μ : Mu) : Rv → Option PyData
  | .d x => some x
  | .m k => match μ[k]? with
    | some (.lst ds) => some (.list ds)
    | some (.dT es) => some (.dict es)
    | _ => none
  | .s _ => none
/-- a datum whose top may be read now, its parts standing still -/
def RpT (F H : Hp) (v : V) : PyData → Prop
  | .list ds => ∃ a xs, v = .ref a ∧ H a = some (.lst xs) ∧ RpAll F xs ds
  | .tuple ds => ∃ a xs, v = .ref a ∧ H a = some (.tup xs) ∧ RpAll F xs ds
  | .dict es => ∃ a ws, v = .ref a ∧ Rd H a (.dT ws) ∧ RpKV F ws es
  | .int i => v = .int i
  | .bool b => v = .bl b
  | .str z => v = .str z
  | .none => v = .non
theorem Wd.rdH {w : Wd} {a : Addr} {u : HO} (h : Rd w.F a u) : Rd w.H a u := h.elim (fun e => .inl (Wd.F_some e).1) fun ⟨o, e⟩ => .inr ⟨o, (Wd.F_some e).1⟩
theorem Rp.top {w : Wd} {v : V} : ∀ {d : PyData}, Rp w.F v d → RpT w.F w.H v d
  | .list ds, h => by cases h with | lst e r => exact ⟨_, _, rfl, (Wd.F_some e).1, r⟩
  | .tuple ds, h => by cases h with | tup e r => exact ⟨_, _, rfl, (Wd.F_some e).1, r⟩
  | .dict es, h => by cases h with | dct e r => exact ⟨_, _, rfl, Wd.rdH e, r⟩
  | .int i, h => by cases h; rfl
  | .bool b, h => by cases h; rfl
  | .str z, h => by cases h; rfl
  | .none, h => by cases h; rfl
theorem RpR.rd {K : PySem.W.Frag} {w : Wd} (hw : w.Ok) : ∀ {r : Rv} {v : V} {x : PyData}, RpR K w r v → rd w.μ r = some x → RpT w.F w.H v x
  | .d y, v, x, h, e => by
    have e : some y = some x := e
    cases e
    exact Rp.top h
  | .m k, v, x, ⟨a, ha, hv⟩, e => by
    have e : (match w.μ[k]? with | some (.lst ds) => some (.list ds) | some (.dT es) => some (.dict es) | _ => none) = some x := e
    cases q : w.μ[k]? with
    | none => rw [q] at e; cases e
    | some o =>
      have hm := hw.ok k o a q ha
      rw [q] at e
      cases o with
      | lst ds =>
        obtain ⟨xs, e1, e2⟩ := hm
        cases e
        exact ⟨a, xs, hv, e1, e2⟩
      | dT es =>
        obtain ⟨xs, e1, e2⟩ := hm
        cases e
        exact ⟨a, xs, hv, .inl e1, e2⟩
      | dK kvs => cases e
      | day C y j => cases e
      | dead => cases e
  | .s ns, v, x, h, e => by cases e
theorem RpT.full {w : Wd} {v : V} : ∀ {d : PyData}, RpT w.F w.H v d → Rp w.H v d
  | .list ds, ⟨a, xs, e1, e2, e3⟩ => by subst e1; exact .lst e2 (RpAll.mono w.toH _ _ e3)
  | .tuple ds, ⟨a, xs, e1, e2, e3⟩ => by subst e1; exact .tup e2 (RpAll.mono w.toH _ _ e3)
  | .dict ds, ⟨a, xs, e1, e2, e3⟩ => by subst e1; exact .dct e2 (RpKV.mono w.toH _ _ e3)
  | .int i, h => by cases h; exact .int i
  | .bool i, h => by cases h; exact .bl i
  | .str i, h => by cases h; exact .str i
  | .none, h => by cases h; exact .non
end Sh
set_option Elab.async false
set_option linter.all false
set_option maxRecDepth 100000
namespace Sh
open PySem L2

/-! ### the judgements' readings -/
abbrev Sm := Ro → Mu → Option (Rv × Mu)
abbrev Sb := Ro → Mu → Option (Bool × Mu)
abbrev Sa := Ro → Mu → Option (List Rv × Mu)
abbrev RpRs (K : PySem.W.Frag) (w : Wd) : List Rv → List V → Prop := Paired (RpR K w)
def tE (K : PySem.W.Frag) (m : Sm) : TE := fun σ H Q => ∃ (ρ : Ro) (w : Wd) (r : Rv) (μ' : Mu), w.H = H ∧ m ρ w.μ = some (r, μ') ∧ w.Ok ∧ Slots K ρ w σ ∧
  ∀ (u : Wd) (v : V), u.μ = μ' → u.Ok → w.le u → RpR K u r v → Q v u.H
def tB (K : PySem.W.Frag) (m : Sb) : TT := fun σ H Q => ∃ (ρ : Ro) (w : Wd) (b : Bool) (μ' : Mu), w.H = H ∧ m ρ w.μ = some (b, μ') ∧ w.Ok ∧ Slots K ρ w σ ∧
  ∀ (u : Wd), u.μ = μ' → u.Ok → w.le u → Q b u.H
def tAs (K : PySem.W.Frag) (m : Sa) : TA := fun σ H Q => ∃ (ρ : Ro) (w : Wd) (rs : List Rv) (μ' : Mu), w.H = H ∧ m ρ w.μ = some (rs, μ') ∧ w.Ok ∧ Slots K ρ w σ ∧
  ∀ (u : Wd) (vs : List V), u.μ = μ' → u.Ok → w.le u → RpRs K u rs vs → Q vs u.H
theorem RpRs.mono {K : PySem.W.Frag} {w u : Wd} (h : w.le u) : ∀ {rs : List Rv} {vs : List V}, RpRs K w rs vs → RpRs K u rs vs
  | _, _, .nil => .nil
  | _, _, .cons r t => .cons (r.mono h) (RpRs.mono h t)
theorem pe_of {X : Cx} {e : Expr} {t t' : TE} (h : PE X e t) (i : ∀ σ H Q, t' σ H Q → t σ H Q) : PE X e t' := ⟨fun pins s σ H Q I hw => h.run pins s σ H Q I (i _ _ _ hw)⟩
theorem pt_of {X : Cx} {e : Expr} {t t' : TT} (h : PT X e t) (i : ∀ σ H Q, t' σ H Q → t σ H Q) : PT X e t' := ⟨fun pins s σ H Q I hw => h.run pins s σ H Q I (i _ _ _ hw)⟩
theorem pw_of {X : Cx} {e : Expr} {t t' : TT} (h : PW X e t) (i : ∀ σ H Q, t' σ H Q → t σ H Q) : PW X e t' := ⟨fun whole pins s σ H Q I hw => h.run whole pins s σ H Q I (i _ _ _ hw)⟩
theorem pa_of {X : Cx} {es : List Expr} {t t' : TA} (h : PA X es t) (i : ∀ σ H Q, t' σ H Q → t σ H Q) : PA X es t' := ⟨fun pos pins s σ H Q I hw => h.run pos pins s σ H Q I (i _ _ _ hw)⟩
theorem ps_of {X : Cx} {st : Stmt} {t t' : TS} (h : PS X st t) (i : ∀ D σ H, t' D σ H → t D σ H) : PS X st t' := ⟨fun pins s σ H D I hw => h.run pins s σ H D I (i _ _ _ hw)⟩
theorem pss_of {X : Cx} {st : List Stmt} {t t' : TS} (h : PSs X st t) (i : ∀ D σ H, t' D σ H → t D σ H) : PSs X st t' := ⟨fun pins s σ H D I hw => h.run pins s σ H D I (i _ _ _ hw)⟩

/-! ### names, constants -/
@[simp] def sVar (i : Nat) : Sm := fun ρ μ => match ρ[i]? with
  | some (some r) => some (r, μ)
  | _ => none
@[simp] def sC (x : PyData) : Sm := fun _ μ => some (.d x, μ)
section
variable {X : Cx} {e a b c : Expr} {pos : Pos}
theorem pE_var {i : Nat} (h : PE X e (tVar i)) : PE X e (tE X.K (sVar i)) := by
  refine pe_of h fun σ H Q q => ?_
  obtain ⟨ρ, w, r, μ', e1, e2, ok, s, k⟩ := q
  unfold sVar at e2
  split at e2
  · rename_i r' er
    cases e2
    obtain ⟨v, h1, h2⟩ := s.get i _ er
    exact ⟨v, h1, e1 ▸ k w v rfl ok (.refl w) h2⟩
  · cases e2
theorem pE_con {x : PyData} {v : V} (h : PE X e (tC v)) (hx : ∀ F, Rp F v x) : PE X e (tE X.K (sC x)) := by
  refine pe_of h fun σ H Q q => ?_
  obtain ⟨ρ, w, r, μ', e1, e2, ok, s, k⟩ := q
  cases e2
  exact e1 ▸ k w v rfl ok (.refl w) (hx _)
theorem pE_int {i : Int} {j pos} : PE X (.Constant (.int i) j pos) (tE X.K (sC (.int i))) := pE_con pe_int fun _ => .int i
theorem pE_bl {i : Bool} {j pos} : PE X (.Constant (.bool i) j pos) (tE X.K (sC (.bool i))) := pE_con pe_bl fun _ => .bl i
theorem pE_str {i : Str} {j pos} : PE X (.Constant (.str i) j pos) (tE X.K (sC (.str i))) := pE_con pe_str fun _ => .str i
theorem pE_non {j pos} : PE X (.Constant .none j pos) (tE X.K (sC .none)) := pE_con pe_non fun _ => .non
/-- a whole number of the module -/
theorem pE_globI {x : Str} {i : Int} {t : Tok} (hg : Gl X x) (hm : X.mg x = some (.int i t)) (hd : (x == ("__debug__" : Str)) = false := by decide) : PE X (.Name x pos) (tE X.K (sC (.int i))) :=
  pE_con (pe_glob hg hm (v := V.int i) ⟨t, rfl⟩ hd) fun _ => .int i

/-! ### operations on values -/
abbrev F1 := Mu → Rv → Option (Rv × Mu)
abbrev F2 := Mu → Rv → Rv → Option (Rv × Mu)
abbrev FA := Mu → List Rv → Option (Rv × Mu)
@[simp] def s1 (f : F1) (a : Sm) : Sm := fun ρ μ => (a ρ μ).bind fun p => f p.2 p.1
@[simp] def s2 (f : F2) (a b : Sm) : Sm := fun ρ μ => (a ρ μ).bind fun p => (b ρ p.2).bind fun q => f q.2 p.1 q.1
@[simp] def sA (f : FA) (a : Sa) : Sm := fun ρ μ => (a ρ μ).bind fun p => f p.2 p.1
/-- what is wanted of a world behind an operation -/
abbrev Wish (K : PySem.W.Frag) (w : Wd) (r : Rv) (μ' : Mu) (Q : VK) : Prop := ∀ (u : Wd) (v : V), u.μ = μ' → u.Ok → w.le u → RpR K u r v → Q v u.H
def Op1 (K : PySem.W.Frag) (f : F1) (t : V → Hp → VK → Prop) : Prop := ∀ (w : Wd) (x : Rv) (v : V) (r : Rv) (μ' : Mu) (Q : VK), f w.μ x = some (r, μ') → w.Ok → RpR K w x v → Wish K w r μ' Q → t v w.H Q
def Op2 (K : PySem.W.Frag) (f : F2) (t : R2) : Prop := ∀ (w : Wd) (x y : Rv) (v z : V) (r : Rv) (μ' : Mu) (Q : VK), f w.μ x y = some (r, μ') → w.Ok → RpR K w x v → RpR K w y z → Wish K w r μ' Q → t v z w.H Q
def OpA (K : PySem.W.Frag) (f : FA) (t : List V → Hp → VK → Prop) : Prop := ∀ (w : Wd) (xs : List Rv) (vs : List V) (r : Rv) (μ' : Mu) (Q : VK), f w.μ xs = some (r, μ') → w.Ok → RpRs K w xs vs → Wish K w r μ' Q → t vs w.H Q
theorem Wish.to {K : PySem.W.Frag} {w u : Wd} {r : Rv} {μ' : Mu} {Q : VK} (k : Wish K w r μ' Q) (h : w.le u) : Wish K u r μ' Q := fun z v e ok le rp => k z v e ok (h.trans le) rp
/-- where the world is as it was -/
theorem Wish.here {K : PySem.W.Frag} {w : Wd} {r : Rv} {Q : VK} (k : Wish K w r w.μ Q) (ok : w.Ok) {v : V} (h : RpR K w r v) : Q v w.H := k w v rfl ok (.refl w) h

theorem one_run {m : Sm} {f : F1} {K : PySem.W.Frag} {t : V → Hp → VK → Prop} (h : Op1 K f t) {σ : L2.St} {H : Hp} {Q : VK} (q : tE K (s1 f m) σ H Q) : tE K m σ H fun v H1 => t v H1 Q := by
  obtain ⟨ρ, w, r, μ', e1, e2, ok, s, k⟩ := q
  obtain ⟨⟨p1, p2⟩, ea, e2⟩ := Option.bind_eq_some_iff.mp e2
  refine ⟨ρ, w, p1, p2, e1, ea, ok, s, fun u v eu oku le rp => ?_⟩
  subst eu
  exact h u p1 v r μ' Q e2 oku rp (Wish.to k le)
theorem two_run {ma mb : Sm} {f : F2} {K : PySem.W.Frag} {t : R2} (h : Op2 K f t) {σ : L2.St} {H : Hp} {Q : VK} (q : tE K (s2 f ma mb) σ H Q) :
    tE K ma σ H fun v H1 => tE K mb σ H1 fun z H2 => t v z H2 Q := by
  obtain ⟨ρ, w, r, μ', e1, e2, ok, s, k⟩ := q
  obtain ⟨⟨p1, p2⟩, ea, e2⟩ := Option.bind_eq_some_iff.mp e2
  obtain ⟨⟨q1, q2⟩, eb, e2⟩ := Option.bind_eq_some_iff.mp e2
  refine ⟨ρ, w, p1, p2, e1, ea, ok, s, fun u v eu oku le rp => ?_⟩
  subst eu
  refine ⟨ρ, u, q1, q2, rfl, eb, oku, s.mono le, fun u2 z eu2 oku2 le2 rp2 => ?_⟩
  subst eu2
  exact h u2 p1 q1 v z r μ' Q e2 oku2 (rp.mono le2) rp2 (Wish.to k (le.trans le2))
theorem args_run {ma : Sa} {f : FA} {K : PySem.W.Frag} {t : List V → Hp → VK → Prop} (h : OpA K f t) {σ : L2.St} {H : Hp} {Q : VK} (q : tE K (sA f ma) σ H Q) : tAs K ma σ H fun vs H1 => t vs H1 Q := by
  obtain ⟨ρ, w, r, μ', e1, e2, ok, s, k⟩ := q
  obtain ⟨⟨p1, p2⟩, ea, e2⟩ := Option.bind_eq_some_iff.mp e2
  refine ⟨ρ, w, p1, p2, e1, ea, ok, s, fun u v eu oku le rp => ?_⟩
  subst eu
  exact h u p1 v r μ' Q e2 oku rp (Wish.to k le)
theorem pE_op {op : Operator} {f : F2} {t : R2} {ma mb : Sm} (ho : OpR X (binaryOp op) t) (hf : Op2 X.K f t) (ha : PE X a (tE X.K ma)) (hb : PE X b (tE X.K mb)) : PE X (.BinOp a op b pos) (tE X.K (s2 f ma mb)) :=
  pe_of (pe_op ho ha hb) fun _ _ _ q => two_run hf q
theorem pE_un {op : UnaryOp} {f : F1} {t : V → Hp → VK → Prop} {ma : Sm} (ho : UnR X (unaryOp op) t) (hf : Op1 X.K f t) (ha : PE X a (tE X.K ma)) : PE X (.UnaryOp op a pos) (tE X.K (s1 f ma)) :=
  pe_of (pe_un ho ha) fun _ _ _ q => one_run hf q
theorem pE_cmp {op : CmpOp} {f : F2} {t : R2} {ma mb : Sm} (ho : OpR X (compareOp op) t) (hf : Op2 X.K f t) (ha : PE X a (tE X.K ma)) (hb : PE X b (tE X.K mb)) (hm : behindInMarks op b = false) : PE X (.Compare a [op] [b] pos) (tE X.K (s2 f ma mb)) :=
  pe_of (pe_cmpR ho ha hb hm) fun _ _ _ q => two_run hf q
theorem pE_ix {f : F2} {t : R2} {ma mb : Sm} (ho : IxR X t) (hf : Op2 X.K f t) (ha : PE X a (tE X.K ma)) (hb : PE X b (tE X.K mb)) (hs : PlainIx b := by exact fun _ _ => rfl) : PE X (.Subscript a b pos) (tE X.K (s2 f ma mb)) :=
  pe_of (pe_ix ho ha hb hs) fun _ _ _ q => two_run hf q
/-- a built-in function, a built-in class, called -/
theorem pE_callB {x : Str} {id : String} {es : List Expr} {p : Pos} {f : FA} {t : List V → Hp → VK → Prop} {ma : Sa} (ho : CallR X (.builtin id) t) (hf : OpA X.K f t) (hg : Gl X x) (hm : X.mg x = none) (hv : bootBuiltins x = some (.builtin id)) (ha : PA X (e :: es) (tAs X.K ma))
    (hn : x ≠ "__name__" := by decide) (hdb : (x == ("__debug__" : Str)) = false := by decide) (hs : starEach (e :: es) X.env = (false, eval e X.env) :: starEach es X.env := by rfl) (hpl : (backTo pos (starEach es X.env)).any (·.1) = false := by rfl) : PE X (.Call (.Name x p) (e :: es) [] pos) (tE X.K (sA f ma)) :=
  pe_of (pe_callB ho hg hm hv ha hn hdb hs hpl) fun _ _ _ q => args_run hf q
theorem pE_callTy {x : Str} {T : String} {es : List Expr} {p : Pos} {f : FA} {t : List V → Hp → VK → Prop} {ma : Sa} (ho : CallR X (.type T) t) (hf : OpA X.K f t) (hg : Gl X x) (hm : X.mg x = none) (hv : bootBuiltins x = some (.type T)) (ha : PA X (e :: es) (tAs X.K ma))
    (hn : x ≠ "__name__" := by decide) (hdb : (x == ("__debug__" : Str)) = false := by decide) (hs : starEach (e :: es) X.env = (false, eval e X.env) :: starEach es X.env := by rfl) (hpl : (backTo pos (starEach es X.env)).any (·.1) = false := by rfl) : PE X (.Call (.Name x p) (e :: es) [] pos) (tE X.K (sA f ma)) :=
  pe_of (pe_callTy ho hg hm hv ha hn hdb hs hpl) fun _ _ _ q => args_run hf q
/-! ### lists of expressions -/
@[simp] def sNil : Sa := fun _ μ => some ([], μ)
@[simp] def sCons (a : Sm) (r : Sa) : Sa := fun ρ μ => (a ρ μ).bind fun p => (r ρ p.2).bind fun q => some (p.1 :: q.1, q.2)
theorem pA_nil : PA X [] (tAs X.K sNil) := pa_of pa_nil fun σ H Q q => by
  obtain ⟨ρ, w, r, μ', e1, e2, ok, s, k⟩ := q
  cases e2
  exact e1 ▸ k w [] rfl ok (.refl w) .nil
theorem pA_cons {es : List Expr} {ma : Sm} {mr : Sa} (ha : PE X e (tE X.K ma)) (hr : PA X es (tAs X.K mr)) (hs : starEach (e :: es) X.env = (false, eval e X.env) :: starEach es X.env := by rfl) : PA X (e :: es) (tAs X.K (sCons ma mr)) := by
  refine pa_of (pa_cons ha hr hs) fun σ H Q q => ?_
  obtain ⟨ρ, w, r, μ', e1, e2, ok, s, k⟩ := q
  obtain ⟨⟨p1, p2⟩, ea, e2⟩ := Option.bind_eq_some_iff.mp e2
  obtain ⟨⟨q1, q2⟩, eb, e2⟩ := Option.bind_eq_some_iff.mp e2
  cases e2
  refine ⟨ρ, w, p1, p2, e1, ea, ok, s, fun u v eu oku le rp => ?_⟩
  subst eu
  refine ⟨ρ, u, q1, q2, rfl, eb, oku, s.mono le, fun u2 zs eu2 oku2 le2 rp2 => ?_⟩
  exact k u2 (v :: zs) eu2 oku2 (le.trans le2) (.cons (rp.mono le2) rp2)
end

/-! ### what is made -/
/-- the data, where all stand still -/
@[simp] def stills : List Rv → Option (List PyData)
  | [] => some []
  | .d x :: r => (stills r).map (x :: ·)
  | _ :: _ => none
theorem stills_ok {K : PySem.W.Frag} {w : Wd} : ∀ {rs : List Rv} {vs : List V} {ds : List PyData}, RpRs K w rs vs → stills rs = some ds → RpAll w.F vs ds
  | _, _, _, .nil, e => by cases e; exact .nil
  | .d x :: _, _, ds, .cons r t, e => by
    unfold stills at e
    cases q : stills _ with
    | none => rw [q] at e; cases e
    | some es =>
      rw [q] at e
      cases e
      exact .cons r (stills_ok t q)
  | .m k :: _, _, _, .cons r t, e => by cases e
  | .s k :: _, _, _, .cons r t, e => by cases e
/-- a new list: still, or a thing of the store -/
@[simp] def mkL (b : Bool) (xs : List PyData) (μ : Mu) : Rv × Mu := if b then (.m μ.length, μ ++ [.lst xs]) else (.d (.list xs), μ)
theorem mkL_ok {K : PySem.W.Frag} {w : Wd} (ok : w.Ok) {b : Bool} {xs : List PyData} {vs : List V} {p : Addr} (hp : w.H p = none) (hv : RpAll w.F vs xs) {Q : VK} {r : Rv} {μ' : Mu} (e : mkL b xs w.μ = (r, μ')) (k : Wish K w r μ' Q) :
    Q (.ref p) (upd w.H p (.lst vs)) := by
  cases b with
  | false =>
    cases e
    exact k (w.put p (.lst vs)) (.ref p) rfl (Wd.put_ok ok hp) (Wd.put_le ok hp) (.lst (Wd.put_at ok hp) (RpAll.mono (Wd.put_le ok hp).le _ _ hv))
  | true =>
    cases e
    have hd : Mo.lst xs ≠ Mo.dead := by intro z; cases z
    refine k (w.new p (.lst xs) (.lst vs)) (.ref p) rfl (Wd.new_ok ok hd hp ⟨vs, upd_same, hv⟩) (Wd.new_le ok hd hp) ⟨p, ?_, rfl⟩
    exact (get_snoc _ _ _ _).mpr (.inr ⟨ok.len.symm, rfl⟩)
theorem mkT_ok {K : PySem.W.Frag} {w : Wd} (ok : w.Ok) {xs : List PyData} {vs : List V} {p : Addr} (hp : w.H p = none) (hv : RpAll w.F vs xs) {Q : VK} (k : Wish K w (.d (.tuple xs)) w.μ Q) : Q (.ref p) (upd w.H p (.tup vs)) :=
  k (w.put p (.tup vs)) (.ref p) rfl (Wd.put_ok ok hp) (Wd.put_le ok hp) (.tup (Wd.put_at ok hp) (RpAll.mono (Wd.put_le ok hp).le _ _ hv))
@[simp] def fTup : FA := fun μ rs => (stills rs).bind fun ds => if ds.length ≤ 4096 then some (.d (.tuple ds), μ) else none
@[simp] def fLst (b : Bool) : FA := fun μ rs => (stills rs).bind fun ds => if ds.length ≤ 4096 then some (mkL b ds μ) else none
theorem line4096 {n : Nat} (h : n ≤ 4096) : n ≤ sizeLine := Nat.le_trans h (by decide)
theorem opA_tup {K : PySem.W.Frag} : OpA K fTup (fun xs H Q => xs.length ≤ sizeLine ∧ ∀ p, H p = none → Q (.ref p) (upd H p (.tup xs))) := by
  intro w rs vs r μ' Q e ok rp k
  unfold fTup at e
  cases es : stills rs with
  | none => rw [es] at e; cases e
  | some ds =>
    rw [es] at e
    simp only [Option.bind_some] at e
    split at e
    · rename_i hl
      cases e
      have hv := stills_ok rp es
      exact ⟨by rw [hv.length]; exact line4096 hl, fun p hp => mkT_ok ok hp hv k⟩
    · cases e
theorem opA_lst {K : PySem.W.Frag} {b : Bool} : OpA K (fLst b) (fun xs H Q => xs.length ≤ sizeLine ∧ ∀ p, H p = none → Q (.ref p) (upd H p (.lst xs))) := by
  intro w rs vs r μ' Q e ok rp k
  unfold fLst at e
  cases es : stills rs with
  | none => rw [es] at e; cases e
  | some ds =>
    rw [es] at e
    simp only [Option.bind_some] at e
    split at e
    · rename_i hl
      have hv := stills_ok rp es
      exact ⟨by rw [hv.length]; exact line4096 hl, fun p hp => mkL_ok ok hp hv (by simpa using e) k⟩
    · cases e
section
variable {X : Cx} {es : List Expr} {pos : Pos}
theorem pE_tup {x1} {ma : Sa} (h : PA X es (tAs X.K ma)) : PE X (.Tuple es x1 pos) (tE X.K (sA fTup ma)) := pe_of (pe_tup h) fun _ _ _ q => args_run opA_tup q
theorem pE_lst {b : Bool} {ma : Sa} (h : PA X es (tAs X.K ma)) : PE X (.List es pos) (tE X.K (sA (fLst b) ma)) := pe_of (pe_lst h) fun _ _ _ q => args_run opA_lst q
end
/-- a thing of the store is let stand still -/
@[simp] def sFz (a : Sm) : Sm := fun ρ μ => (a ρ μ).bind fun p => match p.1 with
  | .d x => some (.d x, p.2)
  | .m k => (rd p.2 (.m k)).bind fun x => some (.d x, p.2.set k .dead)
  | .s _ => none
theorem frz_ok {K : PySem.W.Frag} {w : Wd} (ok : w.Ok) {k : Nat} {v : V} {x : PyData} (h : RpR K w (.m k) v) (e : rd w.μ (.m k) = some x) : (w.stop k).Ok ∧ w.le (w.stop k) ∧ RpR K (w.stop k) (.d x) v := by
  obtain ⟨a, ha, hv⟩ := id h
  have e' : (match w.μ[k]? with | some (.lst ds) => some (PyData.list ds) | some (.dT es) => some (.dict es) | _ => none) = some x := e
  cases q : w.μ[k]? with
  | none => rw [q] at e'; cases e'
  | some o =>
    have hm := ok.ok k o a q ha
    rw [q] at e'
    cases o with
    | lst ds =>
      have hd : Mo.lst ds ≠ Mo.dead := by intro z; cases z
      obtain ⟨xs, e1, e2⟩ := hm
      cases e'
      refine ⟨Wd.stop_ok ok q hd ha, Wd.stop_le ok q hd ha, ?_⟩
      subst hv
      exact .lst ((Wd.stop_at ok q hd ha).trans e1) (RpAll.mono (Wd.stop_le ok q hd ha).le _ _ e2)
    | dT es =>
      have hd : Mo.dT es ≠ Mo.dead := by intro z; cases z
      obtain ⟨xs, e1, e2⟩ := hm
      cases e'
      refine ⟨Wd.stop_ok ok q hd ha, Wd.stop_le ok q hd ha, ?_⟩
      subst hv
      exact .dct (.inl ((Wd.stop_at ok q hd ha).trans e1)) (RpKV.mono (Wd.stop_le ok q hd ha).le _ _ e2)
    | dK kvs => cases e'
    | day C y j => cases e'
    | dead => cases e'
theorem pE_fz {X : Cx} {e : Expr} {m : Sm} (h : PE X e (tE X.K m)) : PE X e (tE X.K (sFz m)) := by
  refine pe_of h fun σ H Q q => ?_
  obtain ⟨ρ, w, r, μ', e1, e2, ok, s, k⟩ := q
  obtain ⟨⟨p1, p2⟩, ea, e2⟩ := Option.bind_eq_some_iff.mp e2
  refine ⟨ρ, w, p1, p2, e1, ea, ok, s, fun u v eu oku le rp => ?_⟩
  subst eu
  cases p1 with
  | d x =>
    cases e2
    exact k u v rfl oku le rp
  | s ns => cases e2
  | m j =>
    obtain ⟨x, ex, e2⟩ := Option.bind_eq_some_iff.mp e2
    cases e2
    obtain ⟨h1, h2, h3⟩ := frz_ok oku rp ex
    exact k (u.stop j) v rfl h1 (le.trans h2) h3
end Sh
set_option Elab.async false
set_option linter.all false
set_option maxRecDepth 100000
namespace Sh
open PySem L2

theorem OpR.or3 {X : Cx} {f : Value → Value → Sem Value} {a b c : R2} (h1 : OpR X f a) (h2 : OpR X f b) (h3 : OpR X f c) : OpR X f (fun x y H Q => a x y H Q ∨ b x y H Q ∨ c x y H Q) := OpR.or h1 (OpR.or h2 h3)
theorem SqL.ofF {K : PySem.W.Frag} {w : Wd} {a : Addr} {xs : List V} (h : w.H a = some (.lst xs)) : SqL K w.H a xs := .inl (.inl h)
theorem SqT.ofF {K : PySem.W.Frag} {w : Wd} {a : Addr} {xs : List V} (h : w.H a = some (.tup xs)) : SqT K w.H a xs := .inl (.inl h)
theorem RpAll.nil_iff {F : Hp} {vs : List V} {ds : List PyData} (h : RpAll F vs ds) : vs = [] ↔ ds = [] := by
  rw [← List.length_eq_zero_iff, ← List.length_eq_zero_iff, h.length]

/-! ### + -/
@[simp] def fAdd (b : Bool) : F2 := fun μ x y => match rd μ x, rd μ y with
  | some (.int i), some (.int j) => some (.d (.int (i + j)), μ)
  | some (.list xs), some (.list ys) => if xs.length + ys.length ≤ 4096 then some (mkL b (xs ++ ys) μ) else none
  | some (.tuple xs), some (.tuple ys) => match x, y with
    | .d _, .d _ => if xs.length + ys.length ≤ 4096 then some (.d (.tuple (xs ++ ys)), μ) else none
    | _, _ => none
  | _, _ => none
def rAddU (K : PySem.W.Frag) : R2 := fun x y H Q => rI0 (fun i j => .int (i + j)) x y H Q ∨ rCat x y H Q ∨ rCatA K x y H Q
theorem op_addU {X : Cx} : OpR X (binaryOp .Add) (rAddU X.K) := OpR.or3 op_add op_cat op_catA
theorem o2_add {K : PySem.W.Frag} {b : Bool} : Op2 K (fAdd b) (rAddU K) := by
  intro w x y v z r μ' Q e ok rx ry k
  unfold fAdd at e
  split at e
  · rename_i i j ex ey
    cases e
    have h1 : v = V.int i := RpR.rd ok rx ex
    have h2 : z = V.int j := RpR.rd ok ry ey
    exact .inl ⟨i, j, h1, h2, Wish.here k ok (.int _)⟩
  · rename_i xs ys ex ey
    split at e
    · rename_i hl
      obtain ⟨a, vs, h1, h2, h3⟩ := RpR.rd ok rx ex
      obtain ⟨a', vs', h1', h2', h3'⟩ := RpR.rd ok ry ey
      refine .inr (.inl ⟨a, a', vs, vs', h1, h1', h2, h2', ?_, fun p hp => mkL_ok ok hp (h3.append h3') (by simpa using e) k⟩)
      rw [h3.length, h3'.length]
      exact line4096 hl
    · cases e
  · rename_i xs ys ex ey
    split at e
    · rename_i dx dy
      split at e
      · rename_i hl
        have ex : some dx = some (PyData.tuple xs) := ex
        have ey : some dy = some (PyData.tuple ys) := ey
        cases ex
        cases ey
        cases e
        obtain ⟨a, vs, h1, h2, h3⟩ := Rp.top rx
        obtain ⟨a', vs', h1', h2', h3'⟩ := Rp.top ry
        subst h1 h1'
        refine .inr (.inr ⟨a, a', vs, vs', rfl, rfl, SqT.ofF h2, SqT.ofF h2', ?_, fun en => ?_, fun _ en => ?_, fun _ _ p hp => mkT_ok ok hp (h3.append h3') k⟩)
        · rw [h3.length, h3'.length]
          exact line4096 hl
        · have := h3.nil_iff.mp en
          subst this
          exact Wish.here k ok ry
        · have := h3'.nil_iff.mp en
          subst this
          rw [List.append_nil] at k
          exact Wish.here k ok rx
      · cases e
    · cases e
  · cases e

/-! ### arithmetic -/
@[simp] def fI2 (g : Int → Int → Option Int) : F2 := fun μ x y => match rd μ x, rd μ y with
  | some (.int i), some (.int j) => (g i j).map fun n => (.d (.int n), μ)
  | _, _ => none
theorem o2_int {K : PySem.W.Frag} {g : Int → Int → Option Int} {t : R2} (h : ∀ i j n H Q, g i j = some n → Q (V.int n) H → t (.int i) (.int j) H Q) : Op2 K (fI2 g) t := by
  intro w x y v z r μ' Q e ok rx ry k
  unfold fI2 at e
  split at e
  · rename_i i j ex ey
    have h1 : v = V.int i := RpR.rd ok rx ex
    have h2 : z = V.int j := RpR.rd ok ry ey
    subst h1 h2
    cases eg : g i j with
    | none => rw [eg] at e; cases e
    | some n =>
      rw [eg] at e
      cases e
      exact h i j n _ _ eg (Wish.here k ok (.int _))
  · cases e
@[simp] def fSub : F2 := fI2 fun i j => some (i - j)
theorem o2_sub {K : PySem.W.Frag} : Op2 K fSub (rI0 fun i j => .int (i - j)) := o2_int fun i j n H Q e q => by cases e; exact ⟨i, j, rfl, rfl, q⟩
/-- within 64 bits -/
def b64 (i : Int) : Bool := decide (-(2 ^ 64) < i) && decide (i < 2 ^ 64)
@[simp] def fMul : F2 := fun μ x y => match rd μ x, rd μ y with
  | some (.int i), some (.int j) => if b64 i || b64 j then some (.d (.int (i * j)), μ) else none
  | some (.tuple xs), some (.int k) => match x with
    | .d _ => if xs.length ≤ 100 ∧ xs ≠ [] ∧ 2 ≤ k ∧ k ≤ 20 then some (.d (.tuple (List.replicate k.toNat xs).flatten), μ) else none
    | _ => none
  | _, _ => none
def rMulU (K : PySem.W.Frag) : R2 := fun x y H Q => rI CMul (fun i j => .int (i * j)) x y H Q ∨ rRepT K x y H Q
theorem op_mulU {X : Cx} : OpR X (binaryOp .Mult) (rMulU X.K) := OpR.or op_mul op_repT
theorem b64_ok {i : Int} (h : b64 i = true) : -(2 ^ 64) < i ∧ i < 2 ^ 64 := by
  unfold b64 at h
  rw [Bool.and_eq_true] at h
  exact ⟨of_decide_eq_true h.1, of_decide_eq_true h.2⟩
theorem o2_mul {K : PySem.W.Frag} : Op2 K fMul (rMulU K) := by
  intro w x y v z r μ' Q e ok rx ry k
  unfold fMul at e
  split at e
  · rename_i i j ex ey
    have h1 : v = V.int i := RpR.rd ok rx ex
    have h2 : z = V.int j := RpR.rd ok ry ey
    subst h1 h2
    split at e
    · rename_i hb
      cases e
      rw [Bool.or_eq_true] at hb
      exact .inl ⟨i, j, rfl, rfl, hb.elim (fun h => .inl (b64_ok h)) (fun h => .inr (b64_ok h)), Wish.here k ok (.int _)⟩
    · cases e
  · rename_i xs j ex ey
    have h2 : z = V.int j := RpR.rd ok ry ey
    subst h2
    split at e
    · rename_i dx
      split at e
      · rename_i hb
        have ex : some dx = some (PyData.tuple xs) := ex
        cases ex
        cases e
        obtain ⟨hb1, hb2, hb3, hb4⟩ := hb
        obtain ⟨a, vs, h1, h2, h3⟩ := Rp.top rx
        subst h1
        refine .inr ⟨a, j, vs, rfl, rfl, SqT.ofF h2, fun en => hb2 (h3.nil_iff.mp en), hb3, by omega, by rw [h3.length]; omega, fun p hp => mkT_ok ok hp (h3.rep _) k⟩
      · cases e
    · cases e
  · cases e
@[simp] def fDiv : F2 := fI2 fun i j => if 0 < j ∧ j < 1073741824 then some (i / j) else none
theorem o2_div {K : PySem.W.Frag} : Op2 K fDiv (rI CDiv fun i j => .int (i / j)) := o2_int fun i j n H Q e q => by
  split at e
  · rename_i h
    cases e; exact ⟨i, j, rfl, rfl, h, q⟩
  · cases e
@[simp] def fMod : F2 := fI2 fun i j => if 0 < j then some (i % j) else none
theorem o2_mod {K : PySem.W.Frag} : Op2 K fMod (rI (fun _ j => 0 < j) fun i j => .int (i % j)) := o2_int fun i j n H Q e q => by
  split at e
  · rename_i h
    cases e; exact ⟨i, j, rfl, rfl, h, q⟩
  · cases e
@[simp] def fPow : F2 := fI2 fun i j => if 0 ≤ j ∧ j ≤ 1000 ∧ i.natAbs < 2 ^ 64 then some (i ^ j.toNat) else none
theorem o2_pow {K : PySem.W.Frag} : Op2 K fPow (rI CPow fun i j => .int (i ^ j.toNat)) := o2_int fun i j n H Q e q => by
  split at e
  · rename_i h
    cases e; exact ⟨i, j, rfl, rfl, ⟨h.1, by omega, h.2.2⟩, q⟩
  · cases e
@[simp] def fNeg : F1 := fun μ x => match rd μ x with
  | some (.int i) => some (.d (.int (-i)), μ)
  | _ => none
theorem o1_neg {K : PySem.W.Frag} : Op1 K fNeg (rU fun i => .int (-i)) := by
  intro w x v r μ' Q e ok rx k
  unfold fNeg at e
  split at e
  · rename_i i ex
    cases e
    have h1 : v = V.int i := RpR.rd ok rx ex
    exact ⟨i, h1, Wish.here k ok (.int _)⟩
  · cases e

/-! ### comparisons -/
mutual
/-- data without dicts, no deeper than n -/
def pl : Nat → PyData → Bool
  | _, .none => true
  | _, .bool _ => true
  | _, .int _ => true
  | _, .str z => PyData.strOk z
  | 0, .list _ => false
  | 0, .tuple _ => false
  | n + 1, .list ds => plAll n ds
  | n + 1, .tuple ds => plAll n ds
  | _, .dict _ => false
def plAll : Nat → List PyData → Bool
  | _, [] => true
  | n, d :: ds => pl n d && plAll n ds
end
mutual
theorem pl_ok : ∀ (n : Nat) (d : PyData), pl n d = true → d.canLay0 = true ∧ d.depth ≤ n
  | n, .none, _ => ⟨rfl, Nat.zero_le _⟩
  | n, .bool _, _ => ⟨rfl, Nat.zero_le _⟩
  | n, .int _, _ => ⟨rfl, Nat.zero_le _⟩
  | n, .str z, h => by
    refine ⟨?_, Nat.zero_le _⟩
    show PyData.strOk z = true
    cases n <;> exact h
  | 0, .list _, h => by cases h
  | 0, .tuple _, h => by cases h
  | n + 1, .list ds, h => let ⟨a, b⟩ := plAll_ok n ds h; ⟨a, Nat.succ_le_succ b⟩
  | n + 1, .tuple ds, h => let ⟨a, b⟩ := plAll_ok n ds h; ⟨a, Nat.succ_le_succ b⟩
  | 0, .dict _, h => by cases h
  | n + 1, .dict _, h => by cases h
theorem plAll_ok : ∀ (n : Nat) (ds : List PyData), plAll n ds = true → PyData.canLayAll0 ds = true ∧ PyData.depthAll ds ≤ n
  | n, [], _ => ⟨rfl, Nat.zero_le _⟩
  | n, d :: ds, h => by
    have h : (pl n d && plAll n ds) = true := h
    rw [Bool.and_eq_true] at h
    obtain ⟨a, b⟩ := pl_ok n d h.1
    obtain ⟨a', b'⟩ := plAll_ok n ds h.2
    refine ⟨?_, Nat.max_le.mpr ⟨b, b'⟩⟩
    show (d.canLay0 && PyData.canLayAll0 ds) = true
    rw [a, a']; rfl
end
mutual
theorem Rp.dp {K : PySem.W.Frag} {F : Hp} : ∀ (d : PyData) (v : V), d.canLay0 = true → Rp F v d → Dp K F v d
  | .none, _, _, h => by cases h; exact .non
  | .bool _, _, _, h => by cases h; exact .bl _
  | .int _, _, _, h => by cases h; exact .int _
  | .str _, _, _, h => by cases h; exact .str _
  | .list ds, _, c, h => by cases h with | lst e r => exact .lst (.inl (.inl e)) (RpAll.dp ds _ c r)
  | .tuple ds, _, c, h => by cases h with | tup e r => exact .tup (.inl (.inl e)) (RpAll.dp ds _ c r)
  | .dict es, _, c, h => by cases c
theorem RpAll.dp {K : PySem.W.Frag} {F : Hp} : ∀ (ds : List PyData) (vs : List V), PyData.canLayAll0 ds = true → RpAll F vs ds → DpAll K F vs ds
  | [], _, _, h => by cases h; exact .nil
  | d :: ds, _, c, h => by
    have c : (d.canLay0 && PyData.canLayAll0 ds) = true := c
    rw [Bool.and_eq_true] at c
    cases h with
    | cons h1 h2 => exact .cons (Rp.dp d _ c.1 h1) (RpAll.dp ds _ c.2 h2)
end
@[simp] def fEq (neg : Bool) : F2 := fun μ x y => match rd μ x, rd μ y with
  | some a, some b => if pl 9 a && pl 9 b then some (.d (.bool (if neg then !PyData.eqv a b else PyData.eqv a b)), μ) else none
  | _, _ => none
theorem eq_prem {K : PySem.W.Frag} {w : Wd} {v : V} {a : PyData} (h : RpT w.F w.H v a) (p : pl 9 a = true) : Dp K w.H v a ∧ SeqAt.shaped a = true := by
  obtain ⟨c, d⟩ := pl_ok 9 a p
  refine ⟨Rp.dp a v c (RpT.full h), ?_⟩
  show (a.canLay0 && decide (a.depth ≤ 64)) = true
  rw [c, decide_eq_true (show a.depth ≤ 64 by omega)]; rfl
theorem o2_eq {K : PySem.W.Frag} : Op2 K (fEq false) (rEqD K) := by
  intro w x y v z r μ' Q e ok rx ry k
  unfold fEq at e
  split at e
  · rename_i a b ex ey
    split at e
    · rename_i hp
      rw [Bool.and_eq_true] at hp
      cases e
      obtain ⟨d1, s1⟩ := eq_prem (K := K) (RpR.rd ok rx ex) hp.1
      obtain ⟨d2, s2⟩ := eq_prem (K := K) (RpR.rd ok ry ey) hp.2
      exact ⟨a, b, d1, d2, s1, s2, Wish.here k ok (.bl _)⟩
    · cases e
  · cases e
theorem o2_ne {K : PySem.W.Frag} : Op2 K (fEq true) (rNeD K) := by
  intro w x y v z r μ' Q e ok rx ry k
  unfold fEq at e
  split at e
  · rename_i a b ex ey
    split at e
    · rename_i hp
      rw [Bool.and_eq_true] at hp
      cases e
      obtain ⟨d1, s1⟩ := eq_prem (K := K) (RpR.rd ok rx ex) hp.1
      obtain ⟨d2, s2⟩ := eq_prem (K := K) (RpR.rd ok ry ey) hp.2
      exact ⟨a, b, d1, d2, s1, s2, Wish.here k ok (.bl _)⟩
    · cases e
  · cases e
@[simp] def fB2 (g : Int → Int → Bool) : F2 := fun μ x y => match rd μ x, rd μ y with
  | some (.int i), some (.int j) => some (.d (.bool (g i j)), μ)
  | _, _ => none
theorem o2_cmp {K : PySem.W.Frag} {g : Int → Int → Bool} : Op2 K (fB2 g) (rI0 fun i j => .bl (g i j)) := by
  intro w x y v z r μ' Q e ok rx ry k
  unfold fB2 at e
  split at e
  · rename_i i j ex ey
    cases e
    have h1 : v = V.int i := RpR.rd ok rx ex
    have h2 : z = V.int j := RpR.rd ok ry ey
    exact ⟨i, j, h1, h2, Wish.here k ok (.bl _)⟩
  · cases e
abbrev fLt : F2 := fB2 fun i j => decide (i < j)
abbrev fLe : F2 := fB2 fun i j => decide (i ≤ j)
abbrev fGt : F2 := fB2 fun i j => decide (j < i)
abbrev fGe : F2 := fB2 fun i j => decide (j ≤ i)
/-- is: None, truths -/
@[simp] def isN : PyData → Bool
  | .none => true
  | _ => false
@[simp] def fIs (neg : Bool) : F2 := fun μ x y => match y with
  | .d .none => match x with
    | .d a => some (.d (.bool (if neg then !isN a else isN a)), μ)
    | .m k => if k < μ.length then some (.d (.bool neg), μ) else none
    | .s _ => some (.d (.bool neg), μ)
  | .d (.bool b) => match x with
    | .d (.bool a) => some (.d (.bool (if neg then !(a == b) else a == b)), μ)
    | _ => none
  | _ => none
def rIsU : R2 := fun x y H Q => (y = .non ∧ Q (.bl (decide (x = .non))) H) ∨ rIsB x y H Q
def rNotU : R2 := fun x y H Q => (y = .non ∧ Q (.bl (!decide (x = .non))) H) ∨ rNotB x y H Q
theorem op_isU {X : Cx} : OpR X (compareOp .Is) rIsU := OpR.or op_isN op_isBl
theorem op_notU {X : Cx} : OpR X (compareOp .IsNot) rNotU := OpR.or op_notN op_notBl
theorem isN_ok {F : Hp} {v : V} {a : PyData} (h : Rp F v a) : decide (v = .non) = isN a := by cases h <;> rfl
theorem is_prem {K : PySem.W.Frag} {neg : Bool} {w : Wd} {x y : Rv} {v z : V} {r : Rv} {μ' : Mu} {Q : VK} (e : fIs neg w.μ x y = some (r, μ')) (ok : w.Ok) (rx : RpR K w x v) (ry : RpR K w y z) (k : Wish K w r μ' Q) :
    (z = .non ∧ Q (.bl (if neg then !decide (v = .non) else decide (v = .non))) w.H) ∨ ∃ a b : Bool, v = .bl a ∧ z = .bl b ∧ Q (.bl (if neg then !decide (a = b) else decide (a = b))) w.H := by
  unfold fIs at e
  split at e
  · have hz : z = .non := by cases ry; rfl
    refine .inl ⟨hz, ?_⟩
    split at e
    · cases e
      rw [isN_ok rx]
      exact Wish.here k ok (.bl _)
    · split at e
      · cases e
        obtain ⟨a, _, hv⟩ := rx
        subst hv
        have := Wish.here k ok (v := .bl neg) (.bl _)
        cases neg <;> exact this
      · cases e
    · cases e
      obtain ⟨a, hv, _⟩ := rx
      subst hv
      have := Wish.here k ok (v := .bl neg) (.bl _)
      cases neg <;> exact this
  · split at e
    · rename_i b _ a
      cases e
      cases rx
      cases ry
      refine .inr ⟨_, _, rfl, rfl, ?_⟩
      rw [show (a == b) = decide (a = b) from Bool.beq_eq_decide_eq a b] at k
      exact Wish.here k ok (.bl _)
    · cases e
  · cases e
theorem o2_is {K : PySem.W.Frag} : Op2 K (fIs false) rIsU := by
  intro w x y v z r μ' Q e ok rx ry k
  exact is_prem e ok rx ry k
theorem o2_isnot {K : PySem.W.Frag} : Op2 K (fIs true) rNotU := by
  intro w x y v z r μ' Q e ok rx ry k
  exact is_prem e ok rx ry k
/-- in: flat things in a list or tuple -/
@[simp] def flatD : PyData → Bool
  | .none => true
  | .bool _ => true
  | .int _ => true
  | .str _ => true
  | _ => false
@[simp] def itemsD : PyData → Option (List PyData)
  | .list ds => some ds
  | .tuple ds => some ds
  | _ => none
@[simp] def fIn (neg : Bool) : F2 := fun μ x y => match rd μ x, (rd μ y).bind itemsD with
  | some a, some ds => if flatD a && ds.all flatD then some (.d (.bool (if neg then !ds.any fun z => PyData.eqv z a else ds.any fun z => PyData.eqv z a)), μ) else none
  | _, _ => none
theorem flat_ok {F : Hp} {v : V} {a : PyData} (h : Rp F v a) : flatV v = flatD a := by cases h <;> rfl
theorem flat_all {F : Hp} : ∀ {vs : List V} {ds : List PyData}, RpAll F vs ds → vs.all flatV = ds.all flatD
  | _, _, .nil => rfl
  | _, _, .cons r t => by rw [List.all_cons, List.all_cons, flat_ok r, flat_all t]
theorem eqV_ok {F G : Hp} {v z : V} {a b : PyData} (h : Rp F v a) (h' : Rp G z b) (fa : flatD a = true) (fb : flatD b = true) : eqV v z = PyData.eqv a b := by
  cases h <;> cases h' <;> first | rfl | (cases fa) | (cases fb)
theorem inV_ok {F G : Hp} {v : V} {a : PyData} (h : Rp G v a) (fa : flatD a = true) : ∀ {vs : List V} {ds : List PyData}, RpAll F vs ds → ds.all flatD = true → inV v vs = ds.any fun z => PyData.eqv z a
  | _, _, .nil, _ => rfl
  | _, _, .cons r t, hf => by
    rw [List.all_cons, Bool.and_eq_true] at hf
    have := inV_ok h fa t hf.2
    unfold inV at this ⊢
    rw [List.any_cons, List.any_cons, this, eqV_ok r h hf.1 fa]
theorem in_prem {K : PySem.W.Frag} {neg : Bool} {w : Wd} {x y : Rv} {v z : V} {r : Rv} {μ' : Mu} {Q : VK} (e : fIn neg w.μ x y = some (r, μ')) (ok : w.Ok) (rx : RpR K w x v) (ry : RpR K w y z) (k : Wish K w r μ' Q) : rIn K neg v z w.H Q := by
  unfold fIn at e
  split at e
  · rename_i a ds ex ey
    split at e
    · rename_i hf
      rw [Bool.and_eq_true] at hf
      cases e
      obtain ⟨d, ed, ei⟩ := Option.bind_eq_some_iff.mp ey
      have hv := RpT.full (RpR.rd ok rx ex)
      have hz := RpR.rd ok ry ed
      cases d with
      | list es =>
        cases ei
        obtain ⟨p, xs, h1, h2, h3⟩ := hz
        refine ⟨p, xs, h1, .inl (SqL.ofF h2), by rw [flat_ok hv]; exact hf.1, by rw [flat_all h3]; exact hf.2, ?_⟩
        rw [inV_ok hv hf.1 h3 hf.2]
        exact Wish.here k ok (.bl _)
      | tuple es =>
        cases ei
        obtain ⟨p, xs, h1, h2, h3⟩ := hz
        refine ⟨p, xs, h1, .inr (SqT.ofF h2), by rw [flat_ok hv]; exact hf.1, by rw [flat_all h3]; exact hf.2, ?_⟩
        rw [inV_ok hv hf.1 h3 hf.2]
        exact Wish.here k ok (.bl _)
      | _ => cases ei
    · cases e
  · cases e
theorem o2_in {K : PySem.W.Frag} : Op2 K (fIn false) (rIn K false) := fun w x y v z r μ' Q e ok rx ry k => in_prem e ok rx ry k
theorem o2_notin {K : PySem.W.Frag} : Op2 K (fIn true) (rIn K true) := fun w x y v z r μ' Q e ok rx ry k => in_prem e ok rx ry k

/-! ### items, lengths -/
theorem atI_all {F : Hp} {vs : List V} {ds : List PyData} {i : Int} {d : PyData} (h : RpAll F vs ds) (e : atI ds i = some d) : ∃ v, atI vs i = some v ∧ Rp F v d := by
  unfold atI at e ⊢
  obtain ⟨j, e1, e2⟩ := Option.bind_eq_some_iff.mp e
  obtain ⟨v, h1, h2⟩ := h.get e2
  exact ⟨v, Option.bind_eq_some_iff.mpr ⟨j, by rw [h.length]; exact e1, h1⟩, h2⟩
@[simp] def fIx : F2 := fun μ x y => match rd μ y with
  | some (.int i) => match x with
    | .s ns => (atI ns i).map fun n => (.d (.int n), μ)
    | x => match rd μ x with
      | some (.list ds) => (atI ds i).map fun d => (.d d, μ)
      | some (.tuple ds) => (atI ds i).map fun d => (.d d, μ)
      | some (.str z) => if z.length ≤ 4096 then (atI z.cps.toList i).map fun c => (.d (.str ⟨#[c]⟩), μ) else none
      | _ => none
  | _ => none
theorem atI_map {α β : Type} (f : α → β) {xs : List α} {i : Int} {x : α} (h : atI xs i = some x) : atI (xs.map f) i = some (f x) := by
  unfold atI at h ⊢
  obtain ⟨j, e1, e2⟩ := Option.bind_eq_some_iff.mp h
  exact Option.bind_eq_some_iff.mpr ⟨j, by rw [List.length_map]; exact e1, by rw [List.getElem?_map, e2]; rfl⟩
theorem o2_ix {K : PySem.W.Frag} : Op2 K fIx (rIx K) := by
  intro w x y v z r μ' Q e ok rx ry k
  unfold fIx at e
  split at e
  · rename_i i ey
    have hz : z = V.int i := RpR.rd ok ry ey
    subst hz
    split at e
    · rename_i ns
      obtain ⟨n, en, e⟩ := Option.map_eq_some_iff.mp e
      cases e
      obtain ⟨a, hv, hs⟩ := rx
      subst hv
      exact .inl ⟨a, ns.map V.int, i, .int n, rfl, rfl, SqL.monoR w.toH hs, atI_map _ en, Wish.here k ok (.int _)⟩
    · split at e
      · rename_i ds ex
        obtain ⟨d, en, e⟩ := Option.map_eq_some_iff.mp e
        cases e
        obtain ⟨a, xs, h1, h2, h3⟩ := RpR.rd ok rx ex
        obtain ⟨u, h4, h5⟩ := atI_all h3 en
        exact .inl ⟨a, xs, i, u, h1, rfl, SqL.ofF h2, h4, Wish.here k ok h5⟩
      · rename_i ds ex
        obtain ⟨d, en, e⟩ := Option.map_eq_some_iff.mp e
        cases e
        obtain ⟨a, xs, h1, h2, h3⟩ := RpR.rd ok rx ex
        obtain ⟨u, h4, h5⟩ := atI_all h3 en
        exact .inr (.inl ⟨a, xs, i, u, h1, rfl, SqT.ofF h2, h4, Wish.here k ok h5⟩)
      · rename_i zz ex
        split at e
        · rename_i hl
          obtain ⟨c, en, e⟩ := Option.map_eq_some_iff.mp e
          cases e
          have h1 : v = V.str zz := RpR.rd ok rx ex
          exact .inr (.inr ⟨zz, i, c, h1, rfl, line4096 hl, en, Wish.here k ok (.str _)⟩)
        · cases e
      · cases e
  · cases e
@[simp] def fLen : FA := fun μ xs => match xs with
  | [.s ns] => some (.d (.int ns.length), μ)
  | [x] => match rd μ x with
    | some (.list ds) => some (.d (.int ds.length), μ)
    | some (.tuple ds) => some (.d (.int ds.length), μ)
    | some (.str z) => if z.length ≤ 4096 then some (.d (.int z.length), μ) else none
    | _ => none
  | _ => none
theorem Paired.one {α β : Type} {F : α → β → Prop} {a : α} {ys : List β} (h : Paired F [a] ys) : ∃ b, ys = [b] ∧ F a b := by
  cases h with
  | cons r t => cases t; exact ⟨_, rfl, r⟩
theorem Paired.two {α β : Type} {F : α → β → Prop} {a a' : α} {ys : List β} (h : Paired F [a, a'] ys) : ∃ b b', ys = [b, b'] ∧ F a b ∧ F a' b' := by
  cases h with
  | cons r t =>
    obtain ⟨b', e, r'⟩ := Paired.one t
    subst e
    exact ⟨_, _, rfl, r, r'⟩
theorem opA_len {K : PySem.W.Frag} : OpA K fLen (fun xs H Q => ∃ x n, xs = [x] ∧ LenV K x H n ∧ Q (.int n) H) := by
  intro w rs vs r μ' Q e ok rp k
  unfold fLen at e
  split at e
  · rename_i ns
    obtain ⟨v, rfl, rv⟩ := Paired.one rp
    cases e
    obtain ⟨a, hv, hs⟩ := rv
    subst hv
    exact ⟨_, _, rfl, .inl ⟨_, SqL.monoR w.toH hs, (List.length_map _).symm⟩, Wish.here k ok (.int _)⟩
  · rename_i x _
    obtain ⟨v, rfl, rv⟩ := Paired.one rp
    split at e
    · rename_i ds ex
      cases e
      obtain ⟨a, xs, h1, h2, h3⟩ := RpR.rd ok rv ex
      subst h1
      exact ⟨_, ds.length, rfl, .inl ⟨_, SqL.ofF h2, h3.length.symm⟩, Wish.here k ok (.int _)⟩
    · rename_i ds ex
      cases e
      obtain ⟨a, xs, h1, h2, h3⟩ := RpR.rd ok rv ex
      subst h1
      exact ⟨_, ds.length, rfl, .inr ⟨_, SqT.ofF h2, h3.length.symm⟩, Wish.here k ok (.int _)⟩
    · rename_i zz ex
      split at e
      · rename_i hl
        cases e
        have h1 : v = V.str zz := RpR.rd ok rv ex
        subst h1
        exact ⟨_, zz.length, rfl, ⟨line4096 hl, rfl⟩, Wish.here k ok (.int _)⟩
      · cases e
    · cases e
  · cases e
end Sh
set_option Elab.async false
set_option linter.all false
set_option maxRecDepth 100000
namespace Sh
open PySem L2
section
variable {X : Cx} {e a b c o : Expr} {pos : Pos}
/-! ### tests -/
@[simp] def sTst (m : Sm) : Sb := fun ρ μ => (m ρ μ).bind fun p => match p.1 with
  | .d (.bool k) => some (k, p.2)
  | _ => none
/-- truth of what is no bool alone -/
@[simp] def truD : PyData → Option Bool
  | .none => some false
  | .bool b => some b
  | .int i => some (i != 0)
  | .list ds => some (!ds.isEmpty)
  | .tuple ds => some (!ds.isEmpty)
  | _ => none
@[simp] def sTru (m : Sm) : Sb := fun ρ μ => (m ρ μ).bind fun p => (rd p.2 p.1).bind fun x => (truD x).map fun k => (k, p.2)
theorem tst_run {K : PySem.W.Frag} {m : Sm} {σ : L2.St} {H : Hp} {Q : Bool → Hp → Prop} (q : tB K (sTst m) σ H Q) : tE K m σ H fun x H1 => ∃ k, x = .bl k ∧ Q k H1 := by
  obtain ⟨ρ, w, r, μ', e1, e2, ok, s, k⟩ := q
  obtain ⟨⟨p1, p2⟩, ea, e2⟩ := Option.bind_eq_some_iff.mp e2
  refine ⟨ρ, w, p1, p2, e1, ea, ok, s, fun u v eu oku le rp => ?_⟩
  split at e2
  · rename_i kk ep
    have ep : p1 = .d (.bool kk) := ep
    subst ep
    cases e2
    cases rp
    exact ⟨_, rfl, k u eu oku le⟩
  · cases e2
theorem isEmpty_eq {α β : Type} {xs : List α} {ys : List β} (h : xs.length = ys.length) : xs.isEmpty = ys.isEmpty := by
  cases xs <;> cases ys <;> first | rfl | (cases h)
theorem tru_run {K : PySem.W.Frag} {m : Sm} {σ : L2.St} {H : Hp} {Q : Bool → Hp → Prop} (q : tB K (sTru m) σ H Q) : tE K m σ H fun x H1 => ∃ k, TruV K x H1 k ∧ Q k H1 := by
  obtain ⟨ρ, w, r, μ', e1, e2, ok, s, k⟩ := q
  obtain ⟨⟨p1, p2⟩, ea, e2⟩ := Option.bind_eq_some_iff.mp e2
  obtain ⟨x, ex, e2⟩ := Option.bind_eq_some_iff.mp e2
  obtain ⟨kk, ek, e2⟩ := Option.map_eq_some_iff.mp e2
  cases e2
  refine ⟨ρ, w, p1, p2, e1, ea, ok, s, fun u v eu oku le rp => ?_⟩
  subst eu
  have h := RpR.rd oku rp ex
  refine ⟨r, ?_, k u rfl oku le⟩
  cases x with
  | none => cases ek; cases h; rfl
  | bool b => cases ek; cases h; rfl
  | int i => cases ek; cases h; rfl
  | list ds =>
    cases ek
    obtain ⟨a, xs, h1, h2, h3⟩ := h
    subst h1
    exact .inl ⟨xs, SqL.ofF h2, by rw [isEmpty_eq h3.length]⟩
  | tuple ds =>
    cases ek
    obtain ⟨a, xs, h1, h2, h3⟩ := h
    subst h1
    exact .inr (.inl ⟨xs, SqT.ofF h2, by rw [isEmpty_eq h3.length]⟩)
  | str z => cases ek
  | dict es => cases ek
theorem pT_tru {m : Sm} (h : PE X e (tE X.K m)) (he : ∀ whole, isTrue e X.env whole = (do let v ← whole; standAt e.pos; holding [v] (truthy v)) := by intro _; rfl) : PT X e (tB X.K (sTru m)) :=
  pt_of (pt_truth h he) fun _ _ _ q => tru_run q
theorem pT_tst {m : Sm} (h : PE X e (tE X.K m)) (he : ∀ whole, isTrue e X.env whole = (do let v ← whole; standAt e.pos; holding [v] (truthy v)) := by intro _; rfl) : PT X e (tB X.K (sTst m)) :=
  pt_of (pt_val h he) fun _ _ _ q => tst_run q
theorem pT_cmp {op : CmpOp} {f : F2} {t : R2} {ma mb : Sm} (ho : OpR X (compareOp op) t) (hf : Op2 X.K f t) (ha : PE X a (tE X.K ma)) (hb : PE X b (tE X.K mb)) (hm : behindInMarks op b = false) : PT X (.Compare a [op] [b] pos) (tB X.K (sTst (s2 f ma mb))) :=
  pt_of (pt_cmpR ho ha hb hm) fun _ _ _ q => two_run hf (tst_run q)
/-! chains: a op b op' c -/
@[simp] def sChain (f f' : F2) (ma mb mc : Sm) : Sm := fun ρ μ => (ma ρ μ).bind fun p => (mb ρ p.2).bind fun q => (f q.2 p.1 q.1).bind fun z => match z.1 with
  | .d (.bool true) => (mc ρ z.2).bind fun y => f' y.2 q.1 y.1
  | .d (.bool false) => some (.d (.bool false), z.2)
  | _ => none
theorem chain_run {K : PySem.W.Frag} {f f' : F2} {t t' : R2} {ma mb mc : Sm} (h : Op2 K f t) (h' : Op2 K f' t') {σ : L2.St} {H : Hp} {Q : VK} (q : tE K (sChain f f' ma mb mc) σ H Q) : tChain t t' (tE K ma) (tE K mb) (tE K mc) σ H Q := by
  obtain ⟨ρ, w, r, μ', e1, e2, ok, s, k⟩ := q
  obtain ⟨⟨p1, p2⟩, ea, e2⟩ := Option.bind_eq_some_iff.mp e2
  obtain ⟨⟨q1, q2⟩, eb, e2⟩ := Option.bind_eq_some_iff.mp e2
  obtain ⟨⟨z1, z2⟩, ez, e2⟩ := Option.bind_eq_some_iff.mp e2
  refine ⟨ρ, w, p1, p2, e1, ea, ok, s, fun u v eu oku le rp => ?_⟩
  subst eu
  refine ⟨ρ, u, q1, q2, rfl, eb, oku, s.mono le, fun u2 z eu2 oku2 le2 rp2 => ?_⟩
  subst eu2
  refine h u2 p1 q1 v z z1 z2 _ ez oku2 (rp.mono le2) rp2 fun u3 vz eu3 oku3 le3 rp3 => ?_
  subst eu3
  split at e2
  · rename_i ee
    have ee : z1 = .d (.bool true) := ee
    subst ee
    cases rp3
    obtain ⟨⟨y1, y2⟩, ec, e2⟩ := Option.bind_eq_some_iff.mp e2
    refine ⟨true, rfl, ?_⟩
    rw [if_pos rfl]
    refine ⟨ρ, u3, y1, y2, rfl, ec, oku3, s.mono (le.trans (le2.trans le3)), fun u4 vy eu4 oku4 le4 rp4 => ?_⟩
    subst eu4
    exact h' u4 q1 y1 z vy r μ' Q e2 oku4 (rp2.mono (le3.trans le4)) rp4 (Wish.to k (le.trans (le2.trans (le3.trans le4))))
  · rename_i ee
    have ee : z1 = .d (.bool false) := ee
    subst ee
    cases rp3
    cases e2
    refine ⟨false, rfl, ?_⟩
    rw [if_neg Bool.false_ne_true]
    exact k u3 _ rfl oku3 (le.trans (le2.trans le3)) (.bl _)
  · cases e2
theorem pE_chain {op op' : CmpOp} {f f' : F2} {t t' : R2} {ma mb mc : Sm} (ho : OpR X (compareOp op) t) (ho' : OpR X (compareOp op') t') (hf : Op2 X.K f t) (hf' : Op2 X.K f' t') (ha : PE X a (tE X.K ma)) (hb : PE X b (tE X.K mb)) (hc : PE X c (tE X.K mc))
    (hm : lastMarks [op, op'] [b, c] = false := by with_unfolding_all rfl) : PE X (.Compare a [op, op'] [b, c] pos) (tE X.K (sChain f f' ma mb mc)) :=
  pe_of (pe_chain ho ho' ha hb hc hm) fun _ _ _ q => chain_run hf hf' q
theorem pT_chain {op op' : CmpOp} {f f' : F2} {t t' : R2} {ma mb mc : Sm} (ho : OpR X (compareOp op) t) (ho' : OpR X (compareOp op') t') (hf : Op2 X.K f t) (hf' : Op2 X.K f' t') (ha : PE X a (tE X.K ma)) (hb : PE X b (tE X.K mb)) (hc : PE X c (tE X.K mc))
    (hm : lastMarks [op, op'] [b, c] = false := by with_unfolding_all rfl) : PT X (.Compare a [op, op'] [b, c] pos) (tB X.K (sTst (sChain f f' ma mb mc))) :=
  pt_of (pt_chain ho ho' ha hb hc hm) fun _ _ _ q => chain_run hf hf' (tst_run q)

/-! and, or, not as tests -/
@[simp] def sAnd (x y : Sb) : Sb := fun ρ μ => (x ρ μ).bind fun p => if p.1 then y ρ p.2 else some (false, p.2)
@[simp] def sOr (x y : Sb) : Sb := fun ρ μ => (x ρ μ).bind fun p => if p.1 then some (true, p.2) else y ρ p.2
@[simp] def sNot (x : Sb) : Sb := fun ρ μ => (x ρ μ).map fun p => (!p.1, p.2)
theorem pT_and {rest : List Expr} {x y : Sb} (ha : PT X a (tB X.K x)) (hb : PW X (.BoolOp .And (b :: rest) pos) (tB X.K y)) : PW X (.BoolOp .And (a :: b :: rest) pos) (tB X.K (sAnd x y)) :=
  pw_of (pw_and ha hb) fun σ H Q q => by
    obtain ⟨ρ, w, r, μ', e1, e2, ok, s, k⟩ := q
    obtain ⟨⟨p1, p2⟩, ea, e2⟩ := Option.bind_eq_some_iff.mp e2
    refine ⟨ρ, w, p1, p2, e1, ea, ok, s, fun u eu oku le => ?_⟩
    subst eu
    cases p1 with
    | true =>
      rw [if_pos rfl]
      exact ⟨ρ, u, r, μ', rfl, e2, oku, s.mono le, fun z ez okz lez => k z ez okz (le.trans lez)⟩
    | false =>
      rw [if_neg Bool.false_ne_true]
      cases e2
      exact k u rfl oku le
theorem pT_or {rest : List Expr} {x y : Sb} (ha : PT X a (tB X.K x)) (hb : PW X (.BoolOp .Or (b :: rest) pos) (tB X.K y)) : PW X (.BoolOp .Or (a :: b :: rest) pos) (tB X.K (sOr x y)) :=
  pw_of (pw_or ha hb) fun σ H Q q => by
    obtain ⟨ρ, w, r, μ', e1, e2, ok, s, k⟩ := q
    obtain ⟨⟨p1, p2⟩, ea, e2⟩ := Option.bind_eq_some_iff.mp e2
    refine ⟨ρ, w, p1, p2, e1, ea, ok, s, fun u eu oku le => ?_⟩
    subst eu
    cases p1 with
    | false =>
      rw [if_neg Bool.false_ne_true]
      exact ⟨ρ, u, r, μ', rfl, e2, oku, s.mono le, fun z ez okz lez => k z ez okz (le.trans lez)⟩
    | true =>
      rw [if_pos rfl]
      cases e2
      exact k u rfl oku le
theorem pT_not {x : Sb} (ha : PT X a (tB X.K x)) : PT X (.UnaryOp .Not a pos) (tB X.K (sNot x)) :=
  pt_of (pt_not ha) fun σ H Q q => by
    obtain ⟨ρ, w, r, μ', e1, e2, ok, s, k⟩ := q
    obtain ⟨⟨p1, p2⟩, ea, e2⟩ := Option.map_eq_some_iff.mp e2
    cases e2
    exact ⟨ρ, w, p1, p2, e1, ea, ok, s, fun u eu oku le => k u eu oku le⟩
/-! .. as values -/
@[simp] def sAndV (x y : Sm) : Sm := fun ρ μ => (x ρ μ).bind fun p => match p.1 with
  | .d (.bool true) => y ρ p.2
  | .d (.bool false) => some (.d (.bool false), p.2)
  | _ => none
@[simp] def sOrV (x y : Sm) : Sm := fun ρ μ => (x ρ μ).bind fun p => match p.1 with
  | .d (.bool false) => y ρ p.2
  | .d (.bool true) => some (.d (.bool true), p.2)
  | _ => none
@[simp] def sNotV (x : Sb) : Sm := fun ρ μ => (x ρ μ).map fun p => (.d (.bool (!p.1)), p.2)
theorem pE_and {rest : List Expr} {x y : Sm} (ha : PE X a (tE X.K x)) (hb : PE X (.BoolOp .And (b :: rest) pos) (tE X.K y)) : PE X (.BoolOp .And (a :: b :: rest) pos) (tE X.K (sAndV x y)) :=
  pe_of (pe_and ha hb) fun σ H Q q => by
    obtain ⟨ρ, w, r, μ', e1, e2, ok, s, k⟩ := q
    obtain ⟨⟨p1, p2⟩, ea, e2⟩ := Option.bind_eq_some_iff.mp e2
    refine ⟨ρ, w, p1, p2, e1, ea, ok, s, fun u v eu oku le rp => ?_⟩
    subst eu
    split at e2
    · rename_i ee
      have ee : p1 = .d (.bool true) := ee
      subst ee
      cases rp
      refine ⟨true, rfl, ?_⟩
      rw [if_pos rfl]
      exact ⟨ρ, u, r, μ', rfl, e2, oku, s.mono le, Wish.to k le⟩
    · rename_i ee
      have ee : p1 = .d (.bool false) := ee
      subst ee
      cases rp
      cases e2
      refine ⟨false, rfl, ?_⟩
      rw [if_neg Bool.false_ne_true]
      exact k u _ rfl oku le (.bl _)
    · cases e2
theorem pE_or {rest : List Expr} {x y : Sm} (ha : PE X a (tE X.K x)) (hb : PE X (.BoolOp .Or (b :: rest) pos) (tE X.K y)) : PE X (.BoolOp .Or (a :: b :: rest) pos) (tE X.K (sOrV x y)) :=
  pe_of (pe_or ha hb) fun σ H Q q => by
    obtain ⟨ρ, w, r, μ', e1, e2, ok, s, k⟩ := q
    obtain ⟨⟨p1, p2⟩, ea, e2⟩ := Option.bind_eq_some_iff.mp e2
    refine ⟨ρ, w, p1, p2, e1, ea, ok, s, fun u v eu oku le rp => ?_⟩
    subst eu
    split at e2
    · rename_i ee
      have ee : p1 = .d (.bool false) := ee
      subst ee
      cases rp
      refine ⟨false, rfl, ?_⟩
      rw [if_neg Bool.false_ne_true]
      exact ⟨ρ, u, r, μ', rfl, e2, oku, s.mono le, Wish.to k le⟩
    · rename_i ee
      have ee : p1 = .d (.bool true) := ee
      subst ee
      cases rp
      cases e2
      refine ⟨true, rfl, ?_⟩
      rw [if_pos rfl]
      exact k u _ rfl oku le (.bl _)
    · cases e2
/-- not a, as a value, of a bool -/
@[simp] def sNotB (x : Sm) : Sm := fun ρ μ => (x ρ μ).bind fun p => match p.1 with
  | .d (.bool k) => some (.d (.bool (!k)), p.2)
  | _ => none
theorem pE_not {x : Sm} (ha : PE X a (tE X.K x)) : PE X (.UnaryOp .Not a pos) (tE X.K (sNotB x)) :=
  pe_of (pe_not ha) fun σ H Q q => by
    obtain ⟨ρ, w, r, μ', e1, e2, ok, s, k⟩ := q
    obtain ⟨⟨p1, p2⟩, ea, e2⟩ := Option.bind_eq_some_iff.mp e2
    refine ⟨ρ, w, p1, p2, e1, ea, ok, s, fun u v eu oku le rp => ?_⟩
    split at e2
    · rename_i kk ee
      have ee : p1 = .d (.bool kk) := ee
      subst ee
      cases rp
      cases e2
      exact ⟨_, rfl, k u _ eu oku le (.bl _)⟩
    · cases e2
@[simp] def sIfE (t : Sb) (x y : Sm) : Sm := fun ρ μ => (t ρ μ).bind fun p => if p.1 then x ρ p.2 else y ρ p.2
theorem pE_ifE {t : Sb} {x y : Sm} (hc : PT X c (tB X.K t)) (ha : PE X a (tE X.K x)) (hb : PE X b (tE X.K y)) : PE X (.IfExp c a b pos) (tE X.K (sIfE t x y)) :=
  pe_of (pe_ifExp hc ha hb) fun σ H Q q => by
    obtain ⟨ρ, w, r, μ', e1, e2, ok, s, k⟩ := q
    obtain ⟨⟨p1, p2⟩, ea, e2⟩ := Option.bind_eq_some_iff.mp e2
    refine ⟨ρ, w, p1, p2, e1, ea, ok, s, fun u eu oku le => ?_⟩
    subst eu
    cases p1 with
    | true =>
      rw [if_pos rfl]
      exact ⟨ρ, u, r, μ', rfl, e2, oku, s.mono le, Wish.to k le⟩
    | false =>
      rw [if_neg Bool.false_ne_true]
      exact ⟨ρ, u, r, μ', rfl, e2, oku, s.mono le, Wish.to k le⟩

/-! ### isinstance -/
inductive Tn where | int | bool | tuple | str
def Tn.nm : Tn → String
  | .int => "int" | .bool => "bool" | .tuple => "tuple" | .str => "str"
@[simp] def isT : PyData → Tn → Option Bool
  | .none, _ => some false
  | .bool _, .int => some true
  | .bool _, .bool => some true
  | .bool _, _ => some false
  | .int _, .int => some true
  | .int _, _ => some false
  | .str _, .str => some true
  | .str _, _ => some false
  | .list _, _ => some false
  | .tuple _, .tuple => some true
  | .tuple _, _ => some false
  | .dict _, _ => none
@[simp] def fIsi (T : Tn) : F1 := fun μ x => (rd μ x).bind fun d => (isT d T).map fun b => (.d (.bool b), μ)
theorem isi_prem {K : PySem.W.Frag} {w : Wd} {v : V} {d : PyData} {T : Tn} {b : Bool} (h : RpT w.F w.H v d) (e : isT d T = some b) : ∃ t, TyX K w.H v t ∧ PySem.W.kitOne K t (.type T.nm) = some b := by
  cases d with
  | none => cases h; cases e; exact ⟨_, .base .non, kit_ty (by cases T <;> decide +kernel)⟩
  | bool k => cases h; refine ⟨_, .base (.bl _), kit_ty ?_⟩; cases T <;> cases e <;> decide +kernel
  | int k => cases h; refine ⟨_, .base (.int _), kit_ty ?_⟩; cases T <;> cases e <;> decide +kernel
  | str k => cases h; refine ⟨_, .base (.str _), kit_ty ?_⟩; cases T <;> cases e <;> decide +kernel
  | list ds =>
    obtain ⟨a, xs, h1, h2, h3⟩ := h
    subst h1
    cases e
    exact ⟨_, .base (.lst h2), kit_ty (by cases T <;> decide +kernel)⟩
  | tuple ds =>
    obtain ⟨a, xs, h1, h2, h3⟩ := h
    subst h1
    refine ⟨_, .base (.tup h2), kit_ty ?_⟩
    cases T <;> cases e <;> decide +kernel
  | dict es => cases e
theorem pE_isi {T : Tn} {m : Sm} {tn : Str} {p p2 : Pos} (ha : PE X a (tE X.K m)) (hg : Gl X "isinstance") (hm : X.mg "isinstance" = none) (hg2 : Gl X tn) (hm2 : X.mg tn = none) (hb : bootBuiltins tn = some (.type T.nm))
    (hn : tn ≠ "__name__" := by decide) (hd : (tn == ("__debug__" : Str)) = false := by decide)
    (he : starEach [a, .Name tn p2] X.env = (false, eval a X.env) :: starEach [.Name tn p2] X.env := by rfl) (he2 : starEach [.Name tn p2] X.env = (false, eval (.Name tn p2) X.env) :: starEach [] X.env := by rfl)
    (hpl : (backTo pos (starEach [.Name tn p2] X.env)).any (·.1) = false := by rfl) : PE X (.Call (.Name "isinstance" p) [a, .Name tn p2] [] pos) (tE X.K (s1 (fIsi T) m)) := by
  have hT : PE X (.Name tn p2) (tC (.ty T.nm)) := pe_bltn hg2 hm2 hb (v := V.ty T.nm) rfl hn hd
  refine pe_of (pe_callB call_isi hg hm (by decide +kernel) (pa_cons ha (pa_cons hT pa_nil he2) he) (by decide) (by decide) he hpl) fun σ H Q q => ?_
  have := one_run (K := X.K) (t := fun v H1 Q1 => rIsi X.K [v, .ty T.nm] H1 Q1) ?_ q
  · exact this
  · intro w x v r μ' Q e ok rx k
    obtain ⟨d, ed, e⟩ := Option.bind_eq_some_iff.mp e
    obtain ⟨b, eb, e⟩ := Option.map_eq_some_iff.mp e
    cases e
    obtain ⟨t, h1, h2⟩ := isi_prem (K := X.K) (RpR.rd ok rx ed) eb
    exact ⟨v, .ty T.nm, t, .type T.nm, b, rfl, .ty _, h1, h2, Wish.here k ok (.bl _)⟩

/-! ### slices -/
abbrev So := Ro → Mu → Option (Option Int × Mu)
def tOp' (K : PySem.W.Frag) (m : So) : TO := fun σ H Q => ∃ (ρ : Ro) (w : Wd) (r : Option Int) (μ' : Mu), w.H = H ∧ m ρ w.μ = some (r, μ') ∧ w.Ok ∧ Slots K ρ w σ ∧ ∀ (u : Wd), u.μ = μ' → u.Ok → w.le u → Q r u.H
@[simp] def sNoP : So := fun _ μ => some (none, μ)
@[simp] def sPart (m : Sm) : So := fun ρ μ => (m ρ μ).bind fun p => match p.1 with
  | .d (.int i) => some (some i, p.2)
  | _ => none
theorem po_of {oe : Option Expr} {t t' : TO} (h : PO X oe t) (i : ∀ σ H Q, t' σ H Q → t σ H Q) : PO X oe t' := ⟨fun pins s σ H Q I hw => h.run pins s σ H Q I (i _ _ _ hw)⟩
theorem pO_none : PO X none (tOp' X.K sNoP) := po_of po_none fun σ H Q q => by
  obtain ⟨ρ, w, r, μ', e1, e2, ok, s, k⟩ := q
  cases e2
  exact e1 ▸ k w rfl ok (.refl w)
theorem pO_some {m : Sm} (h : PE X e (tE X.K m)) : PO X (some e) (tOp' X.K (sPart m)) := po_of (po_some h) fun σ H Q q => by
  obtain ⟨ρ, w, r, μ', e1, e2, ok, s, k⟩ := q
  obtain ⟨⟨p1, p2⟩, ea, e2⟩ := Option.bind_eq_some_iff.mp e2
  refine ⟨ρ, w, p1, p2, e1, ea, ok, s, fun u v eu oku le rp => ?_⟩
  split at e2
  · rename_i i ee
    have ee : p1 = .d (.int i) := ee
    subst ee
    cases rp
    cases e2
    exact ⟨_, rfl, k u eu oku le⟩
  · cases e2
/-- the items of xs[lo:hi] -/
def cutG {α : Type} (xs : List α) (lo hi : Option Int) : List α := (xs.drop (HT.sIx xs.length 0 lo)).take (HT.sIx xs.length xs.length hi - HT.sIx xs.length 0 lo)
theorem RpAll.cut {F : Hp} {vs : List V} {ds : List PyData} (h : RpAll F vs ds) (lo hi : Option Int) : RpAll F (cutV vs lo hi) (cutG ds lo hi) := by
  unfold cutV cutG
  rw [h.length]
  exact (h.drop _).take _
@[simp] def fSl (b : Bool) (μ : Mu) (x : Rv) (lo hi : Option Int) : Option (Rv × Mu) := match rd μ x with
  | some (.list ds) => some (mkL b (cutG ds lo hi) μ)
  | some (.tuple ds) => match x with
    | .d _ => some (.d (.tuple (cutG ds lo hi)), μ)
    | _ => none
  | _ => none
@[simp] def sSl (b : Bool) (m : Sm) (lo hi : So) : Sm := fun ρ μ => (m ρ μ).bind fun p => (lo ρ p.2).bind fun q => (hi ρ q.2).bind fun z => fSl b z.2 p.1 q.1 z.1
theorem cut_whole {α : Type} {xs : List α} {lo hi : Option Int} (h : HT.sIx xs.length 0 lo = 0 ∧ HT.sIx xs.length xs.length hi = xs.length) : cutG xs lo hi = xs := by
  unfold cutG
  rw [h.1, h.2, Nat.sub_zero, List.drop_zero, List.take_length]
theorem pE_sl {fl : Bool} {m : Sm} {lo hi : So} {elo ehi : Option Expr} {p2 : Pos} (he : PE X e (tE X.K m)) (hl : PO X elo (tOp' X.K lo)) (hh : PO X ehi (tOp' X.K hi)) : PE X (.Subscript e (.Slice elo ehi none p2) pos) (tE X.K (sSl fl m lo hi)) := by
  refine pe_of (pe_slice (SlR.or sl_list sl_tupA) he hl hh) fun σ H Q q => ?_
  obtain ⟨ρ, w, r, μ', e1, e2, ok, s, k⟩ := q
  obtain ⟨⟨p1, pm⟩, ea, e2⟩ := Option.bind_eq_some_iff.mp e2
  obtain ⟨⟨q1, qm⟩, eb, e2⟩ := Option.bind_eq_some_iff.mp e2
  obtain ⟨⟨z1, zm⟩, ec, e2⟩ := Option.bind_eq_some_iff.mp e2
  refine ⟨ρ, w, p1, pm, e1, ea, ok, s, fun u v eu oku le rp => ?_⟩
  subst eu
  refine ⟨ρ, u, q1, qm, rfl, eb, oku, s.mono le, fun u2 eu2 oku2 le2 => ?_⟩
  subst eu2
  refine ⟨ρ, u2, z1, zm, rfl, ec, oku2, s.mono (le.trans le2), fun u3 eu3 oku3 le3 => ?_⟩
  subst eu3
  have rp3 := rp.mono (le2.trans le3)
  have k3 := Wish.to k (le.trans (le2.trans le3))
  have e3 : fSl fl u3.μ p1 q1 z1 = some (r, μ') := e2
  clear e2
  unfold fSl at e3
  split at e3
  · rename_i ds ex
    obtain ⟨a, xs, h1, h2, h3⟩ := RpR.rd oku3 rp3 ex
    exact .inl ⟨a, xs, h1, SqL.ofF h2, fun p hp => mkL_ok oku3 hp (h3.cut q1 z1) (by simpa using e3) k3⟩
  · rename_i ds ex
    split at e3
    · have ex := Option.some.inj (show some _ = some (PyData.tuple ds) from ex)
      subst ex
      cases e3
      obtain ⟨a, xs, h1, h2, h3⟩ := Rp.top rp3
      subst h1
      refine .inr ⟨a, xs, rfl, SqT.ofF h2, fun hw => ?_, fun _ p hp => mkT_ok oku3 hp (h3.cut q1 z1) k3⟩
      rw [h3.length] at hw
      rw [cut_whole hw] at k3
      exact Wish.here k3 oku3 rp3
    · cases e3
  · cases e3
/-- xs[::-1] of a list -/
@[simp] def fRevL (b : Bool) : F1 := fun μ x => match rd μ x with
  | some (.list ds) => some (mkL b ds.reverse μ)
  | _ => none
theorem pE_revL {fl : Bool} {m : Sm} {kk : Nat} {p1 p2 p3 : Pos} (he : PE X e (tE X.K m)) : PE X (.Subscript e (.Slice none none (some (.UnaryOp .USub (.Constant (.int 1) kk p1) p2)) p3) pos) (tE X.K (s1 (fRevL fl) m)) :=
  pe_of (pe_revL he) fun σ H Q q => one_run (t := fun x H1 Q => ∃ a xs, x = .ref a ∧ SqL X.K H1 a xs ∧ ∀ p, H1 p = none → Q (.ref p) (upd H1 p (.lst xs.reverse))) (by
    intro w x v r μ' Q e ok rx k
    unfold fRevL at e
    split at e
    · rename_i ds ex
      obtain ⟨a, xs, h1, h2, h3⟩ := RpR.rd ok rx ex
      exact ⟨a, xs, h1, SqL.ofF h2, fun p hp => mkL_ok ok hp h3.reverse (by simpa using e) k⟩
    · cases e) q
end

/-! ### built-in functions -/
def boolsOf : List PyData → Option (List Bool)
  | [] => some []
  | .bool b :: r => (boolsOf r).map (b :: ·)
  | _ :: _ => none
def intsOf : List PyData → Option (List Int)
  | [] => some []
  | .int b :: r => (intsOf r).map (b :: ·)
  | _ :: _ => none
theorem boolsOf_ok : ∀ {ds : List PyData} {bs : List Bool}, boolsOf ds = some bs → ds = bs.map .bool
  | [], _, e => by cases e; rfl
  | d :: r, bs, e => by
    unfold boolsOf at e
    split at e
    · rename_i h; cases h
    · rename_i b r' h
      cases h
      obtain ⟨cs, h1, h2⟩ := Option.map_eq_some_iff.mp e
      cases h2
      rw [boolsOf_ok h1]; rfl
    · cases e
theorem intsOf_ok : ∀ {ds : List PyData} {bs : List Int}, intsOf ds = some bs → ds = bs.map .int
  | [], _, e => by cases e; rfl
  | d :: r, bs, e => by
    unfold intsOf at e
    split at e
    · rename_i h; cases h
    · rename_i b r' h
      cases h
      obtain ⟨cs, h1, h2⟩ := Option.map_eq_some_iff.mp e
      cases h2
      rw [intsOf_ok h1]; rfl
    · cases e
@[simp] theorem boolsOf_map (bs : List Bool) : boolsOf (bs.map .bool) = some bs := by
  induction bs with
  | nil => rfl
  | cons b r ih => show (boolsOf (r.map .bool)).map (b :: ·) = _; rw [ih]; rfl
@[simp] theorem intsOf_map (bs : List Int) : intsOf (bs.map .int) = some bs := by
  induction bs with
  | nil => rfl
  | cons b r ih => show (intsOf (r.map .int)).map (b :: ·) = _; rw [ih]; rfl
/-- one list as the argument -/
@[simp] def listOf (μ : Mu) : List Rv → Option (List PyData)
  | [x] => match rd μ x with
    | some (.list ds) => some ds
    | _ => none
  | _ => none
theorem listOf_ok {K : PySem.W.Frag} {w : Wd} (ok : w.Ok) {rs : List Rv} {vs : List V} {ds : List PyData} (h : RpRs K w rs vs) (e : listOf w.μ rs = some ds) : ∃ a xs, vs = [.ref a] ∧ w.H a = some (.lst xs) ∧ RpAll w.F xs ds := by
  unfold listOf at e
  split at e
  · rename_i x
    obtain ⟨v, rfl, rv⟩ := Paired.one h
    split at e
    · rename_i es ex
      cases e
      obtain ⟨a, xs, h1, h2, h3⟩ := RpR.rd ok rv ex
      subst h1
      exact ⟨a, xs, rfl, h2, h3⟩
    · cases e
  · cases e
@[simp] def fAll : FA := fun μ rs => (listOf μ rs).bind fun ds => (boolsOf ds).map fun bs => (.d (.bool (bs.all id)), μ)
theorem opA_all {K : PySem.W.Frag} : OpA K fAll (rAll K) := by
  intro w rs vs r μ' Q e ok rp k
  obtain ⟨ds, e1, e⟩ := Option.bind_eq_some_iff.mp e
  obtain ⟨bs, e2, e⟩ := Option.map_eq_some_iff.mp e
  cases e
  obtain ⟨a, xs, h1, h2, h3⟩ := listOf_ok ok rp e1
  rw [boolsOf_ok e2] at h3
  rw [h3.bools] at h2
  exact ⟨a, bs, h1, SqL.ofF h2, Wish.here k ok (.bl _)⟩
@[simp] def fSum : FA := fun μ rs => (listOf μ rs).bind fun ds => (intsOf ds).map fun bs => (.d (.int bs.sum), μ)
theorem opA_sum {K : PySem.W.Frag} : OpA K fSum (rSum K) := by
  intro w rs vs r μ' Q e ok rp k
  obtain ⟨ds, e1, e⟩ := Option.bind_eq_some_iff.mp e
  obtain ⟨bs, e2, e⟩ := Option.map_eq_some_iff.mp e
  cases e
  obtain ⟨a, xs, h1, h2, h3⟩ := listOf_ok ok rp e1
  rw [intsOf_ok e2] at h3
  rw [h3.ints] at h2
  exact ⟨a, bs, h1, SqL.ofF h2, Wish.here k ok (.int _)⟩
/-- the least, the greatest -/
def minI : List Int → Option Int
  | [] => none
  | x :: r => some (r.foldl min x)
def maxI : List Int → Option Int
  | [] => none
  | x :: r => some (r.foldl max x)
theorem foldl_min (r : List Int) : ∀ x : Int, (r.foldl min x ∈ x :: r) ∧ ∀ y ∈ x :: r, r.foldl min x ≤ y := by
  induction r with
  | nil => intro x; simp
  | cons z r ih =>
    intro x
    obtain ⟨h1, h2⟩ := ih (min x z)
    rw [List.foldl_cons]
    refine ⟨?_, fun y hy => ?_⟩
    · rcases List.mem_cons.mp h1 with e | h
      · rw [e]
        rcases Int.le_total x z with h | h
        · rw [Int.min_eq_left h]; simp
        · rw [Int.min_eq_right h]; simp
      · exact List.mem_cons_of_mem _ (List.mem_cons_of_mem _ h)
    · have h3 := h2 (min x z) (by simp)
      rcases List.mem_cons.mp hy with e | h
      · subst e; exact Int.le_trans h3 (Int.min_le_left _ _)
      · rcases List.mem_cons.mp h with e | h
        · subst e; exact Int.le_trans h3 (Int.min_le_right _ _)
        · exact h2 y (List.mem_cons_of_mem _ h)
theorem foldl_max (r : List Int) : ∀ x : Int, (r.foldl max x ∈ x :: r) ∧ ∀ y ∈ x :: r, y ≤ r.foldl max x := by
  induction r with
  | nil => intro x; simp
  | cons z r ih =>
    intro x
    obtain ⟨h1, h2⟩ := ih (max x z)
    rw [List.foldl_cons]
    refine ⟨?_, fun y hy => ?_⟩
    · rcases List.mem_cons.mp h1 with e | h
      · rw [e]
        rcases Int.le_total x z with h | h
        · rw [Int.max_eq_right h]; simp
        · rw [Int.max_eq_left h]; simp
      · exact List.mem_cons_of_mem _ (List.mem_cons_of_mem _ h)
    · have h3 := h2 (max x z) (by simp)
      rcases List.mem_cons.mp hy with e | h
      · subst e; exact Int.le_trans (Int.le_max_left _ _) h3
      · rcases List.mem_cons.mp h with e | h
        · subst e; exact Int.le_trans (Int.le_max_right _ _) h3
        · exact h2 y (List.mem_cons_of_mem _ h)
theorem minI_ok {ns : List Int} {n : Int} (h : minI ns = some n) : n ∈ ns ∧ ∀ y ∈ ns, n ≤ y := by
  cases ns with
  | nil => cases h
  | cons x r => cases h; exact foldl_min r x
theorem maxI_ok {ns : List Int} {n : Int} (h : maxI ns = some n) : n ∈ ns ∧ ∀ y ∈ ns, y ≤ n := by
  cases ns with
  | nil => cases h
  | cons x r => cases h; exact foldl_max r x
@[simp] def fMin : FA := fun μ rs => match rs with
  | [.d (.int i), .d (.int j)] => some (.d (.int (if j < i then j else i)), μ)
  | rs => (listOf μ rs).bind fun ds => (intsOf ds).bind fun bs => (minI bs).map fun n => (.d (.int n), μ)
@[simp] def fMax : FA := fun μ rs => match rs with
  | [.d (.int i), .d (.int j)] => some (.d (.int (if j > i then j else i)), μ)
  | rs => (listOf μ rs).bind fun ds => (intsOf ds).bind fun bs => (maxI bs).map fun n => (.d (.int n), μ)
theorem opA_min {K : PySem.W.Frag} : OpA K fMin (fun xs H Q => (∃ i j, xs = [.int i, .int j] ∧ Q (.int (if j < i then j else i)) H) ∨ rMin K xs H Q) := by
  intro w rs vs r μ' Q e ok rp k
  unfold fMin at e
  split at e
  · rename_i i j
    obtain ⟨v, z, rfl, r1, r2⟩ := Paired.two rp
    cases e
    cases r1
    cases r2
    exact .inl ⟨_, _, rfl, Wish.here k ok (.int _)⟩
  · obtain ⟨ds, e1, e⟩ := Option.bind_eq_some_iff.mp e
    obtain ⟨bs, e2, e⟩ := Option.bind_eq_some_iff.mp e
    obtain ⟨n, e3, e⟩ := Option.map_eq_some_iff.mp e
    cases e
    obtain ⟨a, xs, h1, h2, h3⟩ := listOf_ok ok rp e1
    rw [intsOf_ok e2] at h3
    rw [h3.ints] at h2
    obtain ⟨m1, m2⟩ := minI_ok e3
    refine .inr ⟨a, bs, h1, SqL.ofF h2, List.length_pos_of_mem m1, fun m hm hall => ?_⟩
    have : m = n := Int.le_antisymm (hall n m1) (m2 m hm)
    subst this
    exact Wish.here k ok (.int _)
theorem opA_max {K : PySem.W.Frag} : OpA K fMax (fun xs H Q => (∃ i j, xs = [.int i, .int j] ∧ Q (.int (if j > i then j else i)) H) ∨ rMax K xs H Q) := by
  intro w rs vs r μ' Q e ok rp k
  unfold fMax at e
  split at e
  · rename_i i j
    obtain ⟨v, z, rfl, r1, r2⟩ := Paired.two rp
    cases e
    cases r1
    cases r2
    exact .inl ⟨_, _, rfl, Wish.here k ok (.int _)⟩
  · obtain ⟨ds, e1, e⟩ := Option.bind_eq_some_iff.mp e
    obtain ⟨bs, e2, e⟩ := Option.bind_eq_some_iff.mp e
    obtain ⟨n, e3, e⟩ := Option.map_eq_some_iff.mp e
    cases e
    obtain ⟨a, xs, h1, h2, h3⟩ := listOf_ok ok rp e1
    rw [intsOf_ok e2] at h3
    rw [h3.ints] at h2
    obtain ⟨m1, m2⟩ := maxI_ok e3
    refine .inr ⟨a, bs, h1, SqL.ofF h2, List.length_pos_of_mem m1, fun m hm hall => ?_⟩
    have : m = n := Int.le_antisymm (m2 m hm) (hall n m1)
    subst this
    exact Wish.here k ok (.int _)
theorem call_minU {X : Cx} (hc : X.calm = true) : CallR X (.builtin "min") (fun xs H Q => (∃ i j, xs = [.int i, .int j] ∧ Q (.int (if j < i then j else i)) H) ∨ rMin X.K xs H Q) := CallR.or (call_min2 hc) (cr_min hc)
theorem call_maxU {X : Cx} (hc : X.calm = true) : CallR X (.builtin "max") (fun xs H Q => (∃ i j, xs = [.int i, .int j] ∧ Q (.int (if j > i then j else i)) H) ∨ rMax X.K xs H Q) := CallR.or (call_max2 hc) (cr_max hc)
/-- tuple(x), list(x) of a list or tuple -/
@[simp] def fTupOf : FA := fun μ rs => match rs with
  | [x] => match rd μ x with
    | some (.list ds) => some (.d (.tuple ds), μ)
    | some (.tuple ds) => match x with
      | .d _ => some (.d (.tuple ds), μ)
      | _ => none
    | _ => none
  | _ => none
theorem opA_tupOf {K : PySem.W.Frag} : OpA K fTupOf (fun xs H Q => ∃ p ys, xs = [.ref p] ∧ ((SqL K H p ys ∧ ∀ l, H l = none → Q (.ref l) (upd H l (.tup ys))) ∨ (SqT K H p ys ∧ Q (.ref p) H))) := by
  intro w rs vs r μ' Q e ok rp k
  unfold fTupOf at e
  split at e
  · rename_i x
    obtain ⟨v, rfl, rv⟩ := Paired.one rp
    split at e
    · rename_i ds ex
      cases e
      obtain ⟨a, xs, h1, h2, h3⟩ := RpR.rd ok rv ex
      subst h1
      exact ⟨a, xs, rfl, .inl ⟨SqL.ofF h2, fun p hp => mkT_ok ok hp h3 k⟩⟩
    · rename_i ds ex
      split at e
      · rename_i dx
        have ex : some dx = some (PyData.tuple ds) := ex
        cases ex
        cases e
        obtain ⟨a, xs, h1, h2, h3⟩ := Rp.top rv
        subst h1
        exact ⟨a, xs, rfl, .inr ⟨SqT.ofF h2, Wish.here k ok rv⟩⟩
      · cases e
    · cases e
  · cases e
@[simp] def fLstOf (b : Bool) : FA := fun μ rs => match rs with
  | [x] => match (rd μ x).bind itemsD with
    | some ds => some (mkL b ds μ)
    | _ => none
  | _ => none
theorem opA_lstOf {K : PySem.W.Frag} {b : Bool} : OpA K (fLstOf b) (fun xs H Q => ∃ p ys, xs = [.ref p] ∧ (SqL K H p ys ∨ SqT K H p ys) ∧ ∀ l, H l = none → Q (.ref l) (upd H l (.lst ys))) := by
  intro w rs vs r μ' Q e ok rp k
  unfold fLstOf at e
  split at e
  · rename_i x
    obtain ⟨v, rfl, rv⟩ := Paired.one rp
    split at e
    · rename_i ds ex
      obtain ⟨d, ed, ei⟩ := Option.bind_eq_some_iff.mp ex
      have hz := RpR.rd ok rv ed
      cases d with
      | list es =>
        cases ei
        obtain ⟨p, xs, h1, h2, h3⟩ := hz
        subst h1
        exact ⟨p, xs, rfl, .inl (SqL.ofF h2), fun l hl => mkL_ok ok hl h3 (by simpa using e) k⟩
      | tuple es =>
        cases ei
        obtain ⟨p, xs, h1, h2, h3⟩ := hz
        subst h1
        exact ⟨p, xs, rfl, .inr (SqT.ofF h2), fun l hl => mkL_ok ok hl h3 (by simpa using e) k⟩
      | _ => cases ei
    · cases e
  · cases e
/-- int(x) of an int, a bool -/
@[simp] def fInt : FA := fun μ rs => match rs with
  | [.d (.int i)] => some (.d (.int i), μ)
  | [.d (.bool k)] => some (.d (.int (if k then 1 else 0)), μ)
  | _ => none
theorem opA_int {K : PySem.W.Frag} : OpA K fInt (fun xs H Q => (∃ i, xs = [.int i] ∧ Q (.int i) H) ∨ ∃ k, xs = [.bl k] ∧ Q (.int (if k then 1 else 0)) H) := by
  intro w rs vs r μ' Q e ok rp k
  unfold fInt at e
  split at e
  · obtain ⟨v, rfl, rv⟩ := Paired.one rp
    cases rv
    cases e
    exact .inl ⟨_, rfl, Wish.here k ok (.int _)⟩
  · obtain ⟨v, rfl, rv⟩ := Paired.one rp
    cases rv
    cases e
    exact .inr ⟨_, rfl, Wish.here k ok (.int _)⟩
  · cases e
end Sh
set_option Elab.async false
set_option linter.all false
set_option maxRecDepth 100000
namespace Sh
open PySem L2

/-! ### statements -/
inductive Fl where
  | nx | bk | ct
  | rt (r : Rv)
abbrev Ss := Ro → Mu → Option (Fl × Ro × Mu)
def FlEnd (K : PySem.W.Frag) (D : Ends) (u : Wd) (σ : L2.St) : Fl → Prop
  | .nx => D.nx σ u.H
  | .bk => D.bk σ u.H
  | .ct => D.ct σ u.H
  | .rt r => ∀ v, RpR K u r v → D.rt v u.H
def tS (K : PySem.W.Frag) (m : Ss) : TS := fun D σ H => ∃ (ρ : Ro) (w : Wd) (f : Fl) (ρ' : Ro) (μ' : Mu), w.H = H ∧ m ρ w.μ = some (f, ρ', μ') ∧ w.Ok ∧ Slots K ρ w σ ∧
  ∀ (u : Wd) (σ' : L2.St), u.μ = μ' → u.Ok → w.le u → Slots K ρ' u σ' → FlEnd K D u σ' f
section
variable {X : Cx} {pos : Pos}
@[simp] def sSkip : Ss := fun ρ μ => some (.nx, ρ, μ)
@[simp] def sSeq (a b : Ss) : Ss := fun ρ μ => (a ρ μ).bind fun p => match p.1 with
  | .nx => b p.2.1 p.2.2
  | f => some (f, p.2.1, p.2.2)
theorem skip_run {K : PySem.W.Frag} {D : Ends} {σ : L2.St} {H : Hp} (q : tS K sSkip D σ H) : D.nx σ H := by
  obtain ⟨ρ, w, f, ρ', μ', e1, e2, ok, s, k⟩ := q
  cases e2
  exact e1 ▸ k w σ rfl ok (.refl w) s
theorem pSs_nil : PSs X [] (tS X.K sSkip) := pss_of pss_nil fun D σ H q => skip_run q
theorem pSs_cons {st : Stmt} {rest : List Stmt} {a b : Ss} (h1 : PS X st (tS X.K a)) (h2 : PSs X rest (tS X.K b)) : PSs X (st :: rest) (tS X.K (sSeq a b)) := by
  refine pss_of (pss_cons h1 h2) fun D σ H q => ?_
  obtain ⟨ρ, w, f, ρ', μ', e1, e2, ok, s, k⟩ := q
  obtain ⟨⟨p1, p2, p3⟩, ea, e2⟩ := Option.bind_eq_some_iff.mp e2
  refine ⟨ρ, w, p1, p2, p3, e1, ea, ok, s, fun u σ' eu oku le su => ?_⟩
  subst eu
  cases p1 with
  | nx => exact ⟨p2, u, f, ρ', μ', rfl, e2, oku, su, fun z σ2 ez okz lez sz => k z σ2 ez okz (le.trans lez) sz⟩
  | bk => cases e2; exact k u σ' rfl oku le su
  | ct => cases e2; exact k u σ' rfl oku le su
  | rt r => cases e2; exact k u σ' rfl oku le su
theorem pSs_one {st : Stmt} {a : Ss} (h1 : PS X st (tS X.K a)) : PSs X [st] (tS X.K a) := pss_of (pss_one h1) fun D σ H q => q
theorem pS_pass : PS X (.Pass pos) (tS X.K sSkip) := ps_of ps_pass fun D σ H q => skip_run q
@[simp] def sBrk : Ss := fun ρ μ => some (.bk, ρ, μ)
@[simp] def sCnt : Ss := fun ρ μ => some (.ct, ρ, μ)
theorem pS_brk : PS X (.Break pos) (tS X.K sBrk) := ps_of ps_break fun D σ H q => by
  obtain ⟨ρ, w, f, ρ', μ', e1, e2, ok, s, k⟩ := q
  cases e2
  exact e1 ▸ k w σ rfl ok (.refl w) s
theorem pS_cnt : PS X (.Continue pos) (tS X.K sCnt) := ps_of ps_continue fun D σ H q => by
  obtain ⟨ρ, w, f, ρ', μ', e1, e2, ok, s, k⟩ := q
  cases e2
  exact e1 ▸ k w σ rfl ok (.refl w) s
@[simp] def sExpr (m : Sm) : Ss := fun ρ μ => (m ρ μ).map fun p => (.nx, ρ, p.2)
theorem pS_expr {e : Expr} {m : Sm} (he : PE X e (tE X.K m)) (hs : swapsWith e none pos.line X.env = pure false := by rfl) : PS X (.Expr e pos) (tS X.K (sExpr m)) :=
  ps_of (ps_expr he hs) fun D σ H q => by
    obtain ⟨ρ, w, f, ρ', μ', e1, e2, ok, s, k⟩ := q
    obtain ⟨⟨p1, p2⟩, ea, e2⟩ := Option.map_eq_some_iff.mp e2
    cases e2
    exact ⟨ρ, w, p1, p2, e1, ea, ok, s, fun u v eu oku le rp => k u σ eu oku le (s.mono le)⟩
@[simp] def sRet (m : Sm) : Ss := fun ρ μ => (m ρ μ).map fun p => (.rt p.1, ρ, p.2)
theorem pS_ret {e : Expr} {m : Sm} (he : PE X e (tE X.K m)) : PS X (.Return (some e) pos) (tS X.K (sRet m)) :=
  ps_of (ps_ret he) fun D σ H q => by
    obtain ⟨ρ, w, f, ρ', μ', e1, e2, ok, s, k⟩ := q
    obtain ⟨⟨p1, p2⟩, ea, e2⟩ := Option.map_eq_some_iff.mp e2
    cases e2
    exact ⟨ρ, w, p1, p2, e1, ea, ok, s, fun u v eu oku le rp => k u σ eu oku le (s.mono le) v rp⟩
@[simp] def sRetN : Ss := fun ρ μ => some (.rt (.d .none), ρ, μ)
theorem pS_retN : PS X (.Return none pos) (tS X.K sRetN) := ps_of ps_retN fun D σ H q => by
  obtain ⟨ρ, w, f, ρ', μ', e1, e2, ok, s, k⟩ := q
  cases e2
  exact e1 ▸ k w σ rfl ok (.refl w) s _ .non
@[simp] def sIf (t : Sb) (a b : Ss) : Ss := fun ρ μ => (t ρ μ).bind fun p => if p.1 then a ρ p.2 else b ρ p.2
theorem pS_if {c : Expr} {xs ys : List Stmt} {t : Sb} {a b : Ss} (hc : PT X c (tB X.K t)) (ha : PSs X xs (tS X.K a)) (hb : PSs X ys (tS X.K b)) : PS X (.If c xs ys pos) (tS X.K (sIf t a b)) :=
  ps_of (ps_if hc ha hb) fun D σ H q => by
    obtain ⟨ρ, w, f, ρ', μ', e1, e2, ok, s, k⟩ := q
    obtain ⟨⟨p1, p2⟩, ea, e2⟩ := Option.bind_eq_some_iff.mp e2
    refine ⟨ρ, w, p1, p2, e1, ea, ok, s, fun u eu oku le => ?_⟩
    subst eu
    have k' : ∀ (z : Wd) (σ' : L2.St), z.μ = μ' → z.Ok → u.le z → Slots X.K ρ' z σ' → FlEnd X.K D z σ' f := fun z σ2 ez okz lez sz => k z σ2 ez okz (le.trans lez) sz
    cases p1 with
    | true =>
      rw [if_pos rfl]
      exact ⟨ρ, u, f, ρ', μ', rfl, e2, oku, s.mono le, k'⟩
    | false =>
      rw [if_neg Bool.false_ne_true]
      exact ⟨ρ, u, f, ρ', μ', rfl, e2, oku, s.mono le, k'⟩

/-! ### targets -/
inductive Tg where
  | nm (i : Nat)
  | tp (is : List Nat)
@[simp] def sets {α : Type} : List (Option α) → List Nat → List α → List (Option α)
  | ρ, i :: is, x :: xs => sets (ρ.set i (some x)) is xs
  | ρ, _, _ => ρ
@[simp] def Tg.put (t : Tg) (d : PyData) (ρ : Ro) : Option Ro := match t with
  | .nm i => some (ρ.set i (some (.d d)))
  | .tp is => match d with
    | .tuple ds => if ds.length = is.length then some (sets ρ is (ds.map .d)) else none
    | _ => none
def gNames : List Nat → TGs
  | [] => gNil
  | i :: is => gCons (gName i) (gNames is)
def gT (K : PySem.W.Frag) : Tg → TG
  | .nm i => gName i
  | .tp is => gTup K is.length (gNames is)
theorem gNames_run : ∀ (is : List Nat) (xs : List V) (σ : L2.St) (H : Hp) (Q : L2.St → Hp → Prop), xs.length = is.length → Q (sets σ is xs) H → gNames is xs σ H Q
  | [], [], _, _, _, _, q => ⟨rfl, q⟩
  | i :: is, x :: xs, σ, H, Q, h, q => ⟨x, xs, rfl, gNames_run is xs _ H Q (by simpa using h) q⟩
theorem Slots.sets {K : PySem.W.Frag} {w : Wd} : ∀ (is : List Nat) (ds : List PyData) (xs : List V) {ρ : Ro} {σ : L2.St}, Slots K ρ w σ → RpAll w.F xs ds → Slots K (Sh.sets ρ is (ds.map .d)) w (Sh.sets σ is xs)
  | [], _, _, _, _, s, _ => by unfold Sh.sets; exact s
  | i :: is, _, _, _, _, s, .nil => by unfold Sh.sets; exact s
  | i :: is, _ :: ds, _ :: xs, ρ, σ, s, .cons r t => Slots.sets is ds xs (s.set (r := .d _) r i) t
def Tg.slots : Tg → List Nat
  | .nm i => [i]
  | .tp is => is
theorem gT_run {K : PySem.W.Frag} {t : Tg} {d : PyData} {v : V} {w : Wd} {ρ ρ' : Ro} {σ : L2.St} {Q : L2.St → Hp → Prop} (e : t.put d ρ = some ρ') (r : Rp w.F v d) (s : Slots K ρ w σ) (k : ∀ xs, Slots K ρ' w (sets σ t.slots xs) → Q (sets σ t.slots xs) w.H) : gT K t v σ w.H Q := by
  cases t with
  | nm i =>
    cases e
    exact k [v] (s.set (r := .d d) r i)
  | tp is =>
    cases d with
    | tuple ds =>
      have e : (if ds.length = is.length then some (sets ρ is (ds.map .d)) else none) = some ρ' := e
      split at e
      · rename_i hl
        cases e
        obtain ⟨a, xs, h1, h2, h3⟩ := Rp.top r
        exact ⟨a, xs, h1, SqT.ofF h2, h3.length.trans hl, gNames_run is xs σ w.H Q (h3.length.trans hl) (k xs (s.sets is ds xs h3))⟩
      · cases e
    | _ => cases e
/-- name, .. = e -/
@[simp] def sAsg (m : Sm) (t : Tg) : Ss := fun ρ μ => (m ρ μ).bind fun p => match t, p.1 with
  | .nm i, r => some (.nx, ρ.set i (some r), p.2)
  | .tp is, .d d => (Tg.put (.tp is) d ρ).map fun ρ' => (.nx, ρ', p.2)
  | _, _ => none
theorem asg_run {K : PySem.W.Frag} {m : Sm} {t : Tg} {D : Ends} {σ : L2.St} {H : Hp} (q : tS K (sAsg m t) D σ H) : tAsg (tE K m) (gT K t) D σ H := by
  obtain ⟨ρ, w, f, ρ', μ', e1, e2, ok, s, k⟩ := q
  obtain ⟨⟨p1, p2⟩, ea, e2⟩ := Option.bind_eq_some_iff.mp e2
  refine ⟨ρ, w, p1, p2, e1, ea, ok, s, fun u v eu oku le rp => ?_⟩
  subst eu
  cases t with
  | nm i =>
    cases e2
    exact k u _ rfl oku le ((s.mono le).set rp i)
  | tp is =>
    cases p1 with
    | d x =>
      obtain ⟨ρ2, e3, e2⟩ := Option.map_eq_some_iff.mp e2
      cases e2
      exact gT_run e3 rp (s.mono le) fun xs sx => k u _ rfl oku le sx
    | _ => cases e2
theorem pS_set {i : Nat} {x : Str} {e : Expr} {m : Sm} {pos' : Pos} (hN : X.N.Nodup) (hi : X.N[i]? = some x) (hx : Loc X.env.scope x) (he : PE X e (tE X.K m)) (hs : swapsWith e (some (.Name x pos')) pos.line X.env = pure false := by rfl) (hf : X.fn x = true ∨ X.env.scope.names.lookup x = some .local := by first | exact .inl rfl | exact .inr rfl | assumption) :
    PS X (.Assign [.Name x pos'] e pos) (tS X.K (sAsg m (.nm i))) := ps_of (ps_set hN hi hx he hs hf) fun D σ H q => asg_run q
theorem pS_asg {tg e : Expr} {m : Sm} {t : Tg} (he : PE X e (tE X.K m)) (hg : PG X tg (gT X.K t)) (hs : swapsWithSole [tg] e pos.line X.env = pure false := by rfl) (hw : swappedStores [tg] e X.env = pure none := by rfl)
    (h1 : (assignEach [tg] X.env).map (·.2) = [assign tg X.env] := by rfl) : PS X (.Assign [tg] e pos) (tS X.K (sAsg m t)) := ps_of (ps_asg he hg hs hw h1) fun D σ H q => asg_run q
/-- a, b = x, y -/
@[simp] def sPar (is : List Nat) (m : Sa) : Ss := fun ρ μ => (m ρ μ).bind fun p => if p.1.length = is.length then some (.nx, sets ρ is p.1, p.2) else none
theorem pS_par {i j : Nat} {x y : Str} {a b : Expr} {m : Sa} {px py pt : Pos} {kt k2 pt2} (hc : X.calm = true) (hN : X.N.Nodup) (hi : X.N[i]? = some x) (hj : X.N[j]? = some y) (hij : i ≠ j)
    (hx : X.env.scope.names.lookup x = some .local) (hy : X.env.scope.names.lookup y = some .local) (ha : PA X [a, b] (tAs X.K m))
    (hw : swappedStores [.Tuple [.Name x px, .Name y py] kt pt] (.Tuple [a, b] k2 pt2) X.env = pure (some [x, y]))
    (hs : swapsWithSole [.Tuple [.Name x px, .Name y py] kt pt] (.Tuple [a, b] k2 pt2) pos.line X.env = pure false := by rfl) :
    PS X (.Assign [.Tuple [.Name x px, .Name y py] kt pt] (.Tuple [a, b] k2 pt2) pos) (tS X.K (sPar [i, j] m)) :=
  ps_of (ps_par hc hN hi hj hij hx hy ha hw hs) fun D σ H q => by
    obtain ⟨ρ, w, f, ρ', μ', e1, e2, ok, s, k⟩ := q
    obtain ⟨⟨p1, p2⟩, ea, e2⟩ := Option.bind_eq_some_iff.mp e2
    refine ⟨ρ, w, p1, p2, e1, ea, ok, s, fun u vs eu oku le rp => ?_⟩
    subst eu
    simp only at e2
    split at e2
    · rename_i hl
      cases e2
      match p1, vs, rp with
      | [r1, r2], [v1, v2], .cons h1 (.cons h2 .nil) => exact ⟨v1, v2, rfl, k u _ rfl oku le (((s.mono le).set h1 i).set h2 j)⟩
    · cases e2
theorem pS_par3 {i j l : Nat} {x y z : Str} {a b c : Expr} {m : Sa} {px py pz pt : Pos} {kt k2 pt2} (hc : X.calm = true) (hN : X.N.Nodup) (hi : X.N[i]? = some x) (hj : X.N[j]? = some y) (hl : X.N[l]? = some z) (hij : i ≠ j) (hil : i ≠ l) (hjl : j ≠ l)
    (hx : X.env.scope.names.lookup x = some .local) (hy : X.env.scope.names.lookup y = some .local) (hz : X.env.scope.names.lookup z = some .local) (ha : PA X [a, b, c] (tAs X.K m))
    (hw : swappedStores [.Tuple [.Name x px, .Name y py, .Name z pz] kt pt] (.Tuple [a, b, c] k2 pt2) X.env = pure (some [x, y, z]))
    (hs : swapsWithSole [.Tuple [.Name x px, .Name y py, .Name z pz] kt pt] (.Tuple [a, b, c] k2 pt2) pos.line X.env = pure false := by rfl) :
    PS X (.Assign [.Tuple [.Name x px, .Name y py, .Name z pz] kt pt] (.Tuple [a, b, c] k2 pt2) pos) (tS X.K (sPar [i, j, l] m)) :=
  ps_of (ps_par3 hc hN hi hj hl hij hil hjl hx hy hz ha hw hs) fun D σ H q => by
    obtain ⟨ρ, w, f, ρ', μ', e1, e2, ok, s, k⟩ := q
    obtain ⟨⟨p1, p2⟩, ea, e2⟩ := Option.bind_eq_some_iff.mp e2
    refine ⟨ρ, w, p1, p2, e1, ea, ok, s, fun u vs eu oku le rp => ?_⟩
    subst eu
    simp only at e2
    split at e2
    · rename_i hl
      cases e2
      match p1, vs, rp with
      | [r1, r2, r3], [v1, v2, v3], .cons h1 (.cons h2 (.cons h3 .nil)) => exact ⟨v1, v2, v3, rfl, k u _ rfl oku le ((((s.mono le).set h1 i).set h2 j).set h3 l)⟩
    · cases e2

/-! ### stores -/
/-- xs[i] = e of a list of the store: e first -/
@[simp] def fSetL (μ : Mu) (o i x : Rv) : Option Mu := match o, i, x with
  | .m k, .d (.int j), .d d => match μ[k]? with
    | some (.lst ds) => (ixN ds.length j).map fun n => μ.set k (.lst (ds.set n d))
    | _ => none
  | _, _, _ => none
theorem setL_ok {K : PySem.W.Frag} {w : Wd} {o i x : Rv} {vo vi v : V} {μ' : Mu} (e : fSetL w.μ o i x = some μ') (ok : w.Ok) (ro : RpR K w o vo) (ri : RpR K w i vi) (rx : RpR K w x v) {Q : Hp → Prop} (k : ∀ u : Wd, u.μ = μ' → u.Ok → w.le u → Q u.H) : rSetL vo vi v w.H Q := by
  unfold fSetL at e
  split at e
  · rename_i kk j d
    split at e
    · rename_i ds ek
      obtain ⟨n, en, e4⟩ := Option.map_eq_some_iff.mp e
      cases e4
      obtain ⟨a, ha, hv⟩ := ro
      obtain ⟨xs, hx1, hx2⟩ := ok.ok _ _ a ek ha
      cases ri
      have hd : Mo.lst ds ≠ Mo.dead := by intro z; cases z
      have hd' : Mo.lst (ds.set n d) ≠ Mo.dead := by intro z; cases z
      refine ⟨a, xs, _, n, hv, rfl, hx1, by rw [hx2.length]; exact en, ?_⟩
      exact k (w.chg kk a (.lst (ds.set n d)) (.lst (xs.set n v))) rfl (Wd.chg_ok ok ek hd hd' ha ⟨_, upd_same, RpAll.set rx n hx2⟩) (Wd.chg_le (o := .lst (xs.set n v)) ok ek hd hd' ha)
    · cases e
  · cases e
@[simp] def sStL (o i m : Sm) : Ss := fun ρ μ => (m ρ μ).bind fun p => (o ρ p.2).bind fun q => (i ρ q.2).bind fun z => (fSetL z.2 q.1 z.1 p.1).map fun μ' => (.nx, ρ, μ')
theorem pS_stL {oe ie e : Expr} {o i m : Sm} {pos' : Pos} (he : PE X e (tE X.K m)) (ho : PE X oe (tE X.K o)) (hi : PE X ie (tE X.K i))
    (ha : ∀ v, assign (.Subscript oe ie pos') X.env v = (do
      let ov ← holding [v] (eval oe X.env)
      let iv ← holding [v, ov] (eval ie X.env)
      standAt pos'
      holding [v, ov, iv] (setItem ov iv v)
      release [v, ov, iv] []) := by intro _; rfl)
    (hs : swapsWithSole [.Subscript oe ie pos'] e pos.line X.env = pure false := by rfl) (hw : swappedStores [.Subscript oe ie pos'] e X.env = pure none := by rfl)
    (h1 : (assignEach [.Subscript oe ie pos'] X.env).map (·.2) = [assign (.Subscript oe ie pos') X.env] := by rfl) : PS X (.Assign [.Subscript oe ie pos'] e pos) (tS X.K (sStL o i m)) :=
  ps_of (ps_asg he (pg_sub ho hi set_list ha) hs hw h1) fun D σ H q => by
    obtain ⟨ρ, w, f, ρ', μ', e1, e2, ok, s, k⟩ := q
    obtain ⟨⟨p1, pm⟩, ea, e2⟩ := Option.bind_eq_some_iff.mp e2
    obtain ⟨⟨q1, qm⟩, eb, e2⟩ := Option.bind_eq_some_iff.mp e2
    obtain ⟨⟨z1, zm⟩, ec, e2⟩ := Option.bind_eq_some_iff.mp e2
    obtain ⟨μ2, ed, e2⟩ := Option.map_eq_some_iff.mp e2
    cases e2
    refine ⟨ρ, w, p1, pm, e1, ea, ok, s, fun u v eu oku le rp => ?_⟩
    subst eu
    refine ⟨ρ, u, q1, qm, rfl, eb, oku, s.mono le, fun u2 vo eu2 oku2 le2 rpo => ?_⟩
    subst eu2
    refine ⟨ρ, u2, z1, zm, rfl, ec, oku2, s.mono (le.trans le2), fun u3 vi eu3 oku3 le3 rpi => ?_⟩
    subst eu3
    exact setL_ok (K := X.K) ed oku3 (rpo.mono le3) rpi (rp.mono (le2.trans le3)) fun z ez okz lez => k z σ ez okz (le.trans (le2.trans (le3.trans lez))) (s.mono (le.trans (le2.trans (le3.trans lez))))
/-- x += e: ints; a list of the store, in place -/
@[simp] def fAug : F2 := fun μ x y => match x with
  | .m k => match μ[k]?, rd μ y with
    | some (.lst ds), some (.list es) => if ds.length + es.length ≤ 4096 then some (.m k, μ.set k (.lst (ds ++ es))) else none
    | _, _ => none
  | .d (.int i) => match rd μ y with
    | some (.int j) => some (.d (.int (i + j)), μ)
    | _ => none
  | _ => none
theorem o2_aug {K : PySem.W.Frag} : Op2 K fAug (fun x y H Q => rI0 (fun i j => .int (i + j)) x y H Q ∨ rExt2 x y H Q) := by
  intro w x y v z r μ' Q e ok rx ry k
  unfold fAug at e
  split at e
  · rename_i kk
    split at e
    · rename_i ds es ek ey
      split at e
      · rename_i hl
        cases e
        obtain ⟨a, ha, hv⟩ := id rx
        obtain ⟨xs, hx1, hx2⟩ := ok.ok kk _ a ek ha
        obtain ⟨b, ys, hy1, hy2, hy3⟩ := RpR.rd ok ry ey
        have hd : Mo.lst ds ≠ Mo.dead := by intro z; cases z
        have hd' : Mo.lst (ds ++ es) ≠ Mo.dead := by intro z; cases z
        refine .inr ⟨a, b, xs, ys, hv, hy1, hx1, hy2, by rw [hx2.length, hy3.length]; exact line4096 hl, ?_⟩
        have hle := Wd.chg_le (o := .lst (xs ++ ys)) ok ek hd hd' ha
        exact k (w.chg kk a (.lst (ds ++ es)) (.lst (xs ++ ys))) _ rfl (Wd.chg_ok ok ek hd hd' ha ⟨_, upd_same, hx2.append hy3⟩) hle ⟨a, ha, rfl⟩
      · cases e
    · cases e
  · rename_i i
    split at e
    · rename_i j ey
      cases e
      cases rx
      have h2 : z = V.int j := RpR.rd ok ry ey
      exact .inl ⟨_, j, rfl, h2, Wish.here k ok (.int _)⟩
    · cases e
  · cases e
def fAugS : F2 := fI2 fun i j => some (i - j)
@[simp] def sAug (i : Nat) (f : F2) (m : Sm) : Ss := fun ρ μ => match ρ[i]? with
  | some (some x) => (m ρ μ).bind fun p => (f p.2 x p.1).map fun q => (.nx, ρ.set i (some q.1), q.2)
  | _ => none
theorem pS_aug {i : Nat} {x : Str} {e : Expr} {m : Sm} {f : F2} {t : R2} {op : Operator} {pos' : Pos} (hN : X.N.Nodup) (hi : X.N[i]? = some x) (hx : Loc X.env.scope x) (he : PE X e (tE X.K m)) (ho : OpR X (inplaceOp op) t) (hf2 : Op2 X.K f t) (hf : X.fn x = true ∨ X.env.scope.names.lookup x = some .local := by first | exact .inl rfl | exact .inr rfl | assumption) :
    PS X (.AugAssign (.Name x pos') op e pos) (tS X.K (sAug i f m)) :=
  ps_of (ps_aug hN hi hx he (show PIp X op t from ho) hf) fun D σ H q => by
    obtain ⟨ρ, w, fl, ρ', μ', e1, e2, ok, s, k⟩ := q
    unfold sAug at e2
    split at e2
    · rename_i r er
      obtain ⟨⟨p1, p2⟩, ea, e2⟩ := Option.bind_eq_some_iff.mp e2
      obtain ⟨⟨q1, q2⟩, eb, e2⟩ := Option.map_eq_some_iff.mp e2
      cases e2
      obtain ⟨v, hv, rv⟩ := s.get i r er
      refine ⟨v, hv, ρ, w, p1, p2, e1, ea, ok, s, fun u z eu oku le rp => ?_⟩
      subst eu
      exact hf2 u r p1 v z q1 _ _ eb oku (rv.mono le) rp fun u2 v2 eu2 oku2 le2 rp2 => k u2 _ eu2 oku2 (le.trans le2) ((s.mono (le.trans le2)).set rp2 i)
    · cases e2
theorem op_augU : OpR X (inplaceOp .Add) (fun x y H Q => rI0 (fun i j => .int (i + j)) x y H Q ∨ rExt2 x y H Q) := OpR.or iop_add iop_ext
end

/-! ### methods of lists -/
abbrev FM := Mu → Rv → List Rv → Option (Rv × Mu)
@[simp] def isLst (μ : Mu) : Rv → Bool
  | .m k => match μ[k]? with
    | some (.lst _) => true
    | _ => false
  | _ => false
@[simp] def sMet (f : FM) (o : Sm) (a : Sa) : Sm := fun ρ μ => (o ρ μ).bind fun p => if isLst p.2 p.1 then (a ρ p.2).bind fun q => f q.2 p.1 q.1 else none
def OpM (K : PySem.W.Frag) (f : FM) (t : V → List V → Hp → VK → Prop) : Prop := ∀ (w : Wd) (x : Rv) (v : V) (rs : List Rv) (vs : List V) (r : Rv) (μ' : Mu) (Q : VK), f w.μ x rs = some (r, μ') → w.Ok → RpR K w x v → RpRs K w rs vs → Wish K w r μ' Q → t v vs w.H Q
theorem isLst_ok {K : PySem.W.Frag} {w : Wd} (ok : w.Ok) {r : Rv} {v : V} (h : RpR K w r v) (e : isLst w.μ r = true) : tyV K "list" v w.H := by
  unfold isLst at e
  split at e
  · rename_i k
    split at e
    · rename_i ds ek
      obtain ⟨a, ha, hv⟩ := h
      obtain ⟨xs, h1, h2⟩ := ok.ok k _ a ek ha
      subst hv
      exact .inl ⟨rfl, xs, SqL.ofF h1⟩
    · cases e
  · cases e
theorem met_run {K : PySem.W.Frag} {f : FM} {t : V → List V → Hp → VK → Prop} {o : Sm} {a : Sa} (hf : OpM K f t) {σ : L2.St} {H : Hp} {Q : VK} (q : tE K (sMet f o a) σ H Q) :
    tE K o σ H fun x H1 => tyV K "list" x H1 ∧ tAs K a σ H1 fun xs H2 => t x xs H2 Q := by
  obtain ⟨ρ, w, r, μ', e1, e2, ok, s, k⟩ := q
  obtain ⟨⟨p1, p2⟩, ea, e2⟩ := Option.bind_eq_some_iff.mp e2
  refine ⟨ρ, w, p1, p2, e1, ea, ok, s, fun u v eu oku le rp => ?_⟩
  subst eu
  simp only at e2
  split at e2
  · rename_i hl
    obtain ⟨⟨q1, q2⟩, eb, e2⟩ := Option.bind_eq_some_iff.mp e2
    refine ⟨isLst_ok oku rp hl, ρ, u, q1, q2, rfl, eb, oku, s.mono le, fun u2 vs eu2 oku2 le2 rp2 => ?_⟩
    subst eu2
    exact hf u2 p1 v q1 vs r μ' Q e2 oku2 (rp.mono le2) rp2 (Wish.to k (le.trans le2))
  · cases e2
@[simp] def fApp : FM := fun μ x rs => match x, rs with
  | .m k, [.d d] => match μ[k]? with
    | some (.lst ds) => if ds.length < 4096 then some (.d .none, μ.set k (.lst (ds ++ [d]))) else none
    | _ => none
  | _, _ => none
theorem opM_app {K : PySem.W.Frag} : OpM K fApp rAppend := by
  intro w x v rs vs r μ' Q e ok rx rp k
  unfold fApp at e
  split at e
  · rename_i kk d
    obtain ⟨y, rfl, ry⟩ := Paired.one rp
    split at e
    · rename_i ds ek
      split at e
      · rename_i hl
        cases e
        obtain ⟨a, ha, hv⟩ := id rx
        obtain ⟨xs, hx1, hx2⟩ := ok.ok kk _ a ek ha
        have hd : Mo.lst ds ≠ Mo.dead := by intro z; cases z
        have hd' : Mo.lst (ds ++ [d]) ≠ Mo.dead := by intro z; cases z
        refine ⟨a, xs, y, hv, rfl, hx1, by rw [hx2.length]; exact Nat.lt_of_lt_of_le hl (by decide), ?_⟩
        have hle := Wd.chg_le (o := .lst (xs ++ [y])) ok ek hd hd' ha
        exact k (w.chg kk a (.lst (ds ++ [d])) (.lst (xs ++ [y]))) _ rfl (Wd.chg_ok ok ek hd hd' ha ⟨_, upd_same, hx2.append (.one ry)⟩) hle .non
      · cases e
    · cases e
  · cases e
theorem seqIx_nat {i : Int} {n k : Nat} (h : ixN n i = some k) : seqIndex? i n = some k := (ixN_seq h).1
/-- xs.pop(), xs.pop(i) -/
@[simp] def fPop : FM := fun μ x rs => match x with
  | .m k => match μ[k]? with
    | some (.lst ds) => match rs with
      | [.d (.int i)] => (ixN ds.length i).bind fun n => if -(2 ^ 63) ≤ i ∧ i < 2 ^ 63 then (ds[n]?).map fun d => (.d d, μ.set k (.lst (ds.eraseIdx n))) else none
      | _ => none
    | _ => none
  | _ => none
theorem opM_pop {K : PySem.W.Frag} : OpM K fPop rPopAt := by
  intro w x v rs vs r μ' Q e ok rx rp k
  unfold fPop at e
  split at e
  · rename_i kk
    split at e
    · rename_i ds ek
      split at e
      · rename_i i
        obtain ⟨y, rfl, ry⟩ := Paired.one rp
        cases ry
        obtain ⟨n, en, e⟩ := Option.bind_eq_some_iff.mp e
        split at e
        · rename_i hb
          obtain ⟨d, ed, e⟩ := Option.map_eq_some_iff.mp e
          cases e
          obtain ⟨a, ha, hv⟩ := id rx
          obtain ⟨xs, hx1, hx2⟩ := ok.ok kk _ a ek ha
          obtain ⟨z, hz1, hz2⟩ := hx2.get ed
          have hd : Mo.lst ds ≠ Mo.dead := by intro z; cases z
          have hd' : Mo.lst (ds.eraseIdx n) ≠ Mo.dead := by intro z; cases z
          refine ⟨a, xs, i, n, z, hv, rfl, hx1, hb.1, hb.2, by rw [hx2.length]; exact seqIx_nat en, hz1, ?_⟩
          have hle := Wd.chg_le (o := .lst (xs.eraseIdx n)) ok ek hd hd' ha
          exact k (w.chg kk a (.lst (ds.eraseIdx n)) (.lst (xs.eraseIdx n))) _ rfl (Wd.chg_ok ok ek hd hd' ha ⟨_, upd_same, hx2.eraseIdx n⟩) hle (Rp.mono hle.le _ _ hz2)
        · cases e
      · cases e
    · cases e
  · cases e
@[simp] def fPop0 : FM := fun μ x rs => match x, rs with
  | .m k, [] => match μ[k]? with
    | some (.lst ds) => (ds[ds.length - 1]?).map fun d => (.d d, μ.set k (.lst ds.dropLast))
    | _ => none
  | _, _ => none
theorem opM_pop0 {K : PySem.W.Frag} : OpM K fPop0 rPop := by
  intro w x v rs vs r μ' Q e ok rx rp k
  unfold fPop0 at e
  split at e
  · rename_i kk
    cases rp
    split at e
    · rename_i ds ek
      obtain ⟨d, ed, e⟩ := Option.map_eq_some_iff.mp e
      cases e
      obtain ⟨a, ha, hv⟩ := id rx
      obtain ⟨xs, hx1, hx2⟩ := ok.ok kk _ a ek ha
      obtain ⟨z, hz1, hz2⟩ := hx2.get ed
      have hd : Mo.lst ds ≠ Mo.dead := by intro z; cases z
      have hd' : Mo.lst ds.dropLast ≠ Mo.dead := by intro z; cases z
      refine ⟨a, xs, z, hv, rfl, hx1, by rw [hx2.length]; exact hz1, ?_⟩
      have hle := Wd.chg_le (o := .lst xs.dropLast) ok ek hd hd' ha
      exact k (w.chg kk a (.lst ds.dropLast) (.lst xs.dropLast)) _ rfl (Wd.chg_ok ok ek hd hd' ha ⟨_, upd_same, hx2.dropLast⟩) hle (Rp.mono hle.le _ _ hz2)
    · cases e
  · cases e
end Sh
set_option Elab.async false
set_option linter.all false
set_option maxRecDepth 100000
namespace Sh
open PySem L2 PyProof.Rows

/-! ### what is walked -/
structure Src where
  items : List PyData
  chk : Option (Nat × List PyData)
def Src.ok (s : Src) (μ : Mu) : Prop := ∀ k ds, s.chk = some (k, ds) → μ[k]? = some (.lst ds)
abbrev Si := Ro → Mu → Option (Src × Mu)
/-- the iterator yields the items in every world from u on in which the source stands -/
def Yld (J : It) (s : Src) (u : Wd) : Prop := ∀ w : Wd, u.le w → w.Ok → s.ok w.μ →
  (∀ (i : Nat) (d : PyData), s.items[i]? = some d → J.go i w.H ∧ ∀ x H', J.yld i w.H x H' → ∃ z : Wd, z.μ = w.μ ∧ z.H = H' ∧ z.Ok ∧ w.le z ∧ Rp z.F x d) ∧
  ∀ i : Nat, s.items.length ≤ i → J.stop i w.H
def tI (K : PySem.W.Frag) (m : Si) : TI := fun σ H R => ∃ (ρ : Ro) (w : Wd) (s : Src) (μ' : Mu), w.H = H ∧ m ρ w.μ = some (s, μ') ∧ w.Ok ∧ Slots K ρ w σ ∧
  ∀ (u : Wd) (J : It), u.μ = μ' → u.Ok → w.le u → s.ok u.μ → Yld J s u → R J u.H
theorem pi_of {X : Cx} {tg e : Expr} {t t' : TI} (h : PI X tg e t) (i : ∀ σ H Q, t' σ H Q → t σ H Q) : PI X tg e t' := ⟨fun pins s σ H Q I hw => h.run pins s σ H Q I (i _ _ _ hw)⟩
theorem pi_or {X : Cx} {tg e : Expr} {t t' : TI} (h : PI X tg e t) (h' : PI X tg e t') : PI X tg e (fun σ H R => t σ H R ∨ t' σ H R) :=
  ⟨fun pins s σ H Q I hw => hw.elim (h.run pins s σ H Q I) (h'.run pins s σ H Q I)⟩
theorem ok_none {ds : List PyData} (μ : Mu) : (Src.mk ds none).ok μ := fun _ _ e => nomatch e
theorem yld_list {K : PySem.W.Frag} {a : Addr} {xs : List V} {ds : List PyData} {u : Wd} (h : u.F a = some (.lst xs)) (r : RpAll u.F xs ds) : Yld (Itl K a) ⟨ds, none⟩ u := by
  intro w le ok _
  have hw := (Wd.F_some (le.le.lst _ _ h)).1
  have rw' := RpAll.mono le.le _ _ r
  refine ⟨fun i d e => ?_, fun i hl => ⟨xs, SqL.ofF hw, by rw [r.length]; exact hl⟩⟩
  obtain ⟨v, h1, h2⟩ := rw'.get e
  refine ⟨⟨xs, v, SqL.ofF hw, h1⟩, fun x H' hy => ?_⟩
  obtain ⟨rfl, hx⟩ := hy
  have := hx xs (SqL.ofF hw)
  rw [h1] at this
  cases this
  exact ⟨w, rfl, rfl, ok, .refl w, h2⟩
theorem yld_tup {K : PySem.W.Frag} {a : Addr} {xs : List V} {ds : List PyData} {u : Wd} (h : u.F a = some (.tup xs)) (r : RpAll u.F xs ds) : Yld (Itt K a) ⟨ds, none⟩ u := by
  intro w le ok _
  have hw := (Wd.F_some (le.le.tup _ _ h)).1
  have rw' := RpAll.mono le.le _ _ r
  refine ⟨fun i d e => ?_, fun i hl => ⟨xs, SqT.ofF hw, by rw [r.length]; exact hl⟩⟩
  obtain ⟨v, h1, h2⟩ := rw'.get e
  refine ⟨⟨xs, v, SqT.ofF hw, h1⟩, fun x H' hy => ?_⟩
  obtain ⟨rfl, hx⟩ := hy
  have := hx xs (SqT.ofF hw)
  rw [h1] at this
  cases this
  exact ⟨w, rfl, rfl, ok, .refl w, h2⟩
theorem yld_mut {K : PySem.W.Frag} {a : Addr} {k : Nat} {ds : List PyData} {u : Wd} (h : u.A[k]? = some a) : Yld (Itl K a) ⟨ds, some (k, ds)⟩ u := by
  intro w le ok hs
  obtain ⟨xs, hw, r⟩ := ok.ok k _ a (hs k ds rfl) (le.at h)
  refine ⟨fun i d e => ?_, fun i hl => ⟨xs, SqL.ofF hw, by rw [r.length]; exact hl⟩⟩
  obtain ⟨v, h1, h2⟩ := r.get e
  refine ⟨⟨xs, v, SqL.ofF hw, h1⟩, fun x H' hy => ?_⟩
  obtain ⟨rfl, hx⟩ := hy
  have := hx xs (SqL.ofF hw)
  rw [h1] at this
  cases this
  exact ⟨w, rfl, rfl, ok, .refl w, h2⟩
@[simp] def srcOf (μ : Mu) : Rv → Option Src
  | .d (.list ds) => some ⟨ds, none⟩
  | .d (.tuple ds) => some ⟨ds, none⟩
  | .m k => match μ[k]? with
    | some (.lst ds) => some ⟨ds, some (k, ds)⟩
    | _ => none
  | _ => none
@[simp] def sIt (m : Sm) : Si := fun ρ μ => (m ρ μ).bind fun p => (srcOf p.2 p.1).map fun s => (s, p.2)
section
variable {X : Cx} {tg e a b : Expr} {pos p : Pos}
theorem pI_it {m : Sm} (he : PE X e (tE X.K m)) : PI X tg e (tI X.K (sIt m)) := by
  refine pi_of (pi_or (pi_list he) (pi_tup he)) fun σ H R q => ?_
  obtain ⟨ρ, w, s, μ', e1, e2, ok, sl, k⟩ := q
  obtain ⟨⟨p1, p2⟩, ea, e2⟩ := Option.bind_eq_some_iff.mp e2
  obtain ⟨s', es, e2⟩ := Option.map_eq_some_iff.mp e2
  cases e2
  unfold srcOf at es
  simp only at es
  split at es
  · cases es
    refine .inl ⟨ρ, w, _, p2, e1, ea, ok, sl, fun u v eu oku le rp => ?_⟩
    cases rp with
    | lst h r => exact ⟨_, rfl, ⟨_, SqL.ofF (Wd.F_some h).1⟩, k u _ eu oku le (ok_none _) (yld_list h r)⟩
  · cases es
    refine .inr ⟨ρ, w, _, p2, e1, ea, ok, sl, fun u v eu oku le rp => ?_⟩
    cases rp with
    | tup h r => exact ⟨_, rfl, ⟨_, SqT.ofF (Wd.F_some h).1⟩, k u _ eu oku le (ok_none _) (yld_tup h r)⟩
  · split at es
    · rename_i ek
      cases es
      refine .inl ⟨ρ, w, _, p2, e1, ea, ok, sl, fun u v eu oku le rp => ?_⟩
      obtain ⟨a, ha, hv⟩ := rp
      rw [← eu] at ek
      obtain ⟨xs, h1, h2⟩ := oku.ok _ _ a ek ha
      refine ⟨a, hv, ⟨xs, SqL.ofF h1⟩, k u _ eu oku le (fun k' ds' e' => ?_) (yld_mut ha)⟩
      cases e'
      exact ek
    · cases es
  · cases es
/-- lo, lo + 1, .. -/
def rngD (lo : Int) (n : Nat) : List PyData := (List.range n).map fun (i : Nat) => .int (lo + (i : Int))
theorem yld_rng {lo : Int} {n : Nat} {u : Wd} : Yld (Itr lo n) ⟨rngD lo n, none⟩ u := by
  intro w le ok _
  refine ⟨fun i d e => ?_, fun i hl => ?_⟩
  · unfold rngD at e
    simp only at e
    rw [List.getElem?_map] at e
    obtain ⟨j, e1, e2⟩ := Option.map_eq_some_iff.mp e
    obtain ⟨h1, h2⟩ := List.getElem?_eq_some_iff.mp e1
    rw [List.getElem_range] at h2
    subst h2
    rw [List.length_range] at h1
    subst e2
    refine ⟨h1, fun x H' hy => ?_⟩
    obtain ⟨rfl, rfl⟩ := hy
    exact ⟨w, rfl, rfl, ok, .refl w, .int _⟩
  · have : (rngD lo n).length = n := by unfold rngD; rw [List.length_map, List.length_range]
    rw [show (Src.mk (rngD lo n) none).items.length = n from this] at hl
    exact hl
noncomputable def b62 (i : Int) : Bool := @decide (-(2 ^ 62) ≤ i ∧ i < 2 ^ 62) (Classical.propDecidable _)
theorem b62_ok {i : Int} (h : b62 i = true) : -(2 ^ 62) ≤ i ∧ i < 2 ^ 62 := @of_decide_eq_true _ (Classical.propDecidable _) h
@[simp] theorem b62_eq {i : Int} (h1 : -(2 ^ 62) ≤ i) (h2 : i < 2 ^ 62) : b62 i = true := @decide_eq_true _ (Classical.propDecidable _) ⟨h1, h2⟩
@[simp] noncomputable def sRng1 (m : Sa) : Si := fun ρ μ => (m ρ μ).bind fun p => match p.1 with
  | [.d (.int j)] => if b62 j then some (⟨rngD 0 j.toNat, none⟩, p.2) else none
  | _ => none
@[simp] noncomputable def sRng2 (m : Sa) : Si := fun ρ μ => (m ρ μ).bind fun p => match p.1 with
  | [.d (.int i), .d (.int j)] => if b62 i && b62 j then some (⟨rngD i (j - i).toNat, none⟩, p.2) else none
  | _ => none
theorem pI_rng1 {m : Sa} (hg : Gl X "range") (hm : X.mg "range" = none) (ha : PA X [a] (tAs X.K m)) (hs : starEach [a] X.env = [(false, eval a X.env)] := by rfl) : PI X tg (.Call (.Name "range" p) [a] [] pos) (tI X.K (sRng1 m)) := by
  refine pi_of (pi_range1 hg hm ha hs) fun σ H R q => ?_
  obtain ⟨ρ, w, s, μ', e1, e2, ok, sl, k⟩ := q
  obtain ⟨⟨p1, p2⟩, ea, e2⟩ := Option.bind_eq_some_iff.mp e2
  refine ⟨ρ, w, p1, p2, e1, ea, ok, sl, fun u vs eu oku le rp => ?_⟩
  simp only at e2
  split at e2
  · split at e2
    · rename_i hb
      cases e2
      obtain ⟨v, rfl, rv⟩ := Paired.one rp
      cases rv
      exact ⟨_, rfl, (b62_ok hb).1, (b62_ok hb).2, k u _ eu oku le (ok_none _) yld_rng⟩
    · cases e2
  · cases e2
theorem pI_rng2 {m : Sa} (hg : Gl X "range") (hm : X.mg "range" = none) (ha : PA X [a, b] (tAs X.K m)) (hs : starEach [a, b] X.env = [(false, eval a X.env), (false, eval b X.env)] := by rfl) (hs2 : starEach [b] X.env = [(false, eval b X.env)] := by rfl) :
    PI X tg (.Call (.Name "range" p) [a, b] [] pos) (tI X.K (sRng2 m)) := by
  refine pi_of (pi_range2 hg hm ha hs hs2) fun σ H R q => ?_
  obtain ⟨ρ, w, s, μ', e1, e2, ok, sl, k⟩ := q
  obtain ⟨⟨p1, p2⟩, ea, e2⟩ := Option.bind_eq_some_iff.mp e2
  refine ⟨ρ, w, p1, p2, e1, ea, ok, sl, fun u vs eu oku le rp => ?_⟩
  simp only at e2
  split at e2
  · split at e2
    · rename_i hb
      rw [Bool.and_eq_true] at hb
      cases e2
      obtain ⟨v, z, rfl, rv, rz⟩ := Paired.two rp
      cases rv
      cases rz
      exact ⟨_, _, rfl, ⟨(b62_ok hb.1).1, (b62_ok hb.1).2, (b62_ok hb.2).1, (b62_ok hb.2).2⟩, k u _ eu oku le (ok_none _) yld_rng⟩
    · cases e2
  · cases e2
/-- zip of two lists, of two tuples, that stand still -/
def zipD (xs ys : List PyData) : List PyData := List.zipWith (fun x y => .tuple [x, y]) xs ys
@[simp] def sZip (m : Sa) : Si := fun ρ μ => (m ρ μ).bind fun p => match p.1 with
  | [.d (.list xs), .d (.list ys)] => some (⟨zipD xs ys, none⟩, p.2)
  | [.d (.tuple xs), .d (.tuple ys)] => some (⟨zipD xs ys, none⟩, p.2)
  | _ => none
theorem zip_get {xs ys : List PyData} {i : Nat} {d : PyData} (e : (zipD xs ys)[i]? = some d) : ∃ x y, xs[i]? = some x ∧ ys[i]? = some y ∧ d = .tuple [x, y] := by
  unfold zipD at e
  rw [List.getElem?_zipWith] at e
  cases h1 : xs[i]? with
  | none => rw [h1] at e; cases e
  | some x =>
    cases h2 : ys[i]? with
    | none => rw [h1, h2] at e; cases e
    | some y =>
      rw [h1, h2] at e
      cases e
      exact ⟨x, y, rfl, rfl, rfl⟩
theorem zip_len {xs ys : List PyData} {i : Nat} (h : (zipD xs ys).length ≤ i) : xs.length ≤ i ∨ ys.length ≤ i := by
  unfold zipD at h
  rw [List.length_zipWith] at h
  omega
theorem pair_put {w : Wd} (ok : w.Ok) {T : Addr} {x y : V} {d e : PyData} (hT : w.H T = none) (h1 : Rp w.F x d) (h2 : Rp w.F y e) : ∃ z : Wd, z.μ = w.μ ∧ z.H = upd w.H T (.tup [x, y]) ∧ z.Ok ∧ w.le z ∧ Rp z.F (.ref T) (.tuple [d, e]) :=
  have le := (Wd.put_le ok hT).le
  ⟨w.put T (.tup [x, y]), rfl, rfl, Wd.put_ok ok hT, Wd.put_le ok hT, .tup (Wd.put_at ok hT) (.cons (Rp.mono le _ _ h1) (.cons (Rp.mono le _ _ h2) .nil))⟩
theorem yld_zipL {K : PySem.W.Frag} {a b : Addr} {xs ys : List V} {ds es : List PyData} {u : Wd} (h : u.F a = some (.lst xs)) (r : RpAll u.F xs ds) (h' : u.F b = some (.lst ys)) (r' : RpAll u.F ys es) : Yld (Itz K a b) ⟨zipD ds es, none⟩ u := by
  intro w le ok _
  have hw := (Wd.F_some (le.le.lst _ _ h)).1
  have hw' := (Wd.F_some (le.le.lst _ _ h')).1
  have q := RpAll.mono le.le _ _ r
  have q' := RpAll.mono le.le _ _ r'
  refine ⟨fun i d e => ?_, fun i hl => ⟨xs, ys, SqL.ofF hw, SqL.ofF hw', by rw [r.length, r'.length]; exact zip_len hl⟩⟩
  obtain ⟨d1, d2, e1, e2, rfl⟩ := zip_get e
  obtain ⟨v1, g1, k1⟩ := q.get e1
  obtain ⟨v2, g2, k2⟩ := q'.get e2
  refine ⟨⟨xs, ys, v1, v2, SqL.ofF hw, SqL.ofF hw', g1, g2⟩, fun x H' hy => ?_⟩
  obtain ⟨T, x1, x2, rfl, hT, rfl, f1, f2⟩ := hy
  have z1 := f1 xs (SqL.ofF hw)
  have z2 := f2 ys (SqL.ofF hw')
  rw [g1] at z1
  rw [g2] at z2
  cases z1
  cases z2
  exact pair_put ok hT k1 k2
theorem yld_zipT {K : PySem.W.Frag} {a b : Addr} {xs ys : List V} {ds es : List PyData} {u : Wd} (h : u.F a = some (.tup xs)) (r : RpAll u.F xs ds) (h' : u.F b = some (.tup ys)) (r' : RpAll u.F ys es) : Yld (RZ.ItzT K a b) ⟨zipD ds es, none⟩ u := by
  intro w le ok _
  have hw := (Wd.F_some (le.le.tup _ _ h)).1
  have hw' := (Wd.F_some (le.le.tup _ _ h')).1
  have q := RpAll.mono le.le _ _ r
  have q' := RpAll.mono le.le _ _ r'
  refine ⟨fun i d e => ?_, fun i hl => ⟨xs, ys, SqT.ofF hw, SqT.ofF hw', by rw [r.length, r'.length]; exact zip_len hl⟩⟩
  obtain ⟨d1, d2, e1, e2, rfl⟩ := zip_get e
  obtain ⟨v1, g1, k1⟩ := q.get e1
  obtain ⟨v2, g2, k2⟩ := q'.get e2
  refine ⟨⟨xs, ys, v1, v2, SqT.ofF hw, SqT.ofF hw', g1, g2⟩, fun x H' hy => ?_⟩
  obtain ⟨T, x1, x2, rfl, hT, rfl, f1, f2⟩ := hy
  have z1 := f1 xs (SqT.ofF hw)
  have z2 := f2 ys (SqT.ofF hw')
  rw [g1] at z1
  rw [g2] at z2
  cases z1
  cases z2
  exact pair_put ok hT k1 k2
theorem pI_zip {m : Sa} {tpos : Pos} {elts : List Expr} {kk : Nat} (hg : Gl X "zip") (hm : X.mg "zip" = none) (ha : PA X [a, b] (tAs X.K m))
    (hs : starEach [a, b] X.env = (false, eval a X.env) :: starEach [b] X.env := by rfl) (hpl : (backTo pos (starEach [b] X.env)).any (·.1) = false := by rfl) : PI X (.Tuple elts kk tpos) (.Call (.Name "zip" p) [a, b] [] pos) (tI X.K (sZip m)) := by
  refine pi_of (RZ.pi_zipA hg hm ha hs hpl) fun σ H R q => ?_
  obtain ⟨ρ, w, s, μ', e1, e2, ok, sl, k⟩ := q
  obtain ⟨⟨p1, p2⟩, ea, e2⟩ := Option.bind_eq_some_iff.mp e2
  refine ⟨ρ, w, p1, p2, e1, ea, ok, sl, fun u vs eu oku le rp => ?_⟩
  simp only at e2
  split at e2
  · cases e2
    obtain ⟨v, z, rfl, rv, rz⟩ := Paired.two rp
    cases rv with
    | lst h r =>
      cases rz with
      | lst h' r' => exact ⟨_, _, _, _, rfl, .inl ⟨SqL.ofF (Wd.F_some h).1, SqL.ofF (Wd.F_some h').1, k u _ eu oku le (ok_none _) (yld_zipL h r h' r')⟩⟩
  · cases e2
    obtain ⟨v, z, rfl, rv, rz⟩ := Paired.two rp
    cases rv with
    | tup h r =>
      cases rz with
      | tup h' r' => exact ⟨_, _, _, _, rfl, .inr ⟨SqT.ofF (Wd.F_some h).1, SqT.ofF (Wd.F_some h').1, k u _ eu oku le (ok_none _) (yld_zipT h r h' r')⟩⟩
  · cases e2
end

/-! ### loops -/
noncomputable def chkB (c : Option (Nat × List PyData)) (μ : Mu) : Bool := match c with
  | none => true
  | some (k, ds) => @decide (μ[k]? = some (.lst ds)) (Classical.propDecidable _)
theorem chkB_ok {s : Src} {μ : Mu} (h : chkB s.chk μ = true) : s.ok μ := fun k ds e => by
  unfold chkB at h
  rw [e] at h
  exact @of_decide_eq_true _ (Classical.propDecidable _) h
noncomputable def loop (t : Tg) (body : Ss) (c : Option (Nat × List PyData)) (n : Nat) : List PyData → Ro → Mu → Option (Fl × Ro × Mu)
  | [], ρ, μ => some (.nx, ρ, μ)
  | d :: ds, ρ, μ => (t.put d ρ).bind fun ρ1 => (body ρ1 μ).bind fun q => match q.1 with
    | .nx => if chkB c (q.2.2.take n) then loop t body c n ds (cutR n q.2.1) (q.2.2.take n) else none
    | .ct => if chkB c (q.2.2.take n) then loop t body c n ds (cutR n q.2.1) (q.2.2.take n) else none
    | .bk => some (.nx, cutR n q.2.1, q.2.2.take n)
    | .rt r => some (.rt r, q.2.1, q.2.2)
noncomputable def sFor (m : Si) (t : Tg) (body : Ss) : Ss := fun ρ μ => (m ρ μ).bind fun p => loop t body p.1.chk p.2.length p.1.items ρ p.2
theorem for_run {K : PySem.W.Frag} {m : Si} {t : Tg} {body : Ss} {D : Ends} {σ : L2.St} {H : Hp} (q : tS K (sFor m t body) D σ H) : tFor (tI K m) (gT K t) (tS K body) D σ H := by
  obtain ⟨ρ, w, f, ρ', μ', e1, e2, ok, s, k⟩ := q
  obtain ⟨⟨src, μ1⟩, ea, e2⟩ := Option.bind_eq_some_iff.mp e2
  refine ⟨ρ, w, src, μ1, e1, ea, ok, s, fun u J eu oku le hs hy => ?_⟩
  subst eu
  have e2 : loop t body src.chk u.μ.length src.items ρ u.μ = some (f, ρ', μ') := e2
  refine ⟨fun i n σ H => n = src.items.length - i ∧ i ≤ src.items.length ∧ ∃ (ρ : Ro) (z : Wd), z.H = H ∧ z.Ok ∧ u.le z ∧ Slots K ρ z σ ∧ src.ok z.μ ∧ loop t body src.chk u.μ.length (src.items.drop i) ρ z.μ = some (f, ρ', μ'),
    ⟨_, rfl, Nat.zero_le _, ρ, u, rfl, oku, .refl u, s.mono le, hs, by rw [List.drop_zero]; exact e2⟩, fun i n σ H hW => ?_⟩
  obtain ⟨en, hi, ρ1, z, rfl, okz, lez, sz, sok, el⟩ := hW
  obtain ⟨Y1, Y2⟩ := hy z lez okz sok
  by_cases hlt : i < src.items.length
  · rw [List.drop_eq_getElem_cons hlt] at el
    have hd : src.items[i]? = some src.items[i] := List.getElem?_eq_getElem hlt
    obtain ⟨hgo, hyl⟩ := Y1 i _ hd
    refine .inr ⟨hgo, fun σ' H' => ∃ (ρ : Ro) (z : Wd), z.H = H' ∧ z.Ok ∧ u.le z ∧ Slots K ρ z σ' ∧ src.ok z.μ ∧ loop t body src.chk u.μ.length (src.items.drop (i + 1)) ρ z.μ = some (f, ρ', μ'),
      fun σ' H' hN => ⟨_, by omega, rfl, hlt, hN⟩, fun x H' hx => ?_⟩
    obtain ⟨u2, em, rfl, ok2, le2, rp⟩ := hyl x H' hx
    have el : ((t.put src.items[i] ρ1).bind fun ρ1 => (body ρ1 z.μ).bind fun q => match q.1 with
      | .nx => if chkB src.chk (q.2.2.take u.μ.length) then loop t body src.chk u.μ.length (src.items.drop (i + 1)) (cutR u.μ.length q.2.1) (q.2.2.take u.μ.length) else none
      | .ct => if chkB src.chk (q.2.2.take u.μ.length) then loop t body src.chk u.μ.length (src.items.drop (i + 1)) (cutR u.μ.length q.2.1) (q.2.2.take u.μ.length) else none
      | .bk => some (.nx, cutR u.μ.length q.2.1, q.2.2.take u.μ.length)
      | .rt r => some (.rt r, q.2.1, q.2.2)) = some (f, ρ', μ') := el
    obtain ⟨ρ2, e3, el⟩ := Option.bind_eq_some_iff.mp el
    obtain ⟨⟨q1, q2, q3⟩, e4, el⟩ := Option.bind_eq_some_iff.mp el
    refine gT_run e3 rp (sz.mono le2) fun xs sx => ?_
    refine ⟨ρ2, u2, q1, q2, q3, rfl, by rw [em]; exact e4, ok2, sx, fun u3 σ3 eu3 ok3 le3 s3 => ?_⟩
    subst eu3
    have leu : u.le u3 := lez.trans (le2.trans le3)
    have hcut : u.le (u3.cut u.μ.length) := Wd.cut_le oku leu
    cases q1 with
    | nx =>
      simp only at el
      split at el
      · rename_i hc
        exact ⟨_, u3.cut u.μ.length, rfl, Wd.cut_ok ok3 _, hcut, s3.cut _, chkB_ok hc, el⟩
      · cases el
    | ct =>
      simp only at el
      split at el
      · rename_i hc
        exact ⟨_, u3.cut u.μ.length, rfl, Wd.cut_ok ok3 _, hcut, s3.cut _, chkB_ok hc, el⟩
      · cases el
    | bk =>
      cases el
      exact k (u3.cut u.μ.length) σ3 rfl (Wd.cut_ok ok3 _) (le.trans hcut) (s3.cut _)
    | rt r =>
      cases el
      exact k u3 σ3 rfl ok3 (le.trans leu) s3
  · refine .inl ⟨Y2 i (Nat.le_of_not_lt hlt), ?_⟩
    rw [List.drop_eq_nil_of_le (Nat.le_of_not_lt hlt)] at el
    cases el
    exact k z σ rfl okz (le.trans lez) sz
def wloop (n : Nat) (test : Sb) (body : Ss) : Nat → Ro → Mu → Option (Fl × Ro × Mu)
  | 0, _, _ => none
  | g + 1, ρ, μ => (test ρ μ).bind fun p => if p.1 then (body ρ p.2).bind fun q => match q.1 with
      | .nx => wloop n test body g (cutR n q.2.1) (q.2.2.take n)
      | .ct => wloop n test body g (cutR n q.2.1) (q.2.2.take n)
      | .bk => some (.nx, cutR n q.2.1, q.2.2.take n)
      | .rt r => some (.rt r, q.2.1, q.2.2)
    else some (.nx, ρ, p.2)
def sWhile (g : Nat) (test : Sb) (body : Ss) : Ss := fun ρ μ => wloop μ.length test body g ρ μ
theorem while_run {K : PySem.W.Frag} {g : Nat} {test : Sb} {body : Ss} {D : Ends} {σ : L2.St} {H : Hp} (q : tS K (sWhile g test body) D σ H) : tWhile (tB K test) (tS K body) D σ H := by
  obtain ⟨ρ, w, f, ρ', μ', e1, e2, ok, s, k⟩ := q
  have e2 : wloop w.μ.length test body g ρ w.μ = some (f, ρ', μ') := e2
  refine ⟨fun n σ H => ∃ (ρ : Ro) (z : Wd), z.H = H ∧ z.Ok ∧ w.le z ∧ Slots K ρ z σ ∧ wloop w.μ.length test body n ρ z.μ = some (f, ρ', μ'), ⟨g, ρ, w, e1, ok, .refl w, s, e2⟩, fun n σ H hW => ?_⟩
  obtain ⟨ρ1, z, rfl, okz, lez, sz, el⟩ := hW
  cases n with
  | zero => cases el
  | succ n =>
    have el : ((test ρ1 z.μ).bind fun p => if p.1 then (body ρ1 p.2).bind fun q => match q.1 with
      | .nx => wloop w.μ.length test body n (cutR w.μ.length q.2.1) (q.2.2.take w.μ.length)
      | .ct => wloop w.μ.length test body n (cutR w.μ.length q.2.1) (q.2.2.take w.μ.length)
      | .bk => some (.nx, cutR w.μ.length q.2.1, q.2.2.take w.μ.length)
      | .rt r => some (.rt r, q.2.1, q.2.2)
      else some (.nx, ρ1, p.2)) = some (f, ρ', μ') := el
    obtain ⟨⟨b, p2⟩, e3, el⟩ := Option.bind_eq_some_iff.mp el
    refine ⟨ρ1, z, b, p2, rfl, e3, okz, sz, fun u eu oku le => ?_⟩
    subst eu
    cases b with
    | false =>
      rw [if_neg Bool.false_ne_true]
      cases el
      exact k u σ rfl oku (lez.trans le) (sz.mono le)
    | true =>
      rw [if_pos rfl]
      obtain ⟨⟨q1, q2, q3⟩, e4, el⟩ := Option.bind_eq_some_iff.mp el
      refine ⟨fun σ' H' => ∃ (ρ : Ro) (z : Wd), z.H = H' ∧ z.Ok ∧ w.le z ∧ Slots K ρ z σ' ∧ wloop w.μ.length test body n ρ z.μ = some (f, ρ', μ'), fun σ' H' hN => ⟨n, Nat.lt_succ_self n, hN⟩, ?_⟩
      refine ⟨ρ1, u, q1, q2, q3, rfl, e4, oku, sz.mono le, fun u3 σ3 eu3 ok3 le3 s3 => ?_⟩
      subst eu3
      have leu : w.le u3 := lez.trans (le.trans le3)
      have hcut : w.le (u3.cut w.μ.length) := Wd.cut_le ok leu
      cases q1 with
      | nx => exact ⟨_, u3.cut w.μ.length, rfl, Wd.cut_ok ok3 _, hcut, s3.cut _, el⟩
      | ct => exact ⟨_, u3.cut w.μ.length, rfl, Wd.cut_ok ok3 _, hcut, s3.cut _, el⟩
      | bk =>
        cases el
        exact k (u3.cut w.μ.length) σ3 rfl (Wd.cut_ok ok3 _) hcut (s3.cut _)
      | rt r =>
        cases el
        exact k u3 σ3 rfl ok3 leu s3
section
variable {X : Cx} {pos : Pos}
theorem pS_for {tg iter : Expr} {xs : List Stmt} {m : Si} {t : Tg} {body : Ss} (hp : PassesOwn (model X.prog X.w) X.A X.env X.xe) (hc : X.calm = true) (hi : PI X tg iter (tI X.K m)) (hg : PG X tg (gT X.K t)) (hb : PSs X xs (tS X.K body))
    (hs : ∀ x, foldedSetIterable iter X.env x = pure x := by intro _; rfl) : PS X (.For tg iter xs [] pos) (tS X.K (sFor m t body)) := ps_of (ps_for hp hc hi hg hb hs) fun D σ H q => for_run q
theorem pS_while {c : Expr} {xs : List Stmt} {g : Nat} {t : Sb} {body : Ss} (hp : PassesOwn (model X.prog X.w) X.A X.env X.xe) (hc : PT X c (tB X.K t)) (hb : PSs X xs (tS X.K body)) : PS X (.While c xs [] pos) (tS X.K (sWhile g t body)) :=
  ps_of (ps_while hp hc hb) fun D σ H q => while_run q
end

/-! ### comprehensions -/
@[simp] def sYes : Sb := fun _ μ => some (true, μ)
@[simp] def wipeR (ρ : Ro) (vs : List Nat) : Ro := vs.foldr (fun i ρ => ρ.set i none) ρ
theorem wipeR_slots {K : PySem.W.Frag} {ρ : Ro} {w : Wd} {σ : L2.St} (s : Slots K ρ w σ) (vs : List Nat) : Slots K (wipeR ρ vs) w (L2.wipe σ vs) := by
  obtain ⟨ρ', e, h⟩ := s.wipe vs
  unfold wipeR
  rw [← e]; exact h
theorem wipe_get (σ : L2.St) (vs : List Nat) (i : Nat) : (L2.wipe σ vs)[i]? = if i ∈ vs then (if i < σ.length then some none else none) else σ[i]? := by
  induction vs with
  | nil => simp [L2.wipe]
  | cons v vs ih =>
    show ((L2.wipe σ vs).set v none)[i]? = _
    by_cases h : v = i
    · subst h
      rw [if_pos List.mem_cons_self]
      by_cases hv : v < σ.length
      · rw [if_pos hv, List.getElem?_set_self (by rw [L2.wipe_length]; exact hv)]
      · rw [if_neg hv, List.getElem?_eq_none (by rw [List.length_set, L2.wipe_length]; omega)]
    · rw [List.getElem?_set_ne h, ih]
      by_cases hi : i ∈ vs
      · rw [if_pos hi, if_pos (List.mem_cons_of_mem _ hi)]
      · rw [if_neg hi, if_neg (by simp only [List.mem_cons, not_or]; exact ⟨fun e => h e.symm, hi⟩)]
theorem wipe_set {σ : L2.St} {vs : List Nat} {i : Nat} (h : i ∈ vs) (x : Option V) : L2.wipe (σ.set i x) vs = L2.wipe σ vs := by
  apply List.ext_getElem?
  intro j
  rw [wipe_get, wipe_get, List.length_set]
  by_cases hj : j ∈ vs
  · rw [if_pos hj, if_pos hj]
  · rw [if_neg hj, if_neg hj, List.getElem?_set_ne (fun e => hj (by rw [← e]; exact h))]
theorem wipe_wipe (σ : L2.St) (vs : List Nat) : L2.wipe (L2.wipe σ vs) vs = L2.wipe σ vs := by
  apply List.ext_getElem?
  intro j
  rw [wipe_get, wipe_get, L2.wipe_length]
  split <;> rfl
theorem wipe_sets {vs : List Nat} : ∀ (is : List Nat) (xs : List V) (σ : L2.St), (∀ i ∈ is, i ∈ vs) → L2.wipe (sets σ is xs) vs = L2.wipe σ vs
  | [], _, _, _ => by unfold sets; rfl
  | i :: is, [], _, _ => by unfold sets; rfl
  | i :: is, x :: xs, σ, h => by
    show L2.wipe (sets (σ.set i (some x)) is xs) vs = _
    rw [wipe_sets is xs _ fun j hj => h j (List.mem_cons_of_mem _ hj), wipe_set (h i List.mem_cons_self)]
/-- the block's turns: the new list stands at place n of the store -/
noncomputable def cloop (t : Tg) (test : Sb) (elt : Sm) (c : Option (Nat × List PyData)) (n : Nat) (ρ : Ro) : List PyData → Mu → Option Mu
  | [], μ => some μ
  | d :: ds, μ => (t.put d ρ).bind fun ρ1 => (test ρ1 μ).bind fun q => if q.1 then
      (elt ρ1 q.2).bind fun z => match z.1, z.2[n]? with
        | .d y, some (.lst acc) => if acc.length < 4096 ∧ chkB c (z.2.take n) then cloop t test elt c n ρ ds (z.2.take n ++ [.lst (acc ++ [y])]) else none
        | _, _ => none
    else if chkB c (q.2.take (n + 1)) then cloop t test elt c n ρ ds (q.2.take (n + 1)) else none
noncomputable def sComp (fl : Bool) (m : Si) (t : Tg) (test : Sb) (elt : Sm) (vs : List Nat) : Sm := fun ρ μ => (m ρ μ).bind fun p =>
  (cloop t test elt p.1.chk p.2.length (wipeR ρ vs) p.1.items (p.2 ++ [.lst []])).bind fun μ2 => match μ2[p.2.length]? with
    | some (.lst ds) => if fl then some (.m p.2.length, μ2) else some (.d (.list ds), μ2.take p.2.length)
    | _ => none
theorem take_len {α : Type} (l : List α) (n : Nat) (h : n ≤ l.length) : (l.take n).length = n := by rw [List.length_take]; omega
theorem snoc_take {α : Type} {l : List α} {n : Nat} {x : α} (h : l[n]? = some x) : l.take n ++ [x] = l.take (n + 1) := by
  rw [List.take_succ, h]; rfl
theorem set_snoc {α : Type} {l : List α} {n : Nat} (h : n < l.length) (y : α) : (l.take (n + 1)).set n y = l.take n ++ [y] := by
  have h1 : (l.take n).length = n := take_len l n (by omega)
  rw [List.take_succ, List.getElem?_eq_getElem h]
  show (l.take n ++ [l[n]]).set n y = _
  rw [List.set_append_right _ _ (by omega), h1, Nat.sub_self]
  rfl
/-- what holds of the world between two turns -/
structure CInv (K : PySem.W.Frag) (u z : Wd) (D : Addr) : Prop where
  ok : z.Ok
  le : u.le z
  len : z.μ.length = u.μ.length + 1
  adr : z.A[u.μ.length]? = some D
/-- the turns of a comprehension: what stands behind the walk's beginning -/
def lcBody (J : It) (g : TG) (tt : TT) (te : TE) (vs : List Nat) (σ : L2.St) (H1 : Hp) (Q : VK) : Prop := ∀ D, H1 D = none → ∃ W : Nat → Nat → Hp → Prop, (∃ m, W 0 m (upd H1 D (.lst []))) ∧ ∀ i m H, W i m H →
  (J.stop i H ∧ Q (.ref D) H) ∨ (J.go i H ∧ ∃ Nx : Hp → Prop, (∀ H', Nx H' → ∃ m', m' < m ∧ W (i + 1) m' H') ∧ ∀ x H', J.yld i H x H' → g x (wipe σ vs) H' fun σ2 H2 => wipe σ2 vs = wipe σ vs ∧ tt σ2 H2 fun b H3 =>
    if b = true then te σ2 H3 fun y H4 => ∃ acc, H4 D = some (.lst acc) ∧ acc.length < sizeLine ∧ Nx (upd H4 D (.lst (acc ++ [y]))) else Nx H3)
theorem comp_core {K : PySem.W.Frag} {fl : Bool} {m : Si} {t : Tg} {test : Sb} {elt : Sm} {vs : List Nat} (hv : ∀ i ∈ t.slots, i ∈ vs) {σ : L2.St} {Q : VK} {ρ : Ro} {w : Wd} {r : Rv} {μ' : Mu} (e2 : sComp fl m t test elt vs ρ w.μ = some (r, μ')) (ok : w.Ok) (s : Slots K ρ w σ)
    (k : Wish K w r μ' Q) : ∃ (src : Src) (μ1 : Mu), m ρ w.μ = some (src, μ1) ∧ ∀ (u : Wd) (J : It), u.μ = μ1 → u.Ok → w.le u → src.ok u.μ → Yld J src u → lcBody J (gT K t) (tB K test) (tE K elt) vs σ u.H Q := by
  obtain ⟨⟨src, μ1⟩, ea, e2⟩ := Option.bind_eq_some_iff.mp e2
  refine ⟨src, μ1, ea, fun u J eu oku le hs hy => ?_⟩
  subst eu
  obtain ⟨μ2, el0, e2⟩ := Option.bind_eq_some_iff.mp e2
  have el0 : cloop t test elt src.chk u.μ.length (wipeR ρ vs) src.items (u.μ ++ [.lst []]) = some μ2 := el0
  intro D hD
  have hdl : ∀ xs : List PyData, Mo.lst xs ≠ Mo.dead := by intro xs z; cases z
  have okn : (u.new D (.lst []) (.lst [])).Ok := Wd.new_ok oku (hdl _) hD ⟨[], upd_same, .nil⟩
  have len : u.le (u.new D (.lst []) (.lst [])) := Wd.new_le oku (hdl _) hD
  have sw := wipeR_slots (s.mono le) vs
  -- the end: from a world behind the last turn
  have fin : ∀ z : Wd, CInv K u z D → z.μ = μ2 → Q (.ref D) z.H := by
    intro z ci ez
    subst ez
    simp only at e2
    split at e2
    · rename_i ds ed
      obtain ⟨xs, h1, h2⟩ := ci.ok.ok _ _ D ed ci.adr
      split at e2
      · cases e2
        exact k z _ rfl ci.ok (le.trans ci.le) ⟨D, ci.adr, rfl⟩
      · cases e2
        refine k (z.cut u.μ.length) _ rfl (Wd.cut_ok ci.ok _) (le.trans (Wd.cut_le oku ci.le)) (.lst ?_ (RpAll.mono (Wd.cut_leR _) _ _ h2))
        have nl : ¬ (z.cut u.μ.length).live D := by
          rintro ⟨j, o, g1, g2, g3⟩
          have hj := (get_take.mp g1).1
          have := ci.ok.inj j u.μ.length o _ D (get_take.mp g1).2 ed g2 (hdl _) (get_take.mp g3).2 ci.adr
          omega
        rw [Wd.F_not nl]; exact h1
    · cases e2
  refine ⟨fun i n H => n = src.items.length - i ∧ i ≤ src.items.length ∧ ∃ z : Wd, z.H = H ∧ CInv K u z D ∧ src.ok z.μ ∧ cloop t test elt src.chk u.μ.length (wipeR ρ vs) (src.items.drop i) z.μ = some μ2,
    ⟨_, rfl, Nat.zero_le _, u.new D (.lst []) (.lst []), rfl, ⟨okn, len, by show (u.μ ++ [Mo.lst []]).length = _; rw [List.length_append]; rfl, (get_snoc _ _ _ _).mpr (.inr ⟨oku.len.symm, rfl⟩)⟩, ?_, by rw [List.drop_zero]; exact el0⟩, fun i n H hW => ?_⟩
  · intro k' ds' e'
    exact (get_snoc _ _ _ _).mpr (.inl (hs k' ds' e'))
  obtain ⟨en, hi, z, rfl, ci, sok, el⟩ := hW
  obtain ⟨Y1, Y2⟩ := hy z ci.le ci.ok sok
  by_cases hlt : i < src.items.length
  · rw [List.drop_eq_getElem_cons hlt] at el
    obtain ⟨hgo, hyl⟩ := Y1 i _ (List.getElem?_eq_getElem hlt)
    refine .inr ⟨hgo, fun H' => ∃ z : Wd, z.H = H' ∧ CInv K u z D ∧ src.ok z.μ ∧ cloop t test elt src.chk u.μ.length (wipeR ρ vs) (src.items.drop (i + 1)) z.μ = some μ2, fun H' hN => ⟨_, by omega, rfl, hlt, hN⟩, fun x H' hx => ?_⟩
    obtain ⟨u2, em, rfl, ok2, le2, rp⟩ := hyl x H' hx
    have el : ((t.put src.items[i] (wipeR ρ vs)).bind fun ρ1 => (test ρ1 z.μ).bind fun q => if q.1 then
      (elt ρ1 q.2).bind fun z => match z.1, z.2[u.μ.length]? with
        | .d y, some (.lst acc) => if acc.length < 4096 ∧ chkB src.chk (z.2.take u.μ.length) then cloop t test elt src.chk u.μ.length (wipeR ρ vs) (src.items.drop (i + 1)) (z.2.take u.μ.length ++ [.lst (acc ++ [y])]) else none
        | _, _ => none
      else if chkB src.chk (q.2.take (u.μ.length + 1)) then cloop t test elt src.chk u.μ.length (wipeR ρ vs) (src.items.drop (i + 1)) (q.2.take (u.μ.length + 1)) else none) = some μ2 := el
    obtain ⟨ρ2, e3, el⟩ := Option.bind_eq_some_iff.mp el
    obtain ⟨⟨b, q2⟩, e4, el⟩ := Option.bind_eq_some_iff.mp el
    refine gT_run e3 rp ((sw.mono ci.le).mono le2) fun xs sx => ?_
    refine ⟨by rw [wipe_sets _ _ _ hv, wipe_wipe], ρ2, u2, b, q2, rfl, by rw [em]; exact e4, ok2, sx, fun u3 eu3 ok3 le3 => ?_⟩
    subst eu3
    have at3 : u3.A[u.μ.length]? = some D := (le2.trans le3).at ci.adr
    have n3 : u.μ.length < u3.μ.length := by rw [← ok3.len]; exact (List.getElem?_eq_some_iff.mp at3).1
    have le3' : u.le u3 := ci.le.trans (le2.trans le3)
    -- a world cut behind the new list
    have cutD : ∀ y : Wd, y.Ok → u.le y → y.A[u.μ.length]? = some D → CInv K u (y.cut (u.μ.length + 1)) D := by
      intro y oky ley aty
      refine ⟨Wd.cut_ok oky _, ⟨?_, ley.le.trans (Wd.cut_leR _), fun a o q e => Wd.cut_same _ a _ (ley.frz a o q e), fun a o q r e => Wd.cut_same _ a _ (ley.ins a o q r e)⟩, ?_, get_take.mpr ⟨by omega, aty⟩⟩
      · obtain ⟨tl, et⟩ := ley.pre
        have : u.A.length ≤ u.μ.length + 1 := by rw [oku.len]; omega
        show u.A <+: y.A.take (u.μ.length + 1)
        rw [← et, List.take_append]
        rw [List.take_of_length_le this]
        exact List.prefix_append _ _
      · have : u.μ.length < y.A.length := (List.getElem?_eq_some_iff.mp aty).1
        rw [oky.len] at this
        exact take_len _ _ this
    cases b with
    | false =>
      rw [if_neg Bool.false_ne_true]
      simp only [Bool.false_eq_true, if_false] at el
      split at el
      · rename_i hc
        exact ⟨u3.cut (u.μ.length + 1), rfl, cutD u3 ok3 le3' at3, chkB_ok hc, el⟩
      · cases el
    | true =>
      rw [if_pos rfl]
      simp only [if_true] at el
      obtain ⟨⟨z1, z2⟩, e5, el⟩ := Option.bind_eq_some_iff.mp el
      refine ⟨ρ2, u3, z1, z2, rfl, e5, ok3, sx.mono le3, fun u4 v eu4 ok4 le4 rp4 => ?_⟩
      subst eu4
      have at4 : u4.A[u.μ.length]? = some D := le4.at at3
      have le4' : u.le u4 := le3'.trans le4
      simp only at el
      split at el
      · rename_i y acc eacc
        split at el
        · rename_i hc
          obtain ⟨ws, h1, h2⟩ := ok4.ok _ _ D eacc at4
          refine ⟨ws, h1, by rw [h2.length]; exact Nat.lt_of_lt_of_le hc.1 (by decide), ?_⟩
          have c5 := cutD u4 ok4 le4' at4
          have ek : (u4.cut (u.μ.length + 1)).μ[u.μ.length]? = some (.lst acc) := get_take.mpr ⟨by omega, eacc⟩
          have n4 : u.μ.length < u4.μ.length := (List.getElem?_eq_some_iff.mp eacc).1
          have hF := Wd.chg_F (o := .lst (ws ++ [v])) c5.ok ek (hdl acc) (hdl (acc ++ [y])) c5.adr
          have ok6 := Wd.chg_ok (o := .lst (ws ++ [v])) c5.ok ek (hdl acc) (hdl (acc ++ [y])) c5.adr ⟨_, upd_same, RpAll.append (RpAll.mono (Wd.cut_leR _) _ _ h2) (.one (Rp.mono (Wd.cut_leR _) _ _ rp4))⟩
          have le6 := Wd.chg_le (o := .lst (ws ++ [v])) c5.ok ek (hdl acc) (hdl (acc ++ [y])) c5.adr
          have em6 : ((u4.cut (u.μ.length + 1)).chg u.μ.length D (.lst (acc ++ [y])) (.lst (ws ++ [v]))).μ = u4.μ.take u.μ.length ++ [.lst (acc ++ [y])] := set_snoc n4 _
          refine ⟨(u4.cut (u.μ.length + 1)).chg u.μ.length D (.lst (acc ++ [y])) (.lst (ws ++ [v])), rfl, ⟨ok6, c5.le.trans le6, ?_, c5.adr⟩, ?_, by rw [em6]; exact el⟩
          · rw [em6, List.length_append, take_len _ _ (by omega)]; rfl
          · rw [em6]
            intro k' ds' e'
            exact (get_snoc _ _ _ _).mpr (.inl (chkB_ok hc.2 k' ds' e'))
        · cases el
      · cases el
  · refine .inl ⟨Y2 i (Nat.le_of_not_lt hlt), ?_⟩
    rw [List.drop_eq_nil_of_le (Nat.le_of_not_lt hlt)] at el
    cases el
    exact fin z ci rfl
theorem comp_run {K : PySem.W.Frag} {fl : Bool} {m : Si} {t : Tg} {test : Sb} {elt : Sm} {vs : List Nat} (hv : ∀ i ∈ t.slots, i ∈ vs) {σ : L2.St} {H : Hp} {Q : VK} (q : tE K (sComp fl m t test elt vs) σ H Q) :
    tLc (tI K m) (gT K t) (tB K test) (tE K elt) vs σ H Q := by
  obtain ⟨ρ, w, r, μ', e1, e2, ok, s, k⟩ := q
  obtain ⟨src, μ1, ea, h⟩ := comp_core hv e2 ok s k
  exact ⟨ρ, w, src, μ1, e1, ea, ok, s, h⟩
section
variable {X : Cx} {elt tg iter : Expr} {ifs : List Expr} {scope : Scope} {own : List (Str × Nat)} {pos : Pos} {m : Si} {t : Tg} {test : Sb} {el : Sm} {fl : Bool}
theorem pts_of {X : Cx} {es : List Expr} {t t' : TT} (h : PTs X es t) (i : ∀ σ H Q, t' σ H Q → t σ H Q) : PTs X es t' := ⟨fun pins s σ H Q I hw => h.run pins s σ H Q I (i _ _ _ hw)⟩
theorem pTs_nil : PTs X [] (tB X.K sYes) := pts_of pts_nil fun σ H Q q => by
  obtain ⟨ρ, w, b, μ', e1, e2, ok, s, k⟩ := q
  cases e2
  exact e1 ▸ k w rfl ok (.refl w)
theorem pTs_one {c : Expr} {b : Sb} (h : PT X c (tB X.K b)) : PTs X [c] (tB X.K b) := pts_one h
theorem pE_comp (hc : X.calm = true) (hN : X.N.Nodup) (hi : PI X tg iter (tI X.K m)) (ok : BlkOk X.N X.env.scope scope own)
    (hg : ∀ (s : Shared) (H : Hp) (C : Addr) (cl : List (Str × Addr)) (fp : List Addr), PG (X.blk s H scope (compEnvC scope cl C X.env) fp) tg (gT X.K t))
    (ht : ∀ (s : Shared) (H : Hp) (C : Addr) (cl : List (Str × Addr)) (fp : List Addr), PTs (X.blk s H scope (compEnvC scope cl C X.env) fp) ifs (tB X.K test))
    (he : ∀ (s : Shared) (H : Hp) (C : Addr) (cl : List (Str × Addr)) (fp : List Addr), PE (X.blk s H scope (compEnvC scope cl C X.env) fp) elt (tE X.K el))
    (hv : ∀ i ∈ t.slots, i ∈ own.map (·.2)) (hs : ∀ x, foldedSetIterable iter X.env x = pure x := by intro _; rfl) :
    PE X (.ListComp elt [⟨tg, iter, ifs, 0⟩] scope pos) (tE X.K (sComp fl m t test el (own.map (·.2)))) := pe_of (pe_lc hc hN hi ok hg ht he hs) fun σ H Q q => comp_run hv q
theorem pS_setComp {i : Nat} {y : Str} {py : Pos} {spos : Pos} (hc : X.calm = true) (hN : X.N.Nodup) (hy : X.N[i]? = some y) (hyl : X.env.scope.names.lookup y = some .local)
    (hsw : swapsWith (.ListComp elt [⟨tg, iter, ifs, 0⟩] scope pos) (some (.Name y py)) spos.line X.env = pure true) (hi : PI X tg iter (tI X.K m)) (ok : BlkOk X.N X.env.scope scope own)
    (hg : ∀ (s : Shared) (H : Hp) (C : Addr) (cl : List (Str × Addr)) (fp : List Addr), PG (X.blk s H scope (compEnvC scope cl C X.env) fp) tg (gT X.K t))
    (ht : ∀ (s : Shared) (H : Hp) (C : Addr) (cl : List (Str × Addr)) (fp : List Addr), PTs (X.blk s H scope (compEnvC scope cl C X.env) fp) ifs (tB X.K test))
    (he : ∀ (s : Shared) (H : Hp) (C : Addr) (cl : List (Str × Addr)) (fp : List Addr), PE (X.blk s H scope (compEnvC scope cl C X.env) fp) elt (tE X.K el))
    (hv : ∀ i ∈ t.slots, i ∈ own.map (·.2)) (hs : ∀ x, foldedSetIterable iter X.env x = pure x := by intro _; rfl) :
    PS X (.Assign [.Name y py] (.ListComp elt [⟨tg, iter, ifs, 0⟩] scope pos) spos) (tS X.K (sAsg (sComp fl m t test el (own.map (·.2))) (.nm i))) :=
  ps_of (ps_setLc hc hN hy hyl hsw hi ok hg ht he hs) fun D σ H q => by
    have h : tAsg (tE X.K (sComp fl m t test el (own.map (·.2)))) (gT X.K (.nm i)) D σ H := asg_run q
    exact comp_run hv h
end

/-! ### defs -/
abbrev Fn := List Rv → Mu → Option (Rv × Mu)
@[simp] def retv (n : Nat) (μ : Mu) : Rv → Option (Rv × Mu)
  | .d x => some (.d x, μ.take n)
  | .m k => if k < n then some (.m k, μ.take n) else (μ[k]?).bind fun o => if o.isDay then none else some (.m n, μ.take n ++ [o])
  | .s _ => none
@[simp] def mkFn (n N : Nat) (body : Ss) : Fn := fun rs μ => if rs.length = n then (body (rs.map some ++ List.replicate (N - rs.length) none) μ).bind fun p => match p.1 with
    | .nx => some (.d .none, p.2.2.take μ.length)
    | .rt r => retv μ.length p.2.2 r
    | _ => none
  else none
def spF (K : PySem.W.Frag) (n : Nat) (g : Fn) : Sp := fun vs H Q _ => ∃ (w : Wd) (rs : List Rv) (r : Rv) (μ' : Mu), w.H = H ∧ vs.length = n ∧ g rs w.μ = some (r, μ') ∧ w.Ok ∧ RpRs K w rs vs ∧ Wish K w r μ' Q
/-- a world cut behind a def: what is handed back is kept -/
theorem ret_ok {K : PySem.W.Frag} {w u : Wd} (ok : w.Ok) (oku : u.Ok) (le : w.le u) {r q : Rv} {v : V} {μ' : Mu} (h : RpR K u r v) (e : retv w.μ.length u.μ r = some (q, μ')) {Q : VK} (k : Wish K w q μ' Q) : Q v u.H := by
  cases r with
  | d x =>
    cases e
    exact k (u.cut w.μ.length) v rfl (Wd.cut_ok oku _) (Wd.cut_le ok le) (Rp.mono (Wd.cut_leR _) _ _ h)
  | s ns => cases e
  | m j =>
    obtain ⟨a, ha, hv⟩ := h
    have e : (if j < w.μ.length then some (Rv.m j, u.μ.take w.μ.length) else (u.μ[j]?).bind fun o => if o.isDay then none else some (Rv.m w.μ.length, u.μ.take w.μ.length ++ [o])) = some (q, μ') := e
    split at e
    · rename_i hj
      cases e
      exact k (u.cut w.μ.length) v rfl (Wd.cut_ok oku _) (Wd.cut_le ok le) ⟨a, get_take.mpr ⟨hj, ha⟩, hv⟩
    · rename_i hj
      obtain ⟨o, eo, e⟩ := Option.bind_eq_some_iff.mp e
      split at e
      · cases e
      rename_i hday
      have hday : o.isDay = false := by simpa using hday
      cases e
      have hcut := Wd.cut_le ok le
      have hA : (u.cut w.μ.length).A = w.A := Wd.cut_A ok le
      have hn : w.μ.length ≤ u.μ.length := by
        have := (List.getElem?_eq_some_iff.mp eo).1
        omega
      have hlen : (u.μ.take w.μ.length).length = w.μ.length := take_len _ _ hn
      have hlenA : (u.A.take w.μ.length).length = w.μ.length := take_len _ _ (by rw [oku.len]; exact hn)
      -- the world with the list handed back as its last thing
      have lv : ∀ b, (Wd.mk (u.μ.take w.μ.length ++ [o]) (u.A.take w.μ.length ++ [a]) u.H).live b → u.live b := by
        rintro b ⟨i, x, e1, e2, e3⟩
        rcases (get_snoc _ _ _ _).mp e1 with g1 | ⟨g1, rfl⟩
        · rcases (get_snoc _ _ _ _).mp e3 with g3 | ⟨g3, _⟩
          · exact ⟨i, x, (get_take.mp g1).2, e2, (get_take.mp g3).2⟩
          · have := (get_take.mp g1).1
            rw [hlenA] at g3; omega
        · rcases (get_snoc _ _ _ _).mp e3 with g3 | ⟨_, rfl⟩
          · have := (get_take.mp g3).1
            rw [hlen] at g1; omega
          · exact ⟨j, o, eo, e2, ha⟩
      have same : ∀ b x, u.F b = some x → (Wd.mk (u.μ.take w.μ.length ++ [o]) (u.A.take w.μ.length ++ [a]) u.H).F b = some x := fun b x e => by
        obtain ⟨e1, e2⟩ := Wd.F_some e
        rw [Wd.F_not (fun z => e2 (lv b z))]; exact e1
      have get : ∀ {i : Nat} {x : Mo} {b : Addr}, (u.μ.take w.μ.length ++ [o])[i]? = some x → (u.A.take w.μ.length ++ [a])[i]? = some b → ∃ i', u.μ[i']? = some x ∧ u.A[i']? = some b ∧ (i < w.μ.length ∧ i' = i ∨ i = w.μ.length ∧ i' = j) := by
        intro i x b e1 e3
        rcases (get_snoc _ _ _ _).mp e1 with g1 | ⟨g1, rfl⟩
        · rcases (get_snoc _ _ _ _).mp e3 with g3 | ⟨g3, _⟩
          · exact ⟨i, (get_take.mp g1).2, (get_take.mp g3).2, .inl ⟨(get_take.mp g1).1, rfl⟩⟩
          · have := (get_take.mp g1).1
            rw [hlenA] at g3; omega
        · rcases (get_snoc _ _ _ _).mp e3 with g3 | ⟨_, rfl⟩
          · have := (get_take.mp g3).1
            rw [hlen] at g1; omega
          · exact ⟨j, eo, ha, .inr ⟨by rw [hlen] at g1; exact g1, rfl⟩⟩
      refine k ⟨u.μ.take w.μ.length ++ [o], u.A.take w.μ.length ++ [a], u.H⟩ v rfl ⟨?_, ?_, ?_⟩ ⟨?_, le.le.trans (LeR.of_same same), fun b x z e => same b _ (le.frz b x z e), fun b x z r e => same b _ (le.ins b x z r e)⟩ ⟨a, (get_snoc _ _ _ _).mpr (.inr ⟨hlenA.symm, rfl⟩), hv⟩
      · rw [List.length_append, List.length_append, hlen, hlenA]; rfl
      · intro i i2 x y b e1 e2 d1 d2 f1 f2
        obtain ⟨i', g1, g2, g3⟩ := get e1 f1
        obtain ⟨i2', k1, k2, k3⟩ := get e2 f2
        have := oku.inj i' i2' x y b g1 k1 d1 d2 g2 k2
        omega
      · intro i x b e1 e2
        obtain ⟨i', g1, g2, g3⟩ := get e1 e2
        rcases g3 with ⟨h1, h2⟩ | ⟨h1, h2⟩
        · subst h2
          exact (oku.ok i' x b g1 g2).mono (LeR.of_same same) (fun _ => rfl) fun jj l hj q => (get_snoc _ _ _ _).mpr (.inl (get_take.mpr ⟨by omega, q⟩))
        · subst h2
          rw [eo] at g1
          cases g1
          exact (oku.ok _ _ b eo g2).move hday (LeR.of_same same) fun _ => rfl
      · obtain ⟨tl, et⟩ := hcut.pre
        have hA' : u.A.take w.μ.length = w.A := hA
        show w.A <+: u.A.take w.μ.length ++ [a]
        rw [hA']
        exact List.prefix_append _ _
section
variable {P : Program} {w : World} {K : PySem.W.Frag} {mg : Str → Option Value} {base : Heap}
theorem args_slots {K : PySem.W.Frag} {w : Wd} : ∀ {rs : List Rv} {vs : List V}, RpRs K w rs vs → ∀ n : Nat, Slots K (rs.map some ++ List.replicate n none) w (vs.map some ++ List.replicate n none)
  | _, _, .nil, n => ⟨by simp, fun i r e => by
      rw [List.map_nil, List.nil_append, List.getElem?_replicate] at e
      split at e <;> cases e⟩
  | _, _, .cons r t, n => by
    have h := args_slots t n
    refine ⟨by simpa using h.len, fun i q e => ?_⟩
    cases i with
    | zero =>
      cases e
      exact ⟨_, rfl, r⟩
    | succ i => exact h.get i q e
theorem RpRs.length {K : PySem.W.Frag} {w : Wd} {rs : List Rv} {vs : List V} (h : RpRs K w rs vs) : rs.length = vs.length := Paired.length h
/-- a def by its body -/
theorem fn_ok {x qual : Str} {st : Stmt} {f : Addr} {fd : FuncData} {N ps : List Str} {k : Nat} {body : Ss} (F : Fun K x qual st f fd) (S : FnScope N ps (defScope st))
    (hbody : ∀ (cdv : Value) (A : Around) (outer : List Env) (s : Shared) (H : Hp) (E : XK), Room k (A.deeper (envOfC qual (defScope st) s.heap.objs.size f cdv)) →
      PSs (cxOf CX0 P w K mg base N qual (defScope st) f cdv A outer s H E).nox (defBody st) (tS K body)) : FnOk P w K mg base CX0 (k + 1) f fd ps (spF K ps.length (mkFn ps.length N.length body)) := by
  refine F.ok S (fun vs H Q E h => ?_) (fun cdv A outer s H vs Q E hr h => ?_)
  · obtain ⟨_, _, _, _, _, h, _⟩ := h
    exact h
  · obtain ⟨w0, rs, r, μ', rfl, hl, e, ok, rp, wish⟩ := h
    refine ⟨_, hbody cdv A outer s w0.H E hr, ?_⟩
    unfold mkFn at e
    rw [if_pos (rp.length.trans hl)] at e
    obtain ⟨⟨fl, ρ', μ2⟩, e1, e2⟩ := Option.bind_eq_some_iff.mp e
    refine ⟨_, w0, fl, ρ', μ2, rfl, e1, ok, ?_, fun u σ' eu oku le su => ?_⟩
    · rw [rp.length]
      exact args_slots rp _
    · subst eu
      cases fl with
      | nx =>
        cases e2
        exact wish (u.cut w0.μ.length) _ rfl (Wd.cut_ok oku _) (Wd.cut_le ok le) .non
      | rt q => exact fun v hv => ret_ok ok oku le hv e2 wish
      | bk => cases e2
      | ct => cases e2
/-- what a caller knows of a def -/
structure Cal (P : Program) (w : World) (K : PySem.W.Frag) (mg : Str → Option Value) (base : Heap) (k : Nat) (x : Str) (n : Nat) (g : Fn) : Prop where
  ex : ∃ (f : Addr) (fd : FuncData) (ps : List Str), ps.length = n ∧ FnOk P w K mg base CX0 k f fd ps (spF K n g) ∧ mg x = some (.ref f) ∧ PySem.W.keepIn K (.ref f) = true ∧ Binds K fd ps []
theorem Cal.mono {k j : Nat} {x : Str} {n : Nat} {g : Fn} (c : Cal P w K mg base k x n g) (h : k ≤ j) : Cal P w K mg base j x n g :=
  let ⟨f, fd, ps, h0, h1, h2, h3, h4⟩ := c.ex
  ⟨f, fd, ps, h0, h1.mono h, h2, h3, h4⟩
end
@[simp] def sCall (n : Nat) (g : Fn) (a : Sa) : Sm := sA (fun μ rs => if rs.length = n then g rs μ else none) a
section
variable {X : Cx} {e : Expr} {es : List Expr} {pos p : Pos}
theorem pE_call {k n : Nat} {x : Str} {g : Fn} {ma : Sa} (c : Cal X.prog X.w X.K X.mg X.base k x n g) (hr : Room k X.A) (hg : Gl X x) (ha : PA X (e :: es) (tAs X.K ma)) (hdb : (x == ("__debug__" : Str)) = false := by decide)
    (he : starEach (e :: es) X.env = (false, eval e X.env) :: starEach es X.env := by rfl) (hpl : (backTo pos (starEach es X.env)).any (·.1) = false := by rfl) : PE X (.Call (.Name x p) (e :: es) [] pos) (tE X.K (sCall n g ma)) := by
  obtain ⟨f, fd, ps, h0, h1, h2, h3, h4⟩ := c.ex
  refine pe_of (pe_call h1 hr hg h2 h3 h4 .nil pass0 ha hdb he hpl) fun σ H Q q => ?_
  refine args_run (t := fun vs H1 Q1 => spF X.K n g (vs ++ []) H1 Q1 E0) (fun w rs vs r μ' Q1 e1 ok rp k1 => ?_) q
  split at e1
  · rename_i hl
    exact ⟨w, rs, r, μ', rfl, by rw [List.append_nil, ← rp.length]; exact hl, e1, ok, by rw [List.append_nil]; exact rp, k1⟩
  · cases e1
end
end Sh
set_option Elab.async false
set_option linter.all false
set_option maxRecDepth 100000
namespace Sh
open PySem L2 PyProof.Rows
section
variable {X : Cx} {o e i value : Expr} {pos apos pos' : Pos}
/-! ### append, pop -/
theorem pE_app {m : Sm} {a : Sa} (ho : PE X o (tE X.K m)) (ha : PA X [e] (tAs X.K a)) (hbase : attributeBase o "append" X.env (eval o X.env) = eval o X.env := by rfl)
    (hfew : ((backTo pos (starEach [e] X.env)).all (fun x => !x.1) && (backToKw pos (keywordEach [] X.env)).all (fun x => x.1.isSome)
      && decide ([e].length + ([] : List Keyword).length + (if ([] : List Keyword).isEmpty then 0 else 1) < 30)) = true := by rfl)
    (hline : (apos.endLine == pos.line) = true := by rfl) (hs : starEach [e] X.env = (false, eval e X.env) :: starEach [] X.env := by rfl) (hplain : (backTo pos (starEach [] X.env)).any (·.1) = false := by rfl) :
    PE X (.Call (.Attribute o "append" apos) [e] [] pos) (tE X.K (sMet fApp m a)) :=
  pe_of (pe_bm PySem.F.plainAttrs_list PySem.F.slot_list_append PySem.F.type_list_append mt_append ho ha hbase hfew hline hs hplain) fun _ _ _ q => met_run opM_app q
theorem pE_pop {m : Sm} {a : Sa} (ho : PE X o (tE X.K m)) (ha : PA X [e] (tAs X.K a)) (hbase : attributeBase o "pop" X.env (eval o X.env) = eval o X.env := by rfl)
    (hfew : ((backTo pos (starEach [e] X.env)).all (fun x => !x.1) && (backToKw pos (keywordEach [] X.env)).all (fun x => x.1.isSome)
      && decide ([e].length + ([] : List Keyword).length + (if ([] : List Keyword).isEmpty then 0 else 1) < 30)) = true := by rfl)
    (hline : (apos.endLine == pos.line) = true := by rfl) (hs : starEach [e] X.env = (false, eval e X.env) :: starEach [] X.env := by rfl) (hplain : (backTo pos (starEach [] X.env)).any (·.1) = false := by rfl) :
    PE X (.Call (.Attribute o "pop" apos) [e] [] pos) (tE X.K (sMet fPop m a)) :=
  pe_of (pe_bm PySem.F.plainAttrs_list PySem.F.slot_list_pop PySem.F.type_list_pop mt_popAt ho ha hbase hfew hline hs hplain) fun _ _ _ q => met_run opM_pop q
theorem pE_pop0 {m : Sm} (ho : PE X o (tE X.K m)) (hbase : attributeBase o "pop" X.env (eval o X.env) = eval o X.env := by rfl) (hline : (apos.endLine == pos.line) = true := by rfl) :
    PE X (.Call (.Attribute o "pop" apos) [] [] pos) (tE X.K (sMet fPop0 m sNil)) :=
  pe_of (pe_bm0 PySem.F.plainAttrs_list PySem.F.slot_list_pop PySem.F.type_list_pop mt_pop ho hbase hline) fun _ _ _ q => by
    have h := met_run opM_pop0 q
    obtain ⟨ρ, w, r, μ', e1, e2, ok, s, k⟩ := h
    refine ⟨ρ, w, r, μ', e1, e2, ok, s, fun u v eu oku le rp => ?_⟩
    obtain ⟨h1, ρ2, w2, rs, μ2, e3, e4, ok2, s2, k2⟩ := k u v eu oku le rp
    cases e4
    exact ⟨h1, by rw [← e3]; exact k2 w2 [] rfl ok2 (.refl w2) .nil⟩
end
end Sh
set_option Elab.async false
set_option linter.all false
set_option maxRecDepth 100000
set_option maxHeartbeats 4000000
namespace Sh
open PySem L2 PyProof.Rows

/-! ### t[::-1] of a tuple -/
section
variable {prog : Program} {w : World} {A : Around} {E : Value → Shared → Prop} {s : Shared}
theorem pickAll {α : Type} : ∀ l : List α, (List.range l.length).filterMap (fun k => l[k]?) = l
  | [] => rfl
  | x :: r => by
    rw [List.length_cons, List.range_succ_eq_map, List.filterMap_cons]
    show x :: (List.filterMap (fun k => (x :: r)[k]?) (List.map Nat.succ (List.range r.length))) = x :: r
    rw [List.filterMap_map]
    congr 1
    exact pickAll r
theorem fm_congr {α β : Type} {f g : α → Option β} : ∀ {l : List α}, (∀ x ∈ l, f x = g x) → l.filterMap f = l.filterMap g
  | [], _ => rfl
  | x :: r, h => by
    rw [List.filterMap_cons, List.filterMap_cons, h x List.mem_cons_self, fm_congr fun y hy => h y (List.mem_cons_of_mem _ hy)]
theorem pickRev (its : List Value) : ((List.range its.length).filterMap fun (k : Nat) => its.toArray[((((its.length : Int) - 1) + (k : Int) * (-1)).toNat)]?) = its.reverse := by
  have h := pickAll its.reverse
  rw [List.length_reverse] at h
  rw [← h]
  refine fm_congr fun k hk => ?_
  have hk' : k < its.length := List.mem_range.mp hk
  rw [List.getElem?_reverse hk', List.getElem?_toArray]
  congr 1
  omega
theorem sliceApplied_rev {sl : Addr} {vs : Value} {n : Nat} {Q : Int × Int × Nat → Shared → Prop} (hs : s.heap.IsSliceOf sl .none .none vs) (pk : IsPart vs (some (-1))) (h : Q ((n : Int) - 1, -1, n) s) :
    wpAny (model prog w) A (Builtin.Slice.sliceApplied (.ref sl) (pure (n : Int))) Q E s := by
  obtain ⟨osl, q1, q2, q3⟩ := id hs
  unfold Builtin.Slice.sliceApplied Builtin.Slice.sliceFields
  refine wpAny_bind (wpAny_bind (wpAny_field q1 q3 (x := .none) rfl (wpAny_bind (wpAny_field q1 q3 (x := .none) rfl (wpAny_bind (wpAny_field q1 q3 (x := vs) rfl (wpAny_pure ?_)))))))
  refine wpAny_bind (HT.slicePart_ pk ?_)
  show wpAny _ _ (if ((-1 : Int) == 0) = true then _ else _) _ _ s
  rw [if_neg (by decide)]
  refine wpAny_bind (slicePart_none (wpAny_bind (slicePart_none (wpAny_bind (wpAny_pure ?_)))))
  refine wpAny_pure ?_
  show Q ((n : Int) - 1, (-1 : Int), Builtin.Slice.slicePlaces ((n : Int) - 1) (-1) (-1)) s
  have e : Builtin.Slice.slicePlaces ((n : Int) - 1) (-1) (-1) = n := by
    unfold Builtin.Slice.slicePlaces
    rw [if_neg (by decide)]
    by_cases h0 : n = 0
    · rw [h0]; rfl
    · rw [if_pos (by omega)]
      have : ((n : Int) - 1 - -1 - 1) / -(-1) + 1 = (n : Int) := by
        have e : (-(-1) : Int) = 1 := rfl
        rw [e, Int.ediv_one]; omega
      rw [this]; exact Int.toNat_natCast _
  rw [e]; exact h
theorem getItem_revT {t sl : Addr} {its : List Value} {vs : Value} {Q : Value → Shared → Prop} (ht : IsTup s.heap t its.toArray) (hs : s.heap.IsSliceOf sl .none .none vs) (pk : IsPart vs (some (-1)))
    (h : Q (.ref s.heap.objs.size) { s with heap := s.heap.push { cls := .type "tuple", data := .seq its.reverse.toArray } }) (hz : its.length ≤ sizeLine) : wpAny (model prog w) A (getItem (.ref t) (.ref sl)) Q E s := by
  obtain ⟨osl, q1, q2, q3⟩ := id hs
  have tsl : s.TypeIs (.ref sl) "slice" := ⟨osl, q1, q2⟩
  have fits : sizeOk (.seq its.reverse.toArray) := by
    show its.reverse.toArray.size ≤ sizeLine
    rw [List.size_toArray, List.length_reverse]; exact hz
  unfold getItem
  try with_reducible refine wpAny_holding ?_
  first | refine wpAny_bind (wpAny_pure ?_) | skip
  refine wpAny_bind (wpAny_sequenceKey ht.typeIs (by decide) ?_)
  refine wpAny_bind (wpAny_callSpecial?_slot (name := Str.ofString "__getitem__") ht.typeIs slot_tuple_getitem (wpAny_call_entry slot_tuple_getitem ht.typeIs entry_tuple_getitem ?_ (args_tuple_getitem _ _)))
  show wpAny _ _ (Builtin.Tuple.tupleItemsOf (.ref t) >>= _) _ _ s
  refine wpAny_bind (tupleItemsOf_ ht ?_)
  refine wpAny_bind (wpAny_typeOf tsl ?_)
  rw [if_pos (by decide)]
  rw [List.size_toArray]
  refine wpAny_bind (sliceApplied_rev hs pk ?_)
  have hno : ¬ ((((its.length : Int) - 1 == 0) && ((-1 : Int) == 1) && (its.length == its.length)) = true) := by
    rw [Bool.and_eq_true, Bool.and_eq_true]
    rintro ⟨⟨_, z⟩, _⟩
    exact absurd z (by decide)
  show wpAny _ _ (if (((its.length : Int) - 1 == 0) && ((-1 : Int) == 1) && (its.length == its.length)) = true then _ else _) _ _ s
  rw [if_neg hno, pickRev]
  first
    | exact wpAny_bind (m := Builtin.Tuple.tupleExact _) (wpAny_newObj_type (wpAny_pure ⟨_, rfl, wpAny_pure h⟩) fits)
    | exact wpAny_bind (m := Builtin.Tuple.tupleExact _) (wpAny_newObj_type (wpAny_bind (wpAny_pure (wpAny_pure ⟨_, rfl, wpAny_pure h⟩))) fits)
    | exact wpAny_bind (wpAny_bind (m := Builtin.Tuple.tupleExact _) (wpAny_newObj_type (wpAny_pure (wpAny_pure ⟨_, rfl, wpAny_pure h⟩)) fits))
    | exact wpAny_bind (wpAny_bind (m := Builtin.Tuple.tupleExact _) (wpAny_newObj_type (wpAny_pure ⟨_, rfl, wpAny_pure h⟩) fits))
end
section
variable {X : Cx} {e : Expr} {pos : Pos}
def tRevT (K : PySem.W.Frag) (te : TE) : TE := fun σ H Q => te σ H fun x H1 => ∃ a xs, x = .ref a ∧ SqT K H1 a xs ∧ ∀ p, H1 p = none → Q (.ref p) (upd H1 p (.tup xs.reverse))
theorem pe_revT {te : TE} {k : Nat} {p1 p2 p3 : Pos} (he : PE X e te) : PE X (.Subscript e (.Slice none none (some (.UnaryOp .USub (.Constant (.int 1) k p1) p2)) p3) pos) (tRevT X.K te) := by
  refine ⟨fun pins s σ H Q I h => ?_⟩
  refine Subscript_ (thn (he.run pins s σ H _ I h) fun v s1 ⟨x, H1, I1, r1, q1⟩ => ?_)
  obtain ⟨a, xs, rfl, hx, q⟩ := q1
  cases r1
  have stp : PO X (some (.UnaryOp .USub (.Constant (.int 1) k p1) p2)) (tPart (tUn (rU fun i => .int (-i)) (tC (.int 1)))) := po_some (pe_un un_neg pe_int)
  refine wpAny_Slice (thn (po_none.run pins s1 σ H1 (fun o H2 => o = none ∧ H2 = H1) I1 ⟨rfl, rfl⟩) fun vl s2 ⟨l, H2, I2, pl, el, e2⟩ => ?_)
  subst el e2
  refine thn (po_none.run pins s2 σ H2 (fun o H3 => o = none ∧ H3 = H2) I2 ⟨rfl, rfl⟩) fun vu s3 ⟨u, H3, I3, pu, eu, e3⟩ => ?_
  subst eu e3
  refine thn (stp.run pins s3 σ H3 (fun o H4 => o = some (-1) ∧ H4 = H3) I3 ⟨1, rfl, -1, rfl, rfl, rfl⟩) fun vs s4 ⟨o, H4, I4, pk, eo, e4⟩ => ?_
  subst eo e4
  cases pl
  cases pu
  have J : Inv X pins σ H4 { s4 with heap := s4.heap.push { cls := .type "slice", data := .fields #[.none, .none, vs] } } := I4.kept (t' := s4.toks) fun b ob q => Heap.get?_push_of_some _ q
  obtain ⟨its, r, tt, hz⟩ := J.tuple hx
  refine tail_any (ops := [.ref a, .ref s4.heap.objs.size]) tt.typeIs slot_tuple_getitem.lookup ?_ (by with_unfolding_all rfl)
  refine getItem_revT tt (Heap.IsSliceOf.new _ .none .none vs) pk ?_ (by rw [← r.length]; exact hz)
  refine ⟨.ref _, _, J.laid (t' := s4.toks) (o := .tup xs.reverse) (fun b ob q => Heap.get?_push_of_some _ q) (Nat.le_refl _) ?_, rfl, q _ (J.hok.fresh (Nat.le_refl _))⟩
  exact ⟨by rw [List.length_reverse]; exact hz, _, r.reverse, _, Heap.get?_push_size _ rfl, rfl, 0, rfl⟩
@[simp] def fRevT : F1 := fun μ x => match x with
  | .d (.tuple ds) => some (.d (.tuple ds.reverse), μ)
  | _ => none
theorem pE_revT {m : Sm} {kk : Nat} {p1 p2 p3 : Pos} (he : PE X e (tE X.K m)) : PE X (.Subscript e (.Slice none none (some (.UnaryOp .USub (.Constant (.int 1) kk p1) p2)) p3) pos) (tE X.K (s1 fRevT m)) :=
  pe_of (pe_revT he) fun σ H Q q => one_run (t := fun x H1 Q => ∃ a xs, x = .ref a ∧ SqT X.K H1 a xs ∧ ∀ p, H1 p = none → Q (.ref p) (upd H1 p (.tup xs.reverse))) (by
    intro w x v r μ' Q e ok rx k
    unfold fRevT at e
    split at e
    · cases e
      obtain ⟨a, xs, h1, h2, h3⟩ := Rp.top rx
      exact ⟨a, xs, h1, SqT.ofF h2, fun p hp => mkT_ok ok hp h3.reverse k⟩
    · cases e) q
end

/-! ### set(xs) of a list of ints -/
abbrev nS (w : World) : Obj := { cls := .type "set", dict := none, data := .set #[] 0 (.fresh 0 0 (!w.params.followText "set-order")) }
section
variable {P : Program} {w : World} {A : Around} {E : Value → Shared → Prop} {s : Shared}
set_option maxHeartbeats 3200000 in
theorem call_set_lstI {l : Addr} {vs : Array Value} (ns : List Int) {Q : Value → Shared → Prop} (hnd : A.handled = none) (hlst : s.heap.IsList l vs) (hin : IntsAre vs.toList ns) (hbd : ns.length + 1 < scanBound)
    (hq : ∀ (h' : Heap) (tk c : Nat), SetR w h' s.heap.objs.size (fun j => decide (j ∈ ns)) c → c ≤ ns.length → (∀ b o, s.heap.get? b = some o → h'.get? b = some o) → Q (.ref s.heap.objs.size) { s with heap := h', toks := tk }) :
    wpAny (model P w) A (call (.type "set") [.ref l]) Q E s := by
  have vsz : vs.size = ns.length := by
    have := IntsAre.length hin
    rwa [Array.length_toList] at this
  obtain ⟨c, tl, mro⟩ := F.called_set.mro
  have made := F.called_set.made
  have sub := F.called_set.sub
  refine wpAny_call (codeAny_of_tree ?_)
  show wpAny _ _ (callAny (.type "set") _) _ _ _
  refine wpAny_pure ⟨Code.quiet_builtin _ (by decide +kernel), codeAny_builtin F.entry_type_call ?_⟩
  rw [Around.under_plain (weight_type_call_type "set" [.ref l] []) rfl]
  have t1 := F.called_set.notType
  have t2 := F.called_set.canCreate
  have t3 := F.typeCall_set_1 (.ref l)
  repeat (any_goals (first | assumption | wp_step))
  refine codeAny_mono (code_set_led1 (.ref l) (E := E) (Q₁ := fun ob z => ob = .ref s.heap.objs.size ∧ z = { s with heap := s.heap.push (nS w) }) ⟨rfl, rfl⟩) fun r z hr => ?_
  cases r with
  | error e => exact hr
  | ok fl =>
    cases fl with
    | ret ob =>
      obtain ⟨rfl, rfl⟩ := hr
      have gS : (s.heap.push (nS w)).get? s.heap.objs.size = some (nS w) := Heap.get?_push_size _ rfl
      have tS : Shared.TypeIs { s with heap := s.heap.push (nS w) } (.ref s.heap.objs.size) "set" := ⟨_, gS, rfl⟩
      have li := F.called_set.init.lookup
      have bi := F.called_set.init.bind (.ref s.heap.objs.size)
      repeat (any_goals (first | assumption | wp_step))
      refine codeAny_mono (codeAny_call_builtin (R := wants (fun r z => r = .none ∧ ∃ h' tk c, z = { s with heap := h', toks := tk } ∧ SetR w h' s.heap.objs.size (fun j => decide (j ∈ ns)) c ∧ c ≤ ns.length ∧
          (∀ b o, s.heap.get? b = some o → h'.get? b = some o)) E) F.called_set.init.plain F.entry_set_init (check_set_init_1 tS ?_)) fun r2 z2 hr2 => ?_
      · obtain ⟨ol, hol, hcl, nl, hdl⟩ := hlst
        obtain ⟨ocls, odict, odata, oslots⟩ := ol
        simp only at hcl hdl
        subst hcl; subst hdl
        have hol' : (s.heap.push (nS w)).get? l = some { cls := .type "list", dict := odict, data := .seq vs nl, slots := oslots } := Heap.get?_push_of_some _ hol
        have u1 := F.sub_list_set
        have u2 := F.sub_list_frozenset
        have u3 : (Value.type "list" == Value.type "dict") = false := by decide
        have hl1 : (s.heap.push (nS w)).IsList l vs := ⟨_, hol', rfl, nl, rfl⟩
        unfold Builtin.«set.__init__» noKeywords Builtin.Frozenset.updateFrom
        generalize hPI : pyIter = PI
        wp_walk
        subst hPI
        refine wpAny_pyIter_list hl1 ?_
        refine wpAny_bind (wpAny_runValue ?_)
        have ll : l < s.heap.objs.size := Heap.lt_size hol
        have hh3 : A.in1.in1.in1.handled = none := by simp [hnd]
        have nI : l ≠ (s.heap.push (nS w)).objs.size := by
          rw [Heap.size_push]; exact Nat.ne_of_lt (Nat.lt_succ_of_lt ll)
        have nF : s.heap.objs.size ∉ [(s.heap.push (nS w)).objs.size, l] := by
          rw [Heap.size_push]
          intro q
          rcases List.mem_cons.mp q with q | q
          · exact absurd q (Nat.ne_of_lt (Nat.lt_succ_self _))
          · exact absurd (List.mem_singleton.mp q) (Nat.ne_of_gt ll)
        have hval : ∀ (i : Nat) (v : Value), vs[i]? = some v → ∃ k t, ns[i]? = some k ∧ v = .int k t := fun i v hv => by
          have hi : i < ns.length := by rw [← vsz]; exact (Array.getElem?_eq_some_iff.mp hv).1
          obtain ⟨t, e⟩ := PyProof.Rows.IntsAre.int_at hin i v (by rw [Array.getElem?_toList]; exact hv)
          refine ⟨ns[i], t, List.getElem?_eq_getElem hi, ?_⟩
          rw [e, List.getD_eq_getElem?_getD, List.getElem?_eq_getElem hi] <;> rfl
        refine set_update_ints ((Walks.list hh3 _ l nI vs).toS) s.heap.objs.size nF ns vsz hbd hval (vs.size - 0) 0 _ (by omega) (Nat.zero_le _)
          ⟨⟨_, Heap.get?_push_size _ rfl, rfl, rfl⟩, (hl1.push _)⟩ ?hA ?hB
        case hA =>
          exact ⟨0, Nat.le_refl 0, setR_new_at (Heap.get?_push_of_some _ gS)⟩
        case hB =>
          intro z c2 hm hc hR
          obtain ⟨h', g2, d', tk', os'⟩ := z
          have eg : g2 = s.gens := hm.gens
          have ed : d' = s.drawn := hm.drawn
          have eo : os' = s.os := hm.os
          subst eg; subst ed; subst eo
          show wpAny _ _ _ _ _ _
          refine wpAny_pure ?_
          show wpAny _ _ (ret Value.none) _ _ _
          rw [vsz] at hc
          refine wpAny_pure ⟨rfl, h', tk', c2, rfl, hR, hc, fun b o e => ?_⟩
          have b0 : b < s.heap.objs.size := Heap.lt_size e
          refine hm.heap b o (fun q => ?_) (Heap.get?_push_of_some _ (Heap.get?_push_of_some _ e))
          rcases List.mem_cons.mp q with q | q
          · exact absurd q (Nat.ne_of_lt b0)
          · rw [Heap.size_push] at q
            exact absurd (List.mem_singleton.mp q) (Nat.ne_of_lt (Nat.lt_succ_of_lt b0))
      · cases r2 with
        | error e => exact hr2
        | ok fl2 =>
          cases fl2 with
          | ret r =>
            obtain ⟨rfl, h', tk, c', rfl, y1, y2, y3⟩ := hr2
            repeat (any_goals (first | assumption | wp_step))
            exact hq _ _ _ y1 y2 y3
          | _ => exact hr2.elim
    | _ => exact hr.elim
end
/-- set(xs) of ints -/
def rSetI (K : PySem.W.Frag) (w : World) : List V → Hp → VK → Prop := fun xs H Q => ∃ (p : Addr) (ns : List Int), xs = [.ref p] ∧ (SqL K H p (ns.map V.int) ∨ SqT K H p (ns.map V.int)) ∧ ns.length ≤ 1000 ∧
  ∀ (q : Addr) (c : Nat), H q = none → c ≤ ns.length → Q (.ref q) (upd H q (SetO w q (fun j => decide (j ∈ ns)) c))
theorem cr_setI {X : Cx} (hc : X.calm = true) : CallR X (.type "set") (rSetI X.K X.w) := by
  intro pins s σ H xs us Q I r h
  obtain ⟨p, ns, rfl, hs, hl, q⟩ := h
  rw [Vals.ref1 r]
  have fin : ∀ (h' : Heap) (tk c : Nat), SetR X.w h' s.heap.objs.size (fun j => decide (j ∈ ns)) c → c ≤ ns.length → (∀ b o, s.heap.get? b = some o → h'.get? b = some o) → EP X pins σ Q (.ref s.heap.objs.size) { s with heap := h', toks := tk } := fun h' tk c R hc hk =>
    ⟨.ref _, upd H s.heap.objs.size (SetO X.w s.heap.objs.size (fun j => decide (j ∈ ns)) c), I.laid (t' := tk) hk (Nat.le_refl _) (setO_new R), rfl, q _ c (I.hok.fresh (Nat.le_refl _)) hc⟩
  have hb : ns.length + 1 < scanBound := by unfold scanBound; omega
  rcases hs with hs | hs
  · obtain ⟨its, rv, pl, _⟩ := I.list hs
    exact call_set_lstI ns (I.ok.hd hc) pl.isList (by simpa using intsAre_of rv) hb fin
  · obtain ⟨its, rv, tt, _⟩ := I.tuple hs
    obtain ⟨o, ho, h2, n, h3⟩ := tt
    exact call_set_tupI ns (I.ok.hd hc) ⟨o, ho, h2, n, h3⟩ (by simpa using intsAre_of rv) hb fin
/-! ### the rising list of some ints -/
def insI (x : Int) : List Int → List Int
  | [] => [x]
  | y :: r => if x < y then x :: y :: r else if x = y then y :: r else y :: insI x r
def sortI (l : List Int) : List Int := l.foldr insI []
theorem insI_mem (x : Int) : ∀ (l : List Int) (y : Int), y ∈ insI x l ↔ y = x ∨ y ∈ l
  | [], y => by simp [insI]
  | z :: r, y => by
    unfold insI
    split
    · simp
    · split
      · rename_i h; subst h; simp
      · rw [List.mem_cons, insI_mem x r y, List.mem_cons]
        constructor
        · rintro (h | h | h)
          · exact .inr (.inl h)
          · exact .inl h
          · exact .inr (.inr h)
        · rintro (h | h | h)
          · exact .inr (.inl h)
          · exact .inl h
          · exact .inr (.inr h)
theorem insI_rise (x : Int) : ∀ l : List Int, l.Pairwise (· < ·) → (insI x l).Pairwise (· < ·)
  | [], _ => by simp [insI]
  | z :: r, h => by
    obtain ⟨h1, h2⟩ := List.pairwise_cons.mp h
    unfold insI
    split
    · rename_i hx
      refine List.pairwise_cons.mpr ⟨fun y hy => ?_, h⟩
      rcases List.mem_cons.mp hy with e | hy
      · omega
      · have := h1 y hy; omega
    · split
      · exact h
      · rename_i h3 h4
        refine List.pairwise_cons.mpr ⟨fun y hy => ?_, insI_rise x r h2⟩
        rcases (insI_mem x r y).mp hy with e | hy
        · omega
        · exact h1 y hy
theorem sortI_mem : ∀ (l : List Int) (y : Int), y ∈ sortI l ↔ y ∈ l
  | [], y => by simp [sortI]
  | x :: r, y => by
    show y ∈ insI x (sortI r) ↔ _
    rw [insI_mem, sortI_mem r y, List.mem_cons]
theorem sortI_rise : ∀ l : List Int, (sortI l).Pairwise (· < ·)
  | [] => List.Pairwise.nil
  | x :: r => insI_rise x _ (sortI_rise r)
theorem rise_eq : ∀ {l m : List Int}, l.Pairwise (· < ·) → m.Pairwise (· < ·) → (∀ y, y ∈ l ↔ y ∈ m) → l = m
  | [], [], _, _, _ => rfl
  | [], y :: m, _, _, h => absurd ((h y).mpr List.mem_cons_self) (by simp)
  | y :: l, [], _, _, h => absurd ((h y).mp List.mem_cons_self) (by simp)
  | x :: l, y :: m, hl, hm, h => by
    obtain ⟨a1, a2⟩ := List.pairwise_cons.mp hl
    obtain ⟨b1, b2⟩ := List.pairwise_cons.mp hm
    have e : x = y := by
      rcases List.mem_cons.mp ((h x).mp List.mem_cons_self) with e | h1
      · exact e
      · rcases List.mem_cons.mp ((h y).mpr List.mem_cons_self) with e | h2
        · exact e.symm
        · have := b1 x h1; have := a1 y h2; omega
    subst e
    rw [rise_eq a2 b2 fun z => ?_]
    constructor
    · intro hz
      rcases List.mem_cons.mp ((h z).mp (List.mem_cons_of_mem _ hz)) with e | h1
      · have := a1 z hz; omega
      · exact h1
    · intro hz
      rcases List.mem_cons.mp ((h z).mpr (List.mem_cons_of_mem _ hz)) with e | h1
      · have := b1 z hz; omega
      · exact h1
/-- sorted(set(x)) -/
@[simp] def fSortSet (b : Bool) : F1 := fun μ x => ((rd μ x).bind itemsD).bind fun ds => (intsOf ds).bind fun ns => if ns.length < 64 then some (mkL b ((sortI ns).map .int) μ) else none
theorem pE_sortSet {X : Cx} {e : Expr} {fl : Bool} {k : Nat} {m : Sm} {p p2 pos pos2 : Pos} (hc : X.calm = true) (hr : Room k X.A) (he : PE X e (tE X.K m)) (hg : Gl X "sorted") (hm : X.mg "sorted" = none) (hg2 : Gl X "set") (hm2 : X.mg "set" = none)
    (n1 : starEach [e] X.env = (false, eval e X.env) :: starEach [] X.env := by rfl) (p1 : (backTo pos2 (starEach [] X.env)).any (·.1) = false := by rfl)
    (n2 : starEach [.Call (.Name "set" p2) [e] [] pos2] X.env = (false, eval (.Call (.Name "set" p2) [e] [] pos2) X.env) :: starEach [] X.env := by rfl) (q2 : (backTo pos (starEach [] X.env)).any (·.1) = false := by rfl) :
    PE X (.Call (.Name "sorted" p) [.Call (.Name "set" p2) [e] [] pos2] [] pos) (tE X.K (s1 (fSortSet fl) m)) := by
  have hset := pe_callTy (cr_setI hc) hg2 hm2 boot_set (pa_cons he pa_nil n1) (pos := pos2) (p := p2) (by decide) (by decide) n1 p1
  refine pe_of (pe_callB (cr_sortedSet hc) hg hm boot_sorted (pa_cons hset pa_nil n2) (pos := pos) (p := p) (by decide) (by decide) n2 q2) fun σ H Q q => ?_
  refine one_run (K := X.K) (t := fun v H1 Q1 => rSetI X.K X.w [v] H1 fun v2 H2 => rSortedSet X.w [v2] H2 Q1) ?_ q
  intro w x v r μ' Q1 e1 ok rx k1
  obtain ⟨ds, ed, e1⟩ := Option.bind_eq_some_iff.mp e1
  obtain ⟨ns, en, e1⟩ := Option.bind_eq_some_iff.mp e1
  split at e1
  · rename_i hl
    have e1 := Option.some.inj e1
    obtain ⟨d, ex, ei⟩ := Option.bind_eq_some_iff.mp ed
    have hx := RpR.rd ok rx ex
    have src : ∃ (a : Addr) (xs : List V), v = .ref a ∧ (SqL X.K w.H a xs ∨ SqT X.K w.H a xs) ∧ RpAll w.F xs ds := by
      cases d with
      | list es => cases ei; obtain ⟨a, xs, h1, h2, h3⟩ := hx; exact ⟨a, xs, h1, .inl (SqL.ofF h2), h3⟩
      | tuple es => cases ei; obtain ⟨a, xs, h1, h2, h3⟩ := hx; exact ⟨a, xs, h1, .inr (SqT.ofF h2), h3⟩
      | _ => cases ei
    obtain ⟨a, xs, rfl, hs, h3⟩ := src
    rw [intsOf_ok en] at h3
    rw [h3.ints] at hs
    refine ⟨a, ns, rfl, hs, by omega, fun q c hq hcl => ?_⟩
    refine ⟨q, _, c, rfl, upd_same, by omega, fun ms l hp hmem hlen hnone => ?_⟩
    have ems : ms = sortI ns := rise_eq hp (sortI_rise ns) fun y => by rw [hmem, sortI_mem]; exact decide_eq_true_iff
    subst ems
    have okq := Wd.put_ok (o := SetO X.w q (fun j => decide (j ∈ ns)) c) ok hq
    have leq := Wd.put_le (o := SetO X.w q (fun j => decide (j ∈ ns)) c) ok hq
    exact mkL_ok okq hnone (RpAll.ofInts _) e1 (Wish.to k1 leq)
  · cases e1
end Sh
set_option Elab.async false
set_option linter.all false
set_option maxRecDepth 100000
set_option maxHeartbeats 4000000
namespace Sh
open PySem L2 PyProof.Rows
section
variable {X : Cx} {o e i value : Expr} {pos pos' apos : Pos}
/-! ### dicts of the store: whole numbers by whole numbers -/
@[simp] def sNewK : Sm := fun _ μ => some (.m μ.length, μ ++ [.dK []])
theorem pE_newK : PE X (.Dict [] [] pos) (tE X.K sNewK) := pe_of pe_dnewK fun σ H Q q => by
  obtain ⟨ρ, w, r, μ', e1, e2, ok, s, k⟩ := q
  cases e2
  subst e1
  intro p hp
  have hd : Mo.dK [] ≠ Mo.dead := by intro z; cases z
  exact k (w.new p (.dK []) (.dK [])) (.ref p) rfl (Wd.new_ok ok hd hp upd_same) (Wd.new_le ok hd hp) ⟨p, (get_snoc _ _ _ _).mpr (.inr ⟨ok.len.symm, rfl⟩), rfl⟩
@[simp] def sNewT : Sm := fun _ μ => some (.m μ.length, μ ++ [.dT []])
theorem pE_newT : PE X (.Dict [] [] pos) (tE X.K sNewT) := pe_of pe_dnewT fun σ H Q q => by
  obtain ⟨ρ, w, r, μ', e1, e2, ok, s, k⟩ := q
  cases e2
  subst e1
  intro p hp
  have hd : Mo.dT [] ≠ Mo.dead := by intro z; cases z
  exact k (w.new p (.dT []) (.dT [])) (.ref p) rfl (Wd.new_ok ok hd hp ⟨[], upd_same, .nil⟩) (Wd.new_le ok hd hp) ⟨p, (get_snoc _ _ _ _).mpr (.inr ⟨ok.len.symm, rfl⟩), rfl⟩
/-- in its place, or at the end -/
def putI (kvs : List (Int × Int)) (k v : Int) : List (Int × Int) := if (kvs.any fun p => decide (p.1 = k)) = true then kvs.map (fun p => if p.1 = k then (p.1, v) else p) else kvs ++ [(k, v)]
theorem putI_K (kvs : List (Int × Int)) (k v : Int) : putK (kvs.map fun p => ((Sum.inl p.1 : Key), V.int p.2)) (Sum.inl k) (.int v) = (putI kvs k v).map fun p => (Sum.inl p.1, V.int p.2) := by
  have hd : ∀ a : Int, decide ((Sum.inl a : Key) = Sum.inl k) = decide (a = k) := fun a => by
    by_cases h : a = k
    · rw [h]; simp
    · rw [decide_eq_false h, decide_eq_false (fun q => h (Sum.inl.inj q))]
  unfold putK putI
  rw [List.any_map]
  have e1 : (kvs.any ((fun kv : Key × V => decide (kv.1 = Sum.inl k)) ∘ fun p => ((Sum.inl p.1 : Key), V.int p.2))) = kvs.any fun p => decide (p.1 = k) := by
    congr 1
    funext p
    exact hd p.1
  rw [e1]
  split
  · rw [List.map_map, List.map_map]
    congr 1
    funext p
    show (if (Sum.inl p.1 : Key) = Sum.inl k then ((Sum.inl p.1 : Key), V.int v) else (Sum.inl p.1, V.int p.2)) = (fun q : Int × Int => ((Sum.inl q.1 : Key), V.int q.2)) (if p.1 = k then (p.1, v) else p)
    by_cases h : p.1 = k
    · rw [if_pos h, if_pos (by rw [h])]
    · rw [if_neg h, if_neg (fun q => h (Sum.inl.inj q))]
  · rw [List.map_append]; rfl
/-- in its place, or at the end; keys are tuples of ints -/
def putD (es : List (PyData × PyData)) (k : List Int) (v : PyData) : List (PyData × PyData) :=
  if (es.any fun p => PyData.eqv p.1 (.tuple (k.map .int))) = true then es.map (fun p => if PyData.eqv p.1 (.tuple (k.map .int)) = true then (p.1, v) else p) else es ++ [(.tuple (k.map .int), v)]
theorem eqvAll_ints : ∀ a b : List Int, PyData.eqvAll (a.map .int) (b.map .int) = decide (a = b)
  | [], [] => rfl
  | [], _ :: _ => rfl
  | _ :: _, [] => rfl
  | x :: a, y :: b => by
    show (x == y && PyData.eqvAll (a.map .int) (b.map .int)) = _
    rw [eqvAll_ints a b, Bool.beq_eq_decide_eq]
    by_cases h : x = y
    · by_cases h2 : a = b
      · simp [h, h2]
      · simp [h, h2]
    · simp [h]
theorem inl_inj : ∀ {a b : List Int}, a.map (Sum.inl : Int → Key) = b.map Sum.inl ↔ a = b := by
  intro a b
  constructor
  · intro h
    induction a generalizing b with
    | nil => cases b with
      | nil => rfl
      | cons y b => cases h
    | cons x a ih => cases b with
      | nil => cases h
      | cons y b =>
        have h1 := List.cons.inj (by simpa using h : (Sum.inl x : Key) :: a.map Sum.inl = Sum.inl y :: b.map Sum.inl)
        rw [Sum.inl.inj h1.1, ih h1.2]
  · intro h; rw [h]
theorem RpKV.any {F : Hp} (k : List Int) : ∀ {ws : List (List Key × V)} {es : List (PyData × PyData)}, RpKV F ws es → (ws.any fun kv => decide (kv.1 = k.map Sum.inl)) = es.any fun p => PyData.eqv p.1 (.tuple (k.map .int))
  | _, _, .nil => rfl
  | _, _, .cons (k := j) r t => by
    rw [List.any_cons, List.any_cons, RpKV.any k t]
    congr 1
    show _ = PyData.eqvAll (j.map .int) (k.map .int)
    rw [eqvAll_ints]
    by_cases h : j = k
    · rw [h]; simp
    · rw [decide_eq_false h, decide_eq_false (fun q => h (inl_inj.mp q))]
theorem RpKV.mapPut {F : Hp} {v : V} {d : PyData} (hv : Rp F v d) (k : List Int) : ∀ {ws : List (List Key × V)} {es : List (PyData × PyData)}, RpKV F ws es →
    RpKV F (ws.map fun kv => if kv.1 = k.map Sum.inl then (kv.1, v) else kv) (es.map fun p => if PyData.eqv p.1 (.tuple (k.map .int)) = true then (p.1, d) else p)
  | _, _, .nil => .nil
  | _, _, .cons (k := j) (e := e) (v := u) r t => by
    rw [List.map_cons, List.map_cons]
    have hj : (PyData.eqv (.tuple (j.map .int)) (.tuple (k.map .int)) = true) ↔ j = k := by
      show PyData.eqvAll (j.map .int) (k.map .int) = true ↔ _
      rw [eqvAll_ints]; exact decide_eq_true_iff
    by_cases h : j = k
    · rw [if_pos (hj.mpr h), if_pos (by show j.map Sum.inl = _; rw [h])]
      exact .cons hv (t.mapPut hv k)
    · rw [if_neg (fun q => h (hj.mp q)), if_neg (fun q => h (inl_inj.mp q))]
      exact .cons r (t.mapPut hv k)
theorem RpKV.append {F : Hp} : ∀ {ws ws' : List (List Key × V)} {es es' : List (PyData × PyData)}, RpKV F ws es → RpKV F ws' es' → RpKV F (ws ++ ws') (es ++ es')
  | _, _, _, _, .nil, h => h
  | _, _, _, _, .cons r t, h => .cons r (t.append h)
theorem RpKV.put {F : Hp} {v : V} {d : PyData} (hv : Rp F v d) (k : List Int) {ws : List (List Key × V)} {es : List (PyData × PyData)} (h : RpKV F ws es) : RpKV F (putK ws (k.map Sum.inl) v) (putD es k d) := by
  unfold putK putD
  rw [h.any k]
  split
  · exact h.mapPut hv k
  · exact h.append (.cons hv .nil)
theorem RpKV.length {F : Hp} : ∀ {ws : List (List Key × V)} {es : List (PyData × PyData)}, RpKV F ws es → ws.length = es.length
  | _, _, .nil => rfl
  | _, _, .cons _ t => congrArg (· + 1) t.length
@[simp] def intOf : PyData → Option Int
  | .int i => some i
  | _ => none
@[simp] def tupOf : PyData → Option (List Int)
  | .tuple ds => intsOf ds
  | _ => none
/-- d[k] = v: v first -/
@[simp] def fSetD (μ : Mu) (o i x : Rv) : Option Mu := match o, i, x with
  | .m k, .d a, .d d => match μ[k]? with
    | some (.dK kvs) => (intOf a).bind fun j => (intOf d).bind fun n => if kvs.length < 4096 then some (μ.set k (.dK (putI kvs j n))) else none
    | some (.dT es) => (tupOf a).bind fun js => if es.length < 4096 then some (μ.set k (.dT (putD es js d))) else none
    | _ => none
  | _, _, _ => none
theorem intOf_ok {F : Hp} {v : V} {d : PyData} {i : Int} (h : Rp F v d) (e : intOf d = some i) : v = .int i := by cases h <;> cases e; rfl
theorem kV_ints (k : List Int) : (k.map (Sum.inl : Int → Key)).map kV = k.map V.int := by rw [List.map_map]; rfl
theorem tupOf_ok {w : Wd} {v : V} {d : PyData} {k : List Int} (h : Rp w.F v d) (e : tupOf d = some k) : ∃ b, v = .ref b ∧ w.F b = some (.tup ((k.map (Sum.inl : Int → Key)).map kV)) ∧ d = .tuple (k.map .int) := by
  cases h with
  | tup hf r =>
    have e := intsOf_ok e
    subst e
    rw [kV_ints, ← r.ints]
    exact ⟨_, rfl, hf, rfl⟩
  | _ => cases e
theorem setD_ok {K : PySem.W.Frag} {w : Wd} {o i x : Rv} {vo vi v : V} {μ' : Mu} (e : fSetD w.μ o i x = some μ') (ok : w.Ok) (ro : RpR K w o vo) (ri : RpR K w i vi) (rx : RpR K w x v) {Q : Hp → Prop} (k : ∀ u : Wd, u.μ = μ' → u.Ok → w.le u → Q u.H) :
    ∃ a H4, vo = .ref a ∧ DPut w.H a vi v H4 ∧ Q H4 := by
  unfold fSetD at e
  split at e
  · rename_i kk a d
    obtain ⟨p, hp, hv⟩ := ro
    subst hv
    split at e
    · rename_i kvs ek
      obtain ⟨j, e1, e⟩ := Option.bind_eq_some_iff.mp e
      obtain ⟨n, e2, e⟩ := Option.bind_eq_some_iff.mp e
      split at e
      · rename_i hl
        cases e
        have hm : w.H p = some (.dK (kvs.map fun p => (Sum.inl p.1, V.int p.2))) := ok.ok kk _ p ek hp
        have hd : Mo.dK kvs ≠ Mo.dead := by intro z; cases z
        have hd' : Mo.dK (putI kvs j n) ≠ Mo.dead := by intro z; cases z
        have v1 := intOf_ok ri e1
        have v2 := intOf_ok rx e2
        subst v1 v2
        refine ⟨p, _, rfl, .inl ⟨_, Sum.inl j, hm, rfl, by rw [List.length_map]; exact Nat.lt_of_lt_of_le hl (by decide), rfl⟩, ?_⟩
        rw [putI_K]
        exact k (w.chg kk p (.dK (putI kvs j n)) (.dK ((putI kvs j n).map fun p => (Sum.inl p.1, V.int p.2)))) rfl (Wd.chg_ok ok ek hd hd' hp (by show upd w.H p (.dK ((putI kvs j n).map fun p => (Sum.inl p.1, V.int p.2))) p = _; exact upd_same)) (Wd.chg_le ok ek hd hd' hp)
      · cases e
    · rename_i es ek
      obtain ⟨js, e1, e⟩ := Option.bind_eq_some_iff.mp e
      split at e
      · rename_i hl
        cases e
        obtain ⟨ws, hm, hr⟩ := ok.ok kk _ p ek hp
        have hd : Mo.dT es ≠ Mo.dead := by intro z; cases z
        have hd' : Mo.dT (putD es js d) ≠ Mo.dead := by intro z; cases z
        obtain ⟨b, rfl, hb, _⟩ := tupOf_ok ri e1
        refine ⟨p, _, rfl, .inr ⟨_, js.map Sum.inl, b, hm, rfl, (Wd.F_some hb).1, by rw [hr.length]; exact Nat.lt_of_lt_of_le hl (by decide), rfl⟩, ?_⟩
        exact k (w.chg kk p (.dT (putD es js d)) (.dT (putK ws (js.map Sum.inl) v))) rfl (Wd.chg_ok ok ek hd hd' hp ⟨_, upd_same, hr.put rx js⟩) (Wd.chg_le ok ek hd hd' hp)
      · cases e
    · cases e
  · cases e
@[simp] def sStD (o i m : Sm) : Ss := fun ρ μ => (m ρ μ).bind fun p => (o ρ p.2).bind fun q => (i ρ q.2).bind fun z => (fSetD z.2 q.1 z.1 p.1).map fun μ' => (.nx, ρ, μ')
theorem pS_stD {m mo mi : Sm} (hu : X.A.units + 1 < cLine) (he : PE X value (tE X.K m)) (ho : PE X o (tE X.K mo)) (hi : PE X i (tE X.K mi)) (hs : swapsWith value (some (.Subscript o i pos')) pos.line X.env = pure false := by rfl) :
    PS X (.Assign [.Subscript o i pos'] value pos) (tS X.K (sStD mo mi m)) :=
  ps_of (ps_dput hu ho hi he hs) fun D σ H q => by
    obtain ⟨ρ, w, f, ρ', μ', e1, e2, ok, s, k⟩ := q
    obtain ⟨⟨p1, pm⟩, ea, e2⟩ := Option.bind_eq_some_iff.mp e2
    obtain ⟨⟨q1, qm⟩, eb, e2⟩ := Option.bind_eq_some_iff.mp e2
    obtain ⟨⟨z1, zm⟩, ec, e2⟩ := Option.bind_eq_some_iff.mp e2
    obtain ⟨μ2, ed, e2⟩ := Option.map_eq_some_iff.mp e2
    cases e2
    refine ⟨ρ, w, p1, pm, e1, ea, ok, s, fun u v eu oku le rp => ?_⟩
    subst eu
    refine ⟨ρ, u, q1, qm, rfl, eb, oku, s.mono le, fun u2 vo eu2 oku2 le2 rpo => ?_⟩
    subst eu2
    refine ⟨ρ, u2, z1, zm, rfl, ec, oku2, s.mono (le.trans le2), fun u3 vi eu3 oku3 le3 rpi => ?_⟩
    subst eu3
    exact setD_ok (K := X.K) ed oku3 (rpo.mono le3) rpi (rp.mono (le2.trans le3)) fun z ez okz lez => k z σ ez okz (le.trans (le2.trans (le3.trans lez))) (s.mono (le.trans (le2.trans (le3.trans lez))))
end
end Sh
set_option Elab.async false
set_option linter.all false
set_option maxRecDepth 100000
set_option maxHeartbeats 4000000
namespace Sh
open PySem L2 PyProof.Rows

/-! ### sorted(d.items()) of a dict of ints by ints -/
/-- the pair at a value -/
def prAt (h : Heap) (v : Value) : Int × Int := match v with
  | .ref b => match h.get? b with
    | some o => match o.data with
      | .seq vs _ => match vs.toList with
        | [.int x _, .int y _] => (x, y)
        | _ => (0, 0)
      | _ => (0, 0)
    | none => (0, 0)
  | _ => (0, 0)
def adOf : Value → Addr
  | .ref b => b
  | _ => 0
theorem pairs_at {P : Program} {w : World} : ∀ {es : List DictEntry} {us : List (Key × Value)} {kvs : List (Int × Int)}, PySem.Pairs (mixKind P w) es us → KV (kvs.map fun p => ((Sum.inl p.1 : Key), V.int p.2)) us →
    ∀ (j : Nat) (e : DictEntry), es[j]? = some e → ∃ (q : Int × Int) (t t' : Tok), kvs[j]? = some q ∧ e.key = .int q.1 t ∧ e.val = .int q.2 t'
  | _, _, [], .nil, _, j, e, h => by simp at h
  | _, _, q :: kvs, .nil, r, j, e, h => by simp at h
  | _, _, [], .cons _ _ _, r, j, e, h => by cases r
  | _, _, q :: kvs, .cons (e := e0) (kv := kv) k1 k2 k3, r, j, e, h => by
    cases r with
    | cons r1 r2 =>
      cases j with
      | zero =>
        have h : e0 = e := by simpa using h
        subst h
        obtain ⟨z1, t', z2⟩ := r1
        rw [mixKind_is, ← z1] at k1
        obtain ⟨t, et⟩ := Value.isInt_shape (k := q.1) k1
        exact ⟨q, t, t', rfl, et, by rw [k2, z2]⟩
      | succ j => exact pairs_at k3 r2 j e (by simpa using h)
def leB (p q : Int × Int) : Prop := SrtO.lexB q p = false
def insP (x : Int × Int) : List (Int × Int) → List (Int × Int)
  | [] => [x]
  | y :: r => if SrtO.lexB y x then y :: insP x r else x :: y :: r
def sortP (l : List (Int × Int)) : List (Int × Int) := l.foldr insP []
theorem insP_perm (x : Int × Int) : ∀ l, (insP x l).Perm (x :: l)
  | [] => .refl _
  | y :: r => by
    unfold insP
    split
    · exact ((insP_perm x r).cons y).trans (List.Perm.swap x y r)
    · exact .refl _
theorem sortP_perm : ∀ l, (sortP l).Perm l
  | [] => .refl _
  | x :: r => (insP_perm x _).trans ((sortP_perm r).cons x)
theorem leB_tr {a b c : Int × Int} (h1 : leB a b) (h2 : leB b c) : leB a c := by
  unfold leB at *
  rw [SrtO.lexB_no] at *
  omega
theorem leB_as {a b : Int × Int} (h1 : leB a b) (h2 : leB b a) : a = b := by
  unfold leB at *
  rw [SrtO.lexB_no] at *
  exact Prod.ext (by omega) (by omega)
theorem insP_srt (x : Int × Int) : ∀ l, l.Pairwise leB → (insP x l).Pairwise leB
  | [], _ => List.pairwise_singleton _ _
  | y :: r, h => by
    obtain ⟨h1, h2⟩ := List.pairwise_cons.mp h
    unfold insP
    by_cases hb : SrtO.lexB y x = true
    · rw [if_pos hb]
      refine List.pairwise_cons.mpr ⟨fun z hz => ?_, insP_srt x r h2⟩
      rcases List.mem_cons.mp ((insP_perm x r).mem_iff.mp hz) with e | hz
      · subst e
        unfold leB
        rw [SrtO.lexB_no]
        have := SrtO.lexB_iff.mp hb
        omega
      · exact h1 z hz
    · rw [if_neg hb]
      have hxy : leB x y := by
        unfold leB
        cases q : SrtO.lexB y x with
        | true => exact absurd q hb
        | false => rfl
      refine List.pairwise_cons.mpr ⟨fun z hz => ?_, h⟩
      rcases List.mem_cons.mp hz with e | hz
      · rw [e]; exact hxy
      · exact leB_tr hxy (h1 z hz)
theorem sortP_srt : ∀ l, (sortP l).Pairwise leB
  | [] => List.Pairwise.nil
  | x :: r => insP_srt x _ (sortP_srt r)
theorem sortP_eq {l m : List (Int × Int)} (h : l.Perm m) (s : l.Pairwise leB) : l = sortP m :=
  List.Perm.eq_of_pairwise (le := leB) (fun a b _ _ h1 h2 => leB_as h1 h2) s (sortP_srt m) (h.trans (sortP_perm m).symm)

def rSortItK : List V → Hp → VK → Prop := fun vs H Q => ∃ (p a : Addr) (kvs : List (Int × Int)), vs = [.ref p] ∧ H p = some (DX.itemsO p a) ∧ H a = some (.dK (kvs.map fun q => (Sum.inl q.1, V.int q.2))) ∧ kvs.length ≤ 4096 ∧
  ∀ (H2 : Hp) (l : Addr) (zs : List (Addr × (Int × Int))), (∀ b o, H b = some o → H2 b = some o) → H l = none → zs.map (·.2) = sortP kvs → H2 l = some (.lst (zs.map fun z => V.ref z.1)) →
    (∀ z ∈ zs, H z.1 = none ∧ H2 z.1 = some (.tup [.int z.2.1, .int z.2.2])) → Q (.ref l) H2
theorem cr_sortItK {X : Cx} (hc : X.calm = true) : CallR X (.builtin "sorted") rSortItK := by
  intro pins s σ H xs us Q I r h
  obtain ⟨p, a, kvs, rfl, hp, ha, hz, q⟩ := h
  obtain rfl := Vals.ref1 r
  have view : s.heap.IsItemsView p a := (show ObjOk X.prog X.w H s.heap p (DX.itemsO p a) from I.hok p _ hp).1
  obtain ⟨_, hd, us, rel, o, es, ep, ho, hx, hdat, _, hprs, _⟩ := dk_of I.hok ha
  have prs := pairs_at hprs rel
  have lus : kvs.length = us.length := by
    have := Paired.length rel
    rwa [List.length_map] at this
  have les : es.size = kvs.length := by
    have : ∀ {es : List DictEntry} {us : List (Key × Value)}, PySem.Pairs (mixKind X.prog X.w) es us → es.length = us.length := by
      intro es us h
      induction h with
      | nil => rfl
      | cons _ _ _ ih => exact congrArg (· + 1) ih
    rw [← Array.length_toList, this hprs, lus]
  have nh : X.A.handled = none := I.ok.hd hc
  refine DT.sortedI (es := es) (ep := ep) nh view ⟨o, ho, hx, hdat⟩ (by rw [les, sizeLine_eq]; omega) fun h' tk as hk hlt hl hG => ?_
  have nd : as.Nodup := List.Pairwise.imp (fun h => Nat.ne_of_lt h) hG.rise
  have lak : as.length = kvs.length := by omega
  have pr : ∀ (j : Nat) (b : Addr), as[j]? = some b → ∃ (q : Int × Int) (t t' : Tok), kvs[j]? = some q ∧ h'.get? b = some { cls := .type "tuple", data := .seq #[.int q.1 t, .int q.2 t'] } := by
    intro j b hj
    obtain ⟨en, he, hg⟩ := hG.pairs j b hj
    obtain ⟨q, t, t', e1, e2, e3⟩ := prs j en (by rw [Array.getElem?_toList]; exact he)
    exact ⟨q, t, t', e1, by rw [hg, e2, e3]⟩
  have hob : (h'.push { cls := .type "list", data := .seq (as.map Value.ref).toArray }).get? h'.objs.size = some (seqObj "list" (as.map Value.ref).toArray 0) := Heap.get?_push_size _ rfl
  have kb : ∀ b o, s.heap.get? b = some o → (h'.push { cls := .type "list", data := .seq (as.map Value.ref).toArray }).get? b = some o := fun b o e => Heap.get?_push_of_some _ (hk b o e)
  have ne0 : ∀ b o, h'.get? b = some o → b ≠ h'.objs.size := fun b o e => Nat.ne_of_lt (Heap.lt_size e)
  generalize hh2 : h'.push { cls := .type "list", data := .seq (as.map Value.ref).toArray } = h2 at hob kb ⊢
  have ka : ∀ b o, h'.get? b = some o → h2.get? b = some o := fun b o e => by rw [← hh2]; exact Heap.get?_push_of_some _ e
  have pr2 : ∀ (j : Nat) (b : Addr), as[j]? = some b → ∃ q : Int × Int, kvs[j]? = some q ∧ prAt h2 (.ref b) = q ∧ Srt.IsPair h2 (.ref b) q.1 q.2 := by
    intro j b hj
    obtain ⟨q, t, t', e1, e2⟩ := pr j b hj
    refine ⟨q, e1, ?_, b, _, t, t', 0, rfl, ka _ _ e2, rfl, rfl⟩
    show (match h2.get? b with | some o => _ | none => _) = q
    rw [ka _ _ e2]
  have hmap : (as.map Value.ref).map (prAt h2) = kvs := by
    apply List.ext_getElem?
    intro j
    rw [List.getElem?_map, List.getElem?_map]
    cases hj : as[j]? with
    | none =>
      have := List.getElem?_eq_none_iff.mp hj
      rw [List.getElem?_eq_none (by omega)]; rfl
    | some b =>
      obtain ⟨q, e1, e2, _⟩ := pr2 j b hj
      rw [e1]
      show some (prAt h2 (.ref b)) = _
      rw [e2]
  have hpair : ∀ v ∈ as.map Value.ref, Srt.IsPair h2 v (prAt h2 v).1 (prAt h2 v).2 := by
    intro v hv
    obtain ⟨b, hb, rfl⟩ := List.mem_map.mp hv
    obtain ⟨j, hj⟩ := List.mem_iff_getElem?.mp hb
    obtain ⟨q, _, e2, e3⟩ := pr2 j b hj
    rw [e2]; exact e3
  refine wpAny_call_entry PyProof.Rows.slot_list_sort ⟨_, hob, rfl⟩ PyProof.Rows.entry_list_sort
    (SrtO.list_sort_ord (s := { s with heap := h2, toks := tk }) (vs := as.map Value.ref) (SrtO.swo_lex (prAt h2)) hob (by rw [List.length_map, sizeLine_eq]; omega) (fun _ => SrtO.pairs_sortableO (by omega) hpair fun o e => ?_) fun out o1 o2 => ⟨.none, rfl, ?_⟩) (PyProof.Rows.args_list_sort _)
  · have e' : some o = some (seqObj "list" (as.map Value.ref).toArray 0) := e.symm.trans hob
    cases e'
    intro c
    exact absurd (Value.type.inj c) (by decide)
  · have oref : ∀ v ∈ out, v = .ref (adOf v) ∧ adOf v ∈ as := by
      intro v hv
      obtain ⟨b, hb, rfl⟩ := List.mem_map.mp (o2.perm.mem_iff.mp hv)
      exact ⟨rfl, hb⟩
    have ezs : (out.map fun v => (adOf v, prAt h2 v)).map (·.2) = sortP kvs := by
      rw [List.map_map]
      refine sortP_eq (?_ : (out.map (prAt h2)).Perm kvs) ?_
      · rw [← hmap]; exact o2.perm.map _
      · rw [List.pairwise_map]; exact o1
    have hout : out = (out.map fun v => (adOf v, prAt h2 v)).map fun z => Value.ref z.1 := by
      rw [List.map_map]
      refine (List.map_id out).symm.trans (List.map_congr_left fun v hv => (oref v hv).1)
    have kF : ∀ b o, b ≠ h'.objs.size → h2.get? b = some o → (sortedHeap h2 h'.objs.size (as.map Value.ref) out.toArray).get? b = some o := fun b o hb e => (PyProof.Rows.sortedHeap_old hb (Heap.lt_size e)).trans e
    have kS : ∀ b o, s.heap.get? b = some o → (sortedHeap h2 h'.objs.size (as.map Value.ref) out.toArray).get? b = some o := fun b o e => kF b o (ne0 _ _ (hk b o e)) (kb b o e)
    obtain ⟨eF, heF⟩ := PyProof.Rows.sortedHeap_at (vs := as.map Value.ref) (out := out.toArray) hob
    have I1 : Inv X pins σ H { s with heap := sortedHeap h2 h'.objs.size (as.map Value.ref) out.toArray, toks := tk } := I.kept (t' := tk) kS
    have hn0 : H h'.objs.size = none := I.hok.fresh (Nat.le_of_lt hlt)
    have olen : out.length = kvs.length := by rw [o2.len, List.length_map, lak]
    have rv : Vals ((out.map fun v => (adOf v, prAt h2 v)).map fun z => V.ref z.1) out := by
      conv => rhs; rw [hout]
      exact vals_maps (fun z : Addr × Int × Int => V.ref z.1) (fun z => Value.ref z.1) _ fun _ _ => rfl
    have I2 : Inv X pins σ (upd H h'.objs.size (.lst ((out.map fun v => (adOf v, prAt h2 v)).map fun z => V.ref z.1))) { s with heap := sortedHeap h2 h'.objs.size (as.map Value.ref) out.toArray, toks := tk } :=
      I1.take (h' := sortedHeap h2 h'.objs.size (as.map Value.ref) out.toArray) (t' := tk) (fun b ob _ e => e) (I.fpOk (Nat.le_of_lt hlt) hn0) ⟨by rw [List.length_map, List.length_map, sizeLine_eq]; omega, out, eF, rv, heF⟩
    obtain ⟨H2, I3, g, qt⟩ := DX.takeT (P := fun b vs => vs = [.int (prAt h2 (.ref b)).1, .int (prAt h2 (.ref b)).2]) I as _ I2 nd fun b hb => by
      obtain ⟨j, hj⟩ := List.mem_iff_getElem?.mp hb
      obtain ⟨q, t, t', e1, e2⟩ := pr j b hj
      obtain ⟨q', e3, e4, _⟩ := pr2 j b hj
      have hbl : s.heap.objs.size ≤ b := Nat.le_of_lt (hG.above b hb)
      have eq : q' = q := Option.some.inj (e3.symm.trans e1)
      subst eq
      refine ⟨hbl, ?_, _, rfl, fun H3 => ⟨(by rw [sizeLine_eq]; show 2 ≤ 16777216; omega), [.int q'.1 t, .int q'.2 t'], ?_, ⟨_, kF _ _ (ne0 _ _ e2) (ka _ _ e2), rfl, 0, rfl⟩⟩⟩
      · rw [upd_ne (ne0 _ _ e2)]
        exact I.hok.fresh hbl
      · rw [e4]
        exact .cons ⟨t, rfl⟩ (.cons ⟨t', rfl⟩ .nil)
    have gr : ∀ b o, H b = some o → H2 b = some o := fun b o e => g b o (by rw [upd_ne (ne_of_none e hn0)]; exact e)
    refine ⟨.ref h'.objs.size, H2, I3, rfl, q H2 h'.objs.size _ gr hn0 ezs (g _ _ upd_same) fun z' hz' => ?_⟩
    obtain ⟨v, hv, rfl⟩ := List.mem_map.mp hz'
    obtain ⟨r1, r2⟩ := oref v hv
    obtain ⟨vs, ev, hH⟩ := qt (adOf v) r2
    refine ⟨I.hok.fresh (Nat.le_of_lt (hG.above _ r2)), ?_⟩
    rw [ev] at hH
    rw [← r1] at hH
    exact hH
/-- d.items() -/
def rItemsK : V → List V → Hp → VK → Prop := fun x xs H Q => ∃ (a : Addr) (kvs : List (Key × V)), x = .ref a ∧ xs = [] ∧ H a = some (.dK kvs) ∧ ∀ p, H p = none → Q (.ref p) (upd H p (DX.itemsO p a))
theorem mt_itemsK {X : Cx} : MtR X "dict.items" rItemsK := by
  intro pins s σ H x xs v us Q I rx rxs h
  obtain ⟨a, kvs, rfl, rfl, ha, q⟩ := h
  cases rx
  cases rxs
  obtain ⟨_, hd, us, rel, o, es, ep, ho, hx, hdat, _⟩ := dk_of I.hok ha
  refine DT.callItems (es := es) (ep := ep) hd ⟨o, ho, hx, hdat⟩ ?_
  exact ⟨.ref _, upd H s.heap.objs.size (DX.itemsO s.heap.objs.size a), I.laid (t' := s.toks) (fun b u e => Heap.get?_push_of_some _ e) (Nat.le_refl _) (DX.itemsO_ok (Heap.get?_push_size _ rfl)), rfl, q _ (I.hok.fresh (Nat.le_refl _))⟩
/-- all that was tracked is as it was, and more -/
def Wd.grow (w : Wd) (H2 : Hp) : Wd := { w with H := H2 }
section
variable {w : Wd} {H2 : Hp}
theorem Wd.grow_same (h : w.Ok) (g : ∀ b o, w.H b = some o → H2 b = some o) : ∀ a u, w.F a = some u → (w.grow H2).F a = some u := fun a u e => by
  obtain ⟨e1, e2⟩ := Wd.F_some e
  rw [Wd.F_not (fun z : (w.grow H2).live a => e2 z)]
  exact g _ _ e1
theorem Wd.grow_le (h : w.Ok) (g : ∀ b o, w.H b = some o → H2 b = some o) : w.le (w.grow H2) := ⟨List.prefix_rfl, LeR.of_same (Wd.grow_same h g), fun a _ _ e => Wd.grow_same h g a _ e, fun a _ _ _ e => Wd.grow_same h g a _ e⟩
theorem Wd.grow_ok (h : w.Ok) (g : ∀ b o, w.H b = some o → H2 b = some o) : (w.grow H2).Ok := by
  refine ⟨h.len, h.inj, fun k m a e1 e2 => (h.ok k m a e1 e2).mono (Wd.grow_le h g).le (fun hd => ?_) fun _ _ _ q => q⟩
  obtain ⟨u, e⟩ := h.lives ⟨k, m, e1, hd, e2⟩
  rw [e]; exact g _ _ e
theorem Wd.grow_at (h : w.Ok) {a : Addr} {o : HO} (hn : w.H a = none) (e : H2 a = some o) : (w.grow H2).F a = some o := by
  rw [Wd.F_not (fun z : (w.grow H2).live a => h.free hn z)]; exact e
end
def prD (p : Int × Int) : PyData := .tuple [.int p.1, .int p.2]
@[simp] def fSortItems : F1 := fun μ x => match x with
  | .m k => match μ[k]? with
    | some (.dK kvs) => if kvs.length ≤ 4096 then some (.d (.list ((sortP kvs).map prD)), μ) else none
    | _ => none
  | _ => none
theorem pE_sortItems {X : Cx} {o : Expr} {m : Sm} {p apos pos pos2 : Pos} (hc : X.calm = true) (ho : PE X o (tE X.K m)) (hg : Gl X "sorted") (hm : X.mg "sorted" = none)
    (hbase : attributeBase o "items" X.env (eval o X.env) = eval o X.env := by rfl) (hline : (apos.endLine == pos2.line) = true := by rfl)
    (n2 : starEach [.Call (.Attribute o "items" apos) [] [] pos2] X.env = (false, eval (.Call (.Attribute o "items" apos) [] [] pos2) X.env) :: starEach [] X.env := by rfl) (q2 : (backTo pos (starEach [] X.env)).any (·.1) = false := by rfl) :
    PE X (.Call (.Name "sorted" p) [.Call (.Attribute o "items" apos) [] [] pos2] [] pos) (tE X.K (s1 fSortItems m)) := by
  have hit := pe_bm0 PySem.F.plainAttrs_dict PySem.F.slot_dict_items PySem.F.type_dict_items mt_itemsK ho hbase hline
  refine pe_of (pe_callB (cr_sortItK hc) hg hm boot_sorted (pa_cons hit pa_nil n2) (pos := pos) (p := p) (by decide) (by decide) n2 q2) fun σ H Q q => ?_
  refine one_run (K := X.K) (t := fun v H1 Q1 => tyV X.K "dict" v H1 ∧ rItemsK v [] H1 fun v2 H2 => rSortItK [v2] H2 Q1) ?_ q
  intro w x v r μ' Q1 e1 ok rx k1
  unfold fSortItems at e1
  split at e1
  · rename_i kk
    split at e1
    · rename_i kvs ek
      split at e1
      · rename_i hl
        cases e1
        obtain ⟨a, haA, rfl⟩ := rx
        have hm2 : w.H a = some (.dK (kvs.map fun p => (Sum.inl p.1, V.int p.2))) := ok.ok kk _ a ek haA
        refine ⟨.inr (.inr (.inl ⟨rfl, .inl ⟨_, hm2⟩⟩)), a, _, rfl, rfl, hm2, fun p hp => ?_⟩
        have ok1 := Wd.put_ok (o := DX.itemsO p a) ok hp
        have le1 := Wd.put_le (o := DX.itemsO p a) ok hp
        have nap : a ≠ p := ne_of_none hm2 hp
        refine ⟨p, a, kvs, rfl, upd_same, by rw [upd_ne nap]; exact hm2, hl, fun H2 l zs g hln ezs hL hZ => ?_⟩
        have ok2 := Wd.grow_ok (H2 := H2) ok1 g
        have le2 := Wd.grow_le (H2 := H2) ok1 g
        refine Wish.to (Wish.to k1 le1) le2 ((w.put p (DX.itemsO p a)).grow H2) _ rfl ok2 (.refl _) (.lst (Wd.grow_at ok1 hln hL) ?_)
        rw [← ezs, List.map_map]
        have : ∀ zs : List (Addr × (Int × Int)), (∀ z ∈ zs, (w.put p (DX.itemsO p a)).H z.1 = none ∧ H2 z.1 = some (.tup [.int z.2.1, .int z.2.2])) → RpAll ((w.put p (DX.itemsO p a)).grow H2).F (zs.map fun z => V.ref z.1) (zs.map (prD ∘ fun x => x.2)) := by
          intro zs
          induction zs with
          | nil => intro _; exact .nil
          | cons z zs ih =>
            intro h
            obtain ⟨h1, h2⟩ := h z List.mem_cons_self
            exact .cons (.tup (Wd.grow_at ok1 h1 h2) (.cons (.int _) (.cons (.int _) .nil))) (ih fun y hy => h y (List.mem_cons_of_mem _ hy))
        exact this zs hZ
      · cases e1
    · cases e1
  · cases e1
end Sh
set_option Elab.async false
set_option linter.all false
set_option maxRecDepth 100000
namespace Sh
open PySem L2 PyProof.Rows
/-! ### d[k], keys tuples of whole numbers -/
def valD (es : List (PyData × PyData)) (js : List Int) : Option PyData := (es.find? fun p => PyData.eqv p.1 (.tuple (js.map .int))).map (·.2)
@[simp] def fDGet : F2 := fun μ x y => match rd μ x, y with
  | some (.dict es), .d a => (tupOf a).bind fun js => (valD es js).map fun d => (.d d, μ)
  | _, _ => none
theorem key_eqv (j k : List Int) : PyData.eqv (.tuple (j.map .int)) (.tuple (k.map .int)) = decide (j = k) := eqvAll_ints j k
theorem RpKV.val {F : Hp} (k : List Int) : ∀ {ws : List (List Key × V)} {es : List (PyData × PyData)}, RpKV F ws es → ∀ {d : PyData}, valD es k = some d → ∃ v, valV ws (k.map Sum.inl) = some v ∧ Rp F v d
  | _, _, .nil, d, e => by cases e
  | _, _, .cons (k := j) (v := u) (e := x) (ws := ws) (es := es) r t, d, e => by
    have e : ((((PyData.tuple (j.map .int), x) :: es).find? fun p => PyData.eqv p.1 (.tuple (k.map .int))).map (·.2)) = some d := e
    rw [List.find?_cons, key_eqv] at e
    by_cases h : j = k
    · subst h
      rw [decide_eq_true rfl] at e
      cases e
      exact ⟨u, valV_pos rfl, r⟩
    · rw [decide_eq_false h] at e
      obtain ⟨v, h1, h2⟩ := RpKV.val k t e
      exact ⟨v, by rw [valV_neg (fun q => h (inl_inj.mp q))]; exact h1, h2⟩
theorem o2_dget {K : PySem.W.Frag} : Op2 K fDGet (fun x y H Q => ∃ a v, x = .ref a ∧ DGet H a y (some v) ∧ Q v H) := by
  intro w x y v z r μ' Q e ok rx ry k
  unfold fDGet at e
  split at e
  · rename_i es a ex
    obtain ⟨js, e1, e⟩ := Option.bind_eq_some_iff.mp e
    obtain ⟨d, e2, e⟩ := Option.map_eq_some_iff.mp e
    cases e
    obtain ⟨p, ws, hv, hr, hk⟩ := RpR.rd ok rx ex
    obtain ⟨b, rfl, hb, _⟩ := tupOf_ok ry e1
    obtain ⟨u, h1, h2⟩ := hk.val js e2
    exact ⟨p, u, hv, .inr ⟨ws, js.map Sum.inl, b, hr, rfl, (Wd.F_some hb).1, h1.symm⟩, Wish.here k ok h2⟩
  · cases e
section
variable {X : Cx} {o i : Expr} {pos : Pos}
theorem pE_dget {mo mi : Sm} (hu : X.A.units + 1 < cLine) (ho : PE X o (tE X.K mo)) (hi : PE X i (tE X.K mi)) (hs : NoSl i := by exact fun _ _ => rfl) : PE X (.Subscript o i pos) (tE X.K (s2 fDGet mo mi)) :=
  pe_of (pe_dget hu ho hi hs) fun _ _ _ q => two_run o2_dget q
end
/-! ### a comprehension over the keys of a dict that stays -/
abbrev Dk : Type := Ro → Mu → Option (List (PyData × PyData))
@[simp] def sKeys (mk : Dk) : Si := fun ρ μ => (mk ρ μ).map fun es => (⟨es.map (·.1), none⟩, μ)
/-- td's value is the dict that mk tells, in every world from w on -/
def KeysE (K : PySem.W.Frag) (mk : Dk) (td : TE) : Prop := ∀ (ρ : Ro) (w : Wd) (σ : L2.St) (es : List (PyData × PyData)), mk ρ w.μ = some es → w.Ok → Slots K ρ w σ →
  ∃ (d : Addr) (ws : List (List Key × V)), Rd w.F d (.dT ws) ∧ RpKV w.F ws es ∧ ∀ (z : Wd) (Q : VK), z.Ok → w.le z → Q (.ref d) z.H → td σ z.H Q
@[simp] def mkVar (i : Nat) : Dk := fun ρ _ => match ρ[i]? with
  | some (some (.d (.dict es))) => some es
  | _ => none
theorem keys_var {K : PySem.W.Frag} (i : Nat) : KeysE K (mkVar i) (tVar i) := by
  intro ρ w σ es e ok s
  unfold mkVar at e
  split at e
  · rename_i es' er
    cases e
    obtain ⟨v, h1, h2⟩ := s.get i _ er
    have h2 : Rp w.F v (.dict es) := h2
    cases h2 with
    | dct h r => exact ⟨_, _, h, r, fun z Q okz lez q => ⟨_, h1, q⟩⟩
  · cases e
@[simp] def mkLast (i : Nat) : Dk := fun ρ _ => match ρ[i]? with
  | some (some (.d (.list ds))) => match atI ds (-1) with
    | some (.dict es) => some es
    | _ => none
  | _ => none
theorem atI_rel {F : Hp} {xs : List V} {ds : List PyData} {i : Int} {d : PyData} (r : RpAll F xs ds) (e : atI ds i = some d) : ∃ v, atI xs i = some v ∧ Rp F v d := by
  unfold atI at e ⊢
  obtain ⟨j, e1, e2⟩ := Option.bind_eq_some_iff.mp e
  obtain ⟨v, h1, h2⟩ := r.get e2
  exact ⟨v, Option.bind_eq_some_iff.mpr ⟨j, by rw [r.length]; exact e1, h1⟩, h2⟩
/-- the last of a list of dicts, by its name -/
def tLast (K : PySem.W.Frag) (i : Nat) : TE := fun σ H Q => tVar i σ H fun x H1 => (fun σ H Q => Q (.int (-1)) H : TE) σ H1 fun y H2 => rIx K x y H2 Q
theorem keys_last {K : PySem.W.Frag} (i : Nat) : KeysE K (mkLast i) (tLast K i) := by
  intro ρ w σ es e ok s
  unfold mkLast at e
  split at e
  · rename_i ds er
    split at e
    · rename_i es' ea
      cases e
      obtain ⟨v, h1, h2⟩ := s.get i _ er
      have h2 : Rp w.F v (.list ds) := h2
      cases h2 with
      | lst hf r =>
        obtain ⟨x, g1, g2⟩ := atI_rel r ea
        cases g2 with
        | dct h rr => exact ⟨_, _, h, rr, fun z Q okz lez q => ⟨_, h1, .inl ⟨_, _, _, _, rfl, rfl, SqL.ofF (Wd.F_some (lez.le.lst _ _ hf)).1, g1, q⟩⟩⟩
    · cases e
  · cases e
theorem RpKV.get {F : Hp} : ∀ {ws : List (List Key × V)} {es : List (PyData × PyData)} {i : Nat} {p : PyData × PyData}, RpKV F ws es → es[i]? = some p → ∃ (k : List Int) (v : V), ws[i]? = some (k.map Sum.inl, v) ∧ p.1 = .tuple (k.map .int) ∧ Rp F v p.2
  | _, _, _, _, .nil, e => by simp at e
  | _, _, 0, _, .cons (k := k) r _, e => by simp at e; subst e; exact ⟨k, _, rfl, rfl, r⟩
  | _, _, i + 1, _, .cons _ t, e => by
    obtain ⟨k, v, h1, h2⟩ := RpKV.get (i := i) t (by simpa using e)
    exact ⟨k, v, by simpa using h1, h2⟩
theorem Wd.notTup {w : Wd} (ok : w.Ok) {q : Addr} {us : List V} (h : w.H q = some (.tup us)) : w.F q = some (.tup us) := by
  refine (Wd.F_not ?_).trans h
  rintro ⟨k, m, e1, e2, e3⟩
  have := ok.ok k m q e1 e3
  cases m with
  | lst ds => obtain ⟨xs, e, _⟩ := this; rw [h] at e; cases e
  | dT es => obtain ⟨xs, e, _⟩ := this; rw [h] at e; cases e
  | dK es => rw [show w.H q = _ from this] at h; cases h
  | day C y j => obtain ⟨dx, v, l, e, _⟩ := this; rw [h] at e; cases e
  | dead => exact e2 rfl
theorem yld_keys {d : Addr} {ob : Obj} {ws : List (List Key × V)} {es : List (PyData × PyData)} {u : Wd} (h : u.F d = some (.frz ob (.dT ws))) (r : RpKV u.F ws es) : Yld (Itkt d ob ws) ⟨es.map (·.1), none⟩ u := by
  intro w le ok _
  have hw := (Wd.F_some (le.frz _ _ _ h)).1
  have rw' := RpKV.mono le.le _ _ r
  refine ⟨fun i x e => ?_, fun i hl => ⟨hw, by rw [List.length_map] at hl; rw [r.length]; exact hl⟩⟩
  rw [List.getElem?_map] at e
  obtain ⟨p, e1, e2⟩ := Option.map_eq_some_iff.mp e
  obtain ⟨k, v, h1, h2, h3⟩ := rw'.get e1
  refine ⟨⟨hw, (List.getElem?_eq_some_iff.mp h1).1⟩, fun y H' hy => ?_⟩
  obtain ⟨rfl, k', v', q, g1, rfl, g2⟩ := hy
  rw [h1] at g1
  cases g1
  rw [kV_ints] at g2
  refine ⟨w, rfl, rfl, ok, .refl w, ?_⟩
  rw [← e2, h2]
  exact .tup (Wd.notTup ok g2) (RpAll.ofInts k)
/-- another reading of the same dict laid in its place -/
def Wd.swp (w : Wd) (d : Addr) (o : HO) : Wd := { w with H := upd w.H d o }
def IsD (ws : List (List Key × V)) (o : HO) : Prop := o = .dT ws ∨ ∃ ob, o = .frz ob (.dT ws)
theorem swp_F {w : Wd} {d : Addr} {o1 o2 : HO} (h1 : w.F d = some o1) : (w.swp d o2).F d = some o2 ∧ ∀ a, a ≠ d → (w.swp d o2).F a = w.F a := by
  have nl := (Wd.F_some h1).2
  refine ⟨(Wd.F_not (w := w.swp d o2) nl).trans upd_same, fun a ha => ?_⟩
  by_cases l : w.live a
  · rw [Wd.F_live l, Wd.F_live (w := w.swp d o2) l]
  · rw [Wd.F_not l, Wd.F_not (w := w.swp d o2) l]
    exact upd_ne ha
theorem swp_ok {w : Wd} {d : Addr} {o1 o2 : HO} {ws : List (List Key × V)} (ok : w.Ok) (h1 : w.F d = some o1) (c1 : IsD ws o1) (c2 : IsD ws o2) : (w.swp d o2).Ok ∧ LeR w.F (w.swp d o2).F := by
  obtain ⟨f1, f2⟩ := swp_F (o2 := o2) h1
  have nl := (Wd.F_some h1).2
  have le : LeR w.F (w.swp d o2).F := by
    refine ⟨fun a xs e => ?_, fun a xs e => ?_, fun a xs e => ?_, fun a xs e => ?_⟩
    · by_cases ha : a = d
      · subst ha
        rw [h1] at e; cases e
        rcases c1 with c1 | ⟨ob, c1⟩ <;> cases c1
      · rw [f2 a ha]; exact e
    · by_cases ha : a = d
      · subst ha
        rw [h1] at e; cases e
        rcases c1 with c1 | ⟨ob, c1⟩ <;> cases c1
      · rw [f2 a ha]; exact e
    · by_cases ha : a = d
      · subst ha
        rcases e with e | ⟨o, e⟩ <;> rw [h1] at e <;> cases e <;> rcases c1 with c1 | ⟨ob, c1⟩ <;> cases c1
      · rcases e with e | ⟨o, e⟩
        · exact .inl (by rw [f2 a ha]; exact e)
        · exact .inr ⟨o, by rw [f2 a ha]; exact e⟩
    · by_cases ha : a = d
      · subst ha
        have : xs = ws := by
          rcases e with e | ⟨o, e⟩ <;> rw [h1] at e <;> cases e <;> rcases c1 with c1 | ⟨ob, c1⟩ <;> cases c1 <;> rfl
        subst this
        rcases c2 with rfl | ⟨ob, rfl⟩
        · exact .inl f1
        · exact .inr ⟨ob, f1⟩
      · rcases e with e | ⟨o, e⟩
        · exact .inl (by rw [f2 a ha]; exact e)
        · exact .inr ⟨o, by rw [f2 a ha]; exact e⟩
  refine ⟨⟨ok.len, ok.inj, fun k m a e1 e2 => (ok.ok k m a e1 e2).mono le (fun hm => upd_ne fun e => nl ⟨k, m, e1, hm, e ▸ e2⟩) fun _ _ _ q => q⟩, le⟩
theorem lock_le {w : Wd} {d : Addr} {ob : Obj} {ws : List (List Key × V)} (ok : w.Ok) (h1 : w.F d = some (.dT ws)) : (w.swp d (.frz ob (.dT ws))).Ok ∧ w.le (w.swp d (.frz ob (.dT ws))) ∧ (w.swp d (.frz ob (.dT ws))).F d = some (.frz ob (.dT ws)) := by
  obtain ⟨f1, f2⟩ := swp_F (o2 := .frz ob (.dT ws)) h1
  obtain ⟨a, b⟩ := swp_ok ok h1 (.inl rfl) (.inr ⟨ob, rfl⟩)
  refine ⟨a, ⟨List.prefix_rfl, b, fun x o z e => ?_, fun x o z r e => ?_⟩, f1⟩
  · rw [f2 x (fun q => by subst q; rw [h1] at e; cases e)]
    exact e
  · rw [f2 x (fun q => by subst q; rw [h1] at e; cases e)]
    exact e
theorem unlock_le {w u : Wd} {d : Addr} {ob : Obj} {ws : List (List Key × V)} (ok : w.Ok) (oku : u.Ok) (h1 : w.F d = some (.dT ws)) (le : (w.swp d (.frz ob (.dT ws))).le u) :
    u.H d = some (.frz ob (.dT ws)) ∧ (u.swp d (.dT ws)).Ok ∧ w.le (u.swp d (.dT ws)) ∧ LeR u.F (u.swp d (.dT ws)).F := by
  obtain ⟨a1, a2, a3⟩ := lock_le (ob := ob) ok h1
  have hu := le.frz _ _ _ a3
  obtain ⟨f1, f2⟩ := swp_F (o2 := .dT ws) hu
  obtain ⟨b1, b2⟩ := swp_ok (o2 := .dT ws) oku hu (.inr ⟨ob, rfl⟩) (.inl rfl)
  have ha : w.A <+: u.A := le.pre
  refine ⟨(Wd.F_some hu).1, b1, ⟨ha, (a2.le.trans le.le).trans b2, fun x o z e => ?_, fun x o z r e => ?_⟩, b2⟩
  · have hx : x ≠ d := fun q => by subst q; rw [h1] at e; cases e
    rw [f2 x hx]
    exact le.frz _ _ _ (a2.frz _ _ _ e)
  · have hx : x ≠ d := fun q => by subst q; rw [h1] at e; cases e
    rw [f2 x hx]
    exact le.ins _ _ _ _ (a2.ins _ _ _ _ e)
theorem pe_or {X : Cx} {e : Expr} {t t' : TE} (h : PE X e t) (h' : PE X e t') : PE X e (fun σ H R => t σ H R ∨ t' σ H R) :=
  ⟨fun pins s σ H Q I hw => hw.elim (h.run pins s σ H Q I) (h'.run pins s σ H Q I)⟩
theorem compK_run {K : PySem.W.Frag} {fl : Bool} {mk : Dk} {td : TE} (hd : KeysE K mk td) {t : Tg} {test : Sb} {elt : Sm} {vs : List Nat} (hv : ∀ i ∈ t.slots, i ∈ vs) {σ : L2.St} {H : Hp} {Q : VK} (q : tE K (sComp fl (sKeys mk) t test elt vs) σ H Q) :
    tLc (iKeys td) (gT K t) (tB K test) (tE K elt) vs σ H Q ∨ tLockE (tLc (iKeys td) (gT K t) (tB K test) (tE K elt) vs) σ H Q := by
  obtain ⟨ρ, w, r, μ', rfl, e2, ok, s, k⟩ := q
  have e3 := e2
  unfold sComp at e3
  obtain ⟨⟨src0, μ0⟩, ea, _⟩ := Option.bind_eq_some_iff.mp e3
  obtain ⟨es, em, _⟩ := Option.map_eq_some_iff.mp ea
  obtain ⟨d, ws, h, rr, ex⟩ := hd ρ w σ es em ok s
  have go : ∀ (z : Wd) (ob : Obj) (Q2 : VK), z.μ = w.μ → z.Ok → w.le z → z.F d = some (.frz ob (.dT ws)) → Wish K z r μ' Q2 → tLc (iKeys td) (gT K t) (tB K test) (tE K elt) vs σ z.H Q2 := by
    intro z ob Q2 ez okz lez hz kz
    obtain ⟨src, μ1, e4, hb⟩ := comp_core (w := z) hv (by rw [ez]; exact e2) okz (s.mono lez) kz
    obtain ⟨es2, em2, e5⟩ := Option.map_eq_some_iff.mp e4
    rw [ez, em] at em2
    cases em2
    cases e5
    exact ex z _ okz lez ⟨d, ob, rfl, .inr ⟨ws, (Wd.F_some hz).1, hb z (Itkt d ob ws) rfl okz (.refl z) (ok_none _) (yld_keys hz (RpKV.mono lez.le _ _ rr))⟩⟩
  rcases h with h | ⟨ob, h⟩
  · refine .inr ⟨d, .dT ws, (Wd.F_some h).1, trivial, fun od => ?_⟩
    obtain ⟨a1, a2, a3⟩ := lock_le (ob := od) ok h
    refine go (w.swp d (.frz od (.dT ws))) od _ rfl a1 a2 a3 fun u v eu oku le rp => ?_
    obtain ⟨b1, b2, b3, b4⟩ := unlock_le ok oku h le
    refine ⟨b1, k (u.swp d (.dT ws)) v eu b2 b3 ?_⟩
    cases r with
    | d x => exact Rp.mono b4 _ _ rp
    | m j => exact rp
    | s ns =>
      obtain ⟨a, ha, hs⟩ := rp
      exact ⟨a, ha, SqL.monoR b4 hs⟩
  · exact .inl (go w ob Q rfl ok (.refl w) h k)
section
variable {X : Cx} {elt tg iter : Expr} {ifs : List Expr} {scope : Scope} {own : List (Str × Nat)} {pos p2 p3 p4 : Pos} {t : Tg} {test : Sb} {el : Sm} {fl : Bool} {i kk : Nat} {mk : Dk} {td : TE}
theorem pE_compK (hd : KeysE X.K mk td) (hc : X.calm = true) (hN : X.N.Nodup) (hx : PE X iter td) (ok : BlkOk X.N X.env.scope scope own)
    (hg : ∀ (s : Shared) (H : Hp) (C : Addr) (cl : List (Str × Addr)) (fp : List Addr), PG (X.blk s H scope (compEnvC scope cl C X.env) fp) tg (gT X.K t))
    (ht : ∀ (s : Shared) (H : Hp) (C : Addr) (cl : List (Str × Addr)) (fp : List Addr), PTs (X.blk s H scope (compEnvC scope cl C X.env) fp) ifs (tB X.K test))
    (he : ∀ (s : Shared) (H : Hp) (C : Addr) (cl : List (Str × Addr)) (fp : List Addr), PE (X.blk s H scope (compEnvC scope cl C X.env) fp) elt (tE X.K el))
    (hv : ∀ i ∈ t.slots, i ∈ own.map (·.2)) (hs : ∀ z, foldedSetIterable iter X.env z = pure z := by intro _; rfl) :
    PE X (.ListComp elt [⟨tg, iter, ifs, 0⟩] scope pos) (tE X.K (sComp fl (sKeys mk) t test el (own.map (·.2)))) :=
  pe_of (pe_or (pe_lc hc hN (pi_keys hx) ok hg ht he hs) (pe_lock (pe_lc hc hN (pi_keys hx) ok hg ht he hs))) fun _ _ _ q => compK_run hd hv q
theorem pe_last {o : Expr} (ho : PE X o (tVar i)) : PE X (.Subscript o (.UnaryOp .USub (.Constant (.int 1) kk p2) p3) p4) (tLast X.K i) :=
  pe_of (pe_ix ix_seq ho (pe_un un_neg pe_int) (by exact fun _ _ => rfl)) fun σ H Q q => q.imp fun v hv => ⟨hv.1, 1, rfl, hv.2⟩
end
end Sh
set_option Elab.async false
set_option linter.all false
set_option maxRecDepth 100000
namespace Sh
open PySem L2 PyProof.Rows
/-! ### min, max of a list of pairs: a number and a tuple of numbers -/
abbrev Pt : Type := Int × PySem.W.Tup Int
def ptD (p : Pt) : PyData := PySem.W.Datum.toD p
theorem ptD_eq (n : Int) (k : List Int) : ptD (n, ⟨k⟩) = .tuple [.int n, .tuple (k.map .int)] := rfl
def ptsOf : List PyData → Option (List Pt)
  | [] => some []
  | .tuple [.int n, .tuple ks] :: r => (intsOf ks).bind fun k => (ptsOf r).map fun ps => (n, ⟨k⟩) :: ps
  | _ :: _ => none
theorem ptsOf_ok : ∀ {ds : List PyData} {ps : List Pt}, ptsOf ds = some ps → ds = ps.map ptD := by
  intro ds
  induction ds with
  | nil => intro ps e; cases e; rfl
  | cons d ds ih =>
    intro ps e
    unfold ptsOf at e
    split at e
    · rename_i h; cases h
    · rename_i n ks r h
      cases h
      obtain ⟨k, e1, e⟩ := Option.bind_eq_some_iff.mp e
      obtain ⟨qs, e2, e⟩ := Option.map_eq_some_iff.mp e
      cases e
      rw [List.map_cons, ← ih e2, ptD_eq, ← intsOf_ok e1]
    · cases e
theorem ptsOf_map : ∀ ps : List Pt, ptsOf (ps.map ptD) = some ps
  | [] => rfl
  | (n, ⟨k⟩) :: r => by
    have hk : intsOf (k.map PyData.int) = some k := by
      induction k with
      | nil => rfl
      | cons x k ih =>
        show (intsOf (k.map PyData.int)).map (x :: ·) = _
        rw [ih]; rfl
    show ((intsOf (k.map PyData.int)).bind fun k => (ptsOf (r.map ptD)).map fun ps => ((n, ⟨k⟩) : Pt) :: ps) = _
    rw [hk, ptsOf_map r]; rfl
theorem pt_lay (ps : List Pt) : PyData.canLayAll0 (ps.map ptD) = true := by
  have hi : ∀ k : List Int, plAll 2 (k.map PyData.int) = true := by
    intro k
    induction k with
    | nil => rfl
    | cons x k ih =>
      show (pl 2 (.int x) && plAll 2 (k.map PyData.int)) = true
      rw [ih]; rfl
  have h : ∀ ps : List Pt, plAll 4 (ps.map ptD) = true := by
    intro ps
    induction ps with
    | nil => rfl
    | cons p ps ih =>
      obtain ⟨n, ⟨k⟩⟩ := p
      show (pl 4 (.tuple [.int n, .tuple (k.map PyData.int)]) && plAll 4 (ps.map ptD)) = true
      rw [ih]
      show ((true && (plAll 2 (k.map PyData.int) && true)) && true) = true
      rw [hi]; rfl
  exact (plAll_ok 4 _ (h ps)).1
def rMinP (K : PySem.W.Frag) (f : Pt → List Pt → Pt) : List V → Hp → VK → Prop := fun vs H Q => ∃ (a : Addr) (xs : List V) (p : Pt) (ps : List Pt), vs = [.ref a] ∧ SqL K H a xs ∧ DpAll K H xs ((p :: ps).map ptD) ∧
  ∀ (i : Nat) (v : V), xs[i]? = some v → ((p :: ps).map ptD)[i]? = some (ptD (f p ps)) → Q v H
theorem dp_at {K : PySem.W.Frag} {H : Hp} : ∀ {xs : List V} {ds : List PyData} {i : Nat} {v : V}, DpAll K H xs ds → xs[i]? = some v → ∃ d, ds[i]? = some d ∧ Dp K H v d
  | _, _, _, _, .nil, e => by simp at e
  | _, _, 0, _, .cons r _, e => by simp at e; subst e; exact ⟨_, rfl, r⟩
  | _, _, i + 1, _, .cons _ t, e => by
    obtain ⟨d, h1, h2⟩ := dp_at (i := i) t (by simpa using e)
    exact ⟨d, by simpa using h1, h2⟩
theorem vals_at {vs : List V} {us : List Value} {i : Nat} {u : Value} (r : Vals vs us) (e : us[i]? = some u) : ∃ v, vs[i]? = some v ∧ RelV v u := by
  induction r generalizing i with
  | nil => simp at e
  | cons h _ ih =>
    cases i with
    | zero => simp at e; subst e; exact ⟨_, rfl, h⟩
    | succ i =>
      obtain ⟨v, h1, h2⟩ := ih (i := i) (by simpa using e)
      exact ⟨v, by simpa using h1, h2⟩
theorem cr_minP {X : Cx} (hc : X.calm = true) (hu : X.A.units + 3 < cLine) : CallR X (.builtin "min") (rMinP X.K PySem.W.minOf) := by
  intro pins s σ H vs us Q I r h
  obtain ⟨a, xs, p, ps, rfl, hs, hd, q⟩ := h
  obtain ⟨its, rv, hl, _⟩ := I.list hs
  rw [Vals.ref1 r]
  obtain ⟨as, ra⟩ := Dp.readsAll I _ xs its hd rv
  refine PySem.W.min_list_datum (x := p) (xs := ps) (I.ok.hd hc) hl.isList ⟨as, by exact ra⟩ (by exact hu) fun i v h' tk hv hh hk => ?_
  rw [List.getElem?_toArray] at hv
  obtain ⟨y, hy, ry⟩ := vals_at rv hv
  obtain ⟨d, hd1, hd2⟩ := dp_at hd hy
  obtain ⟨bs, rb⟩ := Dp.reads I d y v hd2 ry
  obtain ⟨cs, rc⟩ := hh
  have e := (Reads.unique (PySem.W.reads_keeps hk rb) _ _ rc).1
  exact ⟨y, H, I.kept hk, ry, q i y hy (by rw [hd1, e]; rfl)⟩
theorem cr_maxP {X : Cx} (hc : X.calm = true) (hu : X.A.units + 3 < cLine) : CallR X (.builtin "max") (rMinP X.K PySem.W.maxOf) := by
  intro pins s σ H vs us Q I r h
  obtain ⟨a, xs, p, ps, rfl, hs, hd, q⟩ := h
  obtain ⟨its, rv, hl, _⟩ := I.list hs
  rw [Vals.ref1 r]
  obtain ⟨as, ra⟩ := Dp.readsAll I _ xs its hd rv
  refine PySem.W.max_list_datum (x := p) (xs := ps) (I.ok.hd hc) hl.isList ⟨as, by exact ra⟩ (by exact hu) fun i v h' tk hv hh hk => ?_
  rw [List.getElem?_toArray] at hv
  obtain ⟨y, hy, ry⟩ := vals_at rv hv
  obtain ⟨d, hd1, hd2⟩ := dp_at hd hy
  obtain ⟨bs, rb⟩ := Dp.reads I d y v hd2 ry
  obtain ⟨cs, rc⟩ := hh
  have e := (Reads.unique (PySem.W.reads_keeps hk rb) _ _ rc).1
  exact ⟨y, H, I.kept hk, ry, q i y hy (by rw [hd1, e]; rfl)⟩
def minPt : List Pt → Option Pt
  | [] => none
  | p :: ps => some (PySem.W.minOf p ps)
def maxPt : List Pt → Option Pt
  | [] => none
  | p :: ps => some (PySem.W.maxOf p ps)
/-- min of whole numbers, or of pairs -/
@[simp] def fMinP : FA := fun μ rs => match fMin μ rs with
  | some r => some r
  | none => (listOf μ rs).bind fun ds => (ptsOf ds).bind fun ps => (minPt ps).map fun p => (.d (ptD p), μ)
@[simp] def fMaxP : FA := fun μ rs => match fMax μ rs with
  | some r => some r
  | none => (listOf μ rs).bind fun ds => (ptsOf ds).bind fun ps => (maxPt ps).map fun p => (.d (ptD p), μ)
theorem opA_minP {K : PySem.W.Frag} : OpA K fMinP (fun xs H Q => ((∃ i j, xs = [.int i, .int j] ∧ Q (.int (if j < i then j else i)) H) ∨ rMin K xs H Q) ∨ rMinP K PySem.W.minOf xs H Q) := by
  intro w rs vs r μ' Q e ok rp k
  unfold fMinP at e
  split at e
  · rename_i r' er
    cases e
    exact .inl (opA_min w rs vs r μ' Q er ok rp k)
  · obtain ⟨ds, e1, e⟩ := Option.bind_eq_some_iff.mp e
    obtain ⟨ps, e2, e⟩ := Option.bind_eq_some_iff.mp e
    obtain ⟨p, e3, e⟩ := Option.map_eq_some_iff.mp e
    cases e
    cases ps with
    | nil => cases e3
    | cons q ps =>
      cases e3
      obtain ⟨a, xs, h1, h2, h3⟩ := listOf_ok ok rp e1
      have hd := ptsOf_ok e2
      subst hd
      refine .inr ⟨a, xs, q, ps, h1, SqL.ofF h2, (?_ : DpAll K w.H xs _), fun i v hv hm => ?_⟩
      · exact RpAll.dp _ _ (pt_lay (q :: ps)) (RpAll.mono w.toH _ _ h3)
      · obtain ⟨d, g1, g2⟩ := h3.getV hv
        rw [hm] at g1
        cases g1
        exact Wish.here k ok g2
theorem opA_maxP {K : PySem.W.Frag} : OpA K fMaxP (fun xs H Q => ((∃ i j, xs = [.int i, .int j] ∧ Q (.int (if j > i then j else i)) H) ∨ rMax K xs H Q) ∨ rMinP K PySem.W.maxOf xs H Q) := by
  intro w rs vs r μ' Q e ok rp k
  unfold fMaxP at e
  split at e
  · rename_i r' er
    cases e
    exact .inl (opA_max w rs vs r μ' Q er ok rp k)
  · obtain ⟨ds, e1, e⟩ := Option.bind_eq_some_iff.mp e
    obtain ⟨ps, e2, e⟩ := Option.bind_eq_some_iff.mp e
    obtain ⟨p, e3, e⟩ := Option.map_eq_some_iff.mp e
    cases e
    cases ps with
    | nil => cases e3
    | cons q ps =>
      cases e3
      obtain ⟨a, xs, h1, h2, h3⟩ := listOf_ok ok rp e1
      have hd := ptsOf_ok e2
      subst hd
      refine .inr ⟨a, xs, q, ps, h1, SqL.ofF h2, (?_ : DpAll K w.H xs _), fun i v hv hm => ?_⟩
      · exact RpAll.dp _ _ (pt_lay (q :: ps)) (RpAll.mono w.toH _ _ h3)
      · obtain ⟨d, g1, g2⟩ := h3.getV hv
        rw [hm] at g1
        cases g1
        exact Wish.here k ok g2
theorem call_minP {X : Cx} {k : Nat} (hc : X.calm = true) (hr : Room k X.A) : CallR X (.builtin "min") (fun xs H Q => ((∃ i j, xs = [.int i, .int j] ∧ Q (.int (if j < i then j else i)) H) ∨ rMin X.K xs H Q) ∨ rMinP X.K PySem.W.minOf xs H Q) :=
  CallR.or (call_minU hc) (cr_minP hc (Nat.lt_of_le_of_lt (Nat.add_le_add_left (by decide : 3 ≤ 64) _) hr.units))
theorem call_maxP {X : Cx} {k : Nat} (hc : X.calm = true) (hr : Room k X.A) : CallR X (.builtin "max") (fun xs H Q => ((∃ i j, xs = [.int i, .int j] ∧ Q (.int (if j > i then j else i)) H) ∨ rMax X.K xs H Q) ∨ rMinP X.K PySem.W.maxOf xs H Q) :=
  CallR.or (call_maxU hc) (cr_maxP hc (Nat.lt_of_le_of_lt (Nat.add_le_add_left (by decide : 3 ≤ 64) _) hr.units))
end Sh
set_option Elab.async false
set_option linter.all false
set_option maxRecDepth 100000
namespace Sh
open PySem L2 PyProof.Rows
/-! ### enumerate over a tuple -/
set_option maxHeartbeats 1000000 in
theorem enumNew1 {v : Value} {o : Obj} {St : Heap → Prop} (B : Begins v o St) :
    Meets (Builtin.«enumerate.__new__» ⟨[.type "enumerate", v], []⟩) (fun _ R z => St z.heap ∧
      R (.ok (.ret (.ref (z.heap.push o).objs.size))) { z with heap := (z.heap.push o).push { cls := .type "enumerate", data := .fields #[.none, .bool false, .ref z.heap.objs.size, rawInt 0, .none, .none] } }) :=
  .of_wp fun pr wd Ar Rr z hz => by
    obtain ⟨hh, gg, dd, tt, oo⟩ := z; obtain ⟨k1, kk⟩ := hz
    have sube := sub_enumerate
    have it0 : ∀ {A2 : Around} {E2 : Value → Shared → Prop} {Q2 : Value → Shared → Prop}, Q2 (.ref hh.objs.size) ⟨hh.push o, gg, dd, tt, oo⟩ → wpAny (model pr wd) A2 (pyIter v) Q2 E2 ⟨hh, gg, dd, tt, oo⟩ :=
      fun q => B.iter pr wd _ _ ⟨hh, gg, dd, tt, oo⟩ _ k1 q
    wp_walk using it0
    refine wpAny_stack_any fun sk => wpAny_pure ?_
    split
    · rename_i cc _ _ _ _ _
      cases (cc == Value.type "enumerate")
      · wp_walk using it0
        exact ⟨_, rfl, kk⟩
      · wp_walk using it0
        exact ⟨_, rfl, kk⟩
    · wp_walk using it0
      exact ⟨_, rfl, kk⟩
section
variable {prog : Program} {w : World} {A : Around} {E : Value → Shared → Prop} {s : Shared}
theorem callEnum1 {v : Value} {o : Obj} {St : Heap → Prop} {Q : Value → Shared → Prop} (B : Begins v o St) (h1 : St s.heap)
    (k : ∀ g, IsEnum g (s.heap.objs.size + 1) s.heap.objs.size 0 .none → g.get? s.heap.objs.size = some o → (∀ b ob, s.heap.get? b = some ob → g.get? b = some ob) → Q (.ref (s.heap.objs.size + 1)) { s with heap := g }) :
    wpAny (model prog w) A (call (.type "enumerate") [v]) Q E s := by
  refine callType_new F.called_enumerate (by decide) (F.typeCall_enumerate_1 _) (F.newCall_enumerate_1 _) (fun ob => F.args_object_init_2 ob _) F.entry_enumerate_new (enumNew1 B) ⟨h1, ?_⟩
  have sz : (s.heap.push o).objs.size = s.heap.objs.size + 1 := by rw [Heap.size_push]
  show _ ∧ _
  rw [sz]
  generalize hg : (s.heap.push o).push { cls := .type "enumerate", data := .fields #[.none, .bool false, .ref s.heap.objs.size, rawInt 0, .none, .none] } = g
  have en : IsEnum g (s.heap.objs.size + 1) s.heap.objs.size 0 .none := by
    have q := Heap.get?_push_size (s.heap.push o) (o := { cls := .type "enumerate", data := .fields #[.none, .bool false, .ref s.heap.objs.size, rawInt 0, .none, .none] }) rfl
    rw [sz, hg] at q
    exact q
  refine ⟨⟨_, en, rfl⟩, k g en (by rw [← hg]; exact Heap.get?_push_of_some _ (Heap.get?_push_size _ B.free)) fun b ob x => by rw [← hg]; exact Heap.get?_push_of_some _ (Heap.get?_push_of_some _ x)⟩
end
/-- the tuple at a as it stands at each turn, each item in a new pair -/
def IteT (K : PySem.W.Frag) (a : Addr) (n : Nat) : It where
  go := fun i H => ∃ (xs : List V) (x : V), SqT K H a xs ∧ xs.length = n ∧ xs[i]? = some x
  yld := fun i H v H' => ∃ T x, v = .ref T ∧ H T = none ∧ H' = upd H T (.tup [.int (i : Nat), x]) ∧ ∀ xs, SqT K H a xs → xs[i]? = some x
  stop := fun i H => ∃ xs : List V, SqT K H a xs ∧ xs.length = n ∧ n ≤ i
theorem turn_enumT {P : Program} {w : World} {K : PySem.W.Frag} {elts : List Expr} {kk : Nat} {tp : Pos} (a e it : Addr) (n : Nat) :
    Turn P w K (.Tuple elts kk tp) (IteT K a n) [e, it] e (fun i h => i ≤ n ∧ (∃ old, IsEnum h e it ((i : Nat) : Int) old) ∧ h.IsTupleIter it a i ∧ e ≠ it ∧ a ≠ it ∧ a ≠ e) where
  mem := List.mem_cons_self
  obj := fun i h st b hb => by
    obtain ⟨_, ⟨old, en⟩, ⟨oi, ho, _, hd⟩, _⟩ := st
    rcases List.mem_cons.mp hb with rfl | hb
    · exact ⟨_, en, fun v q => nomatch q⟩
    · rw [List.mem_singleton.mp hb]
      exact ⟨oi, ho, fun v q => by rw [hd] at q; cases q⟩
  keep := fun i h h' st k => by
    obtain ⟨hn, ⟨old, en⟩, hi, n1, n2, n3⟩ := st
    exact ⟨hn, ⟨old, k e List.mem_cons_self _ en⟩, hi.at fun o q => k it (List.mem_cons_of_mem _ List.mem_cons_self) o q, n1, n2, n3⟩
  item := by
    intro X hP hw hK hc i pins s σ H E I hf st hg
    subst hP hw hK
    obtain ⟨hn, ⟨old, en⟩, hit, n1, n2, n3⟩ := st
    obtain ⟨xs, x, hq, hxl, hx⟩ := hg
    obtain ⟨its, rv, pl, _⟩ := I.tuple hq
    obtain ⟨u, hu, ru⟩ := rv.get hx
    have le : e < s.heap.objs.size := Heap.lt_size en
    have lit : it < s.heap.objs.size := by
      obtain ⟨_, q, _⟩ := hit
      exact Heap.lt_size q
    have hlt : i < its.toArray.size := by
      rw [List.size_toArray]
      exact (List.getElem?_eq_some_iff.mp hu).1
    refine wpAny_pyNext_enum_itemD (Draws.tuple (A := X.A.in1) (I.ok.hd hc) it a n2 its.toArray) en ⟨hit, pl⟩ hlt n1 (by simp [n1, Ne.symm n3]) fun y g tk hy eo hit2 hT _ hk => ?_
    rw [List.getElem?_toArray, hu] at hy
    cases hy
    refine ⟨_, rfl, wpAny_letOwnedTupleGo_enum (s := { s with heap := g, toks := tk + 1 }) eo fun g2 en2 sb => ?_⟩
    have hT2 := (sb.2 _ (Nat.ne_of_gt le)).trans hT
    have fresh : ObjOk X.prog X.w (upd H s.heap.objs.size (.tup [.int (i : Nat), x])) g2 s.heap.objs.size (.tup [.int (i : Nat), x]) :=
      ⟨by show 2 ≤ sizeLine; decide, [.int i tk, u], .cons ⟨_, rfl⟩ (.cons ru .nil), ⟨_, hT2, rfl, _, rfl⟩⟩
    have J : Inv X pins σ (upd H s.heap.objs.size (.tup [.int (i : Nat), x])) { s with heap := g2, toks := tk + 1 } := by
      refine I.turnedNew (ch := [e, it]) (fun b ob hb q => ?_) hf (Nat.le_refl _) fresh
      have b1 : b ≠ e := fun z => hb (by rw [z]; exact List.mem_cons_self)
      have b2 : b ≠ it := fun z => hb (by rw [z]; exact List.mem_cons_of_mem _ List.mem_cons_self)
      exact (sb.2 b b1).trans (hk b ob b1 b2 q)
    refine ⟨.ref s.heap.objs.size, _, J, rfl, ⟨_, x, rfl, I.hok.fresh (Nat.le_refl _), rfl, fun ys hy => by rw [I.tuple_inj hy hq]; exact hx⟩, ⟨by rw [← hxl]; exact (List.getElem?_eq_some_iff.mp hx).1, ⟨u, by rw [Int.natCast_succ]; exact en2⟩, hit2.1.at fun o q => (sb.2 it (Ne.symm n1)).trans q, n1, n2, n3⟩, fun b hb => ?_⟩
    have lb : b < s.heap.objs.size := by
      rcases List.mem_cons.mp hb with rfl | hb
      · exact le
      · rw [List.mem_singleton.mp hb]; exact lit
    rw [upd_ne (Nat.ne_of_lt lb)]
    exact (hf b hb).1
  done := by
    intro X hP hw hK hc i pins s σ H E I hf st hg
    subst hP hw hK
    obtain ⟨hn, ⟨old, en⟩, hit, n1, n2, n3⟩ := st
    obtain ⟨xs, hq, hxl, hx⟩ := hg
    obtain ⟨its, rv, pl, _⟩ := I.tuple hq
    obtain ⟨f0, f1, f2, f3, f4, f5⟩ := hf it (List.mem_cons_of_mem _ List.mem_cons_self)
    have hi : i = its.toArray.size := by
      rw [List.size_toArray, ← rv.length, hxl]
      exact Nat.le_antisymm hn hx
    subst hi
    exact wpAny_pyNext_enum_endD (Draws.tuple (A := X.A.in1) (I.ok.hd hc) it a n2 its.toArray) en ⟨hit, pl⟩ fun g eb => ⟨rfl, I.turned (t' := s.toks) (fun b o hb q => eb b o hb q) f0 f1 f3 f4 f5⟩
  self := fun A i s Q E st h => by
    obtain ⟨_, ⟨_, en⟩, _⟩ := st
    exact wpAny_pyIter_enum en h
def iEnumT (K : PySem.W.Frag) (te : TE) : TI := fun σ H R => te σ H fun v H1 => ∃ a xs, v = .ref a ∧ SqT K H1 a xs ∧ R (IteT K a xs.length) H1
theorem pi_enumT {X : Cx} {e : Expr} {te : TE} {p pos tp : Pos} {elts : List Expr} {kk : Nat} (hg : Gl X "enumerate") (hm : X.mg "enumerate" = none) (he : PE X e te) (hs : starEach [e] X.env = (false, eval e X.env) :: starEach [] X.env := by rfl) :
    PI X (.Tuple elts kk tp) (.Call (.Name "enumerate" p) [e] [] pos) (iEnumT X.K te) := by
  refine ⟨fun pins s σ H R I h => ?_⟩
  refine Call_ (ld_blt I hg hm boot_enumerate (PyProof.Rows.callWith_type1 (args_cons (thn (he.run pins s σ H _ I h) fun u s1 ⟨v, H1, I1, r1, q1⟩ => args_nil ?_) hs) hs rfl))
  obtain ⟨a, xs, rfl, hq, q⟩ := q1
  obtain rfl : u = Value.ref a := r1
  obtain ⟨its, rv, pl, _⟩ := I1.tuple hq
  obtain ⟨oa, hoa, _⟩ := id pl
  have la : a < s1.heap.objs.size := Heap.lt_size hoa
  refine callEnum1 (begins_tuple a its.toArray) pl fun g en hit hk => wpAny_pyIter_enum en ?_
  have J : Inv X pins σ H1 { s1 with heap := g } := I1.kept (t' := s1.toks) hk
  refine ⟨s1.heap.objs.size + 1, [s1.heap.objs.size + 1, s1.heap.objs.size], _, _, H1, rfl, J, turn_enumT a (s1.heap.objs.size + 1) s1.heap.objs.size xs.length, ⟨Nat.zero_le _, ⟨.none, en⟩, ⟨_, hit, rfl, rfl⟩, Nat.succ_ne_self _, Nat.ne_of_lt la, Nat.ne_of_lt (Nat.lt_succ_of_lt la)⟩, fun b hb => ?_, q⟩
  have lb : s1.heap.objs.size ≤ b := by
    rcases List.mem_cons.mp hb with rfl | hb
    · exact Nat.le_succ _
    · rw [List.mem_singleton.mp hb]; exact Nat.le_refl _
  exact I1.fpOk lb (I1.hok.fresh lb)
end Sh
set_option Elab.async false
set_option linter.all false
set_option maxRecDepth 100000
namespace Sh
open PySem L2 PyProof.Rows
/-! ### enumerate, reversed, walked -/
def enD (ds : List PyData) : List PyData := ds.zipIdx.map fun p => .tuple [.int (p.2 : Nat), p.1]
theorem enD_get {ds : List PyData} {i : Nat} {d : PyData} (e : (enD ds)[i]? = some d) : ∃ x, ds[i]? = some x ∧ d = .tuple [.int i, x] := by
  unfold enD at e
  rw [List.getElem?_map, List.getElem?_zipIdx] at e
  cases h : ds[i]? with
  | none => rw [h] at e; cases e
  | some x =>
    rw [h] at e
    cases e
    exact ⟨x, rfl, by simp⟩
theorem enD_len (ds : List PyData) : (enD ds).length = ds.length := by unfold enD; rw [List.length_map, List.length_zipIdx]
theorem yld_enum {K : PySem.W.Frag} {a : Addr} {xs : List V} {ds : List PyData} {u : Wd} (h : u.F a = some (.tup xs)) (r : RpAll u.F xs ds) : Yld (IteT K a xs.length) ⟨enD ds, none⟩ u := by
  intro w le ok _
  have hw := (Wd.F_some (le.le.tup _ _ h)).1
  have q := RpAll.mono le.le _ _ r
  refine ⟨fun i d e => ?_, fun i hl => ⟨xs, SqT.ofF hw, rfl, by rw [r.length, ← enD_len]; exact hl⟩⟩
  obtain ⟨x, e1, rfl⟩ := enD_get e
  obtain ⟨v, g1, k1⟩ := q.get e1
  refine ⟨⟨xs, v, SqT.ofF hw, rfl, g1⟩, fun y H' hy => ?_⟩
  obtain ⟨T, z, rfl, hT, rfl, f⟩ := hy
  have z1 := f xs (SqT.ofF hw)
  rw [g1] at z1
  cases z1
  exact pair_put ok hT (.int _) k1
@[simp] def sEnum (m : Sm) : Si := fun ρ μ => (m ρ μ).bind fun p => match p.1 with
  | .d (.tuple ds) => some (⟨enD ds, none⟩, p.2)
  | _ => none
theorem yld_revL {K : PySem.W.Frag} {a : Addr} {xs : List V} {ds : List PyData} {u : Wd} (h : u.F a = some (.lst xs)) (r : RpAll u.F xs ds) : Yld (Itv K a xs.length) ⟨ds.reverse, none⟩ u := by
  intro w le ok _
  have hw := (Wd.F_some (le.le.lst _ _ h)).1
  have q := (RpAll.mono le.le _ _ r).reverse
  refine ⟨fun i d e => ?_, fun i hl => by rw [List.length_reverse, ← r.length] at hl; exact hl⟩
  obtain ⟨v, g1, k1⟩ := q.get e
  have hi : i < xs.length := by
    have := (List.getElem?_eq_some_iff.mp g1).1
    rwa [List.length_reverse] at this
  rw [List.getElem?_reverse hi] at g1
  refine ⟨⟨hi, xs, v, SqL.ofF hw, g1⟩, fun y H' hy => ?_⟩
  obtain ⟨rfl, f⟩ := hy
  have z1 := f xs (SqL.ofF hw)
  rw [g1] at z1
  cases z1
  exact ⟨w, rfl, rfl, ok, .refl w, k1⟩
theorem yld_revT {K : PySem.W.Frag} {a : Addr} {xs : List V} {ds : List PyData} {u : Wd} (h : u.F a = some (.tup xs)) (r : RpAll u.F xs ds) : Yld (RT.ItvT K a xs.length) ⟨ds.reverse, none⟩ u := by
  intro w le ok _
  have hw := (Wd.F_some (le.le.tup _ _ h)).1
  have q := (RpAll.mono le.le _ _ r).reverse
  refine ⟨fun i d e => ?_, fun i hl => by rw [List.length_reverse, ← r.length] at hl; exact hl⟩
  obtain ⟨v, g1, k1⟩ := q.get e
  have hi : i < xs.length := by
    have := (List.getElem?_eq_some_iff.mp g1).1
    rwa [List.length_reverse] at this
  rw [List.getElem?_reverse hi] at g1
  refine ⟨⟨hi, xs, v, SqT.ofF hw, g1⟩, fun y H' hy => ?_⟩
  obtain ⟨rfl, f⟩ := hy
  have z1 := f xs (SqT.ofF hw)
  rw [g1] at z1
  cases z1
  exact ⟨w, rfl, rfl, ok, .refl w, k1⟩
@[simp] def sRev (m : Sm) : Si := fun ρ μ => (m ρ μ).bind fun p => match p.1 with
  | .d (.list ds) => some (⟨ds.reverse, none⟩, p.2)
  | .d (.tuple ds) => some (⟨ds.reverse, none⟩, p.2)
  | _ => none
@[simp] def fTupRev : F1 := fun μ x => match rd μ x with
  | some (.list ds) => some (.d (.tuple ds.reverse), μ)
  | _ => none
section
variable {X : Cx} {tg e : Expr} {p p2 pos pos2 : Pos} {m : Sm}
theorem pI_enum {tp : Pos} {elts : List Expr} {kk : Nat} (hg : Gl X "enumerate") (hm : X.mg "enumerate" = none) (he : PE X e (tE X.K m)) (hs : starEach [e] X.env = (false, eval e X.env) :: starEach [] X.env := by rfl) :
    PI X (.Tuple elts kk tp) (.Call (.Name "enumerate" p) [e] [] pos) (tI X.K (sEnum m)) := by
  refine pi_of (pi_enumT hg hm he hs) fun σ H R q => ?_
  obtain ⟨ρ, w, s, μ', e1, e2, ok, sl, k⟩ := q
  obtain ⟨⟨p1, p2⟩, ea, e2⟩ := Option.bind_eq_some_iff.mp e2
  refine ⟨ρ, w, p1, p2, e1, ea, ok, sl, fun u v eu oku le rp => ?_⟩
  simp only at e2
  split at e2
  · cases e2
    cases rp with
    | tup h r => exact ⟨_, _, rfl, SqT.ofF (Wd.F_some h).1, k u _ eu oku le (ok_none _) (yld_enum h r)⟩
  · cases e2
theorem pI_rev (hg : Gl X "reversed") (hm : X.mg "reversed" = none) (he : PE X e (tE X.K m)) (hs : starEach [e] X.env = (false, eval e X.env) :: starEach [] X.env := by rfl) :
    PI X tg (.Call (.Name "reversed" p) [e] [] pos) (tI X.K (sRev m)) := by
  refine pi_of (RT.pi_revA hg hm he hs) fun σ H R q => ?_
  obtain ⟨ρ, w, s, μ', e1, e2, ok, sl, k⟩ := q
  obtain ⟨⟨p1, p2⟩, ea, e2⟩ := Option.bind_eq_some_iff.mp e2
  refine ⟨ρ, w, p1, p2, e1, ea, ok, sl, fun u v eu oku le rp => ?_⟩
  simp only at e2
  split at e2
  · cases e2
    cases rp with
    | lst h r => exact ⟨_, _, rfl, .inl ⟨SqL.ofF (Wd.F_some h).1, k u _ eu oku le (ok_none _) (yld_revL h r)⟩⟩
  · cases e2
    cases rp with
    | tup h r => exact ⟨_, _, rfl, .inr ⟨SqT.ofF (Wd.F_some h).1, k u _ eu oku le (ok_none _) (yld_revT h r)⟩⟩
  · cases e2
theorem pE_tupRev (hc : X.calm = true) (hg : Gl X "tuple") (hm : X.mg "tuple" = none) (hg2 : Gl X "reversed") (hm2 : X.mg "reversed" = none) (he : PE X e (tE X.K m))
    (hs : starEach [e] X.env = (false, eval e X.env) :: starEach [] X.env := by rfl)
    (hs2 : starEach [.Call (.Name "reversed" p2) [e] [] pos2] X.env = (false, eval (.Call (.Name "reversed" p2) [e] [] pos2) X.env) :: starEach [] X.env := by rfl) :
    PE X (.Call (.Name "tuple" p) [.Call (.Name "reversed" p2) [e] [] pos2] [] pos) (tE X.K (s1 fTupRev m)) :=
  pe_of (RT.pe_tupRev hc hg hm hg2 hm2 he hs hs2) fun σ H Q q => one_run (t := fun v H1 Q => ∃ (a : Addr) (xs : List V), v = .ref a ∧ SqL X.K H1 a xs ∧ ∀ q, H1 q = none → Q (.ref q) (upd H1 q (.tup xs.reverse))) (by
    intro w x v r μ' Q e ok rx k
    unfold fTupRev at e
    split at e
    · rename_i ds ex
      cases e
      obtain ⟨a, xs, h1, h2, h3⟩ := RpR.rd ok rx ex
      exact ⟨a, xs, h1, SqL.ofF h2, fun p hp => mkT_ok ok hp h3.reverse k⟩
    · cases e) q
end
end Sh
set_option Elab.async false
set_option linter.all false
set_option maxRecDepth 100000
namespace Sh
open PySem L2 PyProof.Rows
/-! ### defs with one keyword-only parameter, None where it lacks -/
structure CalD (P : Program) (w : World) (K : PySem.W.Frag) (mg : Str → Option Value) (base : Heap) (k : Nat) (x : Str) (n : Nat) (kw : Str) (g : Fn) : Prop where
  ex : ∃ (f : Addr) (fd : FuncData) (ps : List Str) (dv : List Value), ps.length = n + 1 ∧ FnOk P w K mg base CX0 k f fd ps (spF K (n + 1) g) ∧ mg x = some (.ref f) ∧ PySem.W.keepIn K (.ref f) = true ∧ Vals [V.non] dv ∧ Binds K fd ps dv ∧ KBn K fd ps n [kw] (fun us ws => us ++ ws) (fun vs zs => vs ++ zs)
@[simp] def sCallD (n : Nat) (g : Fn) (a : Sa) : Sm := sA (fun μ rs => if rs.length = n then g (rs ++ [.d .none]) μ else none) a
@[simp] def sCallK (n : Nat) (g : Fn) (a : Sa) (b : Sm) : Sm := fun ρ μ => (a ρ μ).bind fun p => (b ρ p.2).bind fun q => if p.1.length = n then g (p.1 ++ [q.1]) q.2 else none
section
variable {X : Cx} {e v : Expr} {es : List Expr} {pos p kp : Pos} {k n : Nat} {x kw : Str} {g : Fn} {ma : Sa} {mb : Sm}
theorem pE_callD (c : CalD X.prog X.w X.K X.mg X.base k x n kw g) (hr : Room k X.A) (hg : Gl X x) (ha : PA X (e :: es) (tAs X.K ma)) (hdb : (x == ("__debug__" : Str)) = false := by decide)
    (he : starEach (e :: es) X.env = (false, eval e X.env) :: starEach es X.env := by rfl) (hpl : (backTo pos (starEach es X.env)).any (·.1) = false := by rfl) : PE X (.Call (.Name x p) (e :: es) [] pos) (tE X.K (sCallD n g ma)) := by
  obtain ⟨f, fd, ps, dv, h0, h1, h2, h3, h4, h5, _⟩ := c.ex
  refine pe_of (pe_call h1 hr hg h2 h3 h5 h4 pass0 ha hdb he hpl) fun σ H Q q => ?_
  refine args_run (t := fun vs H1 Q1 => spF X.K (n + 1) g (vs ++ [V.non]) H1 Q1 E0) (fun w rs vs r μ' Q1 e1 ok rp k1 => ?_) q
  split at e1
  · rename_i hl
    exact ⟨w, _, r, μ', rfl, by rw [List.length_append, ← rp.length, hl]; rfl, e1, ok, PySem.Paired.snoc rp .non, k1⟩
  · cases e1
theorem pE_callK (c : CalD X.prog X.w X.K X.mg X.base k x n kw g) (hr : Room k X.A) (hg : Gl X x) (ha : PA X (e :: es) (tAs X.K ma)) (hb : PE X v (tE X.K mb)) (hdb : (x == ("__debug__" : Str)) = false := by decide)
    (hall : (backToKw pos (keywordEach [⟨some kw, v, kp⟩] X.env)).all (·.1.isSome) = true := by rfl) (hks : (backToKw pos (keywordEach [⟨some kw, v, kp⟩] X.env)).filterMap (·.1) = [kw] := by rfl)
    (he : starEach (e :: es) X.env = (false, eval e X.env) :: starEach es X.env := by rfl)
    (hpl : ((backTo pos (starEach (e :: es) X.env)).any (·.1) || (backToKw pos (keywordEach [⟨some kw, v, kp⟩] X.env)).any (·.1.isNone)) = false := by rfl) :
    PE X (.Call (.Name x p) (e :: es) [⟨some kw, v, kp⟩] pos) (tE X.K (sCallK n g ma mb)) := by
  obtain ⟨f, fd, ps, dv, h0, h1, h2, h3, h4, h5, h6⟩ := c.ex
  refine pe_of (pe_callN h1 hr hg h2 h3 h6 pass0 ha (pk_cons hb pk_nil) hall hks hdb he hpl) fun σ H Q q => ?_
  obtain ⟨ρ, w, r, μ', e1, e2, ok, s, kk⟩ := q
  obtain ⟨⟨p1, p2⟩, ea, e2⟩ := Option.bind_eq_some_iff.mp e2
  obtain ⟨⟨q1, q2⟩, eb, e2⟩ := Option.bind_eq_some_iff.mp e2
  refine ⟨ρ, w, p1, p2, e1, ea, ok, s, fun u vs eu oku le rp => ?_⟩
  subst eu
  refine ⟨ρ, u, q1, q2, rfl, eb, oku, s.mono le, fun u2 z eu2 oku2 le2 rp2 => ?_⟩
  subst eu2
  simp only at e2
  split at e2
  · rename_i hl
    have rp3 : RpRs X.K u2 p1 vs := rp.mono le2
    refine ⟨by rw [← rp.length, hl], rfl, u2, _, r, μ', rfl, by rw [List.length_append, ← rp.length, hl]; rfl, e2, oku2, PySem.Paired.snoc rp3 rp2, Wish.to kk (le.trans le2)⟩
  · cases e2
end
theorem valsApp : ∀ {vs zs : List V} {us ws : List Value}, Vals vs us → Vals zs ws → Vals (vs ++ zs) (us ++ ws)
  | _, _, _, _, .nil, h => h
  | _, _, _, _, .cons r t, h => .cons r (valsApp t h)
theorem FunD.noD {K : PySem.W.Frag} {x qual : Str} {st : Stmt} {kws : List (Str × V)} {f : Addr} {fd : FuncData} (F : FunD K x qual (defArgs st) (defBody st) (defScope st) [] kws f fd) : Fun K x qual st f fd := by
  obtain ⟨oc, od, dV, kV, doc, pm, an, cdv, ct, osl, e, lk, hc, hD, _⟩ := F.ex
  rcases hD with ⟨_, hd⟩ | ⟨hn, _⟩
  · subst hd
    exact ⟨⟨oc, od, kV, doc, pm, an, cdv, ct, osl, e, lk, hc⟩, F.kp⟩
  · exact absurd rfl hn
theorem kb_of {K : PySem.W.Frag} {x qual : Str} {st : Stmt} {kws : List (Str × V)} {f : Addr} {fd : FuncData} {ps : List Str} {n : Nat} {kw : Str} (F : FunD K x qual (defArgs st) (defBody st) (defScope st) [] kws f fd)
    (h : ∀ (kV doc pm : Value) (an : Option Addr) (cdv ct : Value) (us ws : List Value), us.length = n → ws.length = 1 → bindArgs (PySem.W.fnOf x qual (defArgs st) (defBody st) (defScope st) .none kV doc pm an cdv ct) ⟨us, [kw].zip ws⟩ = pure (ps.zip (us ++ ws))) :
    KBn K fd ps n [kw] (fun us ws => us ++ ws) (fun vs zs => vs ++ zs) := by
  obtain ⟨oc, od, dV, kV, doc, pm, an, cdv, ct, osl, rfl, lk, hc, hD, _⟩ := F.ex
  rcases hD with ⟨_, hd⟩ | ⟨hn, _⟩
  · subst hd
    refine ⟨fun s us ws _ h1 h2 => .of_eq (h kV doc pm an cdv ct us ws h1 h2), fun r1 r2 => ?_⟩
    exact valsApp r1 r2
  · exact absurd rfl hn
theorem fund_mk {K : PySem.W.Frag} {x qual : Str} {st : Stmt} {kw : Str} {f D : Addr} {oc doc pm cdv ct : Value} {od an : Option Addr} {osl : Array (Option Value)}
    (l : K.lookup f = some ⟨oc, od, .func (PySem.W.fnOf x qual (defArgs st) (defBody st) (defScope st) .none (.ref D) doc pm an cdv ct), osl⟩) (c : PySem.W.codeIn K cdv qual = true) (k : PySem.W.keepIn K (.ref f) = true) (d : PySem.W.nsIn K D kw = some (some .none)) :
    FunD K x qual (defArgs st) (defBody st) (defScope st) [] [(kw, .non)] f (PySem.W.fnOf x qual (defArgs st) (defBody st) (defScope st) .none (.ref D) doc pm an cdv ct) := by
  refine ⟨⟨oc, od, .none, .ref D, doc, pm, an, cdv, ct, osl, rfl, l, c, .inl ⟨rfl, rfl⟩, .inr ⟨D, rfl, fun q hq => ?_⟩⟩, k⟩
  rw [List.mem_singleton.mp hq]
  exact ⟨.none, d, rfl⟩
end Sh
set_option Elab.async false
set_option linter.all false
set_option maxRecDepth 100000
set_option maxHeartbeats 2000000
namespace Sh
open PySem L2 PyProof.Rows
/-! ### a dict comprehension, keys tuples -/
theorem setT {X : Cx} {pins : List (Addr × Obj)} {σ : L2.St} {H : Hp} {z : Shared} {E : Value → Shared → Prop} {D b : Addr} {ws : List (List Key × V)} {k : List Key} {v : V} {r : Value} {Q : Unit → Shared → Prop} (hu : X.A.units + 1 < cLine) (I : Inv X pins σ H z) (hD : H D = some (.dT ws)) (hb : H b = some (.tup (k.map kV))) (hz : ws.length < sizeLine)
    (rv : RelV v r) (h : ∀ z', Inv X pins σ (upd H D (.dT (putK ws k v))) z' → Q () z') : wpAny (model X.prog X.w) X.A (dictSet D (.ref b) r) Q E z := by
  obtain ⟨_, nsys, us, rel, dd⟩ := dt_of I.hok hD
  have lu : us.length ≤ sizeLine := by rw [← Paired.length rel]; exact Nat.le_of_lt hz
  have lp : (putK ws k v).length ≤ sizeLine := by have := length_putK ws k v; omega
  refine wpAny_dictSet_heap (hsz := lu) (show X.A.units < cLine from Nat.lt_of_succ_lt hu) (key_of I.hok hb) dd fun g dd2 sb => h _ ?_
  obtain ⟨ob, es, ep, g1, g2, g3, g4, _, g5⟩ := dd2
  refine d_write I (by rw [hD]; exact True.intro) sb ⟨ob, g1⟩ ⟨lp, nsys, _, (rel.put k hb rv).keeps fun c ys ec => ?_, ob, es, ep, g1, g2, g3, g4, g5⟩
  rw [upd_ne (ne_of ec hD (fun q => nomatch q))]
  exact ec
def tDcT (wi : TI) (g : TG) (tt : TT) (tk tv : TE) (vs : List Nat) : TE := fun σ H Q => wi σ H fun J H1 => ∀ D, H1 D = none → ∃ W : Nat → Nat → Hp → Prop, (∃ m, W 0 m (upd H1 D (.dT []))) ∧ ∀ i m H, W i m H →
  (J.stop i H ∧ Q (.ref D) H) ∨ (J.go i H ∧ ∃ Nx : Hp → Prop, (∀ H', Nx H' → ∃ m', m' < m ∧ W (i + 1) m' H') ∧ ∀ x H', J.yld i H x H' → g x (wipe σ vs) H' fun σ2 H2 => wipe σ2 vs = wipe σ vs ∧ tt σ2 H2 fun b H3 =>
    if b = true then tk σ2 H3 fun y H4 => tv σ2 H4 fun z H5 => ∃ (ws : List (List Key × V)) (k : List Key) (c : Addr), y = .ref c ∧ H5 c = some (.tup (k.map kV)) ∧ H5 D = some (.dT ws) ∧ ws.length < sizeLine ∧ Nx (upd H5 D (.dT (putK ws k z))) else Nx H3)
section
variable {X : Cx}
theorem dcT_core {pins : List (Addr × Obj)} {z0 : Shared} {σ : L2.St} {H : Hp} {Q : VK} {kx vx tg iter : Expr} {ifs : List Expr} {scope : Scope} {own : List (Str × Nat)} {pos pos' : Pos} {wi : TI} {g : TG} {tt : TT} {tk tv : TE} {use : Option (Value → Sem Unit)} {Qf : Value → Shared → Prop}
    (hu : X.A.units + 1 < cLine) (hc : X.calm = true) (hN : X.N.Nodup) (I : Inv X pins σ H z0) (hi : PI X tg iter wi) (ok : BlkOk X.N X.env.scope scope own)
    (hg : ∀ (z : Shared) (G : Hp) (C : Addr) (cl : List (Str × Addr)) (fp : List Addr), PG (X.blk z G scope (compEnvC scope cl C X.env) fp) tg g)
    (ht : ∀ (z : Shared) (G : Hp) (C : Addr) (cl : List (Str × Addr)) (fp : List Addr), PTs (X.blk z G scope (compEnvC scope cl C X.env) fp) ifs tt)
    (hk : ∀ (z : Shared) (G : Hp) (C : Addr) (cl : List (Str × Addr)) (fp : List Addr), PE (X.blk z G scope (compEnvC scope cl C X.env) fp) kx tk)
    (he : ∀ (z : Shared) (G : Hp) (C : Addr) (cl : List (Str × Addr)) (fp : List Addr), PE (X.blk z G scope (compEnvC scope cl C X.env) fp) vx tv) (hs : ∀ x, foldedSetIterable iter X.env x = pure x)
    (h : tDcT wi g tt tk tv (own.map (·.2)) σ H Q)
    (hRR : ∀ D C z m G, Inv X pins σ G z → Q (.ref D) G → z.heap.Ns C m → FpOk X pins G C → compPost (model X.prog X.w) X.A X.xe use Qf (.ref D) C (.ok .next) z) :
    wpAny (model X.prog X.w) X.A (comprehension (.DictComp kx vx [⟨tg, iter, ifs, 0⟩] scope pos) scope X.env pos' newDict false (eval iter X.env) use) Qf X.xe z0 := by
  refine wpAny_comprehension_free (use := use) rfl hs (closure_ok fun y hy e => ?_) ok.kind (fun y hy e => by rw [ok.uniq y hy, e])
    (thn (hi.run pins z0 σ H _ I h) fun xv z1 hx => thn hx fun itv z2 h2 => ?_)
  · exact (ok.free y hy e).elim (fun q => I.ok.has _ (.inl q)) fun q => I.ok.has _ (.inr q)
  obtain ⟨it, fp, tn, J, G2, rfl, I2, T, t2, f2, q⟩ := h2
  refine wpAny_newObj_type (newEnv_comp ?_)
  generalize hD : z2.heap.objs.size = D
  obtain ⟨W, ⟨m0, w0⟩, turn⟩ := q D (I2.hok.fresh (Nat.le_of_eq hD))
  generalize hz3 : ({ z2 with heap := z2.heap.push { cls := .type "dict", data := .dict #[] } } : Shared) = z3
  have e3 : z3.heap = z2.heap.push { cls := .type "dict", data := .dict #[] } := by rw [← hz3]
  have I3 : Inv X pins σ (upd G2 D (.dT [])) z3 := by
    subst hz3 hD
    exact I2.laid (t' := z2.toks) (fun _ _ e => Heap.get?_push_of_some _ e) (Nat.le_refl _) (dt_empty z2.heap I2.big)
  have old : ∀ b ∈ fp, b < z2.heap.objs.size := fun b hb => (T.obj _ _ t2 b hb).elim fun o e => Heap.lt_size e.1
  have f3 : ∀ b ∈ fp, FpOk X pins (upd G2 D (.dT [])) b ∧ b < z3.heap.objs.size := fun b hb => by
    have lt := old b hb
    refine ⟨⟨(upd_ne (Nat.ne_of_lt (hD ▸ lt))).trans (f2 b hb).1, (f2 b hb).2⟩, ?_⟩
    rw [e3, Heap.size_push]
    exact Nat.lt_succ_of_lt lt
  have t3 : tn 0 z3.heap := T.keep _ _ _ t2 fun b _ o e => e3 ▸ Heap.get?_push_of_some _ e
  have I4 := block_start I3 ok hN f3
  have pg := hg z3 (upd G2 D (.dT [])) z3.heap.objs.size (cellsFrom (z3.heap.objs.size + 1) scope.names (cloFrom X.env.cells scope.names [])) fp
  have pt := ht z3 (upd G2 D (.dT [])) z3.heap.objs.size (cellsFrom (z3.heap.objs.size + 1) scope.names (cloFrom X.env.cells scope.names [])) fp
  have pk := hk z3 (upd G2 D (.dT [])) z3.heap.objs.size (cellsFrom (z3.heap.objs.size + 1) scope.names (cloFrom X.env.cells scope.names [])) fp
  have pv := he z3 (upd G2 D (.dT [])) z3.heap.objs.size (cellsFrom (z3.heap.objs.size + 1) scope.names (cloFrom X.env.cells scope.names [])) fp
  have gone : ∀ b ∈ fp, (upd G2 D (.dT [])) b = none := fun b hb => (f3 b hb).1.1
  show codeAny _ _ (.compStart (.DictComp kx vx [⟨tg, iter, ifs, 0⟩] scope pos) 0 (.ref it) (.ref D) (compEnvC scope (cellsFrom (z3.heap.objs.size + 1) scope.names (cloFrom X.env.cells scope.names [])) z3.heap.objs.size X.env)) (compPost (model X.prog X.w) X.A X.xe use Qf (.ref D) z3.heap.objs.size) { z3 with heap := pushCells (z3.heap.push { cls := .type "dict", data := .dict #[] }) scope.names }
  generalize hce : compEnvC scope (cellsFrom (z3.heap.objs.size + 1) scope.names (cloFrom X.env.cells scope.names [])) z3.heap.objs.size X.env = ce at I4 pg pt pk pv ⊢
  have loc : ce.locals = z3.heap.objs.size := by rw [← hce]; rfl
  generalize hG3 : upd G2 D (.dT []) = G3 at I3 I4 pg pt pk pv w0 gone f3
  generalize hz4 : ({ z3 with heap := pushCells (z3.heap.push { cls := .type "dict", data := .dict #[] }) scope.names } : Shared) = z4 at I4 ⊢
  have t4 : tn 0 z4.heap := by
    subst hz4
    exact T.keep _ _ _ t3 fun b _ o e => pushCells_keeps _ _ _ _ (Heap.get?_push_of_some _ e)
  have stat : ∀ {σ1 : L2.St} {G1 : Hp} {z1 : Shared}, Inv (X.blk z3 G3 scope ce fp) [] σ1 G1 z1 → (∀ b ∈ fp, G1 b = none) → ∀ b ∈ fp, FpOk (X.blk z3 G3 scope ce fp) [] G1 b := fun {σ1 G1 z1} i1 hn b hb =>
    have ex := i1.ok.exf b hb
    ⟨hn b hb, ex.1, i1.ok.exfs b hb, .inl hb, fun x c e => ex.2 x c e, fun p hp => absurd (show p ∈ ([] : List (Addr × Obj)) ++ [] from hp) (by simp)⟩
  have loop : codeAny (model X.prog X.w) X.A (.compLoop (.DictComp kx vx [⟨tg, iter, ifs, 0⟩] scope pos) 0 (.ref it) (.ref D) ce) (compPost (model X.prog X.w) X.A X.xe use Qf (.ref D) z3.heap.objs.size) z4 := by
    refine compLoop_anyD (fun n z => ∃ i G, Inv (X.blk z3 G3 scope ce fp) [] (wipe σ (own.map (·.2))) G z ∧ tn i z.heap ∧ (∀ b ∈ fp, G b = none) ∧ W i n G) (fun n z5 hW => ?_) m0 ⟨0, G3, I4, t4, gone, w0⟩
    obtain ⟨i, G5, I5, t5, n5, w5⟩ := hW
    rcases turn i n G5 w5 with ⟨stop, qq⟩ | ⟨go, Nx, hNx, step⟩
    · refine thnF (T.done (X.blk z3 G3 scope ce fp) rfl rfl rfl hc i [] z5 _ G5 (fun _ _ => False) I5 (stat I5 n5) t5 stop) fun r z6 ⟨hr, I6⟩ => ?_
      subst hr
      obtain ⟨m, hm, _⟩ := I6.loc
      have hm : z6.heap.Ns ce.locals m := hm
      have hf : G5 ce.locals = none := I6.free
      rw [loc] at hm hf
      refine hRR D z3.heap.objs.size z6 m G5 (I3.call' (ch := fp) I6.os I6.base I6.hok I6.bare fun b hb => ?_) qq hm (I3.fpOk (Nat.le_refl _) hf)
      obtain ⟨_, c1, c2, c3, c4, c5⟩ := (f3 b hb).1
      exact ⟨c3, c1, c4, c5⟩
    · refine thnF (T.item (X.blk z3 G3 scope ce fp) rfl rfl rfl hc i [] z5 _ G5 (fun _ _ => False) I5 (stat I5 n5) t5 go) fun r z6 ⟨u, hr, h6⟩ => ?_
      subst hr
      refine thnF h6 fun _ z7 ⟨x, G7, I7, r7, y7, t7, n7⟩ => ?_
      refine thnF (pg.run _ z7 _ G7 x u _ (I7.pinned (stat I7 n7) (T.obj _ _ t7)) r7 (step x G7 y7)) fun _ z8 ⟨σ8, G8, I8, hw8, q8⟩ => ?_
      refine thnF (pt.run _ z8 σ8 G8 _ I8 q8) fun b z9 ⟨G9, I9, q9⟩ => ?_
      have fin : ∀ {z : Shared} {G : Hp}, Inv (X.blk z3 G3 scope ce fp) ([] ++ pinsAt fp z7.heap) σ8 G z → Nx G → ∃ m, m < n ∧ ∃ i G, Inv (X.blk z3 G3 scope ce fp) [] (wipe σ (own.map (·.2))) G z ∧ tn i z.heap ∧ (∀ b ∈ fp, G b = none) ∧ W i m G := by
        intro z G Iz nx
        obtain ⟨m, hm, wm⟩ := hNx G nx
        have pin : ∀ b ∈ fp, ∀ o, z7.heap.get? b = some o → z.heap.get? b = some o ∧ G b = none := by
          intro b hb o e
          have k := Iz.pin (b, o) (List.mem_append_right _ (List.mem_append_right _ (mem_pinsAt hb e)))
          exact ⟨k.1, k.2.1⟩
        refine ⟨m, hm, i + 1, G, (Iz.unpinned (pins := [])).weak (by rw [← hw8, wipe_length]) (fun j v e => ?_), T.keep _ _ _ t7 fun b hb o e => (pin b hb o e).1, fun b hb => ?_, wm⟩
        · rw [← hw8] at e
          exact (wipe_some e).1
        · obtain ⟨o, e, _⟩ := T.obj _ _ t7 b hb
          exact (pin b hb o e).2
      cases b with
      | false =>
        rw [if_neg Bool.false_ne_true]
        exact fin I9 (by simpa using q9)
      | true =>
        rw [if_pos rfl]
        rw [if_pos rfl] at q9
        refine thnF (pk.run _ z9 σ8 G9 _ I9 q9) fun a z10 ⟨ya, G10, I10, r10, q10⟩ => ?_
        refine thnF (pv.run _ z10 σ8 G10 _ I10 q10) fun a2 z11 ⟨yv, G11, I11, r11, ws, k, c, ey, hb, hd, hl, nx⟩ => ?_
        subst ey
        obtain rfl : a = Value.ref c := r10
        exact setT (X := X.blk z3 G3 scope ce fp) hu I11 hd hb hl r11 fun z12 I12 => fin I12 nx
  exact codeAny_compStart_dict loop (T.self X.A 0 _ _ _ t4 loop)
theorem pe_dcT {kx vx tg iter : Expr} {ifs : List Expr} {scope : Scope} {own : List (Str × Nat)} {pos : Pos} {wi : TI} {g : TG} {tt : TT} {tk tv : TE} (hu : X.A.units + 1 < cLine) (hc : X.calm = true) (hN : X.N.Nodup) (hi : PI X tg iter wi) (ok : BlkOk X.N X.env.scope scope own)
    (hg : ∀ (z : Shared) (G : Hp) (C : Addr) (cl : List (Str × Addr)) (fp : List Addr), PG (X.blk z G scope (compEnvC scope cl C X.env) fp) tg g)
    (ht : ∀ (z : Shared) (G : Hp) (C : Addr) (cl : List (Str × Addr)) (fp : List Addr), PTs (X.blk z G scope (compEnvC scope cl C X.env) fp) ifs tt)
    (hk : ∀ (z : Shared) (G : Hp) (C : Addr) (cl : List (Str × Addr)) (fp : List Addr), PE (X.blk z G scope (compEnvC scope cl C X.env) fp) kx tk)
    (he : ∀ (z : Shared) (G : Hp) (C : Addr) (cl : List (Str × Addr)) (fp : List Addr), PE (X.blk z G scope (compEnvC scope cl C X.env) fp) vx tv) (hs : ∀ x, foldedSetIterable iter X.env x = pure x := by intro _; rfl) :
    PE X (.DictComp kx vx [⟨tg, iter, ifs, 0⟩] scope pos) (tDcT wi g tt tk tv (own.map (·.2))) := by
  refine ⟨fun pins z σ H Q I h => ?_⟩
  rw [arm_eval_DictComp]
  refine dcT_core hu hc hN I hi ok hg ht hk he hs h fun D C z1 m G I1 q hn f => ⟨m, hn, fun z2 sb => ?_⟩
  obtain ⟨c0, c1, c2, c3, c4, c5⟩ := f
  exact ⟨.ref D, G, I1.turned (t' := z1.toks) (fun b o hb e => (sb.2 b hb).trans e) c0 c1 c3 c4 c5, rfl, q⟩
end
end Sh
set_option Elab.async false
set_option linter.all false
set_option maxRecDepth 100000
set_option maxHeartbeats 1000000
namespace Sh
open PySem L2 PyProof.Rows
/-! ### {k: v for ..}, keys tuples: a dict that stays -/
noncomputable def dput (c : Option (Nat × List PyData)) (n : Nat) (a z : Rv) (μ : Mu) (k : Mu → Option Mu) : Option Mu := match a, z, μ[n]? with
  | .d a, .d y, some (.dT es) => (tupOf a).bind fun js => if es.length < 4096 ∧ chkB c (μ.take n) then k (μ.take n ++ [.dT (putD es js y)]) else none
  | _, _, _ => none
noncomputable def dloop (t : Tg) (test : Sb) (kx vx : Sm) (c : Option (Nat × List PyData)) (n : Nat) (ρ : Ro) : List PyData → Mu → Option Mu
  | [], μ => some μ
  | d :: ds, μ => (t.put d ρ).bind fun ρ1 => (test ρ1 μ).bind fun q => if q.1 then
      (kx ρ1 q.2).bind fun a => (vx ρ1 a.2).bind fun z => dput c n a.1 z.1 z.2 fun μ3 => dloop t test kx vx c n ρ ds μ3
    else if chkB c (q.2.take (n + 1)) then dloop t test kx vx c n ρ ds (q.2.take (n + 1)) else none
noncomputable def sDcT (m : Si) (t : Tg) (test : Sb) (kx vx : Sm) (vs : List Nat) : Sm := fun ρ μ => (m ρ μ).bind fun p =>
  (dloop t test kx vx p.1.chk p.2.length (wipeR ρ vs) p.1.items (p.2 ++ [.dT []])).bind fun μ2 => match μ2[p.2.length]? with
    | some (.dT es) => some (.d (.dict es), μ2.take p.2.length)
    | _ => none
theorem dcomp_run {K : PySem.W.Frag} {m : Si} {t : Tg} {test : Sb} {kx vx : Sm} {vs : List Nat} (hv : ∀ i ∈ t.slots, i ∈ vs) {σ : L2.St} {H : Hp} {Q : VK} (q : tE K (sDcT m t test kx vx vs) σ H Q) :
    tDcT (tI K m) (gT K t) (tB K test) (tE K kx) (tE K vx) vs σ H Q := by
  obtain ⟨ρ, w, r, μ', e1, e2, ok, s, k⟩ := q
  obtain ⟨⟨src, μ1⟩, ea, e2⟩ := Option.bind_eq_some_iff.mp e2
  refine ⟨ρ, w, src, μ1, e1, ea, ok, s, fun u J eu oku le hs hy => ?_⟩
  subst eu
  obtain ⟨μ2, el0, e2⟩ := Option.bind_eq_some_iff.mp e2
  have el0 : dloop t test kx vx src.chk u.μ.length (wipeR ρ vs) src.items (u.μ ++ [.dT []]) = some μ2 := el0
  intro D hD
  have hdl : ∀ xs : List (PyData × PyData), Mo.dT xs ≠ Mo.dead := by intro xs z; cases z
  have okn : (u.new D (.dT []) (.dT [])).Ok := Wd.new_ok oku (hdl _) hD ⟨[], upd_same, .nil⟩
  have len : u.le (u.new D (.dT []) (.dT [])) := Wd.new_le oku (hdl _) hD
  have sw := wipeR_slots (s.mono le) vs
  -- the end: from a world behind the last turn
  have fin : ∀ z : Wd, CInv K u z D → z.μ = μ2 → Q (.ref D) z.H := by
    intro z ci ez
    subst ez
    simp only at e2
    split at e2
    · rename_i ds ed
      obtain ⟨xs, h1, h2⟩ := ci.ok.ok _ _ D ed ci.adr
      · cases e2
        refine k (z.cut u.μ.length) _ rfl (Wd.cut_ok ci.ok _) (le.trans (Wd.cut_le oku ci.le)) (.dct (.inl ?_) (RpKV.mono (Wd.cut_leR _) _ _ h2))
        have nl : ¬ (z.cut u.μ.length).live D := by
          rintro ⟨j, o, g1, g2, g3⟩
          have hj := (get_take.mp g1).1
          have := ci.ok.inj j u.μ.length o _ D (get_take.mp g1).2 ed g2 (hdl _) (get_take.mp g3).2 ci.adr
          omega
        rw [Wd.F_not nl]; exact h1
    · cases e2
  refine ⟨fun i n H => n = src.items.length - i ∧ i ≤ src.items.length ∧ ∃ z : Wd, z.H = H ∧ CInv K u z D ∧ src.ok z.μ ∧ dloop t test kx vx src.chk u.μ.length (wipeR ρ vs) (src.items.drop i) z.μ = some μ2,
    ⟨_, rfl, Nat.zero_le _, u.new D (.dT []) (.dT []), rfl, ⟨okn, len, by show (u.μ ++ [Mo.dT []]).length = _; rw [List.length_append]; rfl, (get_snoc _ _ _ _).mpr (.inr ⟨oku.len.symm, rfl⟩)⟩, ?_, by rw [List.drop_zero]; exact el0⟩, fun i n H hW => ?_⟩
  · intro k' ds' e'
    exact (get_snoc _ _ _ _).mpr (.inl (hs k' ds' e'))
  obtain ⟨en, hi, z, rfl, ci, sok, el⟩ := hW
  obtain ⟨Y1, Y2⟩ := hy z ci.le ci.ok sok
  by_cases hlt : i < src.items.length
  · rw [List.drop_eq_getElem_cons hlt] at el
    obtain ⟨hgo, hyl⟩ := Y1 i _ (List.getElem?_eq_getElem hlt)
    refine .inr ⟨hgo, fun H' => ∃ z : Wd, z.H = H' ∧ CInv K u z D ∧ src.ok z.μ ∧ dloop t test kx vx src.chk u.μ.length (wipeR ρ vs) (src.items.drop (i + 1)) z.μ = some μ2, fun H' hN => ⟨_, by omega, rfl, hlt, hN⟩, fun x H' hx => ?_⟩
    obtain ⟨u2, em, rfl, ok2, le2, rp⟩ := hyl x H' hx
    have el : ((t.put src.items[i] (wipeR ρ vs)).bind fun ρ1 => (test ρ1 z.μ).bind fun q => if q.1 then
      (kx ρ1 q.2).bind fun a => (vx ρ1 a.2).bind fun z => dput src.chk u.μ.length a.1 z.1 z.2 fun μ3 => dloop t test kx vx src.chk u.μ.length (wipeR ρ vs) (src.items.drop (i + 1)) μ3
      else if chkB src.chk (q.2.take (u.μ.length + 1)) then dloop t test kx vx src.chk u.μ.length (wipeR ρ vs) (src.items.drop (i + 1)) (q.2.take (u.μ.length + 1)) else none) = some μ2 := el
    obtain ⟨ρ2, e3, el⟩ := Option.bind_eq_some_iff.mp el
    obtain ⟨⟨b, q2⟩, e4, el⟩ := Option.bind_eq_some_iff.mp el
    refine gT_run e3 rp ((sw.mono ci.le).mono le2) fun xs sx => ?_
    refine ⟨by rw [wipe_sets _ _ _ hv, wipe_wipe], ρ2, u2, b, q2, rfl, by rw [em]; exact e4, ok2, sx, fun u3 eu3 ok3 le3 => ?_⟩
    subst eu3
    have at3 : u3.A[u.μ.length]? = some D := (le2.trans le3).at ci.adr
    have n3 : u.μ.length < u3.μ.length := by rw [← ok3.len]; exact (List.getElem?_eq_some_iff.mp at3).1
    have le3' : u.le u3 := ci.le.trans (le2.trans le3)
    -- a world cut behind the new list
    have cutD : ∀ y : Wd, y.Ok → u.le y → y.A[u.μ.length]? = some D → CInv K u (y.cut (u.μ.length + 1)) D := by
      intro y oky ley aty
      refine ⟨Wd.cut_ok oky _, ⟨?_, ley.le.trans (Wd.cut_leR _), fun a o q e => Wd.cut_same _ a _ (ley.frz a o q e), fun a o q r e => Wd.cut_same _ a _ (ley.ins a o q r e)⟩, ?_, get_take.mpr ⟨by omega, aty⟩⟩
      · obtain ⟨tl, et⟩ := ley.pre
        have : u.A.length ≤ u.μ.length + 1 := by rw [oku.len]; omega
        show u.A <+: y.A.take (u.μ.length + 1)
        rw [← et, List.take_append]
        rw [List.take_of_length_le this]
        exact List.prefix_append _ _
      · have : u.μ.length < y.A.length := (List.getElem?_eq_some_iff.mp aty).1
        rw [oky.len] at this
        exact take_len _ _ this
    cases b with
    | false =>
      rw [if_neg Bool.false_ne_true]
      simp only [Bool.false_eq_true, if_false] at el
      split at el
      · rename_i hc
        exact ⟨u3.cut (u.μ.length + 1), rfl, cutD u3 ok3 le3' at3, chkB_ok hc, el⟩
      · cases el
    | true =>
      rw [if_pos rfl]
      simp only [if_true] at el
      obtain ⟨⟨a1, a2⟩, e5, el⟩ := Option.bind_eq_some_iff.mp el
      obtain ⟨⟨z1, z2⟩, e6, el⟩ := Option.bind_eq_some_iff.mp el
      refine ⟨ρ2, u3, a1, a2, rfl, e5, ok3, sx.mono le3, fun u4 v eu4 ok4 le4 rp4 => ?_⟩
      subst eu4
      refine ⟨ρ2, u4, z1, z2, rfl, e6, ok4, sx.mono (le3.trans le4), fun u5 vv eu5 ok5 le5 rp5 => ?_⟩
      subst eu5
      have at5 : u5.A[u.μ.length]? = some D := le5.at (le4.at at3)
      have le5' : u.le u5 := le3'.trans (le4.trans le5)
      unfold dput at el
      simp only at el
      split at el
      · rename_i a y acc eacc _
        obtain ⟨js, ej, el⟩ := Option.bind_eq_some_iff.mp el
        split at el
        · rename_i hc
          obtain ⟨c, rfl, hcF, _⟩ := tupOf_ok rp4 ej
          obtain ⟨ws, h1, h2⟩ := ok5.ok _ _ D eacc at5
          have hcF5 := (Wd.F_some (le5.le.tup _ _ hcF)).1
          refine ⟨ws, js.map Sum.inl, c, rfl, hcF5, h1, by rw [h2.length]; exact Nat.lt_of_lt_of_le hc.1 (by decide), ?_⟩
          have c5 := cutD u5 ok5 le5' at5
          have ek : (u5.cut (u.μ.length + 1)).μ[u.μ.length]? = some (.dT acc) := get_take.mpr ⟨by omega, eacc⟩
          have n5 : u.μ.length < u5.μ.length := (List.getElem?_eq_some_iff.mp eacc).1
          have ok6 := Wd.chg_ok (o := .dT (putK ws (js.map Sum.inl) vv)) c5.ok ek (hdl acc) (hdl (putD acc js y)) c5.adr ⟨_, upd_same, (RpKV.mono (Wd.cut_leR _) _ _ h2).put (Rp.mono (Wd.cut_leR _) _ _ rp5) js⟩
          have le6 := Wd.chg_le (o := .dT (putK ws (js.map Sum.inl) vv)) c5.ok ek (hdl acc) (hdl (putD acc js y)) c5.adr
          have em6 : ((u5.cut (u.μ.length + 1)).chg u.μ.length D (.dT (putD acc js y)) (.dT (putK ws (js.map Sum.inl) vv))).μ = u5.μ.take u.μ.length ++ [.dT (putD acc js y)] := set_snoc n5 _
          refine ⟨(u5.cut (u.μ.length + 1)).chg u.μ.length D (.dT (putD acc js y)) (.dT (putK ws (js.map Sum.inl) vv)), rfl, ⟨ok6, c5.le.trans le6, ?_, c5.adr⟩, ?_, by rw [em6]; exact el⟩
          · rw [em6, List.length_append, take_len _ _ (by omega)]; rfl
          · rw [em6]
            intro k' ds' e'
            exact (get_snoc _ _ _ _).mpr (.inl (chkB_ok hc.2 k' ds' e'))
        · cases el
      · cases el
  · refine .inl ⟨Y2 i (Nat.le_of_not_lt hlt), ?_⟩
    rw [List.drop_eq_nil_of_le (Nat.le_of_not_lt hlt)] at el
    cases el
    exact fin z ci rfl
section
variable {X : Cx} {ke ve tg iter : Expr} {ifs : List Expr} {scope : Scope} {own : List (Str × Nat)} {pos : Pos} {m : Si} {t : Tg} {test : Sb} {kx vx : Sm}
theorem pE_dcT (hu : X.A.units + 1 < cLine) (hc : X.calm = true) (hN : X.N.Nodup) (hi : PI X tg iter (tI X.K m)) (ok : BlkOk X.N X.env.scope scope own)
    (hg : ∀ (s : Shared) (H : Hp) (C : Addr) (cl : List (Str × Addr)) (fp : List Addr), PG (X.blk s H scope (compEnvC scope cl C X.env) fp) tg (gT X.K t))
    (ht : ∀ (s : Shared) (H : Hp) (C : Addr) (cl : List (Str × Addr)) (fp : List Addr), PTs (X.blk s H scope (compEnvC scope cl C X.env) fp) ifs (tB X.K test))
    (hk : ∀ (s : Shared) (H : Hp) (C : Addr) (cl : List (Str × Addr)) (fp : List Addr), PE (X.blk s H scope (compEnvC scope cl C X.env) fp) ke (tE X.K kx))
    (he : ∀ (s : Shared) (H : Hp) (C : Addr) (cl : List (Str × Addr)) (fp : List Addr), PE (X.blk s H scope (compEnvC scope cl C X.env) fp) ve (tE X.K vx))
    (hv : ∀ i ∈ t.slots, i ∈ own.map (·.2)) (hs : ∀ x, foldedSetIterable iter X.env x = pure x := by intro _; rfl) :
    PE X (.DictComp ke ve [⟨tg, iter, ifs, 0⟩] scope pos) (tE X.K (sDcT m t test kx vx (own.map (·.2)))) :=
  pe_of (pe_dcT hu hc hN hi ok hg ht hk he hs) fun _ _ _ q => dcomp_run hv q
end
end Sh
set_option Elab.async false
set_option linter.all false
set_option maxRecDepth 100000
namespace Sh
open PySem L2 PyProof.Rows
/-! ### enumerate of a list -/
theorem yld_enumL {K : PySem.W.Frag} {a : Addr} {xs : List V} {ds : List PyData} {u : Wd} (h : u.F a = some (.lst xs)) (r : RpAll u.F xs ds) : Yld (Ite K a) ⟨enD ds, none⟩ u := by
  intro w le ok _
  have hw := (Wd.F_some (le.le.lst _ _ h)).1
  have q := RpAll.mono le.le _ _ r
  refine ⟨fun i d e => ?_, fun i hl => ⟨xs, SqL.ofF hw, by rw [r.length, ← enD_len]; exact hl⟩⟩
  obtain ⟨x, e1, rfl⟩ := enD_get e
  obtain ⟨v, g1, k1⟩ := q.get e1
  refine ⟨⟨xs, v, SqL.ofF hw, g1⟩, fun y H' hy => ?_⟩
  obtain ⟨T, z, rfl, hT, rfl, f⟩ := hy
  have z1 := f xs (SqL.ofF hw)
  rw [g1] at z1
  cases z1
  exact pair_put ok hT (.int _) k1
@[simp] def sEnumL (m : Sa) : Si := fun ρ μ => (m ρ μ).bind fun p => match p.1 with
  | [.d (.list ds)] => some (⟨enD ds, none⟩, p.2)
  | _ => none
theorem pI_enumL {X : Cx} {e : Expr} {p pos : Pos} {m : Sa} {tp : Pos} {elts : List Expr} {kk : Nat} (hg : Gl X "enumerate") (hm : X.mg "enumerate" = none) (ha : PA X [e] (tAs X.K m)) (hs : starEach [e] X.env = [(false, eval e X.env)] := by rfl) :
    PI X (.Tuple elts kk tp) (.Call (.Name "enumerate" p) [e] [] pos) (tI X.K (sEnumL m)) := by
  refine pi_of (pi_enum hg hm ha hs) fun σ H R q => ?_
  obtain ⟨ρ, w, s, μ', e1, e2, ok, sl, k⟩ := q
  obtain ⟨⟨p1, p2⟩, ea, e2⟩ := Option.bind_eq_some_iff.mp e2
  refine ⟨ρ, w, p1, p2, e1, ea, ok, sl, fun u vs eu oku le rp => ?_⟩
  simp only at e2
  split at e2
  · cases e2
    obtain ⟨v, rfl, rv⟩ := Paired.one rp
    cases rv with
    | lst h r => exact ⟨_, _, rfl, SqL.ofF (Wd.F_some h).1, k u _ eu oku le (ok_none _) (yld_enumL h r)⟩
  · cases e2
end Sh
set_option Elab.async false
set_option linter.all false
set_option maxRecDepth 100000
namespace Sh
open PySem L2 PyProof.Rows
/-! ### sorted(list of whole numbers) -/
def insN (x : Int) : List Int → List Int
  | [] => [x]
  | y :: r => if y < x then y :: insN x r else x :: y :: r
def sortN (l : List Int) : List Int := l.foldr insN []
theorem insN_perm (x : Int) : ∀ l, (insN x l).Perm (x :: l)
  | [] => .refl _
  | y :: r => by
    unfold insN
    split
    · exact ((insN_perm x r).cons y).trans (List.Perm.swap x y r)
    · exact .refl _
theorem sortN_perm : ∀ l, (sortN l).Perm l
  | [] => .refl _
  | x :: r => (insN_perm x _).trans ((sortN_perm r).cons x)
theorem insN_srt (x : Int) : ∀ l : List Int, l.Pairwise (· ≤ ·) → (insN x l).Pairwise (· ≤ ·)
  | [], _ => List.pairwise_singleton _ _
  | y :: r, h => by
    obtain ⟨h1, h2⟩ := List.pairwise_cons.mp h
    unfold insN
    by_cases hb : y < x
    · rw [if_pos hb]
      refine List.pairwise_cons.mpr ⟨fun z hz => ?_, insN_srt x r h2⟩
      rcases List.mem_cons.mp ((insN_perm x r).mem_iff.mp hz) with e | hz
      · omega
      · exact h1 z hz
    · rw [if_neg hb]
      refine List.pairwise_cons.mpr ⟨fun z hz => ?_, h⟩
      rcases List.mem_cons.mp hz with e | hz
      · omega
      · have := h1 z hz; omega
theorem sortN_srt : ∀ l : List Int, (sortN l).Pairwise (· ≤ ·)
  | [] => List.Pairwise.nil
  | x :: r => insN_srt x _ (sortN_srt r)
theorem sortN_eq {l m : List Int} (h : l.Perm m) (s : l.Pairwise (· ≤ ·)) : l = sortN m :=
  List.Perm.eq_of_pairwise (le := (· ≤ ·)) (fun a b _ _ h1 h2 => Int.le_antisymm h1 h2) s (sortN_srt m) (h.trans (sortN_perm m).symm)
@[simp] def fSortI (b : Bool) : FA := fun μ rs => (listOf μ rs).bind fun ds => (intsOf ds).map fun ns => mkL b ((sortN ns).map .int) μ
theorem opA_sortI {K : PySem.W.Frag} {b : Bool} : OpA K (fSortI b) (rSortedI K) := by
  intro w rs vs r μ' Q e ok rp k
  obtain ⟨ds, e1, e⟩ := Option.bind_eq_some_iff.mp e
  obtain ⟨ns, e2, e⟩ := Option.map_eq_some_iff.mp e
  obtain ⟨a, xs, h1, h2, h3⟩ := listOf_ok ok rp e1
  rw [intsOf_ok e2] at h3
  rw [h3.ints] at h2
  refine ⟨a, ns, h1, SqL.ofF h2, fun ns' p hp hs hn => ?_⟩
  rw [sortN_eq hp hs]
  exact mkL_ok ok hn (RpAll.ofInts _) e k
/-! ### tuple(range(n)) -/
noncomputable def bSm (n : Int) : Bool := @decide (0 ≤ n ∧ n ≤ 4096) (Classical.propDecidable _)
theorem bSm_eq {n : Int} (h1 : 0 ≤ n) (h2 : n ≤ 4096) : bSm n = true := @decide_eq_true _ (Classical.propDecidable _) ⟨h1, h2⟩
theorem bSm_ok {n : Int} (h : bSm n = true) : 0 ≤ n ∧ n ≤ 4096 := @of_decide_eq_true _ (Classical.propDecidable _) h
@[simp] noncomputable def fTupRg : F1 := fun μ x => match x with
  | .d (.int n) => if bSm n then some (.d (.tuple (rngD 0 n.toNat)), μ) else none
  | _ => none
theorem rg_ints {F : Hp} (n : Int) : RpAll F (rgV 0 n) (rngD 0 n.toNat) := by
  have e1 : rgV 0 n = ((List.range n.toNat).map fun (i : Nat) => ((0 : Int) + (i : Int))).map V.int := by
    unfold rgV
    rw [List.map_map, Int.sub_zero]; rfl
  have e2 : rngD 0 n.toNat = ((List.range n.toNat).map fun (i : Nat) => ((0 : Int) + (i : Int))).map PyData.int := by
    unfold rngD
    rw [List.map_map]; rfl
  rw [e1, e2]
  exact RpAll.ofInts _
theorem pE_tupRg {X : Cx} {a : Expr} {p p2 pos pos2 : Pos} {m : Sm} (hc : X.calm = true) (hg : Gl X "tuple") (hm : X.mg "tuple" = none) (hg2 : Gl X "range") (hm2 : X.mg "range" = none) (he : PE X a (tE X.K m))
    (hs : starEach [a] X.env = (false, eval a X.env) :: starEach [] X.env := by rfl)
    (hs2 : starEach [.Call (.Name "range" p2) [a] [] pos2] X.env = (false, eval (.Call (.Name "range" p2) [a] [] pos2) X.env) :: starEach [] X.env := by rfl) :
    PE X (.Call (.Name "tuple" p) [.Call (.Name "range" p2) [a] [] pos2] [] pos) (tE X.K (s1 fTupRg m)) :=
  pe_of (pe_tupRg hc hg hm (prg_1 hg2 hm2 he hs) hs2) fun σ H Q q => one_run (t := fun v H1 Q => ∃ n, v = .int n ∧ RgOk 0 n ∧ ∀ q, H1 q = none → Q (.ref q) (upd H1 q (.tup (rgV 0 n)))) (by
    intro w x v r μ' Q e ok rx k
    unfold fTupRg at e
    split at e
    · rename_i n
      split at e
      · rename_i hb
        cases e
        obtain ⟨h1, h2⟩ := bSm_ok hb
        have rx : Rp w.F v (.int n) := rx
        cases rx
        exact ⟨n, rfl, RgOk.of_le (by omega) (by omega) (by omega) h1, fun p hp => mkT_ok ok hp (rg_ints n) k⟩
      · cases e
    · cases e) q
end Sh
set_option Elab.async false
set_option linter.all false
set_option maxRecDepth 100000
set_option maxHeartbeats 4000000
namespace Sh
open PySem L2 PyProof.Rows PySem.Spec
/-! ### a tuple times one: the tuple itself -/
theorem tup_once (l : Addr) (items : Array Value) (n : Nat) (dd : Option Addr) (sl : Array (Option Value)) (u : Tok) :
    Meets (Builtin.«tuple.__mul__» ⟨[.ref l, .int 1 u], []⟩) (fun _ R s => s.heap.get? l = some { cls := .type "tuple", dict := dd, data := .seq items n, slots := sl } ∧
      R (.ok (.ret (Value.ref l))) s) :=
  .of_wp fun prog w A R s h => by
    obtain ⟨hp, g, d, tk, os⟩ := s
    obtain ⟨hl, h⟩ := h
    have f1 := AutoSeq1.idx_int
    wp_walk using wpAny_loadPart' hl
    exact ⟨_, rfl, h⟩
def rOnce (K : PySem.W.Frag) : R2 := fun x y H Q => ∃ l xs, x = .ref l ∧ y = .int 1 ∧ SqT K H l xs ∧ Q (.ref l) H
theorem op_once {X : Cx} : OpR X (binaryOp .Mult) (rOnce X.K) := by
  intro pins s σ H x y v u Q I rx ry h
  obtain ⟨l, xs, rfl, rfl, hT, q⟩ := h
  cases rx
  obtain ⟨t, rfl⟩ := ry
  obtain ⟨its, r, ⟨⟨cls, dd, data, sl⟩, ho, hc, n, hd⟩, hs⟩ := I.tuple hT
  have hc : cls = Value.type "tuple" := hc
  have hd : data = Data.seq its.toArray n := hd
  subst hc hd
  have isT : s.TypeIs (.ref l) "tuple" := ⟨_, ho, rfl⟩
  have mul := call_meets (prog := X.prog) (w := X.w) (A := X.A) (E := X.xe) (Q := EP X pins σ Q) F.slot_tuple_mul isT F.entry_tuple_mul (F.args_tuple_mul_2 _ _) (tup_once l its.toArray n dd sl t) ⟨ho, ⟨V.ref l, H, I, rfl, q⟩⟩
  refine wpAny_binaryOp_repeat_ref (T := "tuple") (U := "int") (by decide) isT (fun z => typeIs_int z 1 t)
    noFill_tuple_mul F.fills_int_mul F.slot_int_rmul repeat_tuple F.slot_int_index.lookup ?_
  exact call_meets F.slot_int_rmul (typeIs_int s 1 t) F.entry_int_rmul (F.args_int_rmul_2 _ _)
    (int_rmul_tuple 1 t l its.toArray n dd sl) ⟨ho, rfl, isT, mul⟩
/-- a * b, a tuple once too -/
@[simp] def fMul1 : F2 := fun μ x y => match rd μ x, rd μ y with
  | some (.tuple xs), some (.int 1) => match x with
    | .d _ => some (.d (.tuple xs), μ)
    | _ => none
  | _, _ => fMul μ x y
theorem op_mul1 {X : Cx} : OpR X (binaryOp .Mult) (fun x y H Q => rMulU X.K x y H Q ∨ rOnce X.K x y H Q) := OpR.or op_mulU op_once
theorem o2_mul1 {K : PySem.W.Frag} : Op2 K fMul1 (fun x y H Q => rMulU K x y H Q ∨ rOnce K x y H Q) := by
  intro w x y v z r μ' Q e ok rx ry k
  unfold fMul1 at e
  split at e
  · rename_i xs ex ey
    have h2 : z = V.int 1 := RpR.rd ok ry ey
    subst h2
    split at e
    · rename_i dx
      have ex : some dx = some (PyData.tuple xs) := ex
      cases ex
      cases e
      obtain ⟨a, vs, h1, h2, h3⟩ := Rp.top rx
      subst h1
      exact .inr ⟨a, vs, rfl, rfl, SqT.ofF h2, Wish.here k ok rx⟩
    · cases e
  · exact .inl (o2_mul w x y v z r μ' Q e ok rx ry k)
/-! ### sorted of a list of pairs -/
def pairOf : PyData → Option (Int × Int)
  | .tuple [.int i, .int j] => some (i, j)
  | _ => none
def pairsD : List PyData → Option (List (Int × Int))
  | [] => some []
  | d :: r => (pairOf d).bind fun p => (pairsD r).map (p :: ·)
theorem pairOf_ok {d : PyData} {p : Int × Int} (h : pairOf d = some p) : d = prD p := by
  unfold pairOf at h
  split at h
  · cases h; rfl
  · cases h
theorem pairsD_ok : ∀ {ds : List PyData} {ps : List (Int × Int)}, pairsD ds = some ps → ds = ps.map prD
  | [], _, h => by cases h; rfl
  | d :: r, ps, h => by
    obtain ⟨p, h1, h⟩ := Option.bind_eq_some_iff.mp h
    obtain ⟨qs, h2, h⟩ := Option.map_eq_some_iff.mp h
    cases h
    rw [List.map_cons, ← pairOf_ok h1, ← pairsD_ok h2]
theorem pairsD_map : ∀ ps : List (Int × Int), pairsD (ps.map prD) = some ps
  | [] => rfl
  | p :: ps => by
    show ((pairsD (ps.map prD)).map (p :: ·)) = _
    rw [pairsD_map ps]; rfl
/-- the pair at a value -/
def kAt (H : Hp) : V → Int × Int
  | .ref t => match H t with
    | some (.tup [.int i, .int j]) => (i, j)
    | _ => (0, 0)
  | _ => (0, 0)
theorem pair_at {w : Wd} {v : V} {p : Int × Int} (h : Rp w.F v (prD p)) : ∃ t, v = V.ref t ∧ w.H t = some (.tup [.int p.1, .int p.2]) ∧ kAt w.H v = p := by
  cases h with
  | tup hf r =>
    cases r with
    | cons r1 r =>
      cases r with
      | cons r2 r =>
        cases r
        cases r1
        cases r2
        have hH := (Wd.F_some hf).1
        refine ⟨_, rfl, hH, ?_⟩
        unfold kAt
        simp only [hH]
theorem rpP_mem {w : Wd} : ∀ {xs : List V} {ps : List (Int × Int)}, RpAll w.F xs (ps.map prD) → ∀ x ∈ xs, Rp w.F x (prD (kAt w.H x)) ∧ ∃ t, x = V.ref t ∧ w.H t = some (.tup [.int (kAt w.H x).1, .int (kAt w.H x).2])
  | [], [], _, x, hx => by cases hx
  | v :: xs, p :: ps, .cons r t, x, hx => by
    rcases List.mem_cons.mp hx with rfl | hx
    · obtain ⟨a, e1, e2, e3⟩ := pair_at r
      rw [e3]
      exact ⟨r, a, e1, e2⟩
    · exact rpP_mem t x hx
theorem rpP_map {w : Wd} : ∀ {xs : List V} {ps : List (Int × Int)}, RpAll w.F xs (ps.map prD) → xs.map (kAt w.H) = ps
  | [], [], _ => rfl
  | v :: xs, p :: ps, .cons r t => by
    obtain ⟨a, e1, e2, e3⟩ := pair_at r
    rw [List.map_cons, e3, rpP_map t]
theorem rpP_of {w : Wd} : ∀ {ys : List V}, (∀ y ∈ ys, Rp w.F y (prD (kAt w.H y))) → RpAll w.F ys ((ys.map (kAt w.H)).map prD)
  | [], _ => .nil
  | y :: ys, h => .cons (h y List.mem_cons_self) (rpP_of fun z hz => h z (List.mem_cons_of_mem _ hz))
@[simp] def fSortP (b : Bool) : FA := fun μ rs => (listOf μ rs).bind fun ds => (pairsD ds).map fun ps => mkL b ((sortP ps).map prD) μ
theorem opA_sortP {K : PySem.W.Frag} {b : Bool} : OpA K (fSortP b) (rSortedPO K) := by
  intro w rs vs r μ' Q e ok rp k
  obtain ⟨ds, e1, e⟩ := Option.bind_eq_some_iff.mp e
  obtain ⟨ps, e2, e⟩ := Option.map_eq_some_iff.mp e
  obtain ⟨a, xs, h1, h2, h3⟩ := listOf_ok ok rp e1
  rw [pairsD_ok e2] at h3
  have hm := rpP_mem h3
  refine ⟨a, xs, kAt w.H, h1, SqL.ofF h2, fun x hx => (hm x hx).2, fun ys p hs hb hn => ?_⟩
  have hp : (ys.map (kAt w.H)).Perm ps := by rw [← rpP_map h3]; exact hb.perm.map _
  have es : ys.map (kAt w.H) = sortP ps := sortP_eq hp (by rw [List.pairwise_map]; exact hs)
  have hy := rpP_of (w := w) (ys := ys) fun y hy => (hm y (hb.perm.mem_iff.mp hy)).1
  rw [es] at hy
  exact mkL_ok ok hn hy e k
end Sh
set_option Elab.async false
set_option linter.all false
set_option maxRecDepth 100000
set_option maxHeartbeats 1000000
namespace Sh
open PySem L2 PyProof.Rows PySem.Spec
/-! ### sorted of a tuple of pairs -/
section
variable {prog : Program} {w : World} {A : Around} {E : Value → Shared → Prop} {s : Shared}
theorem sorted_ofTup {t : Addr} {o : Obj} {vs : List Value} {n : Nat} {k : Value → Int × Int} {Q : Value → Shared → Prop} (ho : s.heap.get? t = some o) (hc : o.cls = .type "tuple") (hd : o.data = .seq vs.toArray n) (hz : vs.length ≤ sizeLine)
    (hp : ∀ v ∈ vs, Srt.IsPair s.heap v (k v).1 (k v).2)
    (h : ∀ (h1 h' : Heap) (out : List Value), SrtO.Srtd (fun v u => SrtO.lexB (k v) (k u)) out → SrtO.Stb (fun v u => SrtO.lexB (k v) (k u)) out vs → (∀ b o, s.heap.get? b = some o → h1.get? b = some o) → (∀ b o, h1.get? b = some o → h'.get? b = some o) → (∃ n, h'.get? h1.objs.size = some (seqObj "list" out.toArray n)) → Q (.ref h1.objs.size) { s with heap := h' }) :
    wpAny (model prog w) A (call (.builtin "sorted") [.ref t]) Q E s := by
  refine PySem.Calls.call_function_entry PyProof.Rows.kind_sorted PyProof.Rows.plain_sorted PyProof.Rows.entry_sorted (PyProof.Rows.args_sorted1 _) ?_
  unfold Builtin.«sorted»
  refine wpAny_bind (m := checkCount "sorted" 1 1 _) (wpAny_pure ?_)
  refine wpAny_bind (wpAny_collect_seq t (.inr rfl) ho hc hd (fun h1 kp => ?_) (by rw [List.size_toArray]; exact hz))
  have e0 : vs.toArray.toList = vs := rfl
  rw [e0]
  refine wpAny_bind (wpAny_newList ?_ hz)
  have hob : (h1.push { cls := .type "list", data := .seq vs.toArray }).get? h1.objs.size = some (seqObj "list" vs.toArray 0) := Heap.get?_push_size _ rfl
  have kb : ∀ b o, h1.get? b = some o → (h1.push { cls := .type "list", data := .seq vs.toArray }).get? b = some o := fun b o e => Heap.get?_push_of_some _ e
  generalize hh2 : h1.push { cls := .type "list", data := .seq vs.toArray } = h2 at hob kb ⊢
  have ne0 : ∀ b o, h1.get? b = some o → b ≠ h1.objs.size := fun b o e => Nat.ne_of_lt (Heap.lt_size e)
  have kF : ∀ (out : Array Value) b o, h1.get? b = some o → (sortedHeap h2 h1.objs.size vs out).get? b = some o := fun out b o e => (PyProof.Rows.sortedHeap_old (ne0 b o e) (Heap.lt_size (kb b o e))).trans (kb b o e)
  refine wpAny_bind (wpAny_holding (wpAny_call_entry PyProof.Rows.slot_list_sort ⟨_, hob, rfl⟩ PyProof.Rows.entry_list_sort
    (SrtO.list_sort_ord (s := { s with heap := h2 }) (vs := vs) (SrtO.swo_lex k) hob hz
      (fun _ => SrtO.pairs_sortableO (s := { s with heap := h2 }) (by omega) (fun v hm => (hp v hm).keeps fun b o e _ => kb b o (kp b o e)) fun o e => ?_) fun out o1 o2 => ⟨.none, rfl, ?_⟩) (PyProof.Rows.args_list_sort _)))
  · have e' : some o = some (seqObj "list" vs.toArray 0) := e.symm.trans hob
    cases e'
    intro c
    exact absurd (Value.type.inj c) (by decide)
  · obtain ⟨eF, heF⟩ := PyProof.Rows.sortedHeap_at (vs := vs) (out := out.toArray) hob
    exact wpAny_pure ⟨_, rfl, h h1 _ out o1 o2 kp (kF out.toArray) ⟨eF, heF⟩⟩
end
def rSortedPT (K : PySem.W.Frag) : List V → Hp → VK → Prop := fun vs H Q => ∃ (a : Addr) (xs : List V) (k : V → Int × Int), vs = [V.ref a] ∧ SqT K H a xs ∧ (∀ x ∈ xs, ∃ t, x = V.ref t ∧ H t = some (.tup [.int (k x).1, .int (k x).2])) ∧
  ∀ ys p, SrtO.Srtd (ltP k) ys → SrtO.Stb (ltP k) ys xs → H p = none → Q (.ref p) (upd H p (.lst ys))
section
variable {X : Cx}
theorem cr_sortedPT : CallR X (.builtin "sorted") (rSortedPT X.K) := by
  intro pins s σ H vs us Q I r h
  obtain ⟨a, xs, k, rfl, hs, hx, q⟩ := h
  obtain ⟨its, rv, ⟨ot, hot, hct, nt, hdt⟩, hz⟩ := I.tuple hs
  obtain rfl := Vals.ref1 r
  have hrefs : ∀ x ∈ xs, ∃ t, x = V.ref t := fun x m => by
    obtain ⟨t, e, _⟩ := hx x m
    exact ⟨t, e⟩
  obtain ⟨e1, e2⟩ := refs_back rv hrefs
  have lz : its.length ≤ sizeLine := by rw [← rv.length]; exact hz
  have hpair : ∀ v ∈ its, Srt.IsPair s.heap v (k (backV v)).1 (k (backV v)).2 := by
    intro v hv
    obtain ⟨t, rfl⟩ := e2 v hv
    have hm : V.ref t ∈ xs := by rw [e1]; exact List.mem_map.mpr ⟨_, hv, rfl⟩
    obtain ⟨t', e, ht⟩ := hx _ hm
    cases e
    obtain ⟨_, its2, r2, o, ho, hc, n, hd⟩ := I.hok _ _ ht
    obtain ⟨u1, u2, rfl, ri, rj⟩ := vals2 r2
    obtain ⟨t1, rfl⟩ := ri
    obtain ⟨t2, rfl⟩ := rj
    exact ⟨t, o, t1, t2, n, rfl, ho, hc, hd⟩
  refine sorted_ofTup (k := fun u => k (backV u)) hot hct hdt lz hpair fun h1 h' out o1 o2 k1 k2 hn => ?_
  have h3 : ∀ u ∈ out, ∃ a, u = Value.ref a := fun u hu => e2 u (o2.perm.mem_iff.mp hu)
  obtain ⟨n, hn⟩ := hn
  have hb : SrtO.Stb (ltP k) (out.map backV) xs := by
    rw [e1]
    exact SrtO.Stb.map (ltP_swo k) backV o2
  have I1 : Inv X pins σ H { s with heap := h1 } := I.kept (t' := s.toks) k1
  have hlen : (out.map backV).length ≤ sizeLine := by rw [hb.len]; exact hz
  exact ⟨.ref h1.objs.size, upd H h1.objs.size (.lst (out.map backV)), I1.laid (t' := s.toks) k2 (Nat.le_refl _) ⟨hlen, out, n, vals_back h3, hn⟩, rfl, q _ _ (SrtO.srtd_map o1) hb (I1.hok.fresh (Nat.le_refl _))⟩
end
/-- sorted of a list or of a tuple of pairs -/
@[simp] def seqOf (μ : Mu) : List Rv → Option (List PyData)
  | [.d (.tuple ds)] => some ds
  | rs => listOf μ rs
@[simp] def fSortQ (b : Bool) : FA := fun μ rs => (seqOf μ rs).bind fun ds => (pairsD ds).map fun ps => mkL b ((sortP ps).map prD) μ
theorem opA_sortQ {K : PySem.W.Frag} {b : Bool} : OpA K (fSortQ b) (fun vs H Q => rSortedPO K vs H Q ∨ rSortedPT K vs H Q) := by
  intro w rs vs r μ' Q e ok rp k
  obtain ⟨ds, e1, e'⟩ := Option.bind_eq_some_iff.mp e
  unfold seqOf at e1
  split at e1
  · rename_i ds'
    cases e1
    obtain ⟨ps, e2, e⟩ := Option.map_eq_some_iff.mp e'
    obtain ⟨v, rfl, rv⟩ := Paired.one rp
    obtain ⟨a, xs, h1, h2, h3⟩ := Rp.top rv
    subst h1
    rw [pairsD_ok e2] at h3
    have hm := rpP_mem h3
    refine .inr ⟨a, xs, kAt w.H, rfl, SqT.ofF h2, fun x hx => (hm x hx).2, fun ys p hs hb hn => ?_⟩
    have hp : (ys.map (kAt w.H)).Perm ps := by rw [← rpP_map h3]; exact hb.perm.map _
    have es : ys.map (kAt w.H) = sortP ps := sortP_eq hp (by rw [List.pairwise_map]; exact hs)
    have hy := rpP_of (w := w) (ys := ys) fun y hy => (hm y (hb.perm.mem_iff.mp hy)).1
    rw [es] at hy
    exact mkL_ok ok hn hy e k
  · exact .inl (opA_sortP w rs vs r μ' Q (Option.bind_eq_some_iff.mpr ⟨ds, e1, e'⟩) ok rp k)
theorem call_sortQ {X : Cx} : CallR X (.builtin "sorted") (fun vs H Q => rSortedPO X.K vs H Q ∨ rSortedPT X.K vs H Q) := CallR.or cr_sortedPO cr_sortedPT
end Sh
set_option Elab.async false
set_option linter.all false
set_option maxRecDepth 100000
namespace Sh
open PySem L2 PyProof.Rows

/-! ### reckoning with the evaluator -/
@[simp] theorem get_last {α : Type} (l : List α) (x : α) : (l ++ [x])[l.length]? = some x := (get_snoc _ _ _ _).mpr (.inr ⟨rfl, rfl⟩)
@[simp] theorem set_last {α : Type} (l : List α) (x y : α) : (l ++ [x]).set l.length y = l ++ [y] := by
  rw [List.set_append_right _ _ (Nat.le_refl _), Nat.sub_self]; rfl
@[simp] theorem take_last {α : Type} (l : List α) (x : α) : (l ++ [x]).take (l.length + 1) = l ++ [x] := List.take_of_length_le (by rw [List.length_append]; exact Nat.le_refl _)
@[simp] theorem take_self {α : Type} (l : List α) : l.take l.length = l := List.take_length
@[simp] theorem take_front {α : Type} (l : List α) (x : α) : (l ++ [x]).take l.length = l := List.take_left' rfl
theorem atI_at {α : Type} {xs : List α} {j : Nat} {v : α} (h : xs[j]? = some v) : atI xs (j : Int) = some v := atI_nat h
@[simp] theorem atI_0 {α : Type} (x : α) (r : List α) : atI (x :: r) 0 = some x := atI_nat (j := 0) rfl
@[simp] theorem atI_1 {α : Type} (x y : α) (r : List α) : atI (x :: y :: r) 1 = some y := atI_nat (j := 1) rfl
@[simp] theorem atI_2 {α : Type} (x y z : α) (r : List α) : atI (x :: y :: z :: r) 2 = some z := atI_nat (j := 2) rfl
@[simp] theorem atI_end {α : Type} (xs : List α) (v : α) : atI (xs ++ [v]) (-1) = some v := atI_last xs v
@[simp] theorem pl_none (n : Nat) : pl n .none = true := by cases n <;> rfl
@[simp] theorem pl_bool (n : Nat) (b : Bool) : pl n (.bool b) = true := by cases n <;> rfl
@[simp] theorem pl_int (n : Nat) (i : Int) : pl n (.int i) = true := by cases n <;> rfl
@[simp] theorem pl_str (n : Nat) (z : Str) : pl n (.str z) = PyData.strOk z := by cases n <;> rfl
@[simp] theorem pl_list (n : Nat) (ds : List PyData) : pl (n + 1) (.list ds) = plAll n ds := rfl
@[simp] theorem pl_tuple (n : Nat) (ds : List PyData) : pl (n + 1) (.tuple ds) = plAll n ds := rfl
@[simp] theorem plAll_nil (n : Nat) : plAll n [] = true := by cases n <;> rfl
@[simp] theorem plAll_cons (n : Nat) (d : PyData) (ds : List PyData) : plAll n (d :: ds) = (pl n d && plAll n ds) := by cases n <;> rfl
@[simp] theorem plAll_ints (n : Nat) (ns : List Int) : plAll n (ns.map .int) = true := by
  induction ns with
  | nil => exact plAll_nil n
  | cons x r ih => rw [List.map_cons, plAll_cons, ih, pl_int]; rfl
theorem plAll_of {α : Type} {f : α → PyData} {n : Nat} : ∀ {xs : List α}, (∀ x ∈ xs, pl n (f x) = true) → plAll n (xs.map f) = true
  | [], _ => plAll_nil n
  | x :: xs, h => by rw [List.map_cons, plAll_cons, h x List.mem_cons_self, plAll_of fun y hy => h y (List.mem_cons_of_mem _ hy)]; rfl
@[simp] theorem eqv_int (i j : Int) : PyData.eqv (.int i) (.int j) = (i == j) := rfl
@[simp] theorem eqv_bool (i j : Bool) : PyData.eqv (.bool i) (.bool j) = (i == j) := rfl
@[simp] theorem eqv_str (i j : Str) : PyData.eqv (.str i) (.str j) = (i == j) := rfl
@[simp] theorem eqv_tup (xs ys : List PyData) : PyData.eqv (.tuple xs) (.tuple ys) = PyData.eqvAll xs ys := rfl
@[simp] theorem eqv_lst (xs ys : List PyData) : PyData.eqv (.list xs) (.list ys) = PyData.eqvAll xs ys := rfl
@[simp] theorem eqvAll_nil : PyData.eqvAll [] [] = true := rfl
@[simp] theorem eqvAll_cons (x y : PyData) (xs ys : List PyData) : PyData.eqvAll (x :: xs) (y :: ys) = (PyData.eqv x y && PyData.eqvAll xs ys) := rfl
@[simp] theorem eqvAll_nc (y : PyData) (ys : List PyData) : PyData.eqvAll [] (y :: ys) = false := rfl
@[simp] theorem eqvAll_cn (y : PyData) (ys : List PyData) : PyData.eqvAll (y :: ys) [] = false := rfl
theorem chkB_none (μ : Mu) : chkB none μ = true := rfl
theorem chkB_some {k : Nat} {ds : List PyData} {μ : Mu} (h : μ[k]? = some (.lst ds)) : chkB (some (k, ds)) μ = true := @decide_eq_true _ (Classical.propDecidable _) h
theorem chk_of {s : Src} {μ : Mu} (h : s.ok μ) : chkB s.chk μ = true := by
  cases e : s.chk with
  | none => rfl
  | some p => exact chkB_some (h p.1 p.2 e)

/-- a comprehension whose block leaves the store as it is -/
theorem cloop_ev {α : Type} {t : Tg} {test : Sb} {elt : Sm} {c : Option (Nat × List PyData)} {ρ : Ro} {μ : Mu} (hc : chkB c μ = true) (enc : α → PyData) (p : α → Bool) (f : α → PyData) : ∀ (xs : List α) (acc : List PyData), acc.length + xs.length ≤ 4096 →
    (∀ x ∈ xs, ∀ acc, ∃ ρ1, t.put (enc x) ρ = some ρ1 ∧ test ρ1 (μ ++ [.lst acc]) = some (p x, μ ++ [.lst acc]) ∧ (p x = true → elt ρ1 (μ ++ [.lst acc]) = some (.d (f x), μ ++ [.lst acc]))) →
    chkB c μ = true → (∀ ds, chkB c (μ ++ [.lst ds]) = true) →
    cloop t test elt c μ.length ρ (xs.map enc) (μ ++ [.lst acc]) = some (μ ++ [.lst (acc ++ (xs.filter p).map f)])
  | [], acc, _, _, _, _ => by simp [cloop]
  | x :: xs, acc, hl, h, h1, h2 => by
    obtain ⟨ρ1, e1, e2, e3⟩ := h x List.mem_cons_self acc
    rw [List.length_cons] at hl
    have ih := fun acc' (hl' : acc'.length + xs.length ≤ 4096) => cloop_ev hc enc p f xs acc' hl' (fun y hy => h y (List.mem_cons_of_mem _ hy)) h1 h2
    rw [List.map_cons]
    unfold cloop
    rw [e1]
    simp only [Option.bind_some]
    rw [e2]
    simp only [Option.bind_some]
    cases hp : p x with
    | true =>
      rw [if_pos rfl, e3 hp]
      simp only [Option.bind_some, get_last, take_front]
      rw [if_pos ⟨by omega, h1⟩, ih (acc ++ [f x]) (by rw [List.length_append, List.length_singleton]; omega)]
      rw [List.filter_cons_of_pos hp, List.map_cons, List.append_assoc]; rfl
    | false =>
      rw [if_neg Bool.false_ne_true, take_last, if_pos (h2 acc), ih acc (by omega), List.filter_cons_of_neg (by rw [hp]; exact Bool.false_ne_true)]
theorem comp_ev {α : Type} {fl : Bool} {m : Si} {t : Tg} {test : Sb} {elt : Sm} {vs : List Nat} {ρ : Ro} {μ : Mu} {s : Src} (xs : List α) (enc : α → PyData) (hm : m ρ μ = some (s, μ)) (hs : s.items = xs.map enc) (ho : s.ok μ) (hl : xs.length ≤ 4096) (p : α → Bool) (f : α → PyData)
    (h : ∀ x ∈ xs, ∀ acc, ∃ ρ1, t.put (enc x) (wipeR ρ vs) = some ρ1 ∧ test ρ1 (μ ++ [.lst acc]) = some (p x, μ ++ [.lst acc]) ∧ (p x = true → elt ρ1 (μ ++ [.lst acc]) = some (.d (f x), μ ++ [.lst acc]))) :
    sComp fl m t test elt vs ρ μ = some (mkL fl ((xs.filter p).map f) μ) := by
  unfold sComp
  rw [hm]
  simp only [Option.bind_some]
  have h1 := chk_of ho
  have h2 : ∀ ds, chkB s.chk (μ ++ [.lst ds]) = true := fun ds => by
    refine chk_of (s := s) fun k es e => (get_snoc _ _ _ _).mpr (.inl (ho k es e))
  rw [hs, cloop_ev h1 enc p f xs [] (by simpa using hl) h h1 h2]
  simp only [Option.bind_some, get_last, take_front, List.nil_append]
  cases fl <;> rfl
/-- a loop by what holds between its turns; R: what is handed back out of it -/
theorem loop_ev {t : Tg} {body : Ss} {c : Option (Nat × List PyData)} {n : Nat} {α : Type} {enc : α → PyData} (I : Nat → Ro → Mu → Prop) (R : Rv → Mu → Prop) (xs : List α)
    (step : ∀ k x ρ μ, xs[k]? = some x → I k ρ μ → ∃ ρ1 f ρ2 μ2, t.put (enc x) ρ = some ρ1 ∧ body ρ1 μ = some (f, ρ2, μ2) ∧ match f with
      | .nx => chkB c (μ2.take n) = true ∧ I (k + 1) (cutR n ρ2) (μ2.take n)
      | .ct => chkB c (μ2.take n) = true ∧ I (k + 1) (cutR n ρ2) (μ2.take n)
      | .rt r => R r μ2
      | .bk => False) : ∀ (j : Nat) (ρ : Ro) (μ : Mu), j ≤ xs.length → I j ρ μ →
    ∃ f ρ' μ', loop t body c n ((xs.drop j).map enc) ρ μ = some (f, ρ', μ') ∧ match f with
      | .nx => I xs.length ρ' μ'
      | .rt r => R r μ'
      | _ => False := by
  have key : ∀ (m j : Nat) (ρ : Ro) (μ : Mu), xs.length - j = m → j ≤ xs.length → I j ρ μ →
    ∃ f ρ' μ', loop t body c n ((xs.drop j).map enc) ρ μ = some (f, ρ', μ') ∧ match f with
      | .nx => I xs.length ρ' μ'
      | .rt r => R r μ'
      | _ => False := by
    intro m
    induction m with
    | zero =>
      intro j ρ μ hm hj hI
      have : j = xs.length := by omega
      subst this
      rw [List.drop_length]
      exact ⟨.nx, ρ, μ, rfl, hI⟩
    | succ m ih =>
      intro j ρ μ hm hj hI
      have hlt : j < xs.length := by omega
      rw [List.drop_eq_getElem_cons hlt, List.map_cons]
      obtain ⟨ρ1, f, ρ2, μ2, e1, e2, e3⟩ := step j _ ρ μ (List.getElem?_eq_getElem hlt) hI
      unfold loop
      rw [e1]
      simp only [Option.bind_some]
      rw [e2]
      simp only [Option.bind_some]
      cases f with
      | nx =>
        simp only
        rw [if_pos e3.1]
        exact ih (j + 1) _ _ (by omega) hlt e3.2
      | ct =>
        simp only
        rw [if_pos e3.1]
        exact ih (j + 1) _ _ (by omega) hlt e3.2
      | rt r => exact ⟨.rt r, ρ2, μ2, rfl, e3⟩
      | bk => exact e3.elim
  exact fun j ρ μ => key _ j ρ μ rfl
theorem for_ev {m : Si} {t : Tg} {body : Ss} {ρ : Ro} {μ μ1 : Mu} {s : Src} {α : Type} (xs : List α) (enc : α → PyData) (hm : m ρ μ = some (s, μ1)) (hs : s.items = xs.map enc) (I : Nat → Ro → Mu → Prop) (R : Rv → Mu → Prop) (h0 : I 0 ρ μ1)
    (step : ∀ k x ρ μ, xs[k]? = some x → I k ρ μ → ∃ ρ1 f ρ2 μ2, t.put (enc x) ρ = some ρ1 ∧ body ρ1 μ = some (f, ρ2, μ2) ∧ match f with
      | .nx => chkB s.chk (μ2.take μ1.length) = true ∧ I (k + 1) (cutR μ1.length ρ2) (μ2.take μ1.length)
      | .ct => chkB s.chk (μ2.take μ1.length) = true ∧ I (k + 1) (cutR μ1.length ρ2) (μ2.take μ1.length)
      | .rt r => R r μ2
      | .bk => False) :
    ∃ f ρ' μ', sFor m t body ρ μ = some (f, ρ', μ') ∧ match f with
      | .nx => I xs.length ρ' μ'
      | .rt r => R r μ'
      | _ => False := by
  obtain ⟨f, ρ', μ', e, h⟩ := loop_ev (c := s.chk) (n := μ1.length) I R xs step 0 ρ μ1 (Nat.zero_le _) h0
  refine ⟨f, ρ', μ', ?_, h⟩
  unfold sFor
  rw [hm]
  simp only [Option.bind_some]
  rw [hs]
  rw [List.drop_zero] at e
  exact e
/-- a search that changes nothing that is asked later: t holds where the body hands back r -/
theorem search_ev {m : Si} {t : Tg} {body : Ss} {ρ : Ro} {μ : Mu} {ds : List PyData} {α : Type} (xs : List α) (enc : α → PyData) (hm : m ρ μ = some (⟨ds, none⟩, μ)) (hs : ds = xs.map enc) (p : α → Bool) (r : Rv) (C : Ro → Prop) (h0 : C ρ)
    (step : ∀ x ∈ xs, ∀ ρ, C ρ → ∃ ρ1, t.put (enc x) ρ = some ρ1 ∧ ∃ ρ2, body ρ1 μ = some (if p x then .rt r else .nx, ρ2, μ) ∧ C (cutR μ.length ρ2)) :
    ∃ ρ', sFor m t body ρ μ = some (if xs.any p then .rt r else .nx, ρ', μ) ∧ (xs.any p = false → C ρ') := by
  have key : ∀ (xs : List α) (ρ : Ro), C ρ → (∀ x ∈ xs, ∀ ρ, C ρ → ∃ ρ1, t.put (enc x) ρ = some ρ1 ∧ ∃ ρ2, body ρ1 μ = some (if p x then .rt r else .nx, ρ2, μ) ∧ C (cutR μ.length ρ2)) →
      ∃ ρ', loop t body none μ.length (xs.map enc) ρ μ = some (if xs.any p then .rt r else .nx, ρ', μ) ∧ (xs.any p = false → C ρ') := by
    intro xs
    induction xs with
    | nil => intro ρ h _; exact ⟨ρ, rfl, fun _ => h⟩
    | cons x xs ih =>
      intro ρ h hst
      obtain ⟨ρ1, e1, ρ2, e2, h2⟩ := hst x List.mem_cons_self ρ h
      rw [List.map_cons]
      unfold loop
      rw [e1]
      simp only [Option.bind_some]
      rw [e2]
      simp only [Option.bind_some]
      rw [List.any_cons]
      cases hp : p x with
      | true => exact ⟨ρ2, by simp, fun q => by simp at q⟩
      | false =>
        obtain ⟨ρ', e3, h3⟩ := ih (cutR μ.length ρ2) h2 fun y hy => hst y (List.mem_cons_of_mem _ hy)
        refine ⟨ρ', ?_, by simpa using h3⟩
        simp only [Bool.false_or, Bool.false_eq_true, if_false, take_self, chkB_none, if_true]
        exact e3
  obtain ⟨ρ', e, h⟩ := key xs ρ h0 step
  refine ⟨ρ', ?_, h⟩
  unfold sFor
  rw [hm]
  simp only [Option.bind_some]
  rw [hs]
  exact e
end Sh
set_option Elab.async false
set_option linter.all false
set_option maxRecDepth 100000
set_option maxHeartbeats 1000000
namespace Sh
open PySem L2 PyProof.Rows
/-! ### a day's fields -/
@[simp] def fYard (C : Addr) : F1 := fun μ x => match x with
  | .m k => match μ[k]? with
    | some (.day C' y _) => if C' = C then some (.d y, μ) else none
    | _ => none
  | _ => none
@[simp] def fRows (C : Addr) : F1 := fun μ x => match x with
  | .m k => match μ[k]? with
    | some (.day C' _ j) => if C' = C then some (.m j, μ) else none
    | _ => none
  | _ => none
theorem dayF_yard (v : V) (l : Addr) : (dayF v l).lookup ("yard" : Str) = some v := rfl
theorem dayF_rows (v : V) (l : Addr) : (dayF v l).lookup ("rows" : Str) = some (.ref l) := by
  show (match (("rows" : Str) == ("yard" : Str)) with | true => some v | false => List.lookup ("rows" : Str) [(("rows" : Str), V.ref l)]) = _
  rw [show (("rows" : Str) == ("yard" : Str)) = false from by decide +kernel]
  rfl
section
variable {X : Cx} {e o : Expr} {es : List Expr} {pos apos p : Pos} {C : Addr} {m : Sm}
theorem pE_yard (c : Cls X.K C) (n : NoAttr X.K C "yard") (he : PE X e (tE X.K m)) (hb : attributeBase e "yard" X.env (eval e X.env) = eval e X.env := by rfl) : PE X (.Attribute e "yard" pos) (tE X.K (s1 (fYard C) m)) :=
  pe_of (pe_fld he hb) fun σ H Q q => one_run (t := fun x H1 Q => ∃ a C dx fs v, x = .ref a ∧ H1 a = some (.ins C dx fs) ∧ Cls X.K C ∧ NoAttr X.K C "yard" ∧ fs.lookup ("yard" : Str) = some v ∧ Q v H1) (by
    intro w x v r μ' Q e ok rx k
    unfold fYard at e
    split at e
    · rename_i kk
      split at e
      · rename_i C' y j ek
        split at e
        · rename_i hC
          subst hC
          cases e
          obtain ⟨a, ha, hv⟩ := rx
          obtain ⟨dx, v1, l, h1, h2, h3, h4⟩ := ok.ok kk _ a ek ha
          exact ⟨a, C', dx, _, v1, hv, h1, c, n, dayF_yard _ _, Wish.here k ok h2⟩
        · cases e
      · cases e
    · cases e) q
theorem pE_rows (c : Cls X.K C) (n : NoAttr X.K C "rows") (he : PE X e (tE X.K m)) (hb : attributeBase e "rows" X.env (eval e X.env) = eval e X.env := by rfl) : PE X (.Attribute e "rows" pos) (tE X.K (s1 (fRows C) m)) :=
  pe_of (pe_fld he hb) fun σ H Q q => one_run (t := fun x H1 Q => ∃ a C dx fs v, x = .ref a ∧ H1 a = some (.ins C dx fs) ∧ Cls X.K C ∧ NoAttr X.K C "rows" ∧ fs.lookup ("rows" : Str) = some v ∧ Q v H1) (by
    intro w x v r μ' Q e ok rx k
    unfold fRows at e
    split at e
    · rename_i kk
      split at e
      · rename_i C' y j ek
        split at e
        · rename_i hC
          subst hC
          cases e
          obtain ⟨a, ha, hv⟩ := rx
          obtain ⟨dx, v1, l, h1, h2, h3, h4⟩ := ok.ok kk _ a ek ha
          exact ⟨a, C', dx, _, .ref l, hv, h1, c, n, dayF_rows _ _, Wish.here k ok ⟨l, h4, rfl⟩⟩
        · cases e
      · cases e
    · cases e) q
end
/-! ### a day's methods -/
structure CalM (P : Program) (w : World) (K : PySem.W.Frag) (mg : Str → Option Value) (base : Heap) (C : Addr) (k : Nat) (x : Str) (n : Nat) (g : Fn) : Prop where
  ex : ∃ (f : Addr) (fd : FuncData) (ps : List Str), ps.length = n ∧ FnOk P w K mg base CX0 k f fd ps (spF K n g) ∧ Meth K C x f ∧ Binds K fd ps []
@[simp] def sMeth (C : Addr) (n : Nat) (g : Fn) (o : Sm) (a : Sa) : Sm := fun ρ μ => (o ρ μ).bind fun p => match p.1 with
  | .m k => match p.2[k]? with
    | some (.day C' _ _) => if C' = C then (a ρ p.2).bind fun q => if q.1.length + 1 = n then g (.m k :: q.1) q.2 else none else none
    | _ => none
  | _ => none
theorem meth_run {K : PySem.W.Frag} {C : Addr} {n : Nat} {g : Fn} {x : Str} (hx : ∀ v l, (dayF v l).lookup x = none) {mo : Sm} {ma : Sa} {ta : TA} (hta : ∀ σ H Q, tAs K ma σ H Q → ta σ H Q) {σ : L2.St} {H : Hp} {Q : VK} (q : tE K (sMeth C n g mo ma) σ H Q) :
    tMeth C x (spF K n g) [] E0 (tE K mo) ta σ H Q := by
  obtain ⟨ρ, w, r, μ', e1, e0, ok, s, k⟩ := q
  obtain ⟨⟨p1, p2⟩, ea, e2⟩ := Option.bind_eq_some_iff.mp e0
  clear e0
  refine ⟨ρ, w, p1, p2, e1, ea, ok, s, fun u v eu oku le rp => ?_⟩
  subst eu
  simp only at e2
  split at e2
  · rename_i kk
    split at e2
    · rename_i C' y j ek
      split at e2
      · rename_i hC
        subst hC
        obtain ⟨⟨q1, q2⟩, eb, e3⟩ := Option.bind_eq_some_iff.mp e2
        obtain ⟨a, ha, hv⟩ := id rp
        obtain ⟨dx, v1, l, h1, _⟩ := oku.ok kk _ a ek ha
        refine ⟨a, dx, _, hv, h1, hx _ _, hta _ _ _ ⟨ρ, u, q1, q2, rfl, eb, oku, s.mono le, fun u2 vs eu2 oku2 le2 rps => ?_⟩⟩
        subst eu2
        simp only at e3
        split at e3
        · rename_i hl
          refine ⟨u2, .m kk :: q1, r, μ', rfl, ?_, e3, oku2, .cons (rp.mono le2) (by rw [List.append_nil]; exact rps), Wish.to k (le.trans le2)⟩
          rw [List.append_nil, List.length_cons, ← rps.length]; exact hl
        · cases e3
      · cases e2
    · cases e2
  · cases e2
section
variable {X : Cx} {e o : Expr} {es : List Expr} {pos apos p : Pos} {C : Addr} {mo : Sm} {ma : Sa} {k n : Nat} {x : Str} {g : Fn}
theorem pE_meth (cl : Cls X.K C) (c : CalM X.prog X.w X.K X.mg X.base C k x n g) (hr : Room k X.A) (hx : ∀ v l, (dayF v l).lookup x = none) (he : PE X o (tE X.K mo)) (ha : PA X (e :: es) (tAs X.K ma)) {pl : Sem Bool}
    (hst : starEach (e :: es) X.env = (false, eval e X.env) :: starEach es X.env := by rfl) (hpl : (backTo pos (starEach es X.env)).any (·.1) = false := by rfl)
    (ht : eval (.Call (.Attribute o x apos) (e :: es) [] pos) X.env = (do
      let ov ← eval o X.env
      standAt apos.atName
      let (f, first) ← holding [ov] (getMethod ov x pl)
      callWith pos f first (backTo pos (starEach (e :: es) X.env)) (backToKw pos (keywordEach [] X.env))) := by rfl) : PE X (.Call (.Attribute o x apos) (e :: es) [] pos) (tE X.K (sMeth C n g mo ma)) := by
  obtain ⟨f, fd, ps, h0, h1, h2, h3⟩ := c.ex
  exact pe_of (pe_meth he cl h2 h1 hr h3 .nil pass0 ha hst hpl ht) fun σ H Q q => meth_run hx (fun _ _ _ z => z) q
theorem pE_meth0 (cl : Cls X.K C) (c : CalM X.prog X.w X.K X.mg X.base C k x n g) (hr : Room k X.A) (hx : ∀ v l, (dayF v l).lookup x = none) (he : PE X o (tE X.K mo)) {pl : Sem Bool}
    (ht : eval (.Call (.Attribute o x apos) [] [] pos) X.env = (do
      let ov ← eval o X.env
      standAt apos.atName
      let (f, first) ← holding [ov] (getMethod ov x pl)
      callWith pos f first (backTo pos (starEach [] X.env)) (backToKw pos (keywordEach [] X.env))) := by rfl) : PE X (.Call (.Attribute o x apos) [] [] pos) (tE X.K (sMeth C n g mo sNil)) := by
  obtain ⟨f, fd, ps, h0, h1, h2, h3⟩ := c.ex
  refine pe_of (pe_meth0 he cl h2 h1 hr h3 .nil pass0 ht) fun σ H Q q => meth_run hx (fun σ H Q z => ?_) q
  obtain ⟨ρ, w, rs, μ', rfl, e2, ok, s, kk⟩ := z
  cases e2
  exact kk w [] rfl ok (.refl w) .nil
/-- a call without arguments -/
theorem pE_call0 (c : Cal X.prog X.w X.K X.mg X.base k x n g) (hr : Room k X.A) (hg : Gl X x) (hdb : (x == ("__debug__" : Str)) = false := by decide) : PE X (.Call (.Name x p) [] [] pos) (tE X.K (sCall n g sNil)) := by
  obtain ⟨f, fd, ps, h0, h1, h2, h3, h4⟩ := c.ex
  refine pe_of (pe_call0 h1 hr hg h2 h3 h4 .nil pass0 hdb) fun σ H Q q => ?_
  have q2 := args_run (t := fun vs H1 Q1 => spF X.K n g (vs ++ []) H1 Q1 E0) (fun w rs vs r μ' Q1 e1 ok rp k1 => (by
    split at e1
    · rename_i hl
      exact ⟨w, rs, r, μ', rfl, by rw [List.append_nil, ← rp.length]; exact hl, e1, ok, by rw [List.append_nil]; exact rp, k1⟩
    · cases e1)) q
  obtain ⟨ρ, w, rs, μ', rfl, e2, ok, s, kk⟩ := q2
  cases e2
  exact kk w [] rfl ok (.refl w) .nil
end
/-! ### raise: nothing is promised -/
@[simp] def sNo : Ss := fun _ _ => none
theorem pS_no {X : Cx} {st : Stmt} : PS X st (tS X.K sNo) := ⟨fun pins s σ H D I h => by
  obtain ⟨_, _, _, _, _, _, e, _⟩ := h
  cases e⟩
theorem pss_no {X : Cx} {st : List Stmt} : PSs X st (fun _ _ _ => False) := ⟨fun pins s σ H D I h => h.elim⟩
end Sh
set_option Elab.async false
set_option linter.all false
set_option maxRecDepth 100000
set_option maxHeartbeats 1000000
namespace Sh
open PySem L2 PyProof.Rows
/-! ### an instance that the store does not know yet -/
/-- its fields changed -/
def Wd.fld (w : Wd) (x : Addr) (o : HO) : Wd := { w with H := upd w.H x o }
section
variable {w : Wd} {x C dx : Addr} {fs fs' : List (Str × V)}
theorem Wd.fld_live (o : HO) (a : Addr) : (w.fld x o).live a ↔ w.live a := Iff.rfl
theorem Wd.fld_F (e : w.F x = some (.ins C dx fs)) (o : HO) : (w.fld x o).F = upd w.F x o := by
  funext a
  by_cases ha : a = x
  · subst ha
    have hn : ¬ (w.fld a o).live a := (Wd.F_some e).2
    rw [upd_same]
    exact (Wd.F_not hn).trans upd_same
  · rw [upd_ne ha]
    by_cases hv : w.live a
    · rw [Wd.F_live (show (w.fld x o).live a from hv), Wd.F_live hv]
    · rw [Wd.F_not (show ¬ (w.fld x o).live a from hv), Wd.F_not hv]
      exact upd_ne ha
theorem leR_ins {F : Hp} (e : F x = some (.ins C dx fs)) (F' : Hp) (h : ∀ a, a ≠ x → F' a = F a) : LeR F F' := by
  have ne : ∀ a u, F a = some u → (∀ C dx fs, u ≠ .ins C dx fs) → F' a = some u := fun a u q n => by
    rw [h a fun z => by subst z; rw [e] at q; cases q; exact n _ _ _ rfl]; exact q
  exact ⟨fun a xs q => ne a _ q fun _ _ _ z => (by cases z), fun a xs q => ne a _ q fun _ _ _ z => (by cases z),
    fun a xs q => q.elim (fun q => .inl (ne a _ q fun _ _ _ z => (by cases z))) fun ⟨o, q⟩ => .inr ⟨o, ne a _ q fun _ _ _ z => (by cases z)⟩,
    fun a xs q => q.elim (fun q => .inl (ne a _ q fun _ _ _ z => (by cases z))) fun ⟨o, q⟩ => .inr ⟨o, ne a _ q fun _ _ _ z => (by cases z)⟩⟩
theorem Wd.fld_leR (e : w.F x = some (.ins C dx fs)) : LeR w.F (w.fld x (.ins C dx fs')).F :=
  leR_ins e _ fun a ha => by rw [Wd.fld_F e]; exact upd_ne ha
theorem Wd.fld_ok (h : w.Ok) (e : w.F x = some (.ins C dx fs)) : (w.fld x (.ins C dx fs')).Ok :=
  ⟨h.len, h.inj, fun k m a e1 e2 => (h.ok k m a e1 e2).mono (Wd.fld_leR e) (fun hd => upd_ne fun q => (Wd.F_some e).2 ⟨k, m, e1, hd, q ▸ e2⟩) fun _ _ _ q => q⟩
theorem Wd.fld_at (e : w.F x = some (.ins C dx fs)) (o : HO) : (w.fld x o).F x = some o := by rw [Wd.fld_F e]; exact upd_same
theorem Wd.fld_ne (e : w.F x = some (.ins C dx fs)) (o : HO) {a : Addr} (ha : a ≠ x) : (w.fld x o).F a = w.F a := by rw [Wd.fld_F e]; exact upd_ne ha
end
/-- it comes into the store -/
def Wd.wake (w : Wd) (x : Addr) (m : Mo) : Wd := ⟨w.μ ++ [m], w.A ++ [x], w.H⟩
section
variable {w : Wd} {x C dx : Addr} {v : V} {l : Addr} {y : PyData} {j : Nat}
theorem Wd.wake_live (h : w.Ok) {m : Mo} (hd : m ≠ Mo.dead) (a : Addr) : (w.wake x m).live a ↔ w.live a ∨ a = x := Wd.new_live (o := .own 0) h hd a
theorem Wd.wake_ne (h : w.Ok) {m : Mo} (hd : m ≠ Mo.dead) {a : Addr} (ha : a ≠ x) : (w.wake x m).F a = w.F a := by
  by_cases hv : w.live a
  · rw [Wd.F_live ((Wd.wake_live h hd a).mpr (.inl hv)), Wd.F_live hv]
  · rw [Wd.F_not fun z => ((Wd.wake_live h hd a).mp z).elim hv ha, Wd.F_not hv]; rfl
theorem Wd.wake_ok (h : w.Ok) (e : w.F x = some (.ins C dx (dayF v l))) (r : Rp w.F v y) (hj : j < w.μ.length) (hl : w.A[j]? = some l) : (w.wake x (.day C y j)).Ok ∧ LeR w.F (w.wake x (.day C y j)).F := by
  have hd : Mo.day C y j ≠ Mo.dead := by intro z; cases z
  have le : LeR w.F (w.wake x (.day C y j)).F := leR_ins e _ fun a ha => Wd.wake_ne h hd ha
  refine ⟨⟨by show (w.A ++ [x]).length = (w.μ ++ [_]).length; rw [List.length_append, List.length_append, h.len]; rfl, ?_, ?_⟩, le⟩
  · intro i k p q a e1 e2 d1 d2 f1 f2
    have nA : ∀ (k : Nat) (p : Mo), w.μ[k]? = some p → p ≠ Mo.dead → w.A[k]? = some x → False := fun k p q1 q2 q3 => (Wd.F_some e).2 ⟨k, p, q1, q2, q3⟩
    rcases Wd.new_at (o := .own 0) h e1 f1 with ⟨g1, h1⟩ | ⟨g1, r1, s1⟩ <;> rcases Wd.new_at (o := .own 0) h e2 f2 with ⟨g2, h2⟩ | ⟨g2, r2, s2⟩
    · exact h.inj i k p q a g1 g2 d1 d2 h1 h2
    · rw [s2] at h1; exact (nA _ _ g1 d1 h1).elim
    · rw [s1] at h2; exact (nA _ _ g2 d2 h2).elim
    · rw [g1, g2]
  · intro k p a e1 e2
    rcases Wd.new_at (o := .own 0) h e1 e2 with ⟨e1, e2⟩ | ⟨rfl, rfl, rfl⟩
    · exact (h.ok k p a e1 e2).mono le (fun _ => rfl) fun i b _ q => (get_snoc _ _ _ _).mpr (.inl q)
    · exact ⟨dx, v, l, (Wd.F_some e).1, Rp.mono le _ _ r, hj, (get_snoc _ _ _ _).mpr (.inl hl)⟩
end
theorem dayF_no {x : Str} (h1 : (x == ("yard" : Str)) = false) (h2 : (x == ("rows" : Str)) = false) (v : V) (l : Addr) : (dayF v l).lookup x = none := by
  show (match (x == ("yard" : Str)) with | true => some v | false => (match (x == ("rows" : Str)) with | true => some (V.ref l) | false => none)) = none
  rw [h1, h2]
/-! ### Day(yard, first) -/
def spDay (K : PySem.W.Frag) (C : Addr) (T1 T2 T3 : Sb) : Sp := fun vs H Q _ => ∃ (w : Wd) (x dx : Addr) (v f : V) (y d : PyData), vs = [.ref x, v, f] ∧ w.Ok ∧ w.H x = none ∧ w.H dx = none ∧ dx ≠ x ∧ H = upd (upd w.H dx (.own x)) x (.ins C dx []) ∧ Rp w.F v y ∧ Rp w.F f d ∧
  T1 [none, some (.d y), some (.d d)] w.μ = some (false, w.μ) ∧ T2 [none, some (.d y), some (.d d)] w.μ = some (false, w.μ) ∧ T3 [none, some (.d y), some (.d d)] w.μ = some (false, w.μ) ∧
  ∀ (u : Wd), u.μ = w.μ ++ [.lst [d], .day C y w.μ.length] → u.Ok → w.le u → u.A[w.μ.length + 1]? = some x → Q .non u.H
theorem day_slots {K : PySem.W.Frag} {w : Wd} {x : Addr} {v f : V} {y d : PyData} (r1 : Rp w.F v y) (r2 : Rp w.F f d) : Slots K [none, some (.d y), some (.d d)] w [some (.ref x), some v, some f] := by
  refine ⟨rfl, fun i r e => ?_⟩
  match i, e with
  | 1, e => cases e; exact ⟨v, rfl, r1⟩
  | 2, e => cases e; exact ⟨f, rfl, r2⟩
theorem init_read {K : PySem.W.Frag} {C : Addr} {T1 T2 T3 : Sb} (cl : Cls K C) (nY : NoAttr K C "yard") (nR : NoAttr K C "rows") {vs : List V} {H : Hp} {Q : VK} {E : XK} (h : spDay K C T1 T2 T3 vs H Q E) (D : Ends) (hD : ∀ σ H, Q .non H → D.nx σ H) :
    tSeq (tIfS (tB K T1) (fun _ _ _ => False) tNext) (tSeq (tIfS (tB K T2) (fun _ _ _ => False) tNext) (tSeq (tIfS (tB K T3) (fun _ _ _ => False) tNext)
      (tSeq (sFld K (tVar 0) (tVar 1) "yard") (sFld K (tVar 0) (tLst (tCons (tVar 2) tNil)) "rows")))) D (vs.map some) H := by
  obtain ⟨w, x, dx, v, f, y, d, rfl, ok, hx, hdx, ne, rfl, rv, rf, t1, t2, t3, k⟩ := h
  have ok0 := Wd.put_ok (o := .own x) ok hdx
  have le0 := Wd.put_le (o := .own x) ok hdx
  have hx0 : (w.put dx (.own x)).H x = none := (upd_ne (fun q => ne q.symm)).trans hx
  have ok1 := Wd.put_ok (o := .ins C dx []) ok0 hx0
  have le1 := le0.trans (Wd.put_le (o := .ins C dx []) ok0 hx0)
  have at1 := Wd.put_at (o := .ins C dx []) ok0 hx0
  generalize hz : (w.put dx (.own x)).put x (.ins C dx []) = z1 at ok1 le1 at1
  have e1 : z1.μ = w.μ := by subst hz; rfl
  have eH : upd (upd w.H dx (.own x)) x (.ins C dx []) = z1.H := by subst hz; rfl
  rw [eH]
  have sl : ∀ u : Wd, w.le u → Slots K [none, some (.d y), some (.d d)] u [some (.ref x), some v, some f] := fun u le => day_slots (Rp.mono le.le _ _ rv) (Rp.mono le.le _ _ rf)
  refine ⟨_, z1, false, w.μ, rfl, by rw [e1]; exact t1, ok1, sl z1 le1, fun u1 eu1 oku1 leu1 => ?_⟩
  refine iteF ?_
  refine ⟨_, u1, false, w.μ, rfl, by rw [eu1]; exact t2, oku1, sl u1 (le1.trans leu1), fun u2 eu2 oku2 leu2 => ?_⟩
  refine iteF ?_
  refine ⟨_, u2, false, w.μ, rfl, by rw [eu2]; exact t3, oku2, sl u2 (le1.trans (leu1.trans leu2)), fun u eu oku leu3 => ?_⟩
  refine iteF ?_
  have leu := leu1.trans (leu2.trans leu3)
  have le := le1.trans leu
  have hi : u.F x = some (.ins C dx []) := leu.ins _ _ _ _ at1
  have eA : u.A = w.A := by
    obtain ⟨t, et⟩ := le.pre
    have h1 : u.A.length = w.A.length := by rw [oku.len, ok.len, eu]
    rw [← et, List.length_append] at h1
    have : t = [] := List.eq_nil_of_length_eq_zero (by omega)
    rw [← et, this, List.append_nil]
  refine ⟨v, rfl, .ref x, rfl, x, C, dx, [], rfl, (Wd.F_some hi).1, cl, nY, (by show 0 < 1000; decide), ?_⟩
  have oka := Wd.fld_ok (fs' := putF "yard" v []) oku hi
  have lea := Wd.fld_leR (fs' := putF "yard" v []) hi
  have ata := Wd.fld_at hi (.ins C dx (putF "yard" v []))
  have nea : ∀ a, a ≠ x → (u.fld x (.ins C dx (putF "yard" v []))).F a = u.F a := fun a ha => Wd.fld_ne hi _ ha
  generalize hza : u.fld x (.ins C dx (putF "yard" v [])) = za at oka lea ata nea
  have ea : za.μ = w.μ := by subst hza; exact eu
  have eaA : za.A = w.A := by subst hza; exact eA
  have eaH : upd u.H x (.ins C dx (putF "yard" v [])) = za.H := by subst hza; rfl
  rw [eaH]
  refine ⟨f, rfl, (by show 1 ≤ sizeLine; decide), fun p hp => ?_⟩
  have npx : x ≠ p := ne_of_none (Wd.F_some ata).1 hp
  have hd : Mo.lst [d] ≠ Mo.dead := by intro z; cases z
  have lef : LeR w.F za.F := le.le.trans lea
  have okb := Wd.new_ok (m := .lst [d]) (o := .lst [f]) oka hd hp ⟨[f], upd_same, .one (Rp.mono lef _ _ rf)⟩
  have leb := Wd.new_le (m := .lst [d]) (o := .lst [f]) oka hd hp
  have sb := Wd.new_same (m := .lst [d]) (o := .lst [f]) oka hd hp
  have atb := leb.ins _ _ _ _ ata
  have el : w.A.length = w.μ.length := ok.len
  have gb : (za.A ++ [p])[w.μ.length]? = some p := by rw [eaA, ← el]; exact (get_snoc _ _ _ _).mpr (.inr ⟨rfl, rfl⟩)
  generalize hzb : za.new p (.lst [d]) (.lst [f]) = zb at okb leb sb atb
  have eb : zb.μ = w.μ ++ [.lst [d]] := by subst hzb; show za.μ ++ _ = _; rw [ea]
  have ebA : zb.A = w.A ++ [p] := by subst hzb; show za.A ++ _ = _; rw [eaA]
  have ebH : upd za.H p (.lst [f]) = zb.H := by subst hzb; rfl
  rw [ebH]
  refine ⟨.ref x, rfl, x, C, dx, _, rfl, (Wd.F_some atb).1, cl, nR, (by show 1 < 1000; decide), ?_⟩
  have ep : putF ("rows" : Str) (.ref p) (putF ("yard" : Str) v []) = dayF v p := by
    show (if ("yard" : Str) = "rows" then _ else _) = _
    rw [if_neg (by decide +kernel)]
    rfl
  rw [ep]
  have okc := Wd.fld_ok (fs' := dayF v p) okb atb
  have lec := Wd.fld_leR (fs' := dayF v p) atb
  have atc := Wd.fld_at atb (.ins C dx (dayF v p))
  have nec : ∀ a, a ≠ x → (zb.fld x (.ins C dx (dayF v p))).F a = zb.F a := fun a ha => Wd.fld_ne atb _ ha
  generalize hzc : zb.fld x (.ins C dx (dayF v p)) = zc at okc lec atc nec
  have ec : zc.μ = w.μ ++ [.lst [d]] := by subst hzc; exact eb
  have ecA : zc.A = w.A ++ [p] := by subst hzc; exact ebA
  have ecH : upd zb.H x (.ins C dx (dayF v p)) = zc.H := by subst hzc; rfl
  rw [ecH]
  have lew : LeR w.F zc.F := lef.trans (leb.le.trans lec)
  obtain ⟨okd, led⟩ := Wd.wake_ok (y := y) (j := w.μ.length) okc atc (Rp.mono lew _ _ rv) (by rw [ec, List.length_append, List.length_singleton]; omega) (by rw [ecA, ← el]; exact (get_snoc _ _ _ _).mpr (.inr ⟨rfl, rfl⟩))
  have hdy : Mo.day C y w.μ.length ≠ Mo.dead := by intro z; cases z
  have ned : ∀ a, a ≠ x → (zc.wake x (.day C y w.μ.length)).F a = zc.F a := fun a ha => Wd.wake_ne okc hdy ha
  refine hD _ _ (k (zc.wake x (.day C y w.μ.length)) ?_ okd ⟨?_, lew.trans led, fun a o z e => ?_, fun a c b z e => ?_⟩ ?_)
  · show zc.μ ++ [_] = _
    rw [ec, List.append_assoc]; rfl
  · show w.A <+: zc.A ++ [x]
    rw [ecA, List.append_assoc]
    exact List.prefix_append _ _
  · have ha : a ≠ x := fun q => by subst q; rw [(Wd.F_some e).1] at hx; cases hx
    rw [ned a ha, nec a ha]
    exact leb.frz _ _ _ (by rw [nea a ha]; exact le.frz _ _ _ e)
  · have ha : a ≠ x := fun q => by subst q; rw [(Wd.F_some e).1] at hx; cases hx
    rw [ned a ha, nec a ha]
    exact leb.ins _ _ _ _ (by rw [nea a ha]; exact le.ins _ _ _ _ e)
  · show (zc.A ++ [x])[w.μ.length + 1]? = some x
    have : w.μ.length + 1 = zc.A.length := by rw [ecA, List.length_append, el]; rfl
    rw [this]
    exact (get_snoc _ _ _ _).mpr (.inr ⟨rfl, rfl⟩)
/-- what a caller knows of the class -/
structure CalC (P : Program) (w : World) (K : PySem.W.Frag) (mg : Str → Option Value) (base : Heap) (C : Addr) (k : Nat) (x : Str) (T1 T2 T3 : Sb) : Prop where
  ex : ∃ (f : Addr) (fd : FuncData) (ps : List Str), FnOk P w K mg base CX0 k f fd ps (spDay K C T1 T2 T3) ∧ Mk K C f ∧ mg x = some (.ref C) ∧ Binds K fd ps []
noncomputable def dayB (T1 T2 T3 : Sb) (y d : PyData) (μ : Mu) : Bool := @decide (T1 [none, some (.d y), some (.d d)] μ = some (false, μ) ∧ T2 [none, some (.d y), some (.d d)] μ = some (false, μ) ∧ T3 [none, some (.d y), some (.d d)] μ = some (false, μ)) (Classical.propDecidable _)
theorem dayB_eq {T1 T2 T3 : Sb} {y d : PyData} {μ : Mu} (h1 : T1 [none, some (.d y), some (.d d)] μ = some (false, μ)) (h2 : T2 [none, some (.d y), some (.d d)] μ = some (false, μ)) (h3 : T3 [none, some (.d y), some (.d d)] μ = some (false, μ)) : dayB T1 T2 T3 y d μ = true := @decide_eq_true _ (Classical.propDecidable _) ⟨h1, h2, h3⟩
@[simp] noncomputable def fDay (C : Addr) (T1 T2 T3 : Sb) : FA := fun μ rs => match rs with
  | [.d y, .d d] => if dayB T1 T2 T3 y d μ then some (.m (μ.length + 1), μ ++ [.lst [d], .day C y μ.length]) else none
  | _ => none
section
variable {X : Cx} {e : Expr} {es : List Expr} {pos p : Pos} {C : Addr} {ma : Sa} {k : Nat} {x : Str} {T1 T2 T3 : Sb}
theorem pE_make (c : CalC X.prog X.w X.K X.mg X.base C k x T1 T2 T3) (hr : Room (k + 1) X.A) (hg : Gl X x) (ha : PA X (e :: es) (tAs X.K ma)) (hdb : (x == ("__debug__" : Str)) = false := by decide)
    (he : starEach (e :: es) X.env = (false, eval e X.env) :: starEach es X.env := by rfl) (hpl : (backTo pos (starEach es X.env)).any (·.1) = false := by rfl) : PE X (.Call (.Name x p) (e :: es) [] pos) (tE X.K (sA (fDay C T1 T2 T3) ma)) := by
  obtain ⟨f, fd, ps, h1, M, h2, h3⟩ := c.ex
  refine pe_of (pe_make M h1 hr hg h2 h3 .nil pass0 ha hdb he hpl) fun σ H Q q => ?_
  refine args_run (t := fun vs H1 Q1 => ∀ x dx, H1 x = none → H1 dx = none → dx ≠ x → spDay X.K C T1 T2 T3 (.ref x :: (vs ++ [])) (upd (upd H1 dx (.own x)) x (.ins C dx [])) (fun v H2 => v = .non ∧ Q1 (.ref x) H2) E0) (fun w rs vs r μ' Q1 e1 ok rp k1 => ?_) q
  unfold fDay at e1
  split at e1
  · rename_i y d
    split at e1
    · rename_i hb
      cases e1
      obtain ⟨h1, h2, h3⟩ := @of_decide_eq_true _ (Classical.propDecidable _) hb
      intro x dx hx hdx ne
      obtain ⟨v, f, rfl, rv, rf⟩ := Paired.two rp
      exact ⟨w, x, dx, v, f, y, d, rfl, ok, hx, hdx, ne, rfl, rv, rf, h1, h2, h3, fun u eu oku le ha => ⟨rfl, k1 u _ eu oku le ⟨x, ha, rfl⟩⟩⟩
    · cases e1
  · cases e1
end
end Sh
set_option Elab.async false
set_option linter.all false
set_option maxRecDepth 100000
set_option maxHeartbeats 1000000
namespace Sh
open PySem L2 PyProof.Rows
/-! ### list(range(..)), tuple(range(i, j)) -/
noncomputable def bRg (i j : Int) : Bool := @decide (-4096 ≤ i ∧ i ≤ 4096 ∧ -4096 ≤ j ∧ j ≤ 4096) (Classical.propDecidable _)
theorem bRg_eq {i j : Int} (h1 : -4096 ≤ i) (h2 : i ≤ 4096) (h3 : -4096 ≤ j) (h4 : j ≤ 4096) : bRg i j = true := @decide_eq_true _ (Classical.propDecidable _) ⟨h1, h2, h3, h4⟩
theorem bRg_ok {i j : Int} (h : bRg i j = true) : RgOk i j := by
  obtain ⟨h1, h2, h3, h4⟩ := @of_decide_eq_true _ (Classical.propDecidable _) h
  exact ⟨by omega, by omega, by omega, by omega, by omega⟩
theorem rg_ints2 {F : Hp} (i j : Int) : RpAll F (rgV i j) (rngD i (j - i).toNat) := by
  have e1 : rgV i j = ((List.range (j - i).toNat).map fun (k : Nat) => (i + (k : Int))).map V.int := by
    unfold rgV
    rw [List.map_map]; rfl
  have e2 : rngD i (j - i).toNat = ((List.range (j - i).toNat).map fun (k : Nat) => (i + (k : Int))).map PyData.int := by
    unfold rngD
    rw [List.map_map]; rfl
  rw [e1, e2]
  exact RpAll.ofInts _
@[simp] noncomputable def fTupRg2 : F2 := fun μ x y => match x, y with
  | .d (.int i), .d (.int j) => if bRg i j then some (.d (.tuple (rngD i (j - i).toNat)), μ) else none
  | _, _ => none
@[simp] noncomputable def fLstRg2 (b : Bool) : F2 := fun μ x y => match x, y with
  | .d (.int i), .d (.int j) => if bRg i j then some (mkL b (rngD i (j - i).toNat) μ) else none
  | _, _ => none
@[simp] noncomputable def fLstRg (b : Bool) : F1 := fun μ x => match x with
  | .d (.int j) => if bRg 0 j then some (mkL b (rngD 0 j.toNat) μ) else none
  | _ => none
section
variable {X : Cx} {a b : Expr} {p p2 pos pos2 : Pos} {m m2 : Sm}
theorem pE_tupRg2 (hc : X.calm = true) (hg : Gl X "tuple") (hm : X.mg "tuple" = none) (hg2 : Gl X "range") (hm2 : X.mg "range" = none) (he : PE X a (tE X.K m)) (he2 : PE X b (tE X.K m2))
    (na : starEach [a, b] X.env = (false, eval a X.env) :: starEach [b] X.env := by rfl) (nb : starEach [b] X.env = (false, eval b X.env) :: starEach [] X.env := by rfl) (hp : (backTo pos2 (starEach [b] X.env)).any (·.1) = false := by rfl)
    (hs2 : starEach [.Call (.Name "range" p2) [a, b] [] pos2] X.env = (false, eval (.Call (.Name "range" p2) [a, b] [] pos2) X.env) :: starEach [] X.env := by rfl) :
    PE X (.Call (.Name "tuple" p) [.Call (.Name "range" p2) [a, b] [] pos2] [] pos) (tE X.K (s2 fTupRg2 m m2)) :=
  pe_of (pe_tupRg hc hg hm (prg_2 hg2 hm2 he he2 na nb hp) hs2) fun σ H Q q => two_run (t := fun x y H1 Q => ∃ i j, x = .int i ∧ y = .int j ∧ RgOk i j ∧ ∀ q, H1 q = none → Q (.ref q) (upd H1 q (.tup (rgV i j)))) (by
    intro w x y v z r μ' Q e ok rx ry k
    unfold fTupRg2 at e
    split at e
    · rename_i i j
      split at e
      · rename_i hb
        cases e
        have rx : Rp w.F v (.int i) := rx
        have ry : Rp w.F z (.int j) := ry
        cases rx
        cases ry
        exact ⟨i, j, rfl, rfl, bRg_ok hb, fun p hp => mkT_ok ok hp (rg_ints2 i j) k⟩
      · cases e
    · cases e) q
theorem pE_lstRg2 {fl : Bool} (hc : X.calm = true) (hg : Gl X "list") (hm : X.mg "list" = none) (hg2 : Gl X "range") (hm2 : X.mg "range" = none) (he : PE X a (tE X.K m)) (he2 : PE X b (tE X.K m2))
    (na : starEach [a, b] X.env = (false, eval a X.env) :: starEach [b] X.env := by rfl) (nb : starEach [b] X.env = (false, eval b X.env) :: starEach [] X.env := by rfl) (hp : (backTo pos2 (starEach [b] X.env)).any (·.1) = false := by rfl)
    (hs2 : starEach [.Call (.Name "range" p2) [a, b] [] pos2] X.env = (false, eval (.Call (.Name "range" p2) [a, b] [] pos2) X.env) :: starEach [] X.env := by rfl) :
    PE X (.Call (.Name "list" p) [.Call (.Name "range" p2) [a, b] [] pos2] [] pos) (tE X.K (s2 (fLstRg2 fl) m m2)) :=
  pe_of (pe_listRg hc hg hm (prg_2 hg2 hm2 he he2 na nb hp) hs2) fun σ H Q q => two_run (t := fun x y H1 Q => ∃ i j, x = .int i ∧ y = .int j ∧ RgOk i j ∧ ∀ q, H1 q = none → Q (.ref q) (upd H1 q (.lst (rgV i j)))) (by
    intro w x y v z r μ' Q e ok rx ry k
    unfold fLstRg2 at e
    split at e
    · rename_i i j
      split at e
      · rename_i hb
        have rx : Rp w.F v (.int i) := rx
        have ry : Rp w.F z (.int j) := ry
        cases rx
        cases ry
        exact ⟨i, j, rfl, rfl, bRg_ok hb, fun p hp => mkL_ok ok hp (rg_ints2 i j) (by simpa using e) k⟩
      · cases e
    · cases e) q
theorem pE_lstRg {fl : Bool} (hc : X.calm = true) (hg : Gl X "list") (hm : X.mg "list" = none) (hg2 : Gl X "range") (hm2 : X.mg "range" = none) (he : PE X a (tE X.K m))
    (hs : starEach [a] X.env = (false, eval a X.env) :: starEach [] X.env := by rfl)
    (hs2 : starEach [.Call (.Name "range" p2) [a] [] pos2] X.env = (false, eval (.Call (.Name "range" p2) [a] [] pos2) X.env) :: starEach [] X.env := by rfl) :
    PE X (.Call (.Name "list" p) [.Call (.Name "range" p2) [a] [] pos2] [] pos) (tE X.K (s1 (fLstRg fl) m)) :=
  pe_of (pe_listRg hc hg hm (prg_1 hg2 hm2 he hs) hs2) fun σ H Q q => one_run (t := fun v H1 Q => ∃ n, v = .int n ∧ RgOk 0 n ∧ ∀ q, H1 q = none → Q (.ref q) (upd H1 q (.lst (rgV 0 n)))) (by
    intro w x v r μ' Q e ok rx k
    unfold fLstRg at e
    split at e
    · rename_i n
      split at e
      · rename_i hb
        have rx : Rp w.F v (.int n) := rx
        cases rx
        have e2 := rg_ints2 (F := w.F) 0 n
        rw [Int.sub_zero] at e2
        exact ⟨n, rfl, bRg_ok hb, fun p hp => mkL_ok ok hp e2 (by simpa using e) k⟩
      · cases e
    · cases e) q
end
/-! ### a list some times -/
@[simp] def fMulL (b : Bool) : F2 := fun μ x y => match rd μ x, rd μ y with
  | some (.list xs), some (.int k) => if xs.length ≤ 100 ∧ 0 ≤ k ∧ k ≤ 20 then some (mkL b (List.replicate k.toNat xs).flatten μ) else none
  | _, _ => none
theorem o2_mulL {K : PySem.W.Frag} {b : Bool} : Op2 K (fMulL b) rRep := by
  intro w x y v z r μ' Q e ok rx ry k
  unfold fMulL at e
  split at e
  · rename_i xs j ex ey
    obtain ⟨a, vs, h1, h2, h3⟩ := RpR.rd ok rx ex
    have h4 : z = V.int j := RpR.rd ok ry ey
    subst h4
    split at e
    · rename_i hb
      have hm : vs.length * j.toNat ≤ 100 * 20 := Nat.mul_le_mul (by rw [h3.length]; exact hb.1) (by omega)
      exact ⟨a, j, vs, h1, rfl, h2, by omega, by omega, line4096 (by omega), fun p hp => mkL_ok ok hp (h3.rep _) (by simpa using e) k⟩
    · cases e
  · cases e
end Sh
namespace Sh
def runStep (acc : List (Int × Int)) (h : Int) : List (Int × Int) := match acc.getLast? with
  | some p => if p.2 = h - 1 then acc.dropLast ++ [(p.1, h)] else acc ++ [(h, h)]
  | none => [(h, h)]
def runsL (hs : List Int) : List (Int × Int) := hs.foldl runStep []
def nums (n : Nat) : List Int := (List.range n).map fun (i : Nat) => (i : Int)
def upto (p : Nat → Bool) (k : Nat) : List Int := (nums k).filter fun h => p h.toNat
theorem runsL_snoc (hs : List Int) (h : Int) : runsL (hs ++ [h]) = runStep (runsL hs) h := by
  unfold runsL
  rw [List.foldl_append]; rfl
theorem upto_succ (p : Nat → Bool) (k : Nat) : upto p (k + 1) = if p k then upto p k ++ [(k : Int)] else upto p k := by
  unfold upto nums
  rw [List.range_succ, List.map_append, List.filter_append]
  simp
  cases c : p k <;> simp [c]
end Sh
set_option linter.all false
namespace Sh
/-! ### choosing those who last the longest -/
theorem take_top {P : Int → Bool} : ∀ (Z : List Int) (m : Nat), Z.Pairwise (fun a b => P b = true → P a = true) → (Z.take m).countP P = min m (Z.countP P)
  | [], m, _ => by simp
  | z :: zs, 0, _ => by simp
  | z :: zs, m + 1, h => by
    obtain ⟨h1, h2⟩ := List.pairwise_cons.mp h
    rw [List.take_succ_cons, List.countP_cons, List.countP_cons, take_top zs m h2]
    cases hz : P z with
    | true => simp
    | false =>
      have : zs.countP P = 0 := by
        rw [List.countP_eq_zero]
        intro a ha hp
        have := h1 a ha hp
        rw [hz] at this
        cases this
      simp [this]
theorem choose_top (X : List Int) (hX : X.Nodup) (U : Nat) (P : Nat → Int → Bool) (anti : ∀ u v x, u ≤ v → P v x = true → P u x = true) (m : Nat) (hm : m ≤ X.length) :
    ∃ Y : List Int, Y.Nodup ∧ (∀ y ∈ Y, y ∈ X) ∧ Y.length = m ∧ ∀ u, u < U → Y.countP (P u) = min m (X.countP (P u)) := by
  let e : Int → Nat := fun x => (List.range U).countP fun u => P u x
  have mono : ∀ u, u < U → ∀ a b, e b ≤ e a → P u b = true → P u a = true := by
    intro u hu a b hab hb
    cases ha : P u a with
    | true => rfl
    | false =>
      exfalso
      have l1 : u + 1 ≤ e b := by
        show u + 1 ≤ (List.range U).countP fun v => P v b
        have : (List.range (u + 1)).countP (fun v => P v b) = u + 1 := by
          have : (List.range (u + 1)).countP (fun v => P v b) = (List.range (u + 1)).length := by
            rw [List.countP_eq_length]
            intro v hv
            exact anti v u b (by have := List.mem_range.mp hv; omega) hb
          rw [this, List.length_range]
        rw [← this]
        exact List.Sublist.countP_le (List.range_sublist.mpr (by omega))
      have l2 : e a ≤ u := by
        show (List.range U).countP (fun v => P v a) ≤ u
        have hs : List.range U = List.range u ++ (List.range (U - u)).map (u + ·) := by
          rw [← List.range_add]
          congr 1
          omega
        rw [hs, List.countP_append]
        have z : ((List.range (U - u)).map (u + ·)).countP (fun v => P v a) = 0 := by
          rw [List.countP_eq_zero]
          intro v hv hp
          obtain ⟨k, _, rfl⟩ := List.mem_map.mp hv
          have := anti u (u + k) a (by omega) hp
          rw [ha] at this
          cases this
        rw [z]
        have := List.countP_le_length (p := fun v => P v a) (l := List.range u)
        rw [List.length_range] at this
        omega
      omega
  let le : Int → Int → Bool := fun a b => decide (e b ≤ e a)
  have tr : ∀ a b c, le a b = true → le b c = true → le a c = true := by
    intro a b c h1 h2
    simp only [le, decide_eq_true_eq] at *
    omega
  have tot : ∀ a b, (le a b || le b a) = true := by
    intro a b
    simp only [le, Bool.or_eq_true, decide_eq_true_eq]
    omega
  have pm := List.mergeSort_perm X le
  have ps := List.pairwise_mergeSort tr tot X
  refine ⟨(X.mergeSort le).take m, ?_, ?_, ?_, ?_⟩
  · exact (pm.nodup_iff.mpr hX).sublist (List.take_sublist _ _)
  · intro y hy
    exact pm.mem_iff.mp (List.mem_of_mem_take hy)
  · rw [List.length_take, pm.length_eq]; omega
  · intro u hu
    rw [take_top _ _ (ps.imp fun {a b} h hb => mono u hu a b (by simpa [le] using h) hb), pm.countP_eq]
end Sh
namespace Sh
theorem cnt_swap {A B : List Int} (hA : A.Nodup) (hB : B.Nodup) (p : Int → Bool) : A.countP (fun x => B.contains x && p x) = B.countP (fun x => A.contains x && p x) := by
  rw [List.countP_eq_length_filter, List.countP_eq_length_filter]
  refine List.Perm.length_eq ((List.perm_ext_iff_of_nodup (hA.sublist List.filter_sublist) (hB.sublist List.filter_sublist)).mpr fun x => ?_)
  rw [List.mem_filter, List.mem_filter]
  simp only [Bool.and_eq_true, List.contains_iff_mem]
  constructor
  · rintro ⟨a, b, c⟩; exact ⟨b, a, c⟩
  · rintro ⟨a, b, c⟩; exact ⟨b, a, c⟩
theorem cnt_le {A B : List Int} (hA : A.Nodup) (hB : B.Nodup) (p : Int → Bool) (h : ∀ x ∈ A, p x = true → x ∈ B) : A.countP p ≤ B.countP p := by
  have e1 : A.countP p = A.countP (fun x => B.contains x && p x) := by
    refine List.countP_congr fun x hx => ?_
    cases hp : p x with
    | true => simp [h x hx hp]
    | false => simp
  rw [e1, cnt_swap hA hB]
  exact List.countP_mono_left fun x _ hx => by simp at hx; exact hx.2
theorem cnt_split (A : List Int) (p q : Int → Bool) : A.countP p = A.countP (fun x => q x && p x) + A.countP (fun x => !q x && p x) := by
  induction A with
  | nil => rfl
  | cons a A ih =>
    rw [List.countP_cons, List.countP_cons, List.countP_cons, ih]
    cases p a <;> cases q a <;> simp <;> omega
/-- shaded all of s .. u -/
def al (S : Nat → List Int) (s u : Nat) (x : Int) : Bool := decide (∀ v, v < u + 1 → s ≤ v → x ∈ S v)
theorem al_iff {S : Nat → List Int} {s u : Nat} {x : Int} : al S s u x = true ↔ ∀ v, s ≤ v → v ≤ u → x ∈ S v := by
  unfold al
  rw [decide_eq_true_eq]
  exact ⟨fun h v h1 h2 => h v (by omega) h1, fun h v h1 h2 => h v h2 (by omega)⟩
def cc (S : Nat → List Int) (s u : Nat) : Nat := (S s).countP (al S s u)
/-- the hours of a lot, falling: what it shows beyond n -/
def wt (S : Nat → List Int) (n : Nat) : List Nat → Int
  | u :: v :: r => ((n : Int) - (cc S v u : Int)) + wt S n (v :: r)
  | _ => 0
inductive Sit (S : Nat → List Int) (n : Nat) : Nat → List (List Int) → Int → Prop
  | one {R : List Int} : R.Nodup → (∀ x ∈ R, x ∈ S 0) → R.length = n → Sit S n 0 [R] 0
  | step {t : Nat} {R R' : List Int} {rs : List (List Int)} {g : Int} : Sit S n t (R :: rs) g → R'.Nodup → (∀ x ∈ R', x ∈ S (t + 1)) → R'.length = n → Sit S n (t + 1) (R' :: R :: rs) (g + (R'.countP (fun x => !R.contains x) : Int))
theorem Sit.top {S : Nat → List Int} {n t : Nat} {R : List Int} {rs : List (List Int)} {g : Int} (h : Sit S n t (R :: rs) g) : R.Nodup ∧ (∀ x ∈ R, x ∈ S t) ∧ R.length = n ∧ 0 ≤ g := by
  generalize e : R :: rs = L at h
  induction h generalizing R rs with
  | one h1 h2 h3 => cases e; exact ⟨h1, h2, h3, by omega⟩
  | step h h1 h2 h3 ih =>
    cases e
    obtain ⟨_, _, _, h4⟩ := ih rfl
    exact ⟨h1, h2, h3, by omega⟩
theorem out_in {A B : List Int} (hA : A.Nodup) (hB : B.Nodup) (h : A.length = B.length) : A.countP (fun x => !B.contains x) = B.countP (fun x => !A.contains x) := by
  have e1 := cnt_split A (fun _ => true) (fun x => B.contains x)
  have e2 := cnt_split B (fun _ => true) (fun x => A.contains x)
  have e3 := cnt_swap hA hB (fun _ => true)
  have l1 : A.countP (fun _ => true) = A.length := List.countP_eq_length.mpr fun _ _ => rfl
  have l2 : B.countP (fun _ => true) = B.length := List.countP_eq_length.mpr fun _ _ => rfl
  simp only [Bool.and_true] at e1 e2 e3
  omega
/-- no lot shows more than a seating has sittings -/
theorem weak {S : Nat → List Int} (hS : ∀ t, (S t).Nodup) {n t : Nat} {R : List Int} {rs : List (List Int)} {g : Int} (h : Sit S n t (R :: rs) g) :
    ∀ (v : Nat) (L : List Nat), (v :: L).Pairwise (· > ·) → v ≤ t → (n : Int) - (R.countP (al S v t) : Int) + wt S n (v :: L) ≤ g := by
  generalize e : R :: rs = Rs at h
  induction h generalizing R rs with
  | @one R h1 h2 h3 =>
    cases e
    intro v L hp hv
    have : v = 0 := by omega
    subst this
    cases L with
    | cons a L =>
      have := (List.pairwise_cons.mp hp).1 a List.mem_cons_self
      omega
    | nil =>
      have : R.countP (al S 0 0) = R.length := List.countP_eq_length.mpr fun x hx => al_iff.mpr fun w w1 w2 => by
        have : w = 0 := by omega
        subst this; exact h2 x hx
      rw [this, h3]
      simp [wt]
  | @step t R0 R rs0 g0 h h1 h2 h3 ih =>
    cases e
    obtain ⟨r1, r2, r3, r4⟩ := h.top
    have key : ∀ (v : Nat) (L : List Nat), (v :: L).Pairwise (· > ·) → v ≤ t → (n : Int) - (R.countP (al S v (t + 1)) : Int) + wt S n (v :: L) ≤ g0 + (R.countP (fun x => !R0.contains x) : Int) := by
      intro v L hp hv
      have i1 := ih rfl v L hp hv
      have s1 := cnt_split R0 (al S v t) (fun x => R.contains x)
      have s2 := cnt_swap r1 h1 (al S v t)
      have s3 : R.countP (fun x => R0.contains x && al S v t x) ≤ R.countP (al S v (t + 1)) := by
        refine List.countP_mono_left fun x hx hq => ?_
        simp only [Bool.and_eq_true] at hq
        refine al_iff.mpr fun w w1 w2 => ?_
        by_cases hw : w ≤ t
        · exact al_iff.mp hq.2 w w1 hw
        · have : w = t + 1 := by omega
          subst this; exact h2 x hx
      have s4 : R0.countP (fun x => !R.contains x && al S v t x) ≤ R0.countP (fun x => !R.contains x) := List.countP_mono_left fun x hx hq => by
        simp only [Bool.and_eq_true] at hq
        exact hq.1
      have s5 := out_in r1 h1 (r3.trans h3.symm)
      omega
    intro v L hp hv
    by_cases hvt : v ≤ t
    · exact key v L hp hvt
    · have : v = t + 1 := by omega
      subst this
      have full : R.countP (al S (t + 1) (t + 1)) = n := by
        rw [← h3]
        refine List.countP_eq_length.mpr fun x hx => al_iff.mpr fun w w1 w2 => ?_
        have : w = t + 1 := by omega
        subst this; exact h2 x hx
      cases L with
      | nil => rw [full]; simp only [wt]; omega
      | cons a L =>
        obtain ⟨p1, p2⟩ := List.pairwise_cons.mp hp
        have ha := p1 a List.mem_cons_self
        have k := key a L p2 (by omega)
        have s6 : R.countP (al S a (t + 1)) ≤ cc S a (t + 1) := cnt_le h1 (hS a) _ fun x hx hq => al_iff.mp hq a (by omega) (by omega)
        rw [full]
        show (n : Int) - n + (((n : Int) - (cc S a (t + 1) : Int)) + wt S n (a :: L)) ≤ _
        omega
end Sh
namespace Sh
theorem al_anti {S : Nat → List Int} {s u v : Nat} {x : Int} (h : u ≤ v) (q : al S s v x = true) : al S s u x = true :=
  al_iff.mpr fun w w1 w2 => al_iff.mp q w w1 (by omega)
/-- a seating that wants no more sittings than a lot shows -/
theorem strong {S : Nat → List Int} (hS : ∀ t, (S t).Nodup) {n T : Nat} (hn : ∀ t, t < T → n ≤ (S t).length) : ∀ t, t < T → ∃ (R : List Int) (rs : List (List Int)) (g : Int), Sit S n t (R :: rs) g ∧
    (∃ L0 : List Nat, (t :: L0).Pairwise (· > ·) ∧ wt S n (t :: L0) = g) ∧
    ∀ u, t < u → u < T → ∃ L : List Nat, (u :: L).Pairwise (· > ·) ∧ (∀ x ∈ L, x ≤ t) ∧ wt S n (u :: L) = (n : Int) - (R.countP (al S t u) : Int) + g := by
  intro t
  induction t with
  | zero =>
    intro h0
    obtain ⟨R, r1, r2, r3, r4⟩ := choose_top (S 0) (hS 0) T (fun u => al S 0 u) (fun u v x h q => al_anti h q) n (hn 0 h0)
    refine ⟨R, [], 0, .one r1 r2 r3, ⟨[], by simp, rfl⟩, fun u u1 u2 => ?_⟩
    have e := r4 u u2
    have e : R.countP (al S 0 u) = min n (cc S 0 u) := e
    by_cases c : n ≤ cc S 0 u
    · refine ⟨[], by simp, by simp, ?_⟩
      rw [e, Nat.min_eq_left c]
      simp only [wt]; omega
    · refine ⟨[0], by simp; omega, by simp, ?_⟩
      rw [e, Nat.min_eq_right (by omega)]
      simp only [wt]
  | succ t ih =>
    intro ht
    obtain ⟨R, rs, g, hs, _, hc⟩ := ih (by omega)
    obtain ⟨r1, r2, r3, r4⟩ := hs.top
    generalize hkept : R.filter (fun x => (S (t + 1)).contains x) = kept
    generalize hcand : (S (t + 1)).filter (fun x => !R.contains x) = cand
    have nk : kept.Nodup := hkept ▸ r1.sublist List.filter_sublist
    have nc : cand.Nodup := hcand ▸ (hS (t + 1)).sublist List.filter_sublist
    have mk : ∀ x, x ∈ kept ↔ x ∈ R ∧ x ∈ S (t + 1) := fun x => by rw [← hkept, List.mem_filter]; simp
    have mc : ∀ x, x ∈ cand ↔ x ∈ S (t + 1) ∧ x ∉ R := fun x => by rw [← hcand, List.mem_filter]; simp
    have lk : kept.length = R.countP (fun x => (S (t + 1)).contains x) := by rw [← hkept, List.countP_eq_length_filter]
    have lc : cand.length = (S (t + 1)).countP (fun x => !R.contains x) := by rw [← hcand, List.countP_eq_length_filter]
    have hkn : kept.length ≤ n := by rw [lk, ← r3]; exact List.countP_le_length
    have hm : n - kept.length ≤ cand.length := by
      have e1 := cnt_split (S (t + 1)) (fun _ => true) (fun x => R.contains x)
      have e2 := cnt_swap r1 (hS (t + 1)) (fun _ => true)
      have e3 : (S (t + 1)).countP (fun _ => true) = (S (t + 1)).length := List.countP_eq_length.mpr fun _ _ => rfl
      simp only [Bool.and_true] at e1 e2 e3
      have := hn (t + 1) ht
      omega
    obtain ⟨Y, y1, y2, y3, y4⟩ := choose_top cand nc T (fun u => al S (t + 1) u) (fun u v x h q => al_anti h q) (n - kept.length) hm
    have nd : (kept ++ Y).Nodup := List.nodup_append.mpr ⟨nk, y1, fun a ha b hb hab => by
      subst hab
      exact ((mc a).mp (y2 a hb)).2 ((mk a).mp ha).1⟩
    have sub : ∀ x ∈ kept ++ Y, x ∈ S (t + 1) := fun x hx => by
      rcases List.mem_append.mp hx with h | h
      · exact ((mk x).mp h).2
      · exact ((mc x).mp (y2 x h)).1
    have len : (kept ++ Y).length = n := by rw [List.length_append, y3]; omega
    have new : (kept ++ Y).countP (fun x => !R.contains x) = n - kept.length := by
      rw [List.countP_append]
      have a1 : kept.countP (fun x => !R.contains x) = 0 := List.countP_eq_zero.mpr fun x hx => by simp [((mk x).mp hx).1]
      have a2 : Y.countP (fun x => !R.contains x) = Y.length := List.countP_eq_length.mpr fun x hx => by simp [((mc x).mp (y2 x hx)).2]
      omega
    have k1 : R.countP (al S t (t + 1)) = kept.length := by
      rw [lk]
      refine List.countP_congr fun x hx => ?_
      rw [al_iff]
      simp only [List.contains_iff_mem]
      constructor
      · intro h; exact h (t + 1) (by omega) (by omega)
      · intro h w w1 w2
        by_cases hw : w = t
        · subst hw; exact r2 x hx
        · have : w = t + 1 := by omega
          subst this; exact h
    obtain ⟨L1, m1, m2, m3⟩ := hc (t + 1) (by omega) ht
    refine ⟨kept ++ Y, R :: rs, _, .step hs nd sub len, ⟨L1, m1, by rw [m3, k1, new]; omega⟩, fun u u1 u2 => ?_⟩
    have k2 : kept.countP (al S (t + 1) u) = R.countP (al S t u) := by
      rw [← hkept, List.countP_filter]
      refine List.countP_congr fun x hx => ?_
      simp only [Bool.and_eq_true, List.contains_iff_mem, al_iff]
      constructor
      · rintro ⟨h1, h2⟩ w w1 w2
        by_cases hw : w = t
        · subst hw; exact r2 x hx
        · exact h1 w (by omega) w2
      · intro h
        exact ⟨fun w w1 w2 => h w (by omega) w2, h (t + 1) (by omega) (by omega)⟩
    have k3 : cand.countP (al S (t + 1) u) + R.countP (al S t u) = cc S (t + 1) u := by
      have e1 := cnt_split (S (t + 1)) (al S (t + 1) u) (fun x => R.contains x)
      have e2 := cnt_swap (hS (t + 1)) r1 (al S (t + 1) u)
      have e3 : R.countP (fun x => (S (t + 1)).contains x && al S (t + 1) u x) = kept.countP (al S (t + 1) u) := by
        rw [← hkept, List.countP_filter]
        exact List.countP_congr fun x _ => by simp [Bool.and_comm]
      have e4 : (S (t + 1)).countP (fun x => !R.contains x && al S (t + 1) u x) = cand.countP (al S (t + 1) u) := by
        rw [← hcand, List.countP_filter]
        exact List.countP_congr fun x _ => by simp [Bool.and_comm]
      unfold cc
      omega
    have k4 := y4 u u2
    obtain ⟨L, l1, l2, l3⟩ := hc u (by omega) u2
    rw [new, List.countP_append, k2]
    have k4 : Y.countP (al S (t + 1) u) = min (n - kept.length) (cand.countP (al S (t + 1) u)) := k4
    by_cases c : n - kept.length ≤ cand.countP (al S (t + 1) u)
    · refine ⟨L, l1, fun x hx => by have := l2 x hx; omega, ?_⟩
      rw [l3, k4, Nat.min_eq_left c]
      omega
    · refine ⟨(t + 1) :: L1, List.pairwise_cons.mpr ⟨fun a ha => ?_, m1⟩, fun x hx => ?_, ?_⟩
      · rcases List.mem_cons.mp ha with rfl | ha
        · exact u1
        · have := m2 a ha; omega
      · rcases List.mem_cons.mp hx with rfl | hx
        · exact Nat.le_refl _
        · have := m2 x hx; omega
      · show ((n : Int) - (cc S (t + 1) u : Int)) + wt S n ((t + 1) :: L1) = _
        rw [m3, k1, k4, Nat.min_eq_right (by omega)]
        omega
end Sh
namespace Sh
/-- the fewest sittings are what some lot shows -/
theorem duality {S : Nat → List Int} (hS : ∀ t, (S t).Nodup) {n T : Nat} (hT : 1 ≤ T) (hn : ∀ t, t < T → n ≤ (S t).length) :
    ∃ (R : List Int) (rs : List (List Int)) (g : Int) (L : List Nat), Sit S n (T - 1) (R :: rs) g ∧ L ≠ [] ∧ L.Pairwise (· > ·) ∧ (∀ x ∈ L, x < T) ∧ wt S n L = g ∧
    ∀ (R' : List Int) (rs' : List (List Int)) (g' : Int), Sit S n (T - 1) (R' :: rs') g' → g ≤ g' := by
  obtain ⟨R, rs, g, h1, ⟨L0, h2, h3⟩, _⟩ := strong hS hn (T - 1) (by omega)
  refine ⟨R, rs, g, (T - 1) :: L0, h1, by simp, h2, fun x hx => ?_, h3, fun R' rs' g' h' => ?_⟩
  · rcases List.mem_cons.mp hx with rfl | hx
    · omega
    · have := (List.pairwise_cons.mp h2).1 x hx; omega
  · have w := weak hS h' (T - 1) L0 h2 (Nat.le_refl _)
    obtain ⟨r1, r2, r3, r4⟩ := h'.top
    have full : R'.countP (al S (T - 1) (T - 1)) = n := by
      rw [← r3]
      refine List.countP_eq_length.mpr fun x hx => al_iff.mpr fun w w1 w2 => ?_
      have : w = T - 1 := by omega
      subst this; exact r2 x hx
    rw [full, h3] at w
    omega
/-- each lot shows at most what each seating wants -/
theorem weak_lot {S : Nat → List Int} (hS : ∀ t, (S t).Nodup) {n T : Nat} (hT : 1 ≤ T) {R : List Int} {rs : List (List Int)} {g : Int} (h : Sit S n (T - 1) (R :: rs) g) (L : List Nat) (hp : L.Pairwise (· > ·)) (hl : ∀ x ∈ L, x < T) : wt S n L ≤ g := by
  cases L with
  | nil =>
    have := h.top.2.2.2
    simpa [wt] using this
  | cons v L =>
    have w := weak hS h v L hp (by have := hl v List.mem_cons_self; omega)
    have := List.countP_le_length (p := al S v (T - 1)) (l := R)
    have := h.top.2.2.1
    omega
end Sh
namespace Sh
/-! ### how many runs hold two hours -/
structure RInv (p : Nat → Bool) (T : Nat) (rs : List (Int × Int)) : Prop where
  ends : ∀ r ∈ rs, r.2 < (T : Int)
  last : ∀ r, rs.getLast? = some r → 0 ≤ r.1 ∧ r.1 ≤ r.2 ∧ (∀ h : Nat, r.1 ≤ (h : Int) → (h : Int) ≤ r.2 → p h = true) ∧ (∀ h : Nat, (h : Int) = r.1 - 1 → p h = false)
  open_ : ∀ k : Nat, k + 1 = T → p k = true → ∃ r, rs.getLast? = some r ∧ r.2 = (k : Int)
  cnt : ∀ l m : Nat, l ≤ m → m < T → rs.countP (fun r => decide (r.1 ≤ (l : Int)) && decide ((m : Int) ≤ r.2)) = if (∀ h, h < m + 1 → l ≤ h → p h = true) then 1 else 0
theorem rinv (p : Nat → Bool) : ∀ T : Nat, RInv p T (runsL (upto p T))
  | 0 => ⟨fun r h => by simp [upto, nums, runsL] at h, fun r h => by simp [upto, nums, runsL] at h, fun k h => by omega, fun l m h1 h2 => by omega⟩
  | T + 1 => by
    have ih := rinv p T
    rw [upto_succ]
    cases hp : p T with
    | false =>
      rw [if_neg Bool.false_ne_true]
      generalize runsL (upto p T) = rs at ih
      refine ⟨fun r h => by have := ih.ends r h; omega, ih.last, fun k hk h => ?_, fun l m h1 h2 => ?_⟩
      · have : k = T := by omega
        subst this
        rw [hp] at h; cases h
      · by_cases c : m < T
        · exact ih.cnt l m h1 c
        · have : m = T := by omega
          subst this
          rw [if_neg (fun q => by have := q m (by omega) h1; rw [hp] at this; cases this)]
          rw [List.countP_eq_zero]
          intro r hr hq
          have := ih.ends r hr
          simp at hq
          omega
    | true =>
      rw [if_pos rfl, runsL_snoc]
      generalize runsL (upto p T) = rs at ih
      have close : (∀ r, rs.getLast? = some r → r.2 ≠ (T : Int) - 1) → RInv p (T + 1) (rs ++ [((T : Int), (T : Int))]) := by
        intro hc
        have before : ∀ h : Nat, (h : Int) = (T : Int) - 1 → p h = false := by
          intro h hh
          cases hq : p h with
          | false => rfl
          | true =>
            obtain ⟨r, e1, e2⟩ := ih.open_ h (by omega) hq
            exact absurd (by omega) (hc r e1)
        refine ⟨fun r h => ?_, fun r h => ?_, fun k hk h => ⟨((T : Int), (T : Int)), by simp, by show (T : Int) = (k : Int); omega⟩, fun l m h1 h2 => ?_⟩
        · rcases List.mem_append.mp h with h | h
          · have := ih.ends r h; omega
          · rw [List.mem_singleton.mp h]; show (T : Int) < _; omega
        · simp at h
          subst h
          refine ⟨by omega, by omega, fun h h1 h2 => ?_, before⟩
          have : h = T := by omega
          subst this; exact hp
        · rw [List.countP_append]
          by_cases c : m < T
          · rw [ih.cnt l m h1 c]
            have : [((T : Int), (T : Int))].countP (fun r => decide (r.1 ≤ (l : Int)) && decide ((m : Int) ≤ r.2)) = 0 := by
              rw [List.countP_eq_zero]
              intro r hr hq
              rw [List.mem_singleton.mp hr] at hq
              simp at hq
              omega
            rw [this]; rfl
          · have : m = T := by omega
            subst this
            have z : rs.countP (fun r => decide (r.1 ≤ (l : Int)) && decide ((m : Int) ≤ r.2)) = 0 := by
              rw [List.countP_eq_zero]
              intro r hr hq
              have := ih.ends r hr
              simp at hq
              omega
            rw [z]
            by_cases d : l = m
            · subst d
              rw [if_pos (fun h a b => by have : h = l := by omega
                                          subst this; exact hp)]
              simp
            · rw [if_neg (fun q => by
                have := q (m - 1) (by omega) (by omega)
                rw [before (m - 1) (by omega)] at this
                cases this)]
              simp
              omega
      rcases List.eq_nil_or_concat rs with rfl | ⟨init, ⟨b, e⟩, rfl⟩
      · exact close fun r h => by simp at h
      · by_cases he : e = (T : Int) - 1
        · have es : runStep (init ++ [(b, e)]) T = init ++ [(b, (T : Int))] := by
            unfold runStep
            simp [he]
          have es : runStep (init.concat (b, e)) T = init ++ [(b, (T : Int))] := by rw [List.concat_eq_append]; exact es
          rw [es]
          rw [List.concat_eq_append] at ih
          obtain ⟨b0, b1, b2, b3⟩ := ih.last (b, e) (by simp)
          refine ⟨fun r h => ?_, fun r h => ?_, fun k hk h => ⟨(b, (T : Int)), by simp, by show (T : Int) = (k : Int); omega⟩, fun l m h1 h2 => ?_⟩
          · rcases List.mem_append.mp h with h | h
            · have := ih.ends r (List.mem_append_left _ h); omega
            · rw [List.mem_singleton.mp h]; show (T : Int) < _; omega
          · simp at h
            subst h
            refine ⟨b0, by show b ≤ (T : Int); have : b ≤ e := b1; omega, fun h h1 h2 => ?_, b3⟩
            by_cases c : (h : Int) ≤ e
            · exact b2 h h1 c
            · have : h = T := by have : (h : Int) ≤ (T : Int) := h2; omega
              subst this; exact hp
          · by_cases c : m < T
            · rw [← ih.cnt l m h1 c, List.countP_append, List.countP_append]
              congr 1
              have hd : decide ((m : Int) ≤ (T : Int)) = decide ((m : Int) ≤ e) := by rw [decide_eq_decide]; omega
              rw [List.countP_cons, List.countP_cons]
              simp only [hd]
            · have : m = T := by omega
              subst this
              rw [List.countP_append]
              have z : init.countP (fun r => decide (r.1 ≤ (l : Int)) && decide ((m : Int) ≤ r.2)) = 0 := by
                rw [List.countP_eq_zero]
                intro r hr hq
                have := ih.ends r (List.mem_append_left _ hr)
                simp at hq
                omega
              rw [z]
              by_cases d : b ≤ (l : Int)
              · rw [if_pos (fun h h1 h2 => by
                  by_cases c : (h : Int) ≤ e
                  · exact b2 h (by show b ≤ (h : Int); omega) c
                  · have : h = m := by omega
                    subst this; exact hp)]
                simp [d]
              · obtain ⟨k, rfl⟩ := Int.eq_ofNat_of_zero_le b0
                rw [if_neg (fun q => by
                  have b1 : (k : Int) ≤ e := b1
                  have := q (k - 1) (by omega) (by omega)
                  rw [b3 (k - 1) (by show ((k - 1 : Nat) : Int) = (k : Int) - 1; omega)] at this
                  cases this)]
                simp
                omega
        · have es : runStep (init.concat (b, e)) T = init.concat (b, e) ++ [((T : Int), (T : Int))] := by
            unfold runStep
            simp [he]
          rw [es]
          exact close fun r h => by
            simp at h
            subst h
            exact he
end Sh
namespace Sh
/-! ### what a lot shows, by neighbouring hours -/
def prs (q : Nat → Nat → Bool) : List Nat → Nat
  | l :: m :: r => (if q l m then 1 else 0) + prs q (m :: r)
  | _ => 0
def inR (r : Int × Int) (h : Nat) : Bool := decide (r.1 ≤ (h : Int)) && decide ((h : Int) ≤ r.2)
theorem run_prs (r : Int × Int) : ∀ L : List Nat, L.Pairwise (· < ·) → L.countP (inR r) - 1 = prs (fun l m => decide (r.1 ≤ (l : Int)) && decide ((m : Int) ≤ r.2)) L
  | [], _ => rfl
  | [l], _ => by
    rw [List.countP_cons]
    simp only [prs, List.countP_nil]
    split <;> omega
  | l :: m :: t, hp => by
    obtain ⟨h1, h2⟩ := List.pairwise_cons.mp hp
    have ih := run_prs r (m :: t) h2
    have hlm := h1 m List.mem_cons_self
    rw [List.countP_cons]
    show _ = (if (decide (r.1 ≤ (l : Int)) && decide ((m : Int) ≤ r.2)) = true then 1 else 0) + prs _ (m :: t)
    rw [← ih]
    by_cases c1 : r.1 ≤ (l : Int)
    · by_cases c2 : (m : Int) ≤ r.2
      · have a1 : inR r l = true := by simp [inR, c1]; omega
        have a2 : inR r m = true := by simp [inR, c2]; omega
        have a3 : 1 ≤ (m :: t).countP (inR r) := by rw [List.countP_cons, if_pos a2]; omega
        rw [if_pos a1]
        simp [c1, c2]
        omega
      · have z : (m :: t).countP (inR r) = 0 := by
          rw [List.countP_eq_zero]
          intro a ha hq
          have : m ≤ a := by
            rcases List.mem_cons.mp ha with rfl | ha
            · exact Nat.le_refl _
            · exact Nat.le_of_lt ((List.pairwise_cons.mp h2).1 a ha)
          simp [inR] at hq
          omega
        rw [z]
        simp [c2]
        split <;> omega
    · have a1 : inR r l = false := by simp [inR]; omega
      simp [a1, c1]
def prN (f : Nat → Nat → Nat) : List Nat → Nat
  | l :: m :: r => f l m + prN f (m :: r)
  | _ => 0
theorem prs_prN (q : Nat → Nat → Bool) : ∀ L : List Nat, prs q L = prN (fun l m => if q l m then 1 else 0) L
  | [] => rfl
  | [l] => rfl
  | l :: m :: t => by
    show _ + prs q (m :: t) = _ + prN _ (m :: t)
    rw [prs_prN q (m :: t)]
theorem prN_add (f g : Nat → Nat → Nat) : ∀ L : List Nat, prN (fun l m => f l m + g l m) L = prN f L + prN g L
  | [] => rfl
  | [l] => rfl
  | l :: m :: t => by
    show (f l m + g l m) + prN _ (m :: t) = (f l m + prN f (m :: t)) + (g l m + prN g (m :: t))
    rw [prN_add f g (m :: t)]; omega
theorem prN_zero : ∀ L : List Nat, prN (fun _ _ => 0) L = 0
  | [] => rfl
  | [l] => rfl
  | l :: m :: t => by
    show 0 + prN _ (m :: t) = 0
    rw [prN_zero (m :: t)]
theorem prN_congr {f g : Nat → Nat → Nat} {T : Nat} (h : ∀ l m, l < m → m < T → f l m = g l m) : ∀ L : List Nat, L.Pairwise (· < ·) → (∀ x ∈ L, x < T) → prN f L = prN g L
  | [], _, _ => rfl
  | [l], _, _ => rfl
  | l :: m :: t, hp, hl => by
    obtain ⟨h1, h2⟩ := List.pairwise_cons.mp hp
    show f l m + prN f (m :: t) = g l m + prN g (m :: t)
    rw [h l m (h1 m List.mem_cons_self) (hl m (by simp)), prN_congr h (m :: t) h2 fun x hx => hl x (List.mem_cons_of_mem _ hx)]
theorem sum_prs {α : Type} (q : α → Nat → Nat → Bool) (L : List Nat) : ∀ rs : List α, (rs.map fun r => prs (q r) L).sum = prN (fun l m => rs.countP fun r => q r l m) L
  | [] => by simp [prN_zero]
  | r :: rs => by
    rw [List.map_cons, List.sum_cons, sum_prs q L rs, prs_prN, ← prN_add]
    congr 1
    funext l m
    rw [List.countP_cons]
    omega
/-- the runs of one seat, all hours of the lot before T -/
theorem runs_prs (p : Nat → Bool) (T : Nat) (L : List Nat) (hp : L.Pairwise (· < ·)) (hl : ∀ x ∈ L, x < T) :
    ((runsL (upto p T)).map fun r => L.countP (inR r) - 1).sum = prs (fun l m => decide (∀ h, h < m + 1 → l ≤ h → p h = true)) L := by
  have e : ((runsL (upto p T)).map fun r => L.countP (inR r) - 1) = (runsL (upto p T)).map fun r => prs (fun l m => decide (r.1 ≤ (l : Int)) && decide ((m : Int) ≤ r.2)) L :=
    List.map_congr_left fun r _ => run_prs r L hp
  rw [e, sum_prs (α := Int × Int) (fun (r : Int × Int) (l m : Nat) => decide (r.1 ≤ (l : Int)) && decide ((m : Int) ≤ r.2)) L, prs_prN]
  refine prN_congr (T := T) (fun l m h1 h2 => ?_) L hp hl
  rw [(rinv p T).cnt l m (by omega) h2]
  simp
end Sh
namespace Sh
theorem cc_cnt {Ss : List Int} {f : Int → Nat → Bool} {l m : Nat} (h : l ≤ m) : cc (fun t => Ss.filter fun s => f s t) l m = Ss.countP fun s => decide (∀ h, h < m + 1 → l ≤ h → f s h = true) := by
  unfold cc
  rw [List.countP_filter]
  refine List.countP_congr fun s hs => ?_
  rw [Bool.and_eq_true, al_iff, decide_eq_true_eq]
  constructor
  · rintro ⟨h1, _⟩ v v1 v2
    exact (List.mem_filter.mp (h1 v v2 (by omega))).2
  · intro h1
    exact ⟨fun v v1 v2 => List.mem_filter.mpr ⟨hs, h1 v (by omega) v1⟩, h1 l (by omega) (Nat.le_refl _)⟩
theorem wt_snoc {S : Nat → List Int} {n : Nat} (m l : Nat) : ∀ A : List Nat, wt S n (A ++ [m, l]) = wt S n (A ++ [m]) + ((n : Int) - (cc S l m : Int))
  | [] => by simp [wt]
  | [a] => by simp [wt]
  | a :: b :: r => by
    have ih := wt_snoc (S := S) (n := n) m l (b :: r)
    show ((n : Int) - (cc S b a : Int)) + wt S n ((b :: r) ++ [m, l]) = (((n : Int) - (cc S b a : Int)) + wt S n ((b :: r) ++ [m])) + _
    rw [ih]; omega
theorem wt_rev {S : Nat → List Int} {n : Nat} : ∀ (L : List Nat), L ≠ [] → wt S n L.reverse + (prN (cc S) L : Int) + (n : Int) = (n : Int) * (L.length : Int)
  | [], h => absurd rfl h
  | [l], _ => by simp [wt, prN]
  | l :: m :: t, _ => by
    have ih := wt_rev (S := S) (n := n) (m :: t) (by simp)
    rw [List.reverse_cons, List.reverse_cons, List.append_assoc]
    show wt S n (t.reverse ++ [m, l]) + ((cc S l m + prN (cc S) (m :: t) : Nat) : Int) + (n : Int) = (n : Int) * ((m :: t).length + 1 : Nat)
    rw [wt_snoc]
    rw [List.reverse_cons] at ih
    rw [Int.natCast_add, Int.natCast_add, Int.mul_add]
    omega
/-- what a lot shows: by all seats' runs, and by its neighbouring hours -/
theorem shows_wt (Ss : List Int) (f : Int → Nat → Bool) (n T : Nat) (L : List Nat) (h0 : L ≠ []) (hp : L.Pairwise (· < ·)) (hl : ∀ x ∈ L, x < T) :
    (n : Int) * (L.length : Int) - (((Ss.map fun s => ((runsL (upto (f s) T)).map fun r => L.countP (inR r) - 1).sum).sum : Nat) : Int) = (n : Int) + wt (fun t => Ss.filter fun s => f s t) n L.reverse := by
  have e : (Ss.map fun s => ((runsL (upto (f s) T)).map fun r => L.countP (inR r) - 1).sum) = Ss.map fun s => prs (fun l m => decide (∀ h, h < m + 1 → l ≤ h → f s h = true)) L :=
    List.map_congr_left fun s _ => runs_prs (f s) T L hp hl
  rw [e, sum_prs (α := Int) (fun (s : Int) (l m : Nat) => decide (∀ h, h < m + 1 → l ≤ h → f s h = true)) L]
  have e2 : prN (fun l m => Ss.countP fun s => decide (∀ h, h < m + 1 → l ≤ h → f s h = true)) L = prN (cc fun t => Ss.filter fun s => f s t) L :=
    prN_congr (T := T) (fun l m h1 h2 => (cc_cnt (by omega)).symm) L hp hl
  rw [e2]
  have := wt_rev (S := fun t => Ss.filter fun s => f s t) (n := n) L h0
  omega
end Sh
namespace Sh
/-! ### lots of so many -/
def lotsStep (n : Nat) (found : List (List Int)) (x : Int) : List (List Int) := found ++ ((found.filter fun l => decide (l.length < n)).map fun l => l ++ [x])
def lotsAll (n : Nat) (xs : List Int) : List (List Int) := xs.foldl (lotsStep n) [[]]
def lotsL (n : Nat) (xs : List Int) : List (List Int) := (lotsAll n xs).filter fun l => decide (l.length = n)
theorem lotsAll_mem (n : Nat) : ∀ (xs : List Int) (acc : List (List Int)) (l : List Int), l ∈ xs.foldl (lotsStep n) acc ↔ ∃ a s, a ∈ acc ∧ s.Sublist xs ∧ l = a ++ s ∧ (s = [] ∨ l.length ≤ n)
  | [], acc, l => by
    constructor
    · intro h; exact ⟨l, [], h, List.Sublist.refl _, by simp, .inl rfl⟩
    · rintro ⟨a, s, h1, h2, h3, _⟩
      have := List.sublist_nil.mp h2
      subst this
      simpa [h3] using h1
  | x :: xs, acc, l => by
    rw [List.foldl_cons, lotsAll_mem n xs]
    constructor
    · rintro ⟨a, s, h1, h2, h3, h4⟩
      rcases List.mem_append.mp h1 with h | h
      · exact ⟨a, s, h, h2.cons x, h3, h4⟩
      · obtain ⟨b, hb, rfl⟩ := List.mem_map.mp h
        obtain ⟨hb1, hb2⟩ := List.mem_filter.mp hb
        have hb2 : b.length < n := of_decide_eq_true hb2
        refine ⟨b, x :: s, hb1, h2.cons_cons x, by rw [h3]; simp, .inr ?_⟩
        rcases h4 with rfl | h4
        · rw [h3]; simp; omega
        · exact h4
    · rintro ⟨a, s, h1, h2, h3, h4⟩
      cases h2 with
      | cons _ h2 => exact ⟨a, s, List.mem_append_left _ h1, h2, h3, h4⟩
      | cons_cons _ h2 =>
        rename_i s
        have hl : l.length ≤ n := h4.resolve_left (by simp)
        refine ⟨a ++ [x], s, List.mem_append_right _ (List.mem_map.mpr ⟨a, List.mem_filter.mpr ⟨h1, ?_⟩, rfl⟩), h2, by rw [h3]; simp, .inr hl⟩
        rw [h3] at hl
        simp at hl
        simp
        omega
theorem lots_mem {n : Nat} {xs l : List Int} : l ∈ lotsL n xs ↔ l.Sublist xs ∧ l.length = n := by
  unfold lotsL lotsAll
  rw [List.mem_filter, lotsAll_mem, decide_eq_true_eq]
  constructor
  · rintro ⟨⟨a, s, h1, h2, h3, _⟩, hl⟩
    simp at h1
    subst h1
    exact ⟨by simpa [h3] using h2, hl⟩
  · rintro ⟨h1, h2⟩
    exact ⟨⟨[], l, by simp, h1, by simp, .inr (by omega)⟩, h2⟩
end Sh
namespace Sh
/-! ### the table -/
def gone (a b : List Int) : Nat := b.countP fun x => !a.contains x
def IsB (S : Nat → List Int) (n : Nat) : Nat → List Int → Int → Prop
  | 0, _, v => v = (n : Int)
  | t + 1, b, v => (∃ a va, a ∈ lotsL n (S t) ∧ IsB S n t a va ∧ v = va + (gone a b : Int)) ∧ ∀ a va, a ∈ lotsL n (S t) → IsB S n t a va → v ≤ va + (gone a b : Int)
theorem IsB.uniq {S : Nat → List Int} {n : Nat} : ∀ {t : Nat} {b : List Int} {v w : Int}, IsB S n t b v → IsB S n t b w → v = w
  | 0, _, _, _, h1, h2 => h1.trans h2.symm
  | t + 1, _, _, _, ⟨⟨a, va, a1, a2, a3⟩, h1⟩, ⟨⟨c, vc, c1, c2, c3⟩, h2⟩ => by
    have := h1 c vc c1 c2
    have := h2 a va a1 a2
    omega
theorem least_of {α : Type} (f : α → Int) : ∀ (xs : List α), xs ≠ [] → ∃ x ∈ xs, ∀ y ∈ xs, f x ≤ f y
  | [], h => absurd rfl h
  | [x], _ => ⟨x, by simp, fun y hy => by rw [List.mem_singleton.mp hy]; omega⟩
  | x :: y :: r, _ => by
    obtain ⟨z, h1, h2⟩ := least_of f (y :: r) (by simp)
    by_cases c : f x ≤ f z
    · refine ⟨x, by simp, fun w hw => ?_⟩
      rcases List.mem_cons.mp hw with rfl | hw
      · omega
      · have := h2 w hw; omega
    · refine ⟨z, List.mem_cons_of_mem _ h1, fun w hw => ?_⟩
      rcases List.mem_cons.mp hw with rfl | hw
      · omega
      · exact h2 w hw
theorem lots_ne {n : Nat} {xs : List Int} (h : n ≤ xs.length) : lotsL n xs ≠ [] := by
  intro e
  have : xs.take n ∈ lotsL n xs := lots_mem.mpr ⟨List.take_sublist _ _, by rw [List.length_take]; omega⟩
  rw [e] at this
  cases this
theorem IsB.ex {S : Nat → List Int} {n : Nat} : ∀ (t : Nat), (∀ u, u < t → n ≤ (S u).length) → ∀ b, ∃ v, IsB S n t b v
  | 0, _, _ => ⟨_, rfl⟩
  | t + 1, hn, b => by
    have ih := IsB.ex (S := S) (n := n) t (fun u hu => hn u (by omega))
    let f : List Int → Int := fun a => Classical.choose (ih a) + (gone a b : Int)
    obtain ⟨a, h1, h2⟩ := least_of f (lotsL n (S t)) (lots_ne (hn t (by omega)))
    refine ⟨f a, ⟨a, _, h1, Classical.choose_spec (ih a), rfl⟩, fun c vc c1 c2 => ?_⟩
    have e := IsB.uniq c2 (Classical.choose_spec (ih c))
    rw [e]
    exact h2 c c1
theorem IsB.sit {S : Nat → List Int} (hS : ∀ t, (S t).Nodup) {n : Nat} : ∀ {t : Nat} {b : List Int} {v : Int}, IsB S n t b v → b ∈ lotsL n (S t) → ∃ rs, Sit S n t (b :: rs) (v - n)
  | 0, b, v, h, hb => by
    obtain ⟨h1, h2⟩ := lots_mem.mp hb
    have h : v = (n : Int) := h
    subst h
    rw [Int.sub_self]
    exact ⟨[], .one ((hS 0).sublist h1) (fun x hx => h1.subset hx) h2⟩
  | t + 1, b, v, ⟨⟨a, va, a1, a2, a3⟩, _⟩, hb => by
    obtain ⟨h1, h2⟩ := lots_mem.mp hb
    obtain ⟨rs, hs⟩ := IsB.sit hS a2 a1
    refine ⟨a :: rs, ?_⟩
    have e : v - (n : Int) = (va - n) + (b.countP (fun x => !a.contains x) : Int) := by
      rw [a3]; unfold gone; omega
    rw [e]
    exact .step hs ((hS (t + 1)).sublist h1) (fun x hx => h1.subset hx) h2
/-- a row in the order of its hour -/
def canon (S : List Int) (R : List Int) : List Int := S.filter fun x => R.contains x
theorem canon_mem {S R : List Int} (h : ∀ x ∈ R, x ∈ S) (x : Int) : x ∈ canon S R ↔ x ∈ R := by
  unfold canon
  rw [List.mem_filter]
  simp only [List.contains_iff_mem]
  exact ⟨fun q => q.2, fun q => ⟨h x q, q⟩⟩
theorem canon_perm {S R : List Int} (hS : S.Nodup) (hR : R.Nodup) (h : ∀ x ∈ R, x ∈ S) : (canon S R).Perm R :=
  (List.perm_ext_iff_of_nodup (hS.sublist List.filter_sublist) hR).mpr (canon_mem h)
theorem low {S : Nat → List Int} (hS : ∀ t, (S t).Nodup) {n t : Nat} (hn : ∀ u, u < t → n ≤ (S u).length) {R : List Int} {rs : List (List Int)} {g : Int} (h : Sit S n t (R :: rs) g) : ∀ v, IsB S n t (canon (S t) R) v → v ≤ (n : Int) + g := by
  generalize e : R :: rs = Rs at h
  induction h generalizing R rs with
  | one h1 h2 h3 => intro v hv; have hv : v = (n : Int) := hv; omega
  | @step t R0 R rs0 g0 h h1 h2 h3 ih =>
    cases e
    intro v hv
    obtain ⟨r1, r2, r3, r4⟩ := h.top
    have p0 := canon_perm (hS t) r1 r2
    have p1 := canon_perm (hS (t + 1)) h1 h2
    obtain ⟨va, hva⟩ := IsB.ex (S := S) (n := n) t (fun u hu => hn u (by omega)) (canon (S t) R0)
    have i := ih (fun u hu => hn u (by omega)) rfl va hva
    have hm : canon (S t) R0 ∈ lotsL n (S t) := lots_mem.mpr ⟨List.filter_sublist, p0.length_eq.trans r3⟩
    have b := hv.2 _ _ hm hva
    have hg : gone (canon (S t) R0) (canon (S (t + 1)) R) = R.countP (fun x => !R0.contains x) := by
      unfold gone
      rw [p1.countP_eq]
      refine List.countP_congr fun x _ => ?_
      have := canon_mem r2 x
      simp only [Bool.not_eq_true', ← Bool.not_eq_true, List.contains_iff_mem]
      rw [this]
    rw [hg] at b
    omega
end Sh
namespace Sh
/-- the number told: the least of the last row -/
theorem number_dual {S : Nat → List Int} (hS : ∀ t, (S t).Nodup) {n T : Nat} (hT : 1 ≤ T) (hn : ∀ t, t < T → n ≤ (S t).length) {N : Int} {b : List Int} (hb : b ∈ lotsL n (S (T - 1))) (h1 : IsB S n (T - 1) b N)
    (h2 : ∀ c w, c ∈ lotsL n (S (T - 1)) → IsB S n (T - 1) c w → N ≤ w) :
    (∃ L : List Nat, L ≠ [] ∧ L.Pairwise (· > ·) ∧ (∀ x ∈ L, x < T) ∧ N = (n : Int) + wt S n L) ∧ (∀ L : List Nat, L.Pairwise (· > ·) → (∀ x ∈ L, x < T) → (n : Int) + wt S n L ≤ N) ∧ (n : Int) ≤ N := by
  obtain ⟨rs, hs⟩ := IsB.sit hS h1 hb
  obtain ⟨R, rs', g, L, d1, d2, d3, d4, d5, d6⟩ := duality hS hT hn
  have g1 := d6 _ _ _ hs
  obtain ⟨r1, r2, r3, r4⟩ := d1.top
  have pm := canon_perm (hS (T - 1)) r1 r2
  have hm : canon (S (T - 1)) R ∈ lotsL n (S (T - 1)) := lots_mem.mpr ⟨List.filter_sublist, pm.length_eq.trans r3⟩
  obtain ⟨v, hv⟩ := IsB.ex (S := S) (n := n) (T - 1) (fun u hu => hn u (by omega)) (canon (S (T - 1)) R)
  have l1 := low hS (fun u hu => hn u (by omega)) d1 v hv
  have l2 := h2 _ _ hm hv
  have t4 := hs.top.2.2.2
  refine ⟨⟨L, d2, d3, d4, by omega⟩, fun L' p1 p2 => ?_, by omega⟩
  have := weak_lot hS hT hs L' p1 p2
  omega
theorem wt_mono (S : Nat → List Int) (n : Nat) : ∀ L : List Nat, wt S n L ≤ wt S (n + 1) L
  | [] => by simp [wt]
  | [l] => by simp [wt]
  | l :: m :: t => by
    have ih := wt_mono S n (m :: t)
    show ((n : Int) - (cc S m l : Int)) + wt S n (m :: t) ≤ (((n + 1 : Nat) : Int) - (cc S m l : Int)) + wt S (n + 1) (m :: t)
    omega
/-- one more who sits wants at least one sitting more -/
theorem one_more {S : Nat → List Int} (hS : ∀ t, (S t).Nodup) {n T : Nat} (hT : 1 ≤ T) (hn : ∀ t, t < T → n + 1 ≤ (S t).length) {N M : Int} {b c : List Int} (hb : b ∈ lotsL n (S (T - 1))) (h1 : IsB S n (T - 1) b N)
    (h2 : ∀ c w, c ∈ lotsL n (S (T - 1)) → IsB S n (T - 1) c w → N ≤ w) (hc : c ∈ lotsL (n + 1) (S (T - 1))) (h3 : IsB S (n + 1) (T - 1) c M) (h4 : ∀ c w, c ∈ lotsL (n + 1) (S (T - 1)) → IsB S (n + 1) (T - 1) c w → M ≤ w) : N + 1 ≤ M := by
  obtain ⟨⟨L, _, l2, l3, l4⟩, _⟩ := number_dual hS hT (fun t ht => by have := hn t ht; omega) hb h1 h2
  obtain ⟨_, m2, _⟩ := number_dual hS hT hn hc h3 h4
  have a := m2 L l2 l3
  have w := wt_mono S n L
  omega
end Sh
namespace Sh
/-! ### all lots of hours, and the greatest of what they show -/
def allStep (ls : List (List Int)) (x : Int) : List (List Int) := ls ++ ls.map fun l => l ++ [x]
def allL (T : Nat) : List (List Int) := (nums T).foldl allStep [[]]
theorem all_mem : ∀ (xs : List Int) (acc : List (List Int)) (l : List Int), l ∈ xs.foldl allStep acc ↔ ∃ a s, a ∈ acc ∧ s.Sublist xs ∧ l = a ++ s
  | [], acc, l => by
    constructor
    · intro h; exact ⟨l, [], h, List.Sublist.refl _, by simp⟩
    · rintro ⟨a, s, h1, h2, h3⟩
      have := List.sublist_nil.mp h2
      subst this
      simpa [h3] using h1
  | x :: xs, acc, l => by
    rw [List.foldl_cons, all_mem xs]
    constructor
    · rintro ⟨a, s, h1, h2, h3⟩
      rcases List.mem_append.mp h1 with h | h
      · exact ⟨a, s, h, h2.cons x, h3⟩
      · obtain ⟨b, hb, rfl⟩ := List.mem_map.mp h
        exact ⟨b, x :: s, hb, h2.cons_cons x, by rw [h3]; simp⟩
    · rintro ⟨a, s, h1, h2, h3⟩
      cases h2 with
      | cons _ h2 => exact ⟨a, s, List.mem_append_left _ h1, h2, h3⟩
      | cons_cons _ h2 =>
        rename_i s
        exact ⟨a ++ [x], s, List.mem_append_right _ (List.mem_map.mpr ⟨a, h1, rfl⟩), h2, by rw [h3]; simp⟩
theorem allL_mem {T : Nat} {l : List Int} : l ∈ allL T ↔ l.Sublist (nums T) := by
  unfold allL
  rw [all_mem]
  constructor
  · rintro ⟨a, s, h1, h2, h3⟩
    simp at h1
    subst h1
    simpa [h3] using h2
  · intro h
    exact ⟨[], l, by simp, h, by simp⟩
theorem all_len : ∀ (xs : List Int) (acc : List (List Int)), (xs.foldl allStep acc).length = 2 ^ xs.length * acc.length
  | [], acc => by simp
  | x :: xs, acc => by
    rw [List.foldl_cons, all_len xs, List.length_cons, Nat.pow_succ]
    unfold allStep
    rw [List.length_append, List.length_map, Nat.mul_assoc]
    congr 1
    omega
theorem nums_sub {T : Nat} {l : List Int} (h : l.Sublist (nums T)) : ∃ L : List Nat, l = L.map (fun (i : Nat) => (i : Int)) ∧ L.Sublist (List.range T) := by
  unfold nums at h
  obtain ⟨L, h1, h2⟩ := List.sublist_map_iff.mp h
  exact ⟨L, h2, h1⟩
def inP (r : Int × Int) (h : Int) : Bool := decide (r.1 ≤ h) && decide (h ≤ r.2)
def ins (p : Int × Int) (l : List Int) : Nat := (l.filter (inP p)).length
def shN (sp : List (Int × Int)) (n : Nat) (l : List Int) : Int := (n : Int) * (l.length : Int) - ((sp.map fun p => ins p l - 1).sum : Nat)
def showsV (sp : List (Int × Int)) (n : Nat) (l : List Int) : Int := if shN sp n l > 0 then shN sp n l else 0
theorem ins_map (p : Int × Int) (L : List Nat) : ins p (L.map fun (i : Nat) => (i : Int)) = L.countP (inR p) := by
  unfold ins
  rw [← List.countP_eq_length_filter, List.countP_map]
  rfl
/-- the stretches of all seats -/
def spR (n T : Nat) (f : Int → Nat → Bool) : List (Int × Int) := (nums n).flatMap fun s => runsL (upto (f s) T)
theorem sum_flat {α β : Type} (g : α → List β) (w : β → Nat) : ∀ xs : List α, ((xs.flatMap g).map w).sum = (xs.map fun x => ((g x).map w).sum).sum
  | [] => rfl
  | x :: xs => by
    rw [List.flatMap_cons, List.map_append, List.sum_append, sum_flat g w xs, List.map_cons, List.sum_cons]
theorem shN_wt (P : Nat) (f : Int → Nat → Bool) (n T : Nat) (L : List Nat) (h0 : L ≠ []) (hp : L.Pairwise (· < ·)) (hl : ∀ x ∈ L, x < T) :
    shN (spR P T f) n (L.map fun (i : Nat) => (i : Int)) = (n : Int) + wt (fun t => (nums P).filter fun s => f s t) n L.reverse := by
  have := shows_wt (nums P) f n T L h0 hp hl
  unfold shN spR
  rw [List.length_map, sum_flat, ← this]
  congr 2
  congr 1
  refine List.map_congr_left fun s _ => ?_
  congr 1
  refine List.map_congr_left fun r _ => ?_
  rw [ins_map]
theorem range_pw {T : Nat} {L : List Nat} (h : L.Sublist (List.range T)) : L.Pairwise (· < ·) ∧ ∀ x ∈ L, x < T :=
  ⟨List.Pairwise.sublist h List.pairwise_lt_range, fun x hx => List.mem_range.mp (h.subset hx)⟩
theorem range_sub {T : Nat} {L : List Nat} (hp : L.Pairwise (· < ·)) (hl : ∀ x ∈ L, x < T) : L.Sublist (List.range T) := by
  have : L = (List.range T).filter fun x => L.contains x := by
    have key : ∀ (A B : List Nat), A.Pairwise (· < ·) → B.Pairwise (· < ·) → (∀ x, x ∈ A ↔ x ∈ B) → A = B := by
      intro A
      induction A with
      | nil =>
        intro B _ _ h
        cases B with
        | nil => rfl
        | cons b B => exact absurd ((h b).mpr List.mem_cons_self) (by simp)
      | cons a A ih =>
        intro B hA hB h
        cases B with
        | nil => exact absurd ((h a).mp List.mem_cons_self) (by simp)
        | cons b B =>
          obtain ⟨a1, a2⟩ := List.pairwise_cons.mp hA
          obtain ⟨b1, b2⟩ := List.pairwise_cons.mp hB
          have e : a = b := by
            rcases List.mem_cons.mp ((h a).mp List.mem_cons_self) with q | q
            · exact q
            · rcases List.mem_cons.mp ((h b).mpr List.mem_cons_self) with q2 | q2
              · exact q2.symm
              · have := b1 a q; have := a1 b q2; omega
          subst e
          rw [ih B a2 b2 fun x => ?_]
          constructor
          · intro q
            rcases List.mem_cons.mp ((h x).mp (List.mem_cons_of_mem _ q)) with r | r
            · subst r; exact absurd (a1 _ q) (Nat.lt_irrefl _)
            · exact r
          · intro q
            rcases List.mem_cons.mp ((h x).mpr (List.mem_cons_of_mem _ q)) with r | r
            · subst r; exact absurd (b1 _ q) (Nat.lt_irrefl _)
            · exact r
    refine key L _ hp (List.Pairwise.sublist List.filter_sublist List.pairwise_lt_range) fun x => ?_
    rw [List.mem_filter, List.contains_iff_mem, List.mem_range]
    exact ⟨fun h => ⟨hl x h, h⟩, fun h => h.2⟩
  rw [this]
  exact List.filter_sublist
/-- the number told is the greatest that a lot shows -/
theorem shows_max (P : Nat) (f : Int → Nat → Bool) {n T : Nat} (hT : 1 ≤ T) (hn : ∀ t, t < T → n ≤ ((nums P).filter fun s => f s t).length) {N : Int} {b : List Int} (hb : b ∈ lotsL n ((nums P).filter fun s => f s (T - 1)))
    (h1 : IsB (fun t => (nums P).filter fun s => f s t) n (T - 1) b N) (h2 : ∀ c w, c ∈ lotsL n ((nums P).filter fun s => f s (T - 1)) → IsB (fun t => (nums P).filter fun s => f s t) n (T - 1) c w → N ≤ w) (hnd : (nums P).Nodup) :
    (∀ l ∈ allL T, showsV (spR P T f) n l ≤ N) ∧ (∃ l ∈ allL T, showsV (spR P T f) n l = N) ∧ (n : Int) ≤ N := by
  obtain ⟨⟨L, l1, l2, l3, l4⟩, m, k⟩ := number_dual (S := fun t => (nums P).filter fun s => f s t) (fun t => hnd.sublist List.filter_sublist) hT hn hb h1 h2
  refine ⟨fun l hl => ?_, ?_, k⟩
  · obtain ⟨A, rfl, hA⟩ := nums_sub (allL_mem.mp hl)
    unfold showsV
    by_cases c : A = []
    · subst c
      have : shN (spR P T f) n (([] : List Nat).map fun (i : Nat) => (i : Int)) ≤ 0 := by
        unfold shN
        simp
      rw [if_neg (by omega)]
      omega
    · obtain ⟨a1, a2⟩ := range_pw hA
      have e := shN_wt P f n T A c a1 a2
      have w := m A.reverse (List.pairwise_reverse.mpr a1) (fun x hx => a2 x (List.mem_reverse.mp hx))
      split <;> omega
  · have p1 : L.reverse.Pairwise (· < ·) := by
      rw [List.pairwise_reverse]; exact l2
    have p2 : ∀ x ∈ L.reverse, x < T := fun x hx => l3 x (List.mem_reverse.mp hx)
    refine ⟨L.reverse.map fun (i : Nat) => (i : Int), allL_mem.mpr ?_, ?_⟩
    · exact (range_sub p1 p2).map _
    · have e := shN_wt P f n T L.reverse (by simpa using l1) p1 p2
      rw [List.reverse_reverse] at e
      unfold showsV
      split <;> omega
end Sh
namespace Sh
theorem fold_lots_nodup (n : Nat) : ∀ (xs : List Int) (acc : List (List Int)), acc.Nodup → (∀ l ∈ acc, ∀ x ∈ xs, x ∉ l) → xs.Nodup → (xs.foldl (lotsStep n) acc).Nodup
  | [], acc, h, _, _ => h
  | x :: xs, acc, h, hx, hn => by
    obtain ⟨n1, n2⟩ := List.nodup_cons.mp hn
    rw [List.foldl_cons]
    refine fold_lots_nodup n xs _ ?_ ?_ n2
    · unfold lotsStep
      refine List.nodup_append.mpr ⟨h, ?_, ?_⟩
      · refine List.Pairwise.map (R := fun a b => a ≠ b) _ (fun a b q z => q (List.append_cancel_right z)) (h.sublist List.filter_sublist)
      · rintro a ha b hb rfl
        obtain ⟨c, _, e⟩ := List.mem_map.mp hb
        exact hx a ha x List.mem_cons_self (by rw [← e]; simp)
    · intro l hl y hy q
      unfold lotsStep at hl
      rcases List.mem_append.mp hl with hl | hl
      · exact hx l hl y (List.mem_cons_of_mem _ hy) q
      · obtain ⟨c, hc, rfl⟩ := List.mem_map.mp hl
        rcases List.mem_append.mp q with q | q
        · exact hx c (List.mem_filter.mp hc).1 y (List.mem_cons_of_mem _ hy) q
        · rw [List.mem_singleton.mp q] at hy
          exact n1 hy
theorem lots_nodup (n : Nat) (xs : List Int) (h : xs.Nodup) : (lotsL n xs).Nodup :=
  (fold_lots_nodup n xs [[]] (by simp) (by simp) h).sublist List.filter_sublist
theorem nums_rise (n : Nat) : (nums n).Pairwise (· < ·) := by
  unfold nums
  rw [List.pairwise_map]
  exact List.pairwise_lt_range.imp fun h => by omega
theorem rise_nodup {l : List Int} (h : l.Pairwise (· < ·)) : l.Nodup := h.imp fun q => by omega
theorem nums_nodup (n : Nat) : (nums n).Nodup := rise_nodup (nums_rise n)
/-! ### the sittings of a row of rows -/
def prv (st : Nat → List Int) : Nat → List Int
  | 0 => []
  | j + 1 => st j
def cst (st : Nat → List Int) : Nat → Nat
  | 0 => 0
  | j + 1 => cst st j + gone (prv st j) (st j)
theorem gone_nil (l : List Int) : gone [] l = l.length := by
  unfold gone
  simp
theorem cst_sum (st : Nat → List Int) : ∀ m, cst st (m + 1) = (st 0).length + ((List.range m).map fun i => gone (st i) (st (i + 1))).sum
  | 0 => by show 0 + gone [] (st 0) = _; rw [gone_nil]; simp
  | m + 1 => by
    show cst st (m + 1) + gone (st m) (st (m + 1)) = _
    rw [cst_sum st m, List.range_succ, List.map_append, List.sum_append]
    simp
    omega
end Sh
set_option Elab.async false
set_option linter.all false
set_option maxRecDepth 100000
namespace Sh
open PySem L2 PyProof.Rows

def topS (i : Nat) : Stmt := PySem.Challenge.pw_shadehours_k08_whole_written_yards_at_ev.main.body.getD i (.Pass ⟨0, 0, 0, 0⟩)
abbrev FUEL : Nat := 1208925819614629174706176
structure Txt (mg : Str → Option Value) : Prop where
  b_all : mg "all" = none
  b_bool : mg "bool" = none
  b_enumerate : mg "enumerate" = none
  b_int : mg "int" = none
  b_isinstance : mg "isinstance" = none
  b_len : mg "len" = none
  b_list : mg "list" = none
  b_max : mg "max" = none
  b_min : mg "min" = none
  b_range : mg "range" = none
  b_reversed : mg "reversed" = none
  b_str : mg "str" = none
  b_tuple : mg "tuple" = none
  b_zip : mg "zip" = none
  c_HIGH : ∃ t, mg "HIGH" = some (.int 9 t)
  c_HOURS : ∃ t, mg "HOURS" = some (.int 8 t)
  c_SEATS : ∃ t, mg "SEATS" = some (.int 8 t)
  c_SLANT : ∃ t, mg "SLANT" = some (.int 9 t)
  c_WALLS : ∃ t, mg "WALLS" = some (.int 8 t)
structure TxtD (K : PySem.W.Frag) (C : Addr) : Prop where
  cl : Cls K C
  nY : NoAttr K C "yard"
  nR : NoAttr K C "rows"
section
variable {P : Program} {w : World} {K : PySem.W.Frag} {mg : Str → Option Value} {base : Heap}
/-! ### the law's bag -/
abbrev s_law_bag : Stmt := topS 44
abbrev N_law_bag : List Str := ["script", "k", "cell", "seed"]
theorem sc_law_bag : FnScope N_law_bag ["script", "k"] (defScope s_law_bag) := ⟨rfl, rfl, rfl, by decide +kernel, rfl, by decide +kernel, by decide +kernel⟩
noncomputable def b_law_bag : Ss := (sSeq (sAsg (sC (.int 0)) (.nm 2))
    (sSeq (sIf (sTst (s2 fLt (sVar 1) (sA fLen (sCons (sVar 0) sNil)))) (sAsg (s2 fMod (s2 fIx (sVar 0) (sVar 1)) (s2 fPow (sC (.int 10)) (sC (.int 60)))) (.nm 2)) sSkip)
    (sSeq (sAsg (s2 (fAdd false) (sC (.int 1)) (s2 fMod (s2 (fAdd false) (s2 (fAdd false) (s2 (fAdd false) (s2 fMul (s2 fMod (sVar 2) (sC (.int 2147483629))) (sC (.int 16807))) (s2 fMul (s2 fMul (sC (.int 40009)) (sVar 1)) (sVar 1))) (s2 fMul (sC (.int 7919)) (sVar 1))) (sC (.int 1009))) (sC (.int 2147483645)))) (.nm 3))
    (sSeq (sIf (sTst (s2 fLt (sVar 2) (s2 fPow (sC (.int 10)) (sC (.int 18))))) (sRet (sA (fLst true) (sCons (sC (.int 0)) (sCons (sVar 3) sNil)))) sSkip)
    (sRet (sA (fLst true) (sCons (sVar 2) (sCons (sVar 3) sNil))))))))
noncomputable def g_law_bag : Fn := mkFn 2 4 b_law_bag
theorem ok_law_bag (T : Txt mg)  {f : Addr} {fd : FuncData} (F : Fun K "_law_bag" "_law_bag" s_law_bag f fd) : FnOk P w K mg base CX0 1 f fd ["script", "k"] (spF K 2 g_law_bag) := by
  have nd := sc_law_bag.nd
  refine fn_ok (N := N_law_bag) F sc_law_bag fun cdv A outer s H E hr => ?_
  exact (pSs_cons (pS_set (i := 2) nd rfl (by first | exact Or.inl rfl | exact Or.inr rfl) pE_int)
    (pSs_cons (pS_if (pT_cmp op_lt o2_cmp (pE_var (pv 1)) (pE_callB call_len opA_len (by rfl) T.b_len (by decide +kernel) (pA_cons (pE_var (pv 0)) pA_nil)) (nomark _))
    (pSs_one (pS_set (i := 2) nd rfl (by first | exact Or.inl rfl | exact Or.inr rfl) (pE_op op_mod o2_mod (pE_ix ix_seq o2_ix (pE_var (pv 0)) (pE_var (pv 1))) (pE_op op_pow o2_pow pE_int pE_int))))
    pSs_nil)
    (pSs_cons (pS_set (i := 3) nd rfl (by first | exact Or.inl rfl | exact Or.inr rfl) (pE_op op_addU (o2_add (b := false)) pE_int (pE_op op_mod o2_mod (pE_op op_addU (o2_add (b := false)) (pE_op op_addU (o2_add (b := false)) (pE_op op_addU (o2_add (b := false)) (pE_op op_mulU o2_mul (pE_op op_mod o2_mod (pE_var (pv 2)) pE_int) pE_int) (pE_op op_mulU o2_mul (pE_op op_mulU o2_mul pE_int (pE_var (pv 1))) (pE_var (pv 1)))) (pE_op op_mulU o2_mul pE_int (pE_var (pv 1)))) pE_int) pE_int)))
    (pSs_cons (pS_if (pT_cmp op_lt o2_cmp (pE_var (pv 2)) (pE_op op_pow o2_pow pE_int pE_int) (nomark _))
    (pSs_one (pS_ret (pE_lst (b := true) (pA_cons pE_int (pA_cons (pE_var (pv 3)) pA_nil)))))
    pSs_nil)
    (pSs_one (pS_ret (pE_lst (b := true) (pA_cons (pE_var (pv 2)) (pA_cons (pE_var (pv 3)) pA_nil)))))))))
theorem cal_law_bag (T : Txt mg)  {f : Addr} {fd : FuncData} (F : Fun K "_law_bag" "_law_bag" s_law_bag f fd) (hm : mg "_law_bag" = some (.ref f)) : Cal P w K mg base 1 "_law_bag" 2 g_law_bag :=
  ⟨f, fd, ["script", "k"], rfl, ok_law_bag T  F, hm, F.kp, F.binds (ps := ["script", "k"]) fun _ _ _ _ _ _ us hl => match us, hl with | [_, _], _ => rfl⟩
/-! ### is_from -/
abbrev s_is_from : Stmt := topS 7
abbrev N_is_from : List Str := ["thing", "low", "high"]
theorem sc_is_from : FnScope N_is_from ["thing", "low", "high"] (defScope s_is_from) := ⟨rfl, rfl, rfl, by decide +kernel, rfl, by decide +kernel, by decide +kernel⟩
noncomputable def b_is_from : Ss := (sRet (sAndV (s1 (fIsi .int) (sVar 0)) (sAndV (sNotB (s1 (fIsi .bool) (sVar 0))) (sChain fLe fLe (sVar 1) (sVar 0) (sVar 2)))))
noncomputable def g_is_from : Fn := mkFn 3 3 b_is_from
theorem ok_is_from (T : Txt mg)  {f : Addr} {fd : FuncData} (F : Fun K "is_from" "is_from" s_is_from f fd) : FnOk P w K mg base CX0 1 f fd ["thing", "low", "high"] (spF K 3 g_is_from) := by
  have nd := sc_is_from.nd
  refine fn_ok (N := N_is_from) F sc_is_from fun cdv A outer s H E hr => ?_
  exact (pSs_one (pS_ret (pE_and (pE_isi (T := .int) (pE_var (pv 0)) (by rfl) T.b_isinstance (by rfl) T.b_int (by decide +kernel)) (pE_and (pE_not (pE_isi (T := .bool) (pE_var (pv 0)) (by rfl) T.b_isinstance (by rfl) T.b_bool (by decide +kernel))) (pe_one (pE_chain op_le op_le o2_cmp o2_cmp (pE_var (pv 1)) (pE_var (pv 0)) (pE_var (pv 2))))))))
theorem cal_is_from (T : Txt mg)  {f : Addr} {fd : FuncData} (F : Fun K "is_from" "is_from" s_is_from f fd) (hm : mg "is_from" = some (.ref f)) : Cal P w K mg base 1 "is_from" 3 g_is_from :=
  ⟨f, fd, ["thing", "low", "high"], rfl, ok_is_from T  F, hm, F.kp, F.binds (ps := ["thing", "low", "high"]) fun _ _ _ _ _ _ us hl => match us, hl with | [_, _, _], _ => rfl⟩
/-! ### are_walls -/
abbrev s_are_walls : Stmt := topS 10
abbrev N_are_walls : List Str := ["seats", "thing", "wall", "one", "other"]
theorem sc_are_walls : FnScope N_are_walls ["seats", "thing"] (defScope s_are_walls) := ⟨rfl, rfl, rfl, by decide +kernel, rfl, by decide +kernel, by decide +kernel⟩
noncomputable def C_are_walls_1 : Sm := sComp false (sZip (sCons (sVar 1) (sCons (sSl false (sVar 1) (sPart (sC (.int 1))) sNoP) sNil))) (.tp [3, 4]) sYes (s2 fLt (s2 fIx (sVar 3) (sC (.int 0))) (s2 fIx (sVar 4) (sC (.int 0)))) [3, 4]
noncomputable def l_are_walls_1 : Ss := (sSeq (sIf (sOr (sNot (sTst (s1 (fIsi .tuple) (sVar 2)))) (sTst (s2 (fEq true) (sA fLen (sCons (sVar 2) sNil)) (sC (.int 2))))) (sRet (sC (.bool false))) sSkip)
    (sIf (sOr (sNot (sTst (sCall 3 g_is_from (sCons (s2 fIx (sVar 2) (sC (.int 0))) (sCons (sC (.int 0)) (sCons (sVar 0) sNil)))))) (sNot (sTst (sCall 3 g_is_from (sCons (s2 fIx (sVar 2) (sC (.int 1))) (sCons (sC (.int 1)) (sCons (sC (.int 9)) sNil))))))) (sRet (sC (.bool false))) sSkip))
noncomputable def L_are_walls_1 : Ss := sFor (sIt (sVar 1)) (.nm 2) l_are_walls_1
noncomputable def b_are_walls : Ss := (sSeq (sIf (sOr (sNot (sTst (s1 (fIsi .tuple) (sVar 1)))) (sTst (s2 fGt (sA fLen (sCons (sVar 1) sNil)) (sC (.int 8))))) (sRet (sC (.bool false))) sSkip)
    (sSeq L_are_walls_1
    (sRet (sA fAll (sCons C_are_walls_1 sNil)))))
noncomputable def g_are_walls : Fn := mkFn 2 5 b_are_walls
theorem ok_are_walls (T : Txt mg) (c_is_from : Cal P w K mg base 1 "is_from" 3 g_is_from) {f : Addr} {fd : FuncData} (F : Fun K "are_walls" "are_walls" s_are_walls f fd) : FnOk P w K mg base CX0 2 f fd ["seats", "thing"] (spF K 2 g_are_walls) := by
  have nd := sc_are_walls.nd
  obtain ⟨_, h_HIGH⟩ := T.c_HIGH
  obtain ⟨_, h_WALLS⟩ := T.c_WALLS
  refine fn_ok (N := N_are_walls) F sc_are_walls fun cdv A outer s H E hr => ?_
  exact (pSs_cons (pS_if ((pT_or (pT_not (pT_tst (pE_isi (T := .tuple) (pE_var (pv 1)) (by rfl) T.b_isinstance (by rfl) T.b_tuple (by decide +kernel)))) (pw_or1 (pT_cmp op_gt o2_cmp (pE_callB call_len opA_len (by rfl) T.b_len (by decide +kernel) (pA_cons (pE_var (pv 1)) pA_nil)) (pE_globI (by rfl) h_WALLS) (nomark _))))).pt
    (pSs_one (pS_ret pE_bl))
    pSs_nil)
    (pSs_cons (pS_for (t := (.nm 2)) PassesOwn.never rfl (pI_it (pE_var (pv 1))) (pg_name (i := 2) nd rfl (by first | exact Or.inl rfl | exact Or.inr rfl))
    (pSs_cons (pS_if ((pT_or (pT_not (pT_tst (pE_isi (T := .tuple) (pE_var (pv 2)) (by rfl) T.b_isinstance (by rfl) T.b_tuple (by decide +kernel)))) (pw_or1 (pT_cmp (op_neD hr.units) o2_ne (pE_callB call_len opA_len (by rfl) T.b_len (by decide +kernel) (pA_cons (pE_var (pv 2)) pA_nil)) pE_int (nomark _))))).pt
    (pSs_one (pS_ret pE_bl))
    pSs_nil)
    (pSs_one (pS_if ((pT_or (pT_not (pT_tst (pE_call c_is_from (hr.mono (by decide)) (by rfl) (pA_cons (pE_ix ix_seq o2_ix (pE_var (pv 2)) pE_int) (pA_cons pE_int (pA_cons (pE_var (pv 0)) pA_nil)))))) (pw_or1 (pT_not (pT_tst (pE_call c_is_from (hr.mono (by decide)) (by rfl) (pA_cons (pE_ix ix_seq o2_ix (pE_var (pv 2)) pE_int) (pA_cons pE_int (pA_cons (pE_globI (by rfl) h_HIGH) pA_nil))))))))).pt
    (pSs_one (pS_ret pE_bl))
    pSs_nil))))
    (pSs_one (pS_ret (pE_callB (cr_all rfl) opA_all (by rfl) T.b_all (by decide +kernel) (pA_cons (pE_comp (own := [("one", 3), ("other", 4)]) (fl := false) (t := (.tp [3, 4])) rfl nd (pI_zip (by rfl) T.b_zip (pA_cons (pE_var (pv 1)) (pA_cons (pE_sl (fl := false) (pE_var (pv 1)) (pO_some pE_int) pO_none) pA_nil))) (blkOk_by (own := [("one", 3), ("other", 4)]) (N := N_are_walls) (sc := defScope s_are_walls) (by decide +kernel)) (fun _ _ _ _ _ => (pg_tup rfl (pgs_cons (pg_name (i := 3) nd rfl (by first | exact Or.inl rfl | exact Or.inr rfl)) (pgs_cons (pg_name (i := 4) nd rfl (by first | exact Or.inl rfl | exact Or.inr rfl)) pgs_nil)))) (fun _ _ _ _ _ => pTs_nil) (fun _ _ _ _ _ => (pE_cmp op_lt o2_cmp (pE_ix ix_seq o2_ix (pE_var (pv 3)) pE_int) (pE_ix ix_seq o2_ix (pE_var (pv 4)) pE_int) (nomark _))) (by decide)) pA_nil))))))
theorem cal_are_walls (T : Txt mg) (c_is_from : Cal P w K mg base 1 "is_from" 3 g_is_from) {f : Addr} {fd : FuncData} (F : Fun K "are_walls" "are_walls" s_are_walls f fd) (hm : mg "are_walls" = some (.ref f)) : Cal P w K mg base 2 "are_walls" 2 g_are_walls :=
  ⟨f, fd, ["seats", "thing"], rfl, ok_are_walls T c_is_from F, hm, F.kp, F.binds (ps := ["seats", "thing"]) fun _ _ _ _ _ _ us hl => match us, hl with | [_, _], _ => rfl⟩
/-! ### is_lowest -/
abbrev s_is_lowest : Stmt := topS 8
abbrev N_is_lowest : List Str := ["top", "bottom", "one", "other"]
theorem sc_is_lowest : FnScope N_is_lowest ["top", "bottom"] (defScope s_is_lowest) := ⟨rfl, rfl, rfl, by decide +kernel, rfl, by decide +kernel, by decide +kernel⟩
def w_is_lowest_1 : Ss := (sPar [2, 3] (sCons (sVar 3) (sCons (s2 fMod (sVar 2) (sVar 3)) sNil)))
def W_is_lowest_1 : Ss := sWhile FUEL (sTst (s2 fGt (sVar 3) (sC (.int 0)))) w_is_lowest_1
noncomputable def b_is_lowest : Ss := (sSeq (sPar [2, 3] (sCons (sVar 0) (sCons (sVar 1) sNil)))
    (sSeq W_is_lowest_1
    (sRet (s2 (fEq false) (sVar 2) (sC (.int 1))))))
noncomputable def g_is_lowest : Fn := mkFn 2 4 b_is_lowest
theorem ok_is_lowest (T : Txt mg)  {f : Addr} {fd : FuncData} (F : Fun K "is_lowest" "is_lowest" s_is_lowest f fd) : FnOk P w K mg base CX0 1 f fd ["top", "bottom"] (spF K 2 g_is_lowest) := by
  have nd := sc_is_lowest.nd
  refine fn_ok (N := N_is_lowest) F sc_is_lowest fun cdv A outer s H E hr => ?_
  exact (pSs_cons (pS_par (i := 2) (j := 3) rfl nd rfl rfl (by decide) rfl rfl (pA_cons (pE_var (pv 0)) (pA_cons (pE_var (pv 1)) pA_nil)) (by rfl))
    (pSs_cons (pS_while (g := FUEL) PassesOwn.never (pT_cmp op_gt o2_cmp (pE_var (pv 3)) pE_int (nomark _)) (pSs_one (pS_par (i := 2) (j := 3) rfl nd rfl rfl (by decide) rfl rfl (pA_cons (pE_var (pv 3)) (pA_cons (pE_op op_mod o2_mod (pE_var (pv 2)) (pE_var (pv 3))) pA_nil)) (by rfl))))
    (pSs_one (pS_ret (pE_cmp (op_eqD hr.units) o2_eq (pE_var (pv 2)) pE_int (nomark _))))))
theorem cal_is_lowest (T : Txt mg)  {f : Addr} {fd : FuncData} (F : Fun K "is_lowest" "is_lowest" s_is_lowest f fd) (hm : mg "is_lowest" = some (.ref f)) : Cal P w K mg base 1 "is_lowest" 2 g_is_lowest :=
  ⟨f, fd, ["top", "bottom"], rfl, ok_is_lowest T  F, hm, F.kp, F.binds (ps := ["top", "bottom"]) fun _ _ _ _ _ _ us hl => match us, hl with | [_, _], _ => rfl⟩
/-! ### is_slant -/
abbrev s_is_slant : Stmt := topS 9
abbrev N_is_slant : List Str := ["thing"]
theorem sc_is_slant : FnScope N_is_slant ["thing"] (defScope s_is_slant) := ⟨rfl, rfl, rfl, by decide +kernel, rfl, by decide +kernel, by decide +kernel⟩
noncomputable def b_is_slant : Ss := (sSeq (sIf (sOr (sNot (sTst (s1 (fIsi .tuple) (sVar 0)))) (sTst (s2 (fEq true) (sA fLen (sCons (sVar 0) sNil)) (sC (.int 2))))) (sRet (sC (.bool false))) sSkip)
    (sSeq (sIf (sOr (sNot (sTst (sCall 3 g_is_from (sCons (s2 fIx (sVar 0) (sC (.int 1))) (sCons (sC (.int 1)) (sCons (s2 fPow (sC (.int 10)) (sC (.int 20))) sNil)))))) (sNot (sTst (sCall 3 g_is_from (sCons (s2 fIx (sVar 0) (sC (.int 0))) (sCons (sC (.int 0)) (sCons (s2 fMul (sC (.int 9)) (s2 fIx (sVar 0) (sC (.int 1)))) sNil))))))) (sRet (sC (.bool false))) sSkip)
    (sRet (sCall 2 g_is_lowest (sCons (s2 fIx (sVar 0) (sC (.int 0))) (sCons (s2 fIx (sVar 0) (sC (.int 1))) sNil))))))
noncomputable def g_is_slant : Fn := mkFn 1 1 b_is_slant
theorem ok_is_slant (T : Txt mg) (c_is_from : Cal P w K mg base 1 "is_from" 3 g_is_from) (c_is_lowest : Cal P w K mg base 1 "is_lowest" 2 g_is_lowest) {f : Addr} {fd : FuncData} (F : Fun K "is_slant" "is_slant" s_is_slant f fd) : FnOk P w K mg base CX0 2 f fd ["thing"] (spF K 1 g_is_slant) := by
  have nd := sc_is_slant.nd
  obtain ⟨_, h_SLANT⟩ := T.c_SLANT
  refine fn_ok (N := N_is_slant) F sc_is_slant fun cdv A outer s H E hr => ?_
  exact (pSs_cons (pS_if ((pT_or (pT_not (pT_tst (pE_isi (T := .tuple) (pE_var (pv 0)) (by rfl) T.b_isinstance (by rfl) T.b_tuple (by decide +kernel)))) (pw_or1 (pT_cmp (op_neD hr.units) o2_ne (pE_callB call_len opA_len (by rfl) T.b_len (by decide +kernel) (pA_cons (pE_var (pv 0)) pA_nil)) pE_int (nomark _))))).pt
    (pSs_one (pS_ret pE_bl))
    pSs_nil)
    (pSs_cons (pS_if ((pT_or (pT_not (pT_tst (pE_call c_is_from (hr.mono (by decide)) (by rfl) (pA_cons (pE_ix ix_seq o2_ix (pE_var (pv 0)) pE_int) (pA_cons pE_int (pA_cons (pE_op op_pow o2_pow pE_int pE_int) pA_nil)))))) (pw_or1 (pT_not (pT_tst (pE_call c_is_from (hr.mono (by decide)) (by rfl) (pA_cons (pE_ix ix_seq o2_ix (pE_var (pv 0)) pE_int) (pA_cons pE_int (pA_cons (pE_op op_mulU o2_mul (pE_globI (by rfl) h_SLANT) (pE_ix ix_seq o2_ix (pE_var (pv 0)) pE_int)) pA_nil))))))))).pt
    (pSs_one (pS_ret pE_bl))
    pSs_nil)
    (pSs_one (pS_ret (pE_call c_is_lowest (hr.mono (by decide)) (by rfl) (pA_cons (pE_ix ix_seq o2_ix (pE_var (pv 0)) pE_int) (pA_cons (pE_ix ix_seq o2_ix (pE_var (pv 0)) pE_int) pA_nil)))))))
theorem cal_is_slant (T : Txt mg) (c_is_from : Cal P w K mg base 1 "is_from" 3 g_is_from) (c_is_lowest : Cal P w K mg base 1 "is_lowest" 2 g_is_lowest) {f : Addr} {fd : FuncData} (F : Fun K "is_slant" "is_slant" s_is_slant f fd) (hm : mg "is_slant" = some (.ref f)) : Cal P w K mg base 2 "is_slant" 1 g_is_slant :=
  ⟨f, fd, ["thing"], rfl, ok_is_slant T c_is_from c_is_lowest F, hm, F.kp, F.binds (ps := ["thing"]) fun _ _ _ _ _ _ us hl => match us, hl with | [_], _ => rfl⟩
/-! ### is_yard -/
abbrev s_is_yard : Stmt := topS 11
abbrev N_is_yard : List Str := ["thing", "hour"]
theorem sc_is_yard : FnScope N_is_yard ["thing"] (defScope s_is_yard) := ⟨rfl, rfl, rfl, by decide +kernel, rfl, by decide +kernel, by decide +kernel⟩
noncomputable def l_is_yard_1 : Ss := (sSeq (sIf (sOr (sNot (sTst (s1 (fIsi .tuple) (sVar 1)))) (sOr (sTst (s2 (fEq true) (sA fLen (sCons (sVar 1) sNil)) (sC (.int 2)))) (sNot (sTst (s1 (fIsi .str) (s2 fIx (sVar 1) (sC (.int 0)))))))) (sRet (sC (.bool false))) sSkip)
    (sIf (sOr (sTst (s2 (fIn true) (s2 fIx (sVar 1) (sC (.int 0))) (sA fTup (sCons (sC (.str "e")) (sCons (sC (.str "w")) sNil))))) (sNot (sTst (sCall 1 g_is_slant (sCons (s2 fIx (sVar 1) (sC (.int 1))) sNil))))) (sRet (sC (.bool false))) sSkip))
noncomputable def L_is_yard_1 : Ss := sFor (sIt (s2 fIx (sVar 0) (sC (.int 2)))) (.nm 1) l_is_yard_1
noncomputable def b_is_yard : Ss := (sSeq (sIf (sOr (sNot (sTst (s1 (fIsi .tuple) (sVar 0)))) (sOr (sTst (s2 (fEq true) (sA fLen (sCons (sVar 0) sNil)) (sC (.int 3)))) (sNot (sTst (sCall 3 g_is_from (sCons (s2 fIx (sVar 0) (sC (.int 0))) (sCons (sC (.int 1)) (sCons (sC (.int 8)) sNil)))))))) (sRet (sC (.bool false))) sSkip)
    (sSeq (sIf (sOr (sNot (sTst (sCall 2 g_are_walls (sCons (s2 fIx (sVar 0) (sC (.int 0))) (sCons (s2 fIx (sVar 0) (sC (.int 1))) sNil))))) (sOr (sNot (sTst (s1 (fIsi .tuple) (s2 fIx (sVar 0) (sC (.int 2)))))) (sNot (sTst (sChain fLe fLe (sC (.int 1)) (sA fLen (sCons (s2 fIx (sVar 0) (sC (.int 2))) sNil)) (sC (.int 8))))))) (sRet (sC (.bool false))) sSkip)
    (sSeq L_is_yard_1
    (sRet (sC (.bool true))))))
noncomputable def g_is_yard : Fn := mkFn 1 2 b_is_yard
theorem ok_is_yard (T : Txt mg) (c_are_walls : Cal P w K mg base 2 "are_walls" 2 g_are_walls) (c_is_from : Cal P w K mg base 1 "is_from" 3 g_is_from) (c_is_slant : Cal P w K mg base 2 "is_slant" 1 g_is_slant) {f : Addr} {fd : FuncData} (F : Fun K "is_yard" "is_yard" s_is_yard f fd) : FnOk P w K mg base CX0 3 f fd ["thing"] (spF K 1 g_is_yard) := by
  have nd := sc_is_yard.nd
  obtain ⟨_, h_HOURS⟩ := T.c_HOURS
  obtain ⟨_, h_SEATS⟩ := T.c_SEATS
  refine fn_ok (N := N_is_yard) F sc_is_yard fun cdv A outer s H E hr => ?_
  exact (pSs_cons (pS_if ((pT_or (pT_not (pT_tst (pE_isi (T := .tuple) (pE_var (pv 0)) (by rfl) T.b_isinstance (by rfl) T.b_tuple (by decide +kernel)))) (pT_or (pT_cmp (op_neD hr.units) o2_ne (pE_callB call_len opA_len (by rfl) T.b_len (by decide +kernel) (pA_cons (pE_var (pv 0)) pA_nil)) pE_int (nomark _)) (pw_or1 (pT_not (pT_tst (pE_call c_is_from (hr.mono (by decide)) (by rfl) (pA_cons (pE_ix ix_seq o2_ix (pE_var (pv 0)) pE_int) (pA_cons pE_int (pA_cons (pE_globI (by rfl) h_SEATS) pA_nil)))))))))).pt
    (pSs_one (pS_ret pE_bl))
    pSs_nil)
    (pSs_cons (pS_if ((pT_or (pT_not (pT_tst (pE_call c_are_walls (hr.mono (by decide)) (by rfl) (pA_cons (pE_ix ix_seq o2_ix (pE_var (pv 0)) pE_int) (pA_cons (pE_ix ix_seq o2_ix (pE_var (pv 0)) pE_int) pA_nil))))) (pT_or (pT_not (pT_tst (pE_isi (T := .tuple) (pE_ix ix_seq o2_ix (pE_var (pv 0)) pE_int) (by rfl) T.b_isinstance (by rfl) T.b_tuple (by decide +kernel)))) (pw_or1 (pT_not (pT_chain op_le op_le o2_cmp o2_cmp pE_int (pE_callB call_len opA_len (by rfl) T.b_len (by decide +kernel) (pA_cons (pE_ix ix_seq o2_ix (pE_var (pv 0)) pE_int) pA_nil)) (pE_globI (by rfl) h_HOURS))))))).pt
    (pSs_one (pS_ret pE_bl))
    pSs_nil)
    (pSs_cons (pS_for (t := (.nm 1)) PassesOwn.never rfl (pI_it (pE_ix ix_seq o2_ix (pE_var (pv 0)) pE_int)) (pg_name (i := 1) nd rfl (by first | exact Or.inl rfl | exact Or.inr rfl))
    (pSs_cons (pS_if ((pT_or (pT_not (pT_tst (pE_isi (T := .tuple) (pE_var (pv 1)) (by rfl) T.b_isinstance (by rfl) T.b_tuple (by decide +kernel)))) (pT_or (pT_cmp (op_neD hr.units) o2_ne (pE_callB call_len opA_len (by rfl) T.b_len (by decide +kernel) (pA_cons (pE_var (pv 1)) pA_nil)) pE_int (nomark _)) (pw_or1 (pT_not (pT_tst (pE_isi (T := .str) (pE_ix ix_seq o2_ix (pE_var (pv 1)) pE_int) (by rfl) T.b_isinstance (by rfl) T.b_str (by decide +kernel)))))))).pt
    (pSs_one (pS_ret pE_bl))
    pSs_nil)
    (pSs_one (pS_if ((pT_or (pT_cmp op_notIn_seq o2_notin (pE_ix ix_seq o2_ix (pE_var (pv 1)) pE_int) (pE_tup (pA_cons pE_str (pA_cons pE_str pA_nil))) (by rfl)) (pw_or1 (pT_not (pT_tst (pE_call c_is_slant (hr.mono (by decide)) (by rfl) (pA_cons (pE_ix ix_seq o2_ix (pE_var (pv 1)) pE_int) pA_nil))))))).pt
    (pSs_one (pS_ret pE_bl))
    pSs_nil))))
    (pSs_one (pS_ret pE_bl)))))
theorem cal_is_yard (T : Txt mg) (c_are_walls : Cal P w K mg base 2 "are_walls" 2 g_are_walls) (c_is_from : Cal P w K mg base 1 "is_from" 3 g_is_from) (c_is_slant : Cal P w K mg base 2 "is_slant" 1 g_is_slant) {f : Addr} {fd : FuncData} (F : Fun K "is_yard" "is_yard" s_is_yard f fd) (hm : mg "is_yard" = some (.ref f)) : Cal P w K mg base 3 "is_yard" 1 g_is_yard :=
  ⟨f, fd, ["thing"], rfl, ok_is_yard T c_are_walls c_is_from c_is_slant F, hm, F.kp, F.binds (ps := ["thing"]) fun _ _ _ _ _ _ us hl => match us, hl with | [_], _ => rfl⟩
/-! ### is_shaded -/
abbrev s_is_shaded : Stmt := topS 12
abbrev N_is_shaded : List Str := ["yard", "seat", "hour", "side", "slant", "place", "height", "halves"]
theorem sc_is_shaded : FnScope N_is_shaded ["yard", "seat", "hour"] (defScope s_is_shaded) := ⟨rfl, rfl, rfl, by decide +kernel, rfl, by decide +kernel, by decide +kernel⟩
noncomputable def l_is_shaded_1 : Ss := (sSeq (sAsg (sIfE (sTst (s2 (fEq false) (sVar 3) (sC (.str "e")))) (s2 fSub (s2 fMul (sC (.int 2)) (s2 fSub (sVar 5) (sVar 1))) (sC (.int 1))) (s2 (fAdd false) (s2 fMul (sC (.int 2)) (s2 fSub (sVar 1) (sVar 5))) (sC (.int 1)))) (.nm 7))
    (sIf (sAnd (sTst (s2 fGt (sVar 7) (sC (.int 0)))) (sTst (s2 fLe (s2 fMul (sVar 7) (s2 fIx (sVar 4) (sC (.int 1)))) (s2 fMul (s2 fMul (sC (.int 2)) (sVar 6)) (s2 fIx (sVar 4) (sC (.int 0))))))) (sRet (sC (.bool true))) sSkip))
noncomputable def L_is_shaded_1 : Ss := sFor (sIt (s2 fIx (sVar 0) (sC (.int 1)))) (.tp [5, 6]) l_is_shaded_1
noncomputable def b_is_shaded : Ss := (sSeq (sAsg (s2 fIx (s2 fIx (sVar 0) (sC (.int 2))) (sVar 2)) (.tp [3, 4]))
    (sSeq L_is_shaded_1
    (sRet (sC (.bool false)))))
noncomputable def g_is_shaded : Fn := mkFn 3 8 b_is_shaded
theorem ok_is_shaded (T : Txt mg)  {f : Addr} {fd : FuncData} (F : Fun K "is_shaded" "is_shaded" s_is_shaded f fd) : FnOk P w K mg base CX0 1 f fd ["yard", "seat", "hour"] (spF K 3 g_is_shaded) := by
  have nd := sc_is_shaded.nd
  refine fn_ok (N := N_is_shaded) F sc_is_shaded fun cdv A outer s H E hr => ?_
  exact (pSs_cons (pS_asg (t := (.tp [3, 4])) (pE_ix ix_seq o2_ix (pE_ix ix_seq o2_ix (pE_var (pv 0)) pE_int) (pE_var (pv 2))) (pg_tup rfl (pgs_cons (pg_name (i := 3) nd rfl (by first | exact Or.inl rfl | exact Or.inr rfl)) (pgs_cons (pg_name (i := 4) nd rfl (by first | exact Or.inl rfl | exact Or.inr rfl)) pgs_nil))))
    (pSs_cons (pS_for (t := (.tp [5, 6])) PassesOwn.never rfl (pI_it (pE_ix ix_seq o2_ix (pE_var (pv 0)) pE_int)) (pg_tup rfl (pgs_cons (pg_name (i := 5) nd rfl (by first | exact Or.inl rfl | exact Or.inr rfl)) (pgs_cons (pg_name (i := 6) nd rfl (by first | exact Or.inl rfl | exact Or.inr rfl)) pgs_nil)))
    (pSs_cons (pS_set (i := 7) nd rfl (by first | exact Or.inl rfl | exact Or.inr rfl) (pE_ifE (pT_cmp (op_eqD hr.units) o2_eq (pE_var (pv 3)) pE_str (nomark _)) (pE_op op_sub o2_sub (pE_op op_mulU o2_mul pE_int (pE_op op_sub o2_sub (pE_var (pv 5)) (pE_var (pv 1)))) pE_int) (pE_op op_addU (o2_add (b := false)) (pE_op op_mulU o2_mul pE_int (pE_op op_sub o2_sub (pE_var (pv 1)) (pE_var (pv 5)))) pE_int)))
    (pSs_one (pS_if ((pT_and (pT_cmp op_gt o2_cmp (pE_var (pv 7)) pE_int (nomark _)) (pw_and1 (pT_cmp op_le o2_cmp (pE_op op_mulU o2_mul (pE_var (pv 7)) (pE_ix ix_seq o2_ix (pE_var (pv 4)) pE_int)) (pE_op op_mulU o2_mul (pE_op op_mulU o2_mul pE_int (pE_var (pv 6))) (pE_ix ix_seq o2_ix (pE_var (pv 4)) pE_int)) (nomark _))))).pt
    (pSs_one (pS_ret pE_bl))
    pSs_nil))))
    (pSs_one (pS_ret pE_bl))))
theorem cal_is_shaded (T : Txt mg)  {f : Addr} {fd : FuncData} (F : Fun K "is_shaded" "is_shaded" s_is_shaded f fd) (hm : mg "is_shaded" = some (.ref f)) : Cal P w K mg base 1 "is_shaded" 3 g_is_shaded :=
  ⟨f, fd, ["yard", "seat", "hour"], rfl, ok_is_shaded T  F, hm, F.kp, F.binds (ps := ["yard", "seat", "hour"]) fun _ _ _ _ _ _ us hl => match us, hl with | [_, _, _], _ => rfl⟩
/-! ### shaded -/
abbrev s_shaded : Stmt := topS 13
abbrev N_shaded : List Str := ["yard", "hour", "seat"]
theorem sc_shaded : FnScope N_shaded ["yard", "hour"] (defScope s_shaded) := ⟨rfl, rfl, rfl, by decide +kernel, rfl, by decide +kernel, by decide +kernel⟩
noncomputable def C_shaded_1 : Sm := sComp false (sRng1 (sCons (s2 fIx (sVar 0) (sC (.int 0))) sNil)) (.nm 2) (sTst (sCall 3 g_is_shaded (sCons (sVar 0) (sCons (sVar 2) (sCons (sVar 1) sNil))))) (sVar 2) [2]
noncomputable def b_shaded : Ss := (sRet C_shaded_1)
noncomputable def g_shaded : Fn := mkFn 2 3 b_shaded
theorem ok_shaded (T : Txt mg) (c_is_shaded : Cal P w K mg base 1 "is_shaded" 3 g_is_shaded) {f : Addr} {fd : FuncData} (F : Fun K "shaded" "shaded" s_shaded f fd) : FnOk P w K mg base CX0 2 f fd ["yard", "hour"] (spF K 2 g_shaded) := by
  have nd := sc_shaded.nd
  refine fn_ok (N := N_shaded) F sc_shaded fun cdv A outer s H E hr => ?_
  exact (pSs_one (pS_ret (pE_comp (own := [("seat", 2)]) (fl := false) (t := (.nm 2)) rfl nd (pI_rng1 (by rfl) T.b_range (pA_cons (pE_ix ix_seq o2_ix (pE_var (pv 0)) pE_int) pA_nil)) (blkOk_by (own := [("seat", 2)]) (N := N_shaded) (sc := defScope s_shaded) (by decide +kernel)) (fun _ _ _ _ _ => (pg_name (i := 2) nd rfl (by first | exact Or.inl rfl | exact Or.inr rfl))) (fun _ _ _ _ _ => (pTs_one (pT_tst (pE_call c_is_shaded (hr.mono (by decide)) (by rfl) (pA_cons (pE_var (pv 0)) (pA_cons (pE_var (pv 2)) (pA_cons (pE_var (pv 1)) pA_nil))))))) (fun _ _ _ _ _ => (pE_var (pv 2))) (by decide))))
theorem cal_shaded (T : Txt mg) (c_is_shaded : Cal P w K mg base 1 "is_shaded" 3 g_is_shaded) {f : Addr} {fd : FuncData} (F : Fun K "shaded" "shaded" s_shaded f fd) (hm : mg "shaded" = some (.ref f)) : Cal P w K mg base 2 "shaded" 2 g_shaded :=
  ⟨f, fd, ["yard", "hour"], rfl, ok_shaded T c_is_shaded F, hm, F.kp, F.binds (ps := ["yard", "hour"]) fun _ _ _ _ _ _ us hl => match us, hl with | [_, _], _ => rfl⟩
/-! ### most_sitters -/
abbrev s_most_sitters : Stmt := topS 17
abbrev N_most_sitters : List Str := ["yard", "hour"]
theorem sc_most_sitters : FnScope N_most_sitters ["yard"] (defScope s_most_sitters) := ⟨rfl, rfl, rfl, by decide +kernel, rfl, by decide +kernel, by decide +kernel⟩
noncomputable def C_most_sitters_1 : Sm := sComp false (sRng1 (sCons (sA fLen (sCons (s2 fIx (sVar 0) (sC (.int 2))) sNil)) sNil)) (.nm 1) sYes (sA fLen (sCons (sCall 2 g_shaded (sCons (sVar 0) (sCons (sVar 1) sNil))) sNil)) [1]
noncomputable def b_most_sitters : Ss := (sRet (sA fMin (sCons C_most_sitters_1 sNil)))
noncomputable def g_most_sitters : Fn := mkFn 1 2 b_most_sitters
theorem ok_most_sitters (T : Txt mg) (c_shaded : Cal P w K mg base 2 "shaded" 2 g_shaded) {f : Addr} {fd : FuncData} (F : Fun K "most_sitters" "most_sitters" s_most_sitters f fd) : FnOk P w K mg base CX0 3 f fd ["yard"] (spF K 1 g_most_sitters) := by
  have nd := sc_most_sitters.nd
  refine fn_ok (N := N_most_sitters) F sc_most_sitters fun cdv A outer s H E hr => ?_
  exact (pSs_one (pS_ret (pE_callB (call_minU rfl) opA_min (by rfl) T.b_min (by decide +kernel) (pA_cons (pE_comp (own := [("hour", 1)]) (fl := false) (t := (.nm 1)) rfl nd (pI_rng1 (by rfl) T.b_range (pA_cons (pE_callB call_len opA_len (by rfl) T.b_len (by decide +kernel) (pA_cons (pE_ix ix_seq o2_ix (pE_var (pv 0)) pE_int) pA_nil)) pA_nil)) (blkOk_by (own := [("hour", 1)]) (N := N_most_sitters) (sc := defScope s_most_sitters) (by decide +kernel)) (fun _ _ _ _ _ => (pg_name (i := 1) nd rfl (by first | exact Or.inl rfl | exact Or.inr rfl))) (fun _ _ _ _ _ => pTs_nil) (fun _ _ _ _ _ => (pE_callB call_len opA_len (by rfl) T.b_len (by decide +kernel) (pA_cons (pE_call c_shaded (hr.mono (by decide)) (by rfl) (pA_cons (pE_var (pv 0)) (pA_cons (pE_var (pv 1)) pA_nil))) pA_nil))) (by decide)) pA_nil))))
theorem cal_most_sitters (T : Txt mg) (c_shaded : Cal P w K mg base 2 "shaded" 2 g_shaded) {f : Addr} {fd : FuncData} (F : Fun K "most_sitters" "most_sitters" s_most_sitters f fd) (hm : mg "most_sitters" = some (.ref f)) : Cal P w K mg base 3 "most_sitters" 1 g_most_sitters :=
  ⟨f, fd, ["yard"], rfl, ok_most_sitters T c_shaded F, hm, F.kp, F.binds (ps := ["yard"]) fun _ _ _ _ _ _ us hl => match us, hl with | [_], _ => rfl⟩
/-! ### are_seats -/
abbrev s_are_seats : Stmt := topS 18
abbrev N_are_seats : List Str := ["yard", "hour", "thing", "seat", "one", "other"]
theorem sc_are_seats : FnScope N_are_seats ["yard", "hour", "thing"] (defScope s_are_seats) := ⟨rfl, rfl, rfl, by decide +kernel, rfl, by decide +kernel, by decide +kernel⟩
noncomputable def C_are_seats_1 : Sm := sComp false (sIt (sVar 2)) (.nm 3) sYes (sCall 3 g_is_shaded (sCons (sVar 0) (sCons (sVar 3) (sCons (sVar 1) sNil)))) [3]
noncomputable def C_are_seats_2 : Sm := sComp false (sZip (sCons (sVar 2) (sCons (sSl false (sVar 2) (sPart (sC (.int 1))) sNoP) sNil))) (.tp [4, 5]) sYes (s2 fLt (sVar 4) (sVar 5)) [4, 5]
noncomputable def C_are_seats_3 : Sm := sComp false (sIt (sVar 2)) (.nm 3) sYes (sCall 3 g_is_from (sCons (sVar 3) (sCons (sC (.int 0)) (sCons (s2 fSub (s2 fIx (sVar 0) (sC (.int 0))) (sC (.int 1))) sNil)))) [3]
noncomputable def b_are_seats : Ss := (sSeq (sIf (sOr (sNot (sTst (s1 (fIsi .tuple) (sVar 2)))) (sNot (sTst (sA fAll (sCons C_are_seats_3 sNil))))) (sRet (sC (.bool false))) sSkip)
    (sSeq (sIf (sNot (sTst (sA fAll (sCons C_are_seats_2 sNil)))) (sRet (sC (.bool false))) sSkip)
    (sRet (sA fAll (sCons C_are_seats_1 sNil)))))
noncomputable def g_are_seats : Fn := mkFn 3 6 b_are_seats
theorem ok_are_seats (T : Txt mg) (c_is_from : Cal P w K mg base 1 "is_from" 3 g_is_from) (c_is_shaded : Cal P w K mg base 1 "is_shaded" 3 g_is_shaded) {f : Addr} {fd : FuncData} (F : Fun K "are_seats" "are_seats" s_are_seats f fd) : FnOk P w K mg base CX0 2 f fd ["yard", "hour", "thing"] (spF K 3 g_are_seats) := by
  have nd := sc_are_seats.nd
  refine fn_ok (N := N_are_seats) F sc_are_seats fun cdv A outer s H E hr => ?_
  exact (pSs_cons (pS_if ((pT_or (pT_not (pT_tst (pE_isi (T := .tuple) (pE_var (pv 2)) (by rfl) T.b_isinstance (by rfl) T.b_tuple (by decide +kernel)))) (pw_or1 (pT_not (pT_tst (pE_callB (cr_all rfl) opA_all (by rfl) T.b_all (by decide +kernel) (pA_cons (pE_comp (own := [("seat", 3)]) (fl := false) (t := (.nm 3)) rfl nd (pI_it (pE_var (pv 2))) (blkOk_by (own := [("seat", 3)]) (N := N_are_seats) (sc := defScope s_are_seats) (by decide +kernel)) (fun _ _ _ _ _ => (pg_name (i := 3) nd rfl (by first | exact Or.inl rfl | exact Or.inr rfl))) (fun _ _ _ _ _ => pTs_nil) (fun _ _ _ _ _ => (pE_call c_is_from (hr.mono (by decide)) (by rfl) (pA_cons (pE_var (pv 3)) (pA_cons pE_int (pA_cons (pE_op op_sub o2_sub (pE_ix ix_seq o2_ix (pE_var (pv 0)) pE_int) pE_int) pA_nil))))) (by decide)) pA_nil))))))).pt
    (pSs_one (pS_ret pE_bl))
    pSs_nil)
    (pSs_cons (pS_if (pT_not (pT_tst (pE_callB (cr_all rfl) opA_all (by rfl) T.b_all (by decide +kernel) (pA_cons (pE_comp (own := [("one", 4), ("other", 5)]) (fl := false) (t := (.tp [4, 5])) rfl nd (pI_zip (by rfl) T.b_zip (pA_cons (pE_var (pv 2)) (pA_cons (pE_sl (fl := false) (pE_var (pv 2)) (pO_some pE_int) pO_none) pA_nil))) (blkOk_by (own := [("one", 4), ("other", 5)]) (N := N_are_seats) (sc := defScope s_are_seats) (by decide +kernel)) (fun _ _ _ _ _ => (pg_tup rfl (pgs_cons (pg_name (i := 4) nd rfl (by first | exact Or.inl rfl | exact Or.inr rfl)) (pgs_cons (pg_name (i := 5) nd rfl (by first | exact Or.inl rfl | exact Or.inr rfl)) pgs_nil)))) (fun _ _ _ _ _ => pTs_nil) (fun _ _ _ _ _ => (pE_cmp op_lt o2_cmp (pE_var (pv 4)) (pE_var (pv 5)) (nomark _))) (by decide)) pA_nil))))
    (pSs_one (pS_ret pE_bl))
    pSs_nil)
    (pSs_one (pS_ret (pE_callB (cr_all rfl) opA_all (by rfl) T.b_all (by decide +kernel) (pA_cons (pE_comp (own := [("seat", 3)]) (fl := false) (t := (.nm 3)) rfl nd (pI_it (pE_var (pv 2))) (blkOk_by (own := [("seat", 3)]) (N := N_are_seats) (sc := defScope s_are_seats) (by decide +kernel)) (fun _ _ _ _ _ => (pg_name (i := 3) nd rfl (by first | exact Or.inl rfl | exact Or.inr rfl))) (fun _ _ _ _ _ => pTs_nil) (fun _ _ _ _ _ => (pE_call c_is_shaded (hr.mono (by decide)) (by rfl) (pA_cons (pE_var (pv 0)) (pA_cons (pE_var (pv 3)) (pA_cons (pE_var (pv 1)) pA_nil))))) (by decide)) pA_nil))))))
theorem cal_are_seats (T : Txt mg) (c_is_from : Cal P w K mg base 1 "is_from" 3 g_is_from) (c_is_shaded : Cal P w K mg base 1 "is_shaded" 3 g_is_shaded) {f : Addr} {fd : FuncData} (F : Fun K "are_seats" "are_seats" s_are_seats f fd) (hm : mg "are_seats" = some (.ref f)) : Cal P w K mg base 2 "are_seats" 3 g_are_seats :=
  ⟨f, fd, ["yard", "hour", "thing"], rfl, ok_are_seats T c_is_from c_is_shaded F, hm, F.kp, F.binds (ps := ["yard", "hour", "thing"]) fun _ _ _ _ _ _ us hl => match us, hl with | [_, _, _], _ => rfl⟩
/-! ### Day_init -/
abbrev s_Day_init : Stmt := inClass (topS 34) 0
abbrev N_Day_init : List Str := ["self", "yard", "first"]
theorem sc_Day_init : FnScope N_Day_init ["self", "yard", "first"] (defScope s_Day_init) := ⟨rfl, rfl, rfl, by decide +kernel, rfl, by decide +kernel, by decide +kernel⟩
noncomputable def T1_Day : Sb := (sNot (sTst (sCall 1 g_is_yard (sCons (sVar 1) sNil))))
noncomputable def T2_Day : Sb := (sOr (sNot (sTst (sCall 3 g_are_seats (sCons (sVar 1) (sCons (sC (.int 0)) (sCons (sVar 2) sNil)))))) (sTst (s2 (fEq false) (sA fLen (sCons (sVar 2) sNil)) (sC (.int 0)))))
noncomputable def T3_Day : Sb := (sTst (s2 fGt (sA fLen (sCons (sVar 2) sNil)) (sCall 1 g_most_sitters (sCons (sVar 1) sNil))))
theorem ok_Day_init {C : Addr} (T : Txt mg) (D : TxtD K C) (c_are_seats : Cal P w K mg base 2 "are_seats" 3 g_are_seats) (c_is_yard : Cal P w K mg base 3 "is_yard" 1 g_is_yard) (c_most_sitters : Cal P w K mg base 3 "most_sitters" 1 g_most_sitters) {f : Addr} {fd : FuncData} (F : Fun K "__init__" "Day.__init__" s_Day_init f fd) : FnOk P w K mg base CX0 4 f fd ["self", "yard", "first"] (spDay K C T1_Day T2_Day T3_Day) := by
  have nd := sc_Day_init.nd
  refine F.ok sc_Day_init (fun vs H Q E h => ?_) (fun cdv A outer s H vs Q E hr h => ?_)
  · obtain ⟨w, x, dx, v, f, y, d, rfl, _⟩ := h
    rfl
  · obtain ⟨w0, x, dx, v, f0, y, d, rfl, _⟩ := id h
    refine ⟨_, (pss_cons (ps_if (pT_not (pT_tst (pE_call c_is_yard (hr.mono (by decide)) (by rfl) (pA_cons (pE_var (pv 1)) pA_nil)))) pss_no pss_nil) (pss_cons (ps_if ((pT_or (pT_not (pT_tst (pE_call c_are_seats (hr.mono (by decide)) (by rfl) (pA_cons (pE_var (pv 1)) (pA_cons pE_int (pA_cons (pE_var (pv 2)) pA_nil)))))) (pw_or1 (pT_cmp (op_eqD hr.units) o2_eq (pE_callB call_len opA_len (by rfl) T.b_len (by decide +kernel) (pA_cons (pE_var (pv 2)) pA_nil)) pE_int (nomark _))))).pt pss_no pss_nil) (pss_cons (ps_if (pT_cmp op_gt o2_cmp (pE_callB call_len opA_len (by rfl) T.b_len (by decide +kernel) (pA_cons (pE_var (pv 2)) pA_nil)) (pE_call c_most_sitters (hr.mono (by decide)) (by rfl) (pA_cons (pE_var (pv 1)) pA_nil)) (nomark _)) pss_no pss_nil) (pss_cons (ps_fld (pv 0) (pv 1) rfl) (pss_one (ps_fld (pv 0) (pe_lst (pa_cons (pv 2) pa_nil)) rfl)))))), ?_⟩
    exact init_read D.cl D.nY D.nR h _ fun _ _ z => z
theorem cal_Day_init {C : Addr} (T : Txt mg) (D : TxtD K C) (c_are_seats : Cal P w K mg base 2 "are_seats" 3 g_are_seats) (c_is_yard : Cal P w K mg base 3 "is_yard" 1 g_is_yard) (c_most_sitters : Cal P w K mg base 3 "most_sitters" 1 g_most_sitters) {f : Addr} {fd : FuncData} (F : Fun K "__init__" "Day.__init__" s_Day_init f fd) (M : Mk K C f) (hm : mg "Day" = some (.ref C)) : CalC P w K mg base C 4 "Day" T1_Day T2_Day T3_Day :=
  ⟨f, fd, ["self", "yard", "first"], ok_Day_init T D c_are_seats c_is_yard c_most_sitters F, M, hm, F.binds (ps := ["self", "yard", "first"]) fun _ _ _ _ _ _ us hl => match us, hl with | [_, _, _], _ => rfl⟩
/-! ### runs -/
abbrev s_runs : Stmt := topS 14
abbrev N_runs : List Str := ["hours", "found", "hour"]
theorem sc_runs : FnScope N_runs ["hours"] (defScope s_runs) := ⟨rfl, rfl, rfl, by decide +kernel, rfl, by decide +kernel, by decide +kernel⟩
noncomputable def l_runs_1 : Ss := (sIf (sAnd (sTru (sVar 1)) (sTst (s2 (fEq false) (s2 fIx (s2 fIx (sVar 1) (s1 fNeg (sC (.int 1)))) (sC (.int 1))) (s2 fSub (sVar 2) (sC (.int 1)))))) (sStL (sVar 1) (s1 fNeg (sC (.int 1))) (sA fTup (sCons (s2 fIx (s2 fIx (sVar 1) (s1 fNeg (sC (.int 1)))) (sC (.int 0))) (sCons (sVar 2) sNil)))) (sExpr (sMet fApp (sVar 1) (sCons (sA fTup (sCons (sVar 2) (sCons (sVar 2) sNil))) sNil))))
noncomputable def L_runs_1 : Ss := sFor (sIt (sVar 0)) (.nm 2) l_runs_1
noncomputable def b_runs : Ss := (sSeq (sAsg (sA (fLst true) sNil) (.nm 1))
    (sSeq L_runs_1
    (sRet (sFz (sVar 1)))))
noncomputable def g_runs : Fn := mkFn 1 3 b_runs
theorem ok_runs (T : Txt mg)  {f : Addr} {fd : FuncData} (F : Fun K "runs" "runs" s_runs f fd) : FnOk P w K mg base CX0 1 f fd ["hours"] (spF K 1 g_runs) := by
  have nd := sc_runs.nd
  refine fn_ok (N := N_runs) F sc_runs fun cdv A outer s H E hr => ?_
  exact (pSs_cons (pS_set (i := 1) nd rfl (by first | exact Or.inl rfl | exact Or.inr rfl) (pE_lst (b := true) pA_nil))
    (pSs_cons (pS_for (t := (.nm 2)) PassesOwn.never rfl (pI_it (pE_var (pv 0))) (pg_name (i := 2) nd rfl (by first | exact Or.inl rfl | exact Or.inr rfl))
    (pSs_one (pS_if ((pT_and (pT_tru (pE_var (pv 1))) (pw_and1 (pT_cmp (op_eqD hr.units) o2_eq (pE_ix ix_seq o2_ix (pE_ix ix_seq o2_ix (pE_var (pv 1)) (pE_un un_neg o1_neg pE_int)) pE_int) (pE_op op_sub o2_sub (pE_var (pv 2)) pE_int) (nomark _))))).pt
    (pSs_one (pS_stL (pE_tup (pA_cons (pE_ix ix_seq o2_ix (pE_ix ix_seq o2_ix (pE_var (pv 1)) (pE_un un_neg o1_neg pE_int)) pE_int) (pA_cons (pE_var (pv 2)) pA_nil))) (pE_var (pv 1)) (pE_un un_neg o1_neg pE_int)))
    (pSs_one (pS_expr (pE_app (pE_var (pv 1)) (pA_cons (pE_tup (pA_cons (pE_var (pv 2)) (pA_cons (pE_var (pv 2)) pA_nil))) pA_nil)))))))
    (pSs_one (pS_ret (pE_fz (pE_var (pv 1)))))))
theorem cal_runs (T : Txt mg)  {f : Addr} {fd : FuncData} (F : Fun K "runs" "runs" s_runs f fd) (hm : mg "runs" = some (.ref f)) : Cal P w K mg base 1 "runs" 1 g_runs :=
  ⟨f, fd, ["hours"], rfl, ok_runs T  F, hm, F.kp, F.binds (ps := ["hours"]) fun _ _ _ _ _ _ us hl => match us, hl with | [_], _ => rfl⟩
/-! ### stretches -/
abbrev s_stretches : Stmt := topS 15
abbrev N_stretches : List Str := ["yard", "found", "seat", "hours", "hour", "begin", "end"]
theorem sc_stretches : FnScope N_stretches ["yard"] (defScope s_stretches) := ⟨rfl, rfl, rfl, by decide +kernel, rfl, by decide +kernel, by decide +kernel⟩
noncomputable def C_stretches_1 : Sm := sComp false (sIt (sCall 1 g_runs (sCons (sVar 3) sNil))) (.tp [5, 6]) sYes (sA fTup (sCons (sVar 2) (sCons (sVar 5) (sCons (sVar 6) sNil)))) [5, 6]
noncomputable def C_stretches_2 : Sm := sComp false (sRng1 (sCons (sA fLen (sCons (s2 fIx (sVar 0) (sC (.int 2))) sNil)) sNil)) (.nm 4) (sTst (sCall 3 g_is_shaded (sCons (sVar 0) (sCons (sVar 2) (sCons (sVar 4) sNil))))) (sVar 4) [4]
noncomputable def l_stretches_1 : Ss := (sSeq (sAsg C_stretches_2 (.nm 3))
    (sAug 1 fAug C_stretches_1))
noncomputable def L_stretches_1 : Ss := sFor (sRng1 (sCons (s2 fIx (sVar 0) (sC (.int 0))) sNil)) (.nm 2) l_stretches_1
noncomputable def b_stretches : Ss := (sSeq (sAsg (sA (fLst true) sNil) (.nm 1))
    (sSeq L_stretches_1
    (sRet (sFz (sVar 1)))))
noncomputable def g_stretches : Fn := mkFn 1 7 b_stretches
theorem ok_stretches (T : Txt mg) (c_is_shaded : Cal P w K mg base 1 "is_shaded" 3 g_is_shaded) (c_runs : Cal P w K mg base 1 "runs" 1 g_runs) {f : Addr} {fd : FuncData} (F : Fun K "stretches" "stretches" s_stretches f fd) : FnOk P w K mg base CX0 2 f fd ["yard"] (spF K 1 g_stretches) := by
  have nd := sc_stretches.nd
  refine fn_ok (N := N_stretches) F sc_stretches fun cdv A outer s H E hr => ?_
  exact (pSs_cons (pS_set (i := 1) nd rfl (by first | exact Or.inl rfl | exact Or.inr rfl) (pE_lst (b := true) pA_nil))
    (pSs_cons (pS_for (t := (.nm 2)) PassesOwn.never rfl (pI_rng1 (by rfl) T.b_range (pA_cons (pE_ix ix_seq o2_ix (pE_var (pv 0)) pE_int) pA_nil)) (pg_name (i := 2) nd rfl (by first | exact Or.inl rfl | exact Or.inr rfl))
    (pSs_cons (pS_setComp (i := 3) (own := [("hour", 4)]) (fl := false) (t := (.nm 4)) rfl nd rfl rfl (sw_true rfl rfl rfl (by decide +kernel)) (pI_rng1 (by rfl) T.b_range (pA_cons (pE_callB call_len opA_len (by rfl) T.b_len (by decide +kernel) (pA_cons (pE_ix ix_seq o2_ix (pE_var (pv 0)) pE_int) pA_nil)) pA_nil)) (blkOk_by (own := [("hour", 4)]) (N := N_stretches) (sc := defScope s_stretches) (by decide +kernel)) (fun _ _ _ _ _ => (pg_name (i := 4) nd rfl (by first | exact Or.inl rfl | exact Or.inr rfl))) (fun _ _ _ _ _ => (pTs_one (pT_tst (pE_call c_is_shaded (hr.mono (by decide)) (by rfl) (pA_cons (pE_var (pv 0)) (pA_cons (pE_var (pv 2)) (pA_cons (pE_var (pv 4)) pA_nil))))))) (fun _ _ _ _ _ => (pE_var (pv 4))) (by decide))
    (pSs_one (pS_aug (i := 1) nd rfl (by first | exact Or.inl rfl | exact Or.inr rfl) (pE_comp (own := [("begin", 5), ("end", 6)]) (fl := false) (t := (.tp [5, 6])) rfl nd (pI_it (pE_call c_runs (hr.mono (by decide)) (by rfl) (pA_cons (pE_var (pv 3)) pA_nil))) (blkOk_by (own := [("begin", 5), ("end", 6)]) (N := N_stretches) (sc := defScope s_stretches) (by decide +kernel)) (fun _ _ _ _ _ => (pg_tup rfl (pgs_cons (pg_name (i := 5) nd rfl (by first | exact Or.inl rfl | exact Or.inr rfl)) (pgs_cons (pg_name (i := 6) nd rfl (by first | exact Or.inl rfl | exact Or.inr rfl)) pgs_nil)))) (fun _ _ _ _ _ => pTs_nil) (fun _ _ _ _ _ => (pE_tup (pA_cons (pE_var (pv 2)) (pA_cons (pE_var (pv 5)) (pA_cons (pE_var (pv 6)) pA_nil))))) (by decide)) op_augU o2_aug))))
    (pSs_one (pS_ret (pE_fz (pE_var (pv 1)))))))
theorem cal_stretches (T : Txt mg) (c_is_shaded : Cal P w K mg base 1 "is_shaded" 3 g_is_shaded) (c_runs : Cal P w K mg base 1 "runs" 1 g_runs) {f : Addr} {fd : FuncData} (F : Fun K "stretches" "stretches" s_stretches f fd) (hm : mg "stretches" = some (.ref f)) : Cal P w K mg base 2 "stretches" 1 g_stretches :=
  ⟨f, fd, ["yard"], rfl, ok_stretches T c_is_shaded c_runs F, hm, F.kp, F.binds (ps := ["yard"]) fun _ _ _ _ _ _ us hl => match us, hl with | [_], _ => rfl⟩
/-! ### goings -/
abbrev s_goings : Stmt := topS 20
abbrev N_goings : List Str := ["seats", "later", "seat"]
theorem sc_goings : FnScope N_goings ["seats", "later"] (defScope s_goings) := ⟨rfl, rfl, rfl, by decide +kernel, rfl, by decide +kernel, by decide +kernel⟩
noncomputable def C_goings_1 : Sm := sComp false (sIt (sVar 1)) (.nm 2) (sTst (s2 (fIn true) (sVar 2) (sVar 0))) (sVar 2) [2]
noncomputable def b_goings : Ss := (sRet (sA fLen (sCons C_goings_1 sNil)))
noncomputable def g_goings : Fn := mkFn 2 3 b_goings
theorem ok_goings (T : Txt mg)  {f : Addr} {fd : FuncData} (F : Fun K "goings" "goings" s_goings f fd) : FnOk P w K mg base CX0 1 f fd ["seats", "later"] (spF K 2 g_goings) := by
  have nd := sc_goings.nd
  refine fn_ok (N := N_goings) F sc_goings fun cdv A outer s H E hr => ?_
  exact (pSs_one (pS_ret (pE_callB call_len opA_len (by rfl) T.b_len (by decide +kernel) (pA_cons (pE_comp (own := [("seat", 2)]) (fl := false) (t := (.nm 2)) rfl nd (pI_it (pE_var (pv 1))) (blkOk_by (own := [("seat", 2)]) (N := N_goings) (sc := defScope s_goings) (by decide +kernel)) (fun _ _ _ _ _ => (pg_name (i := 2) nd rfl (by first | exact Or.inl rfl | exact Or.inr rfl))) (fun _ _ _ _ _ => (pTs_one (pT_cmp op_notIn_seq o2_notin (pE_var (pv 2)) (pE_var (pv 0)) (by rfl)))) (fun _ _ _ _ _ => (pE_var (pv 2))) (by decide)) pA_nil))))
theorem cal_goings (T : Txt mg)  {f : Addr} {fd : FuncData} (F : Fun K "goings" "goings" s_goings f fd) (hm : mg "goings" = some (.ref f)) : Cal P w K mg base 1 "goings" 2 g_goings :=
  ⟨f, fd, ["seats", "later"], rfl, ok_goings T  F, hm, F.kp, F.binds (ps := ["seats", "later"]) fun _ _ _ _ _ _ us hl => match us, hl with | [_, _], _ => rfl⟩
theorem cal_goings_seatings (T : Txt mg)  {f : Addr} {fd : FuncData} (F : Fun K "goings" "goings" s_goings f fd) (hm : mg "goings_seatings" = some (.ref f)) : Cal P w K mg base 1 "goings_seatings" 2 g_goings :=
  ⟨f, fd, ["seats", "later"], rfl, ok_goings T  F, hm, F.kp, F.binds (ps := ["seats", "later"]) fun _ _ _ _ _ _ us hl => match us, hl with | [_, _], _ => rfl⟩
/-! ### table -/
abbrev s_table : Stmt := topS 23
abbrev N_table : List Str := ["hours", "begin", "rows", "lot", "lots", "last", "here", "before"]
theorem sc_table : FnScope N_table ["hours", "begin"] (defScope s_table) := ⟨rfl, rfl, rfl, by decide +kernel, rfl, by decide +kernel, by decide +kernel⟩
noncomputable def C_table_1 : Sm := sComp false (sKeys (mkVar 5)) (.nm 7) sYes (sA fTup (sCons (s2 (fAdd false) (s2 fIx (s2 fDGet (sVar 5) (sVar 7)) (sC (.int 0))) (sCall 2 g_goings (sCons (sVar 7) (sCons (sVar 3) sNil)))) (sCons (sVar 7) sNil))) [7]
noncomputable def l_table_1 : Ss := (sStD (sVar 6) (sVar 3) (sA fMinP (sCons C_table_1 sNil)))
noncomputable def L_table_1 : Ss := sFor (sIt (sVar 4)) (.nm 3) l_table_1
noncomputable def l_table_2 : Ss := (sSeq (sAsg (s2 fIx (sVar 2) (s1 fNeg (sC (.int 1)))) (.nm 5))
    (sSeq (sAsg sNewT (.nm 6))
    (sSeq L_table_1
    (sExpr (sMet fApp (sVar 2) (sCons (sFz (sVar 6)) sNil))))))
noncomputable def L_table_2 : Ss := sFor (sIt (sVar 0)) (.nm 4) l_table_2
noncomputable def C_table_2 : Sm := sDcT (sIt (sVar 1)) (.nm 3) sYes (sVar 3) (sA fTup (sCons (sA fLen (sCons (sVar 3) sNil)) (sCons (sA fTup sNil) sNil))) [3]
noncomputable def b_table : Ss := (sSeq (sAsg (sA (fLst true) (sCons C_table_2 sNil)) (.nm 2))
    (sSeq L_table_2
    (sRet (sFz (sVar 2)))))
noncomputable def g_table : Fn := mkFn 2 8 b_table
theorem ok_table (T : Txt mg) (c_goings_seatings : Cal P w K mg base 1 "goings_seatings" 2 g_goings) {f : Addr} {fd : FuncData} (F : Fun K "table" "table" s_table f fd) : FnOk P w K mg base CX0 2 f fd ["hours", "begin"] (spF K 2 g_table) := by
  have nd := sc_table.nd
  refine fn_ok (N := N_table) F sc_table fun cdv A outer s H E hr => ?_
  exact (pSs_cons (pS_set (i := 2) nd rfl (by first | exact Or.inl rfl | exact Or.inr rfl) (pE_lst (b := true) (pA_cons (pE_dcT (own := [("lot", 3)]) (t := (.nm 3)) (hu_of hr) rfl nd (pI_it (pE_var (pv 1))) (blkOk_by (own := [("lot", 3)]) (N := N_table) (sc := defScope s_table) (by decide +kernel)) (fun _ _ _ _ _ => (pg_name (i := 3) nd rfl (by first | exact Or.inl rfl | exact Or.inr rfl))) (fun _ _ _ _ _ => pTs_nil) (fun _ _ _ _ _ => (pE_var (pv 3))) (fun _ _ _ _ _ => (pE_tup (pA_cons (pE_callB call_len opA_len (by rfl) T.b_len (by decide +kernel) (pA_cons (pE_var (pv 3)) pA_nil)) (pA_cons (pE_tup pA_nil) pA_nil)))) (by decide)) pA_nil)))
    (pSs_cons (pS_for (t := (.nm 4)) PassesOwn.never rfl (pI_it (pE_var (pv 0))) (pg_name (i := 4) nd rfl (by first | exact Or.inl rfl | exact Or.inr rfl))
    (pSs_cons (pS_set (i := 5) nd rfl (by first | exact Or.inl rfl | exact Or.inr rfl) (pE_ix ix_seq o2_ix (pE_var (pv 2)) (pE_un un_neg o1_neg pE_int)))
    (pSs_cons (pS_set (i := 6) nd rfl (by first | exact Or.inl rfl | exact Or.inr rfl) pE_newT)
    (pSs_cons (pS_for (t := (.nm 3)) PassesOwn.never rfl (pI_it (pE_var (pv 4))) (pg_name (i := 3) nd rfl (by first | exact Or.inl rfl | exact Or.inr rfl))
    (pSs_one (pS_stD (hu_of hr) (pE_callB (call_minP rfl hr) opA_minP (by rfl) T.b_min (by decide +kernel) (pA_cons (pE_compK (own := [("before", 7)]) (fl := false) (t := (.nm 7)) (keys_var 5) rfl nd (pv 5) (blkOk_by (own := [("before", 7)]) (N := N_table) (sc := defScope s_table) (by decide +kernel)) (fun _ _ _ _ _ => (pg_name (i := 7) nd rfl (by first | exact Or.inl rfl | exact Or.inr rfl))) (fun _ _ _ _ _ => pTs_nil) (fun _ _ _ _ _ => (pE_tup (pA_cons (pE_op op_addU (o2_add (b := false)) (pE_ix ix_seq o2_ix (pE_dget (hu_of hr) (pE_var (pv 5)) (pE_var (pv 7))) pE_int) (pE_call c_goings_seatings (hr.mono (by decide)) (by rfl) (pA_cons (pE_var (pv 7)) (pA_cons (pE_var (pv 3)) pA_nil)))) (pA_cons (pE_var (pv 7)) pA_nil)))) (by decide)) pA_nil)) (pE_var (pv 6)) (pE_var (pv 3)))))
    (pSs_one (pS_expr (pE_app (pE_var (pv 2)) (pA_cons (pE_fz (pE_var (pv 6))) pA_nil))))))))
    (pSs_one (pS_ret (pE_fz (pE_var (pv 2)))))))
theorem cal_table (T : Txt mg) (c_goings_seatings : Cal P w K mg base 1 "goings_seatings" 2 g_goings) {f : Addr} {fd : FuncData} (F : Fun K "table" "table" s_table f fd) (hm : mg "table" = some (.ref f)) : Cal P w K mg base 2 "table" 2 g_table :=
  ⟨f, fd, ["hours", "begin"], rfl, ok_table T c_goings_seatings F, hm, F.kp, F.binds (ps := ["hours", "begin"]) fun _ _ _ _ _ _ us hl => match us, hl with | [_, _], _ => rfl⟩
/-! ### best -/
abbrev s_best : Stmt := topS 24
abbrev N_best : List Str := ["hours", "begin", "rows", "number", "lot", "seating", "here"]
theorem sc_best : FnScope N_best ["hours", "begin"] (defScope s_best) := ⟨rfl, rfl, rfl, by decide +kernel, rfl, by decide +kernel, by decide +kernel⟩
noncomputable def l_best_1 : Ss := (sExpr (sMet fApp (sVar 5) (sCons (s2 fIx (s2 fDGet (sVar 6) (s2 fIx (sVar 5) (s1 fNeg (sC (.int 1))))) (sC (.int 1))) sNil)))
noncomputable def L_best_1 : Ss := sFor (sRev (sSl false (sVar 2) (sPart (sC (.int 1))) sNoP)) (.nm 6) l_best_1
noncomputable def C_best_1 : Sm := sComp false (sKeys (mkLast 2)) (.nm 4) sYes (sA fTup (sCons (s2 fIx (s2 fDGet (s2 fIx (sVar 2) (s1 fNeg (sC (.int 1)))) (sVar 4)) (sC (.int 0))) (sCons (sVar 4) sNil))) [4]
noncomputable def b_best : Ss := (sSeq (sAsg (sCall 2 g_table (sCons (sVar 0) (sCons (sVar 1) sNil))) (.nm 2))
    (sSeq (sAsg (sA fMinP (sCons C_best_1 sNil)) (.tp [3, 4]))
    (sSeq (sAsg (sA (fLst true) (sCons (sVar 4) sNil)) (.nm 5))
    (sSeq L_best_1
    (sRet (sA fTup (sCons (sVar 3) (sCons (s1 fTupRev (sVar 5)) sNil))))))))
noncomputable def g_best : Fn := mkFn 2 7 b_best
theorem ok_best (T : Txt mg) (c_table : Cal P w K mg base 2 "table" 2 g_table) {f : Addr} {fd : FuncData} (F : Fun K "best" "best" s_best f fd) : FnOk P w K mg base CX0 3 f fd ["hours", "begin"] (spF K 2 g_best) := by
  have nd := sc_best.nd
  refine fn_ok (N := N_best) F sc_best fun cdv A outer s H E hr => ?_
  exact (pSs_cons (pS_set (i := 2) nd rfl (by first | exact Or.inl rfl | exact Or.inr rfl) (pE_call c_table (hr.mono (by decide)) (by rfl) (pA_cons (pE_var (pv 0)) (pA_cons (pE_var (pv 1)) pA_nil))))
    (pSs_cons (pS_asg (t := (.tp [3, 4])) (pE_callB (call_minP rfl hr) opA_minP (by rfl) T.b_min (by decide +kernel) (pA_cons (pE_compK (own := [("lot", 4)]) (fl := false) (t := (.nm 4)) (keys_last 2) rfl nd (pe_last (pv 2)) (blkOk_by (own := [("lot", 4)]) (N := N_best) (sc := defScope s_best) (by decide +kernel)) (fun _ _ _ _ _ => (pg_name (i := 4) nd rfl (by first | exact Or.inl rfl | exact Or.inr rfl))) (fun _ _ _ _ _ => pTs_nil) (fun _ _ _ _ _ => (pE_tup (pA_cons (pE_ix ix_seq o2_ix (pE_dget (hu_of hr) (pE_ix ix_seq o2_ix (pE_var (pv 2)) (pE_un un_neg o1_neg pE_int)) (pE_var (pv 4))) pE_int) (pA_cons (pE_var (pv 4)) pA_nil)))) (by decide)) pA_nil)) (pg_tup rfl (pgs_cons (pg_name (i := 3) nd rfl (by first | exact Or.inl rfl | exact Or.inr rfl)) (pgs_cons (pg_name (i := 4) nd rfl (by first | exact Or.inl rfl | exact Or.inr rfl)) pgs_nil))))
    (pSs_cons (pS_set (i := 5) nd rfl (by first | exact Or.inl rfl | exact Or.inr rfl) (pE_lst (b := true) (pA_cons (pE_var (pv 4)) pA_nil)))
    (pSs_cons (pS_for (t := (.nm 6)) PassesOwn.never rfl (pI_rev (by rfl) T.b_reversed (pE_sl (fl := false) (pE_var (pv 2)) (pO_some pE_int) pO_none)) (pg_name (i := 6) nd rfl (by first | exact Or.inl rfl | exact Or.inr rfl))
    (pSs_one (pS_expr (pE_app (pE_var (pv 5)) (pA_cons (pE_ix ix_seq o2_ix (pE_dget (hu_of hr) (pE_var (pv 6)) (pE_ix ix_seq o2_ix (pE_var (pv 5)) (pE_un un_neg o1_neg pE_int))) pE_int) pA_nil)))))
    (pSs_one (pS_ret (pE_tup (pA_cons (pE_var (pv 3)) (pA_cons (pE_tupRev rfl (by rfl) T.b_tuple (by rfl) T.b_reversed (pE_var (pv 5))) pA_nil)))))))))
theorem cal_best (T : Txt mg) (c_table : Cal P w K mg base 2 "table" 2 g_table) {f : Addr} {fd : FuncData} (F : Fun K "best" "best" s_best f fd) (hm : mg "best" = some (.ref f)) : Cal P w K mg base 3 "best" 2 g_best :=
  ⟨f, fd, ["hours", "begin"], rfl, ok_best T c_table F, hm, F.kp, F.binds (ps := ["hours", "begin"]) fun _ _ _ _ _ _ us hl => match us, hl with | [_, _], _ => rfl⟩
/-! ### lots_of -/
abbrev s_lots_of : Stmt := topS 22
abbrev N_lots_of : List Str := ["some", "many", "found", "one", "lot"]
theorem sc_lots_of : FnScope N_lots_of ["some", "many"] (defScope s_lots_of) := ⟨rfl, rfl, rfl, by decide +kernel, rfl, by decide +kernel, by decide +kernel⟩
noncomputable def C_lots_of_1 : Sm := sComp false (sIt (sVar 2)) (.nm 4) (sTst (s2 (fEq false) (sA fLen (sCons (sVar 4) sNil)) (sVar 1))) (sVar 4) [4]
noncomputable def C_lots_of_2 : Sm := sComp false (sIt (sVar 2)) (.nm 4) (sTst (s2 fLt (sA fLen (sCons (sVar 4) sNil)) (sVar 1))) (s2 (fAdd false) (sVar 4) (sA fTup (sCons (sVar 3) sNil))) [4]
noncomputable def l_lots_of_1 : Ss := (sAug 2 fAug C_lots_of_2)
noncomputable def L_lots_of_1 : Ss := sFor (sIt (sVar 0)) (.nm 3) l_lots_of_1
noncomputable def b_lots_of : Ss := (sSeq (sAsg (sA (fLst true) (sCons (sA fTup sNil) sNil)) (.nm 2))
    (sSeq L_lots_of_1
    (sRet C_lots_of_1)))
noncomputable def g_lots_of : Fn := mkFn 2 5 b_lots_of
theorem ok_lots_of (T : Txt mg)  {f : Addr} {fd : FuncData} (F : Fun K "lots_of" "lots_of" s_lots_of f fd) : FnOk P w K mg base CX0 1 f fd ["some", "many"] (spF K 2 g_lots_of) := by
  have nd := sc_lots_of.nd
  refine fn_ok (N := N_lots_of) F sc_lots_of fun cdv A outer s H E hr => ?_
  exact (pSs_cons (pS_set (i := 2) nd rfl (by first | exact Or.inl rfl | exact Or.inr rfl) (pE_lst (b := true) (pA_cons (pE_tup pA_nil) pA_nil)))
    (pSs_cons (pS_for (t := (.nm 3)) PassesOwn.never rfl (pI_it (pE_var (pv 0))) (pg_name (i := 3) nd rfl (by first | exact Or.inl rfl | exact Or.inr rfl))
    (pSs_one (pS_aug (i := 2) nd rfl (by first | exact Or.inl rfl | exact Or.inr rfl) (pE_comp (own := [("lot", 4)]) (fl := false) (t := (.nm 4)) rfl nd (pI_it (pE_var (pv 2))) (blkOk_by (own := [("lot", 4)]) (N := N_lots_of) (sc := defScope s_lots_of) (by decide +kernel)) (fun _ _ _ _ _ => (pg_name (i := 4) nd rfl (by first | exact Or.inl rfl | exact Or.inr rfl))) (fun _ _ _ _ _ => (pTs_one (pT_cmp op_lt o2_cmp (pE_callB call_len opA_len (by rfl) T.b_len (by decide +kernel) (pA_cons (pE_var (pv 4)) pA_nil)) (pE_var (pv 1)) (nomark _)))) (fun _ _ _ _ _ => (pE_op op_addU (o2_add (b := false)) (pE_var (pv 4)) (pE_tup (pA_cons (pE_var (pv 3)) pA_nil)))) (by decide)) op_augU o2_aug)))
    (pSs_one (pS_ret (pE_comp (own := [("lot", 4)]) (fl := false) (t := (.nm 4)) rfl nd (pI_it (pE_var (pv 2))) (blkOk_by (own := [("lot", 4)]) (N := N_lots_of) (sc := defScope s_lots_of) (by decide +kernel)) (fun _ _ _ _ _ => (pg_name (i := 4) nd rfl (by first | exact Or.inl rfl | exact Or.inr rfl))) (fun _ _ _ _ _ => (pTs_one (pT_cmp (op_eqD hr.units) o2_eq (pE_callB call_len opA_len (by rfl) T.b_len (by decide +kernel) (pA_cons (pE_var (pv 4)) pA_nil)) (pE_var (pv 1)) (nomark _)))) (fun _ _ _ _ _ => (pE_var (pv 4))) (by decide))))))
theorem cal_lots_of (T : Txt mg)  {f : Addr} {fd : FuncData} (F : Fun K "lots_of" "lots_of" s_lots_of f fd) (hm : mg "lots_of" = some (.ref f)) : Cal P w K mg base 1 "lots_of" 2 g_lots_of :=
  ⟨f, fd, ["some", "many"], rfl, ok_lots_of T  F, hm, F.kp, F.binds (ps := ["some", "many"]) fun _ _ _ _ _ _ us hl => match us, hl with | [_, _], _ => rfl⟩
/-! ### fewest -/
abbrev s_fewest : Stmt := topS 25
abbrev N_fewest : List Str := ["yard", "many", "first", "hours", "hour"]
theorem sc_fewest : FnScope N_fewest ["yard", "many", "first"] (defScope s_fewest) := ⟨rfl, rfl, rfl, by decide +kernel, rfl, by decide +kernel, by decide +kernel⟩
noncomputable def C_fewest_1 : Sm := sComp false (sRng1 (sCons (sA fLen (sCons (s2 fIx (sVar 0) (sC (.int 2))) sNil)) sNil)) (.nm 4) sYes (sCall 2 g_lots_of (sCons (sCall 2 g_shaded (sCons (sVar 0) (sCons (sVar 4) sNil))) (sCons (sVar 1) sNil))) [4]
noncomputable def b_fewest : Ss := (sSeq (sAsg C_fewest_1 (.nm 3))
    (sRet (sCall 2 g_best (sCons (sSl false (sVar 3) (sPart (sC (.int 1))) sNoP) (sCons (sIfE (sTst (s2 (fIs false) (sVar 2) (sC .none))) (s2 fIx (sVar 3) (sC (.int 0))) (sA (fLst false) (sCons (sVar 2) sNil))) sNil)))))
noncomputable def g_fewest : Fn := mkFn 3 5 b_fewest
theorem ok_fewest (T : Txt mg) (c_best : Cal P w K mg base 3 "best" 2 g_best) (c_lots_of : Cal P w K mg base 1 "lots_of" 2 g_lots_of) (c_shaded : Cal P w K mg base 2 "shaded" 2 g_shaded) {f : Addr} {fd : FuncData} (F : Fun K "fewest" "fewest" s_fewest f fd) : FnOk P w K mg base CX0 4 f fd ["yard", "many", "first"] (spF K 3 g_fewest) := by
  have nd := sc_fewest.nd
  refine fn_ok (N := N_fewest) F sc_fewest fun cdv A outer s H E hr => ?_
  exact (pSs_cons (pS_setComp (i := 3) (own := [("hour", 4)]) (fl := false) (t := (.nm 4)) rfl nd rfl rfl (sw_true rfl rfl rfl (by decide +kernel)) (pI_rng1 (by rfl) T.b_range (pA_cons (pE_callB call_len opA_len (by rfl) T.b_len (by decide +kernel) (pA_cons (pE_ix ix_seq o2_ix (pE_var (pv 0)) pE_int) pA_nil)) pA_nil)) (blkOk_by (own := [("hour", 4)]) (N := N_fewest) (sc := defScope s_fewest) (by decide +kernel)) (fun _ _ _ _ _ => (pg_name (i := 4) nd rfl (by first | exact Or.inl rfl | exact Or.inr rfl))) (fun _ _ _ _ _ => pTs_nil) (fun _ _ _ _ _ => (pE_call c_lots_of (hr.mono (by decide)) (by rfl) (pA_cons (pE_call c_shaded (hr.mono (by decide)) (by rfl) (pA_cons (pE_var (pv 0)) (pA_cons (pE_var (pv 4)) pA_nil))) (pA_cons (pE_var (pv 1)) pA_nil)))) (by decide))
    (pSs_one (pS_ret (pE_call c_best (hr.mono (by decide)) (by rfl) (pA_cons (pE_sl (fl := false) (pE_var (pv 3)) (pO_some pE_int) pO_none) (pA_cons (pE_ifE (pT_cmp op_isU o2_is (pE_var (pv 2)) pE_non (nomark _)) (pE_ix ix_seq o2_ix (pE_var (pv 3)) pE_int) (pE_lst (b := false) (pA_cons (pE_var (pv 2)) pA_nil))) pA_nil))))))
theorem cal_fewest (T : Txt mg) (c_best : Cal P w K mg base 3 "best" 2 g_best) (c_lots_of : Cal P w K mg base 1 "lots_of" 2 g_lots_of) (c_shaded : Cal P w K mg base 2 "shaded" 2 g_shaded) {f : Addr} {fd : FuncData} (F : FunD K "fewest" "fewest" (defArgs s_fewest) (defBody s_fewest) (defScope s_fewest) [] [("first", .non)] f fd) (hm : mg "fewest" = some (.ref f)) : CalD P w K mg base 4 "fewest" 2 "first" g_fewest := by
  obtain ⟨dv, v1, v2⟩ := F.binds0 (ps := ["yard", "many", "first"]) 2 (by simp) rfl fun D doc pm an cdv ct us ks h1 h2 => match us, ks, h1, h2 with
    | [_, _], [_], _, _ => ⟨_, _, _, _, _, _, rfl, rfl, rfl⟩
  exact ⟨f, fd, ["yard", "many", "first"], dv, rfl, ok_fewest T c_best c_lots_of c_shaded (FunD.noD F), hm, F.kp, v1, v2, kb_of F fun kV doc pm an cdv ct us ws h1 h2 => match us, ws, h1, h2 with
    | [_, _], [_], _, _ => rfl⟩
/-! ### shows -/
abbrev s_shows : Stmt := topS 41
abbrev N_shows : List Str := ["many", "spans", "hours", "total", "begin", "end", "inside", "hour"]
theorem sc_shows : FnScope N_shows ["many", "spans", "hours"] (defScope s_shows) := ⟨rfl, rfl, rfl, by decide +kernel, rfl, by decide +kernel, by decide +kernel⟩
noncomputable def C_shows_1 : Sm := sComp false (sIt (sVar 2)) (.nm 7) (sTst (sChain fLe fLe (sVar 4) (sVar 7) (sVar 5))) (sVar 7) [7]
noncomputable def l_shows_1 : Ss := (sSeq (sAsg (sA fLen (sCons C_shows_1 sNil)) (.nm 6))
    (sAug 3 fSub (sA fMax (sCons (sC (.int 0)) (sCons (s2 fSub (sVar 6) (sC (.int 1))) sNil)))))
noncomputable def L_shows_1 : Ss := sFor (sIt (sVar 1)) (.tp [4, 5]) l_shows_1
noncomputable def b_shows : Ss := (sSeq (sAsg (s2 fMul (sVar 0) (sA fLen (sCons (sVar 2) sNil))) (.nm 3))
    (sSeq L_shows_1
    (sRet (sA fMax (sCons (sC (.int 0)) (sCons (sVar 3) sNil))))))
noncomputable def g_shows : Fn := mkFn 3 8 b_shows
theorem ok_shows (T : Txt mg)  {f : Addr} {fd : FuncData} (F : Fun K "shows" "shows" s_shows f fd) : FnOk P w K mg base CX0 1 f fd ["many", "spans", "hours"] (spF K 3 g_shows) := by
  have nd := sc_shows.nd
  refine fn_ok (N := N_shows) F sc_shows fun cdv A outer s H E hr => ?_
  exact (pSs_cons (pS_set (i := 3) nd rfl (by first | exact Or.inl rfl | exact Or.inr rfl) (pE_op op_mulU o2_mul (pE_var (pv 0)) (pE_callB call_len opA_len (by rfl) T.b_len (by decide +kernel) (pA_cons (pE_var (pv 2)) pA_nil))))
    (pSs_cons (pS_for (t := (.tp [4, 5])) PassesOwn.never rfl (pI_it (pE_var (pv 1))) (pg_tup rfl (pgs_cons (pg_name (i := 4) nd rfl (by first | exact Or.inl rfl | exact Or.inr rfl)) (pgs_cons (pg_name (i := 5) nd rfl (by first | exact Or.inl rfl | exact Or.inr rfl)) pgs_nil)))
    (pSs_cons (pS_set (i := 6) nd rfl (by first | exact Or.inl rfl | exact Or.inr rfl) (pE_callB call_len opA_len (by rfl) T.b_len (by decide +kernel) (pA_cons (pE_comp (own := [("hour", 7)]) (fl := false) (t := (.nm 7)) rfl nd (pI_it (pE_var (pv 2))) (blkOk_by (own := [("hour", 7)]) (N := N_shows) (sc := defScope s_shows) (by decide +kernel)) (fun _ _ _ _ _ => (pg_name (i := 7) nd rfl (by first | exact Or.inl rfl | exact Or.inr rfl))) (fun _ _ _ _ _ => (pTs_one (pT_chain op_le op_le o2_cmp o2_cmp (pE_var (pv 4)) (pE_var (pv 7)) (pE_var (pv 5))))) (fun _ _ _ _ _ => (pE_var (pv 7))) (by decide)) pA_nil)))
    (pSs_one (pS_aug (i := 3) nd rfl (by first | exact Or.inl rfl | exact Or.inr rfl) (pE_callB (call_maxU rfl) opA_max (by rfl) T.b_max (by decide +kernel) (pA_cons pE_int (pA_cons (pE_op op_sub o2_sub (pE_var (pv 6)) pE_int) pA_nil))) iop_sub o2_sub))))
    (pSs_one (pS_ret (pE_callB (call_maxU rfl) opA_max (by rfl) T.b_max (by decide +kernel) (pA_cons pE_int (pA_cons (pE_var (pv 3)) pA_nil)))))))
theorem cal_shows (T : Txt mg)  {f : Addr} {fd : FuncData} (F : Fun K "shows" "shows" s_shows f fd) (hm : mg "shows" = some (.ref f)) : Cal P w K mg base 1 "shows" 3 g_shows :=
  ⟨f, fd, ["many", "spans", "hours"], rfl, ok_shows T  F, hm, F.kp, F.binds (ps := ["many", "spans", "hours"]) fun _ _ _ _ _ _ us hl => match us, hl with | [_, _, _], _ => rfl⟩
/-! ### counted -/
abbrev s_counted : Stmt := topS 40
abbrev N_counted : List Str := ["yard", "first", "found", "seat", "begin", "end"]
theorem sc_counted : FnScope N_counted ["yard", "first"] (defScope s_counted) := ⟨rfl, rfl, rfl, by decide +kernel, rfl, by decide +kernel, by decide +kernel⟩
noncomputable def l_counted_1 : Ss := (sSeq (sIf (sAnd (sTst (s2 (fIs true) (sVar 1) (sC .none))) (sAnd (sTst (s2 (fEq false) (sVar 4) (sC (.int 0)))) (sTst (s2 (fIn true) (sVar 3) (sVar 1))))) (sAsg (sC (.int 1)) (.nm 4)) sSkip)
    (sIf (sTst (s2 fLe (sVar 4) (sVar 5))) (sExpr (sMet fApp (sVar 2) (sCons (sA fTup (sCons (sVar 4) (sCons (sVar 5) sNil))) sNil))) sSkip))
noncomputable def L_counted_1 : Ss := sFor (sIt (sCall 1 g_stretches (sCons (sVar 0) sNil))) (.tp [3, 4, 5]) l_counted_1
noncomputable def b_counted : Ss := (sSeq (sAsg (sA (fLst true) sNil) (.nm 2))
    (sSeq L_counted_1
    (sRet (sFz (sVar 2)))))
noncomputable def g_counted : Fn := mkFn 2 6 b_counted
theorem ok_counted (T : Txt mg) (c_stretches : Cal P w K mg base 2 "stretches" 1 g_stretches) {f : Addr} {fd : FuncData} (F : Fun K "counted" "counted" s_counted f fd) : FnOk P w K mg base CX0 3 f fd ["yard", "first"] (spF K 2 g_counted) := by
  have nd := sc_counted.nd
  refine fn_ok (N := N_counted) F sc_counted fun cdv A outer s H E hr => ?_
  exact (pSs_cons (pS_set (i := 2) nd rfl (by first | exact Or.inl rfl | exact Or.inr rfl) (pE_lst (b := true) pA_nil))
    (pSs_cons (pS_for (t := (.tp [3, 4, 5])) PassesOwn.never rfl (pI_it (pE_call c_stretches (hr.mono (by decide)) (by rfl) (pA_cons (pE_var (pv 0)) pA_nil))) (pg_tup rfl (pgs_cons (pg_name (i := 3) nd rfl (by first | exact Or.inl rfl | exact Or.inr rfl)) (pgs_cons (pg_name (i := 4) nd rfl (by first | exact Or.inl rfl | exact Or.inr rfl)) (pgs_cons (pg_name (i := 5) nd rfl (by first | exact Or.inl rfl | exact Or.inr rfl)) pgs_nil))))
    (pSs_cons (pS_if ((pT_and (pT_cmp op_notU o2_isnot (pE_var (pv 1)) pE_non (nomark _)) (pT_and (pT_cmp (op_eqD hr.units) o2_eq (pE_var (pv 4)) pE_int (nomark _)) (pw_and1 (pT_cmp op_notIn_seq o2_notin (pE_var (pv 3)) (pE_var (pv 1)) (by rfl)))))).pt
    (pSs_one (pS_set (i := 4) nd rfl (by first | exact Or.inl rfl | exact Or.inr rfl) pE_int))
    pSs_nil)
    (pSs_one (pS_if (pT_cmp op_le o2_cmp (pE_var (pv 4)) (pE_var (pv 5)) (nomark _))
    (pSs_one (pS_expr (pE_app (pE_var (pv 2)) (pA_cons (pE_tup (pA_cons (pE_var (pv 4)) (pA_cons (pE_var (pv 5)) pA_nil))) pA_nil))))
    pSs_nil))))
    (pSs_one (pS_ret (pE_fz (pE_var (pv 2)))))))
theorem cal_counted (T : Txt mg) (c_stretches : Cal P w K mg base 2 "stretches" 1 g_stretches) {f : Addr} {fd : FuncData} (F : Fun K "counted" "counted" s_counted f fd) (hm : mg "counted" = some (.ref f)) : Cal P w K mg base 3 "counted" 2 g_counted :=
  ⟨f, fd, ["yard", "first"], rfl, ok_counted T c_stretches F, hm, F.kp, F.binds (ps := ["yard", "first"]) fun _ _ _ _ _ _ us hl => match us, hl with | [_, _], _ => rfl⟩
/-! ### lot_shows -/
abbrev s_lot_shows : Stmt := topS 42
abbrev N_lot_shows : List Str := ["yard", "many", "thing", "first", "hour", "one", "other"]
theorem sc_lot_shows : FnScope N_lot_shows ["yard", "many", "thing", "first"] (defScope s_lot_shows) := ⟨rfl, rfl, rfl, by decide +kernel, rfl, by decide +kernel, by decide +kernel⟩
noncomputable def C_lot_shows_1 : Sm := sComp false (sZip (sCons (sVar 2) (sCons (sSl false (sVar 2) (sPart (sC (.int 1))) sNoP) sNil))) (.tp [5, 6]) sYes (s2 fLt (sVar 5) (sVar 6)) [5, 6]
noncomputable def C_lot_shows_2 : Sm := sComp false (sIt (sVar 2)) (.nm 4) sYes (sCall 3 g_is_from (sCons (sVar 4) (sCons (sC (.int 0)) (sCons (s2 fSub (sA fLen (sCons (s2 fIx (sVar 0) (sC (.int 2))) sNil)) (sC (.int 1))) sNil)))) [4]
noncomputable def b_lot_shows : Ss := (sSeq (sIf (sOr (sNot (sTst (s1 (fIsi .tuple) (sVar 2)))) (sNot (sTst (sA fAll (sCons C_lot_shows_2 sNil))))) (sRet (sC .none)) sSkip)
    (sSeq (sIf (sNot (sTst (sA fAll (sCons C_lot_shows_1 sNil)))) (sRet (sC .none)) sSkip)
    (sRet (sCall 3 g_shows (sCons (sVar 1) (sCons (sCall 2 g_counted (sCons (sVar 0) (sCons (sVar 3) sNil))) (sCons (sVar 2) sNil)))))))
noncomputable def g_lot_shows : Fn := mkFn 4 7 b_lot_shows
theorem ok_lot_shows (T : Txt mg) (c_counted : Cal P w K mg base 3 "counted" 2 g_counted) (c_is_from : Cal P w K mg base 1 "is_from" 3 g_is_from) (c_shows : Cal P w K mg base 1 "shows" 3 g_shows) {f : Addr} {fd : FuncData} (F : Fun K "lot_shows" "lot_shows" s_lot_shows f fd) : FnOk P w K mg base CX0 4 f fd ["yard", "many", "thing", "first"] (spF K 4 g_lot_shows) := by
  have nd := sc_lot_shows.nd
  refine fn_ok (N := N_lot_shows) F sc_lot_shows fun cdv A outer s H E hr => ?_
  exact (pSs_cons (pS_if ((pT_or (pT_not (pT_tst (pE_isi (T := .tuple) (pE_var (pv 2)) (by rfl) T.b_isinstance (by rfl) T.b_tuple (by decide +kernel)))) (pw_or1 (pT_not (pT_tst (pE_callB (cr_all rfl) opA_all (by rfl) T.b_all (by decide +kernel) (pA_cons (pE_comp (own := [("hour", 4)]) (fl := false) (t := (.nm 4)) rfl nd (pI_it (pE_var (pv 2))) (blkOk_by (own := [("hour", 4)]) (N := N_lot_shows) (sc := defScope s_lot_shows) (by decide +kernel)) (fun _ _ _ _ _ => (pg_name (i := 4) nd rfl (by first | exact Or.inl rfl | exact Or.inr rfl))) (fun _ _ _ _ _ => pTs_nil) (fun _ _ _ _ _ => (pE_call c_is_from (hr.mono (by decide)) (by rfl) (pA_cons (pE_var (pv 4)) (pA_cons pE_int (pA_cons (pE_op op_sub o2_sub (pE_callB call_len opA_len (by rfl) T.b_len (by decide +kernel) (pA_cons (pE_ix ix_seq o2_ix (pE_var (pv 0)) pE_int) pA_nil)) pE_int) pA_nil))))) (by decide)) pA_nil))))))).pt
    (pSs_one (pS_ret pE_non))
    pSs_nil)
    (pSs_cons (pS_if (pT_not (pT_tst (pE_callB (cr_all rfl) opA_all (by rfl) T.b_all (by decide +kernel) (pA_cons (pE_comp (own := [("one", 5), ("other", 6)]) (fl := false) (t := (.tp [5, 6])) rfl nd (pI_zip (by rfl) T.b_zip (pA_cons (pE_var (pv 2)) (pA_cons (pE_sl (fl := false) (pE_var (pv 2)) (pO_some pE_int) pO_none) pA_nil))) (blkOk_by (own := [("one", 5), ("other", 6)]) (N := N_lot_shows) (sc := defScope s_lot_shows) (by decide +kernel)) (fun _ _ _ _ _ => (pg_tup rfl (pgs_cons (pg_name (i := 5) nd rfl (by first | exact Or.inl rfl | exact Or.inr rfl)) (pgs_cons (pg_name (i := 6) nd rfl (by first | exact Or.inl rfl | exact Or.inr rfl)) pgs_nil)))) (fun _ _ _ _ _ => pTs_nil) (fun _ _ _ _ _ => (pE_cmp op_lt o2_cmp (pE_var (pv 5)) (pE_var (pv 6)) (nomark _))) (by decide)) pA_nil))))
    (pSs_one (pS_ret pE_non))
    pSs_nil)
    (pSs_one (pS_ret (pE_call c_shows (hr.mono (by decide)) (by rfl) (pA_cons (pE_var (pv 1)) (pA_cons (pE_call c_counted (hr.mono (by decide)) (by rfl) (pA_cons (pE_var (pv 0)) (pA_cons (pE_var (pv 3)) pA_nil))) (pA_cons (pE_var (pv 2)) pA_nil))))))))
theorem cal_lot_shows (T : Txt mg) (c_counted : Cal P w K mg base 3 "counted" 2 g_counted) (c_is_from : Cal P w K mg base 1 "is_from" 3 g_is_from) (c_shows : Cal P w K mg base 1 "shows" 3 g_shows) {f : Addr} {fd : FuncData} (F : FunD K "lot_shows" "lot_shows" (defArgs s_lot_shows) (defBody s_lot_shows) (defScope s_lot_shows) [] [("first", .non)] f fd) (hm : mg "lot_shows" = some (.ref f)) : CalD P w K mg base 4 "lot_shows" 3 "first" g_lot_shows := by
  obtain ⟨dv, v1, v2⟩ := F.binds0 (ps := ["yard", "many", "thing", "first"]) 3 (by simp) rfl fun D doc pm an cdv ct us ks h1 h2 => match us, ks, h1, h2 with
    | [_, _, _], [_], _, _ => ⟨_, _, _, _, _, _, rfl, rfl, rfl⟩
  exact ⟨f, fd, ["yard", "many", "thing", "first"], dv, rfl, ok_lot_shows T c_counted c_is_from c_shows (FunD.noD F), hm, F.kp, v1, v2, kb_of F fun kV doc pm an cdv ct us ws h1 h2 => match us, ws, h1, h2 with
    | [_, _, _], [_], _, _ => rfl⟩
/-! ### Day_can_do -/
abbrev s_Day_can_do : Stmt := inClass (topS 34) 9
abbrev N_Day_can_do : List Str := ["self", "number", "many", "hours", "hour"]
theorem sc_Day_can_do : FnScope N_Day_can_do ["self", "number"] (defScope s_Day_can_do) := ⟨rfl, rfl, rfl, by decide +kernel, rfl, by decide +kernel, by decide +kernel⟩
noncomputable def C_Day_can_do_1 (C : Addr) : Sm := sComp false (sRng2 (sCons (sA fLen (sCons (s1 (fRows C) (sVar 0)) sNil)) (sCons (sA fLen (sCons (s2 fIx (s1 (fYard C) (sVar 0)) (sC (.int 2))) sNil)) sNil))) (.nm 4) sYes (sCall 2 g_lots_of (sCons (sCall 2 g_shaded (sCons (s1 (fYard C) (sVar 0)) (sCons (sVar 4) sNil))) (sCons (sVar 2) sNil))) [4]
noncomputable def b_Day_can_do (C : Addr) : Ss := (sSeq (sIf (sOr (sNot (sTst (s1 (fIsi .int) (sVar 1)))) (sOr (sTst (s1 (fIsi .bool) (sVar 1))) (sTst (s2 fLt (sVar 1) (sC (.int 0)))))) sNo sSkip)
    (sSeq (sAsg (sA fLen (sCons (s2 fIx (s1 (fRows C) (sVar 0)) (sC (.int 0))) sNil)) (.nm 2))
    (sSeq (sAsg (C_Day_can_do_1 C) (.nm 3))
    (sRet (s2 fLe (s2 fSub (s2 fIx (sCall 2 g_best (sCons (sVar 3) (sCons (sA (fLst false) (sCons (s2 fIx (s1 (fRows C) (sVar 0)) (s1 fNeg (sC (.int 1)))) sNil)) sNil))) (sC (.int 0))) (sVar 2)) (sVar 1))))))
noncomputable def g_Day_can_do (C : Addr) : Fn := mkFn 2 5 (b_Day_can_do C)
theorem ok_Day_can_do {C : Addr} (T : Txt mg) (D : TxtD K C) (c_best : Cal P w K mg base 3 "best" 2 g_best) (c_lots_of : Cal P w K mg base 1 "lots_of" 2 g_lots_of) (c_shaded : Cal P w K mg base 2 "shaded" 2 g_shaded) {f : Addr} {fd : FuncData} (F : Fun K "can_do" "Day.can_do" s_Day_can_do f fd) : FnOk P w K mg base CX0 4 f fd ["self", "number"] (spF K 2 (g_Day_can_do C)) := by
  have nd := sc_Day_can_do.nd
  refine fn_ok (N := N_Day_can_do) F sc_Day_can_do fun cdv A outer s H E hr => ?_
  exact (pSs_cons (pS_if ((pT_or (pT_not (pT_tst (pE_isi (T := .int) (pE_var (pv 1)) (by rfl) T.b_isinstance (by rfl) T.b_int (by decide +kernel)))) (pT_or (pT_tst (pE_isi (T := .bool) (pE_var (pv 1)) (by rfl) T.b_isinstance (by rfl) T.b_bool (by decide +kernel))) (pw_or1 (pT_cmp op_lt o2_cmp (pE_var (pv 1)) pE_int (nomark _)))))).pt
    (pSs_one pS_no)
    pSs_nil)
    (pSs_cons (pS_set (i := 2) nd rfl (by first | exact Or.inl rfl | exact Or.inr rfl) (pE_callB call_len opA_len (by rfl) T.b_len (by decide +kernel) (pA_cons (pE_ix ix_seq o2_ix (pE_rows D.cl D.nR (pE_var (pv 0))) pE_int) pA_nil)))
    (pSs_cons (pS_setComp (i := 3) (own := [("hour", 4)]) (fl := false) (t := (.nm 4)) rfl nd rfl rfl (sw_true rfl rfl rfl (by decide +kernel)) (pI_rng2 (by rfl) T.b_range (pA_cons (pE_callB call_len opA_len (by rfl) T.b_len (by decide +kernel) (pA_cons (pE_rows D.cl D.nR (pE_var (pv 0))) pA_nil)) (pA_cons (pE_callB call_len opA_len (by rfl) T.b_len (by decide +kernel) (pA_cons (pE_ix ix_seq o2_ix (pE_yard D.cl D.nY (pE_var (pv 0))) pE_int) pA_nil)) pA_nil))) (blkOk_by (own := [("hour", 4)]) (N := N_Day_can_do) (sc := defScope s_Day_can_do) (by decide +kernel)) (fun _ _ _ _ _ => (pg_name (i := 4) nd rfl (by first | exact Or.inl rfl | exact Or.inr rfl))) (fun _ _ _ _ _ => pTs_nil) (fun _ _ _ _ _ => (pE_call c_lots_of (hr.mono (by decide)) (by rfl) (pA_cons (pE_call c_shaded (hr.mono (by decide)) (by rfl) (pA_cons (pE_yard D.cl D.nY (pE_var (pv 0))) (pA_cons (pE_var (pv 4)) pA_nil))) (pA_cons (pE_var (pv 2)) pA_nil)))) (by decide))
    (pSs_one (pS_ret (pE_cmp op_le o2_cmp (pE_op op_sub o2_sub (pE_ix ix_seq o2_ix (pE_call c_best (hr.mono (by decide)) (by rfl) (pA_cons (pE_var (pv 3)) (pA_cons (pE_lst (b := false) (pA_cons (pE_ix ix_seq o2_ix (pE_rows D.cl D.nR (pE_var (pv 0))) (pE_un un_neg o1_neg pE_int)) pA_nil)) pA_nil))) pE_int) (pE_var (pv 2))) (pE_var (pv 1)) (nomark _)))))))
theorem cal_Day_can_do {C : Addr} (T : Txt mg) (D : TxtD K C) (c_best : Cal P w K mg base 3 "best" 2 g_best) (c_lots_of : Cal P w K mg base 1 "lots_of" 2 g_lots_of) (c_shaded : Cal P w K mg base 2 "shaded" 2 g_shaded) {f : Addr} {fd : FuncData} (F : Fun K "can_do" "Day.can_do" s_Day_can_do f fd) (hm : Meth K C "can_do" f) : CalM P w K mg base C 4 "can_do" 2 (g_Day_can_do C) :=
  ⟨f, fd, ["self", "number"], rfl, ok_Day_can_do T D c_best c_lots_of c_shaded F, hm, F.binds (ps := ["self", "number"]) fun _ _ _ _ _ _ us hl => match us, hl with | [_, _], _ => rfl⟩
/-! ### Day_next_hour -/
abbrev s_Day_next_hour : Stmt := inClass (topS 34) 3
abbrev N_Day_next_hour : List Str := ["self", "seats"]
theorem sc_Day_next_hour : FnScope N_Day_next_hour ["self", "seats"] (defScope s_Day_next_hour) := ⟨rfl, rfl, rfl, by decide +kernel, rfl, by decide +kernel, by decide +kernel⟩
noncomputable def b_Day_next_hour (C : Addr) : Ss := (sSeq (sIf (sTst (s2 (fEq false) (sA fLen (sCons (s1 (fRows C) (sVar 0)) sNil)) (sA fLen (sCons (s2 fIx (s1 (fYard C) (sVar 0)) (sC (.int 2))) sNil)))) sNo sSkip)
    (sSeq (sIf (sOr (sNot (sTst (sCall 3 g_are_seats (sCons (s1 (fYard C) (sVar 0)) (sCons (sA fLen (sCons (s1 (fRows C) (sVar 0)) sNil)) (sCons (sVar 1) sNil)))))) (sTst (s2 (fEq true) (sA fLen (sCons (sVar 1) sNil)) (sA fLen (sCons (s2 fIx (s1 (fRows C) (sVar 0)) (sC (.int 0))) sNil))))) sNo sSkip)
    (sSeq (sExpr (sMet fApp (s1 (fRows C) (sVar 0)) (sCons (sVar 1) sNil)))
    (sRet (sCall 2 g_goings (sCons (s2 fIx (s1 (fRows C) (sVar 0)) (s1 fNeg (sC (.int 2)))) (sCons (sVar 1) sNil)))))))
noncomputable def g_Day_next_hour (C : Addr) : Fn := mkFn 2 2 (b_Day_next_hour C)
theorem ok_Day_next_hour {C : Addr} (T : Txt mg) (D : TxtD K C) (c_are_seats : Cal P w K mg base 2 "are_seats" 3 g_are_seats) (c_goings_seatings : Cal P w K mg base 1 "goings_seatings" 2 g_goings) {f : Addr} {fd : FuncData} (F : Fun K "next_hour" "Day.next_hour" s_Day_next_hour f fd) : FnOk P w K mg base CX0 3 f fd ["self", "seats"] (spF K 2 (g_Day_next_hour C)) := by
  have nd := sc_Day_next_hour.nd
  refine fn_ok (N := N_Day_next_hour) F sc_Day_next_hour fun cdv A outer s H E hr => ?_
  exact (pSs_cons (pS_if (pT_cmp (op_eqD hr.units) o2_eq (pE_callB call_len opA_len (by rfl) T.b_len (by decide +kernel) (pA_cons (pE_rows D.cl D.nR (pE_var (pv 0))) pA_nil)) (pE_callB call_len opA_len (by rfl) T.b_len (by decide +kernel) (pA_cons (pE_ix ix_seq o2_ix (pE_yard D.cl D.nY (pE_var (pv 0))) pE_int) pA_nil)) (nomark _))
    (pSs_one pS_no)
    pSs_nil)
    (pSs_cons (pS_if ((pT_or (pT_not (pT_tst (pE_call c_are_seats (hr.mono (by decide)) (by rfl) (pA_cons (pE_yard D.cl D.nY (pE_var (pv 0))) (pA_cons (pE_callB call_len opA_len (by rfl) T.b_len (by decide +kernel) (pA_cons (pE_rows D.cl D.nR (pE_var (pv 0))) pA_nil)) (pA_cons (pE_var (pv 1)) pA_nil)))))) (pw_or1 (pT_cmp (op_neD hr.units) o2_ne (pE_callB call_len opA_len (by rfl) T.b_len (by decide +kernel) (pA_cons (pE_var (pv 1)) pA_nil)) (pE_callB call_len opA_len (by rfl) T.b_len (by decide +kernel) (pA_cons (pE_ix ix_seq o2_ix (pE_rows D.cl D.nR (pE_var (pv 0))) pE_int) pA_nil)) (nomark _))))).pt
    (pSs_one pS_no)
    pSs_nil)
    (pSs_cons (pS_expr (pE_app (pE_rows D.cl D.nR (pE_var (pv 0))) (pA_cons (pE_var (pv 1)) pA_nil)))
    (pSs_one (pS_ret (pE_call c_goings_seatings (hr.mono (by decide)) (by rfl) (pA_cons (pE_ix ix_seq o2_ix (pE_rows D.cl D.nR (pE_var (pv 0))) (pE_un un_neg o1_neg pE_int)) (pA_cons (pE_var (pv 1)) pA_nil))))))))
theorem cal_Day_next_hour {C : Addr} (T : Txt mg) (D : TxtD K C) (c_are_seats : Cal P w K mg base 2 "are_seats" 3 g_are_seats) (c_goings_seatings : Cal P w K mg base 1 "goings_seatings" 2 g_goings) {f : Addr} {fd : FuncData} (F : Fun K "next_hour" "Day.next_hour" s_Day_next_hour f fd) (hm : Meth K C "next_hour" f) : CalM P w K mg base C 3 "next_hour" 2 (g_Day_next_hour C) :=
  ⟨f, fd, ["self", "seats"], rfl, ok_Day_next_hour T D c_are_seats c_goings_seatings F, hm, F.binds (ps := ["self", "seats"]) fun _ _ _ _ _ _ us hl => match us, hl with | [_, _], _ => rfl⟩
/-! ### number_of -/
abbrev s_number_of : Stmt := topS 36
abbrev N_number_of : List Str := ["rows", "many", "row", "hours"]
theorem sc_number_of : FnScope N_number_of ["rows", "many"] (defScope s_number_of) := ⟨rfl, rfl, rfl, by decide +kernel, rfl, by decide +kernel, by decide +kernel⟩
noncomputable def C_number_of_1 : Sm := sComp false (sIt (sVar 0)) (.nm 2) sYes (sCall 2 g_lots_of (sCons (sVar 2) (sCons (sVar 1) sNil))) [2]
noncomputable def C_number_of_2 : Sm := sComp false (sIt (sVar 0)) (.nm 2) sYes (sA fLen (sCons (sVar 2) sNil)) [2]
noncomputable def b_number_of : Ss := (sSeq (sIf (sTst (s2 fLt (sA fMin (sCons C_number_of_2 sNil)) (sVar 1))) (sRet (sC .none)) sSkip)
    (sSeq (sAsg C_number_of_1 (.nm 3))
    (sRet (s2 fIx (sCall 2 g_best (sCons (sSl false (sVar 3) (sPart (sC (.int 1))) sNoP) (sCons (s2 fIx (sVar 3) (sC (.int 0))) sNil))) (sC (.int 0))))))
noncomputable def g_number_of : Fn := mkFn 2 4 b_number_of
theorem ok_number_of (T : Txt mg) (c_best : Cal P w K mg base 3 "best" 2 g_best) (c_lots_of : Cal P w K mg base 1 "lots_of" 2 g_lots_of) {f : Addr} {fd : FuncData} (F : Fun K "number_of" "number_of" s_number_of f fd) : FnOk P w K mg base CX0 4 f fd ["rows", "many"] (spF K 2 g_number_of) := by
  have nd := sc_number_of.nd
  refine fn_ok (N := N_number_of) F sc_number_of fun cdv A outer s H E hr => ?_
  exact (pSs_cons (pS_if (pT_cmp op_lt o2_cmp (pE_callB (call_minU rfl) opA_min (by rfl) T.b_min (by decide +kernel) (pA_cons (pE_comp (own := [("row", 2)]) (fl := false) (t := (.nm 2)) rfl nd (pI_it (pE_var (pv 0))) (blkOk_by (own := [("row", 2)]) (N := N_number_of) (sc := defScope s_number_of) (by decide +kernel)) (fun _ _ _ _ _ => (pg_name (i := 2) nd rfl (by first | exact Or.inl rfl | exact Or.inr rfl))) (fun _ _ _ _ _ => pTs_nil) (fun _ _ _ _ _ => (pE_callB call_len opA_len (by rfl) T.b_len (by decide +kernel) (pA_cons (pE_var (pv 2)) pA_nil))) (by decide)) pA_nil)) (pE_var (pv 1)) (nomark _))
    (pSs_one (pS_ret pE_non))
    pSs_nil)
    (pSs_cons (pS_setComp (i := 3) (own := [("row", 2)]) (fl := false) (t := (.nm 2)) rfl nd rfl rfl (sw_true rfl rfl rfl (by decide +kernel)) (pI_it (pE_var (pv 0))) (blkOk_by (own := [("row", 2)]) (N := N_number_of) (sc := defScope s_number_of) (by decide +kernel)) (fun _ _ _ _ _ => (pg_name (i := 2) nd rfl (by first | exact Or.inl rfl | exact Or.inr rfl))) (fun _ _ _ _ _ => pTs_nil) (fun _ _ _ _ _ => (pE_call c_lots_of (hr.mono (by decide)) (by rfl) (pA_cons (pE_var (pv 2)) (pA_cons (pE_var (pv 1)) pA_nil)))) (by decide))
    (pSs_one (pS_ret (pE_ix ix_seq o2_ix (pE_call c_best (hr.mono (by decide)) (by rfl) (pA_cons (pE_sl (fl := false) (pE_var (pv 3)) (pO_some pE_int) pO_none) (pA_cons (pE_ix ix_seq o2_ix (pE_var (pv 3)) pE_int) pA_nil))) pE_int)))))
theorem cal_number_of (T : Txt mg) (c_best : Cal P w K mg base 3 "best" 2 g_best) (c_lots_of : Cal P w K mg base 1 "lots_of" 2 g_lots_of) {f : Addr} {fd : FuncData} (F : Fun K "number_of" "number_of" s_number_of f fd) (hm : mg "number_of" = some (.ref f)) : Cal P w K mg base 4 "number_of" 2 g_number_of :=
  ⟨f, fd, ["rows", "many"], rfl, ok_number_of T c_best c_lots_of F, hm, F.kp, F.binds (ps := ["rows", "many"]) fun _ _ _ _ _ _ us hl => match us, hl with | [_, _], _ => rfl⟩
/-! ### dear_hours -/
abbrev s_dear_hours : Stmt := topS 37
abbrev N_dear_hours : List Str := ["yard", "many", "rows", "hour", "number", "found", "rest"]
theorem sc_dear_hours : FnScope N_dear_hours ["yard", "many"] (defScope s_dear_hours) := ⟨rfl, rfl, rfl, by decide +kernel, rfl, by decide +kernel, by decide +kernel⟩
noncomputable def l_dear_hours_1 : Ss := (sSeq (sAsg (s2 (fAdd false) (sSl false (sVar 2) sNoP (sPart (sVar 3))) (sSl false (sVar 2) (sPart (s2 (fAdd false) (sVar 3) (sC (.int 1)))) sNoP)) (.nm 6))
    (sIf (sAnd (sTru (sVar 6)) (sTst (s2 fLt (sCall 2 g_number_of (sCons (sVar 6) (sCons (sVar 1) sNil))) (sVar 4)))) (sExpr (sMet fApp (sVar 5) (sCons (sVar 3) sNil))) sSkip))
noncomputable def L_dear_hours_1 : Ss := sFor (sRng1 (sCons (sA fLen (sCons (sVar 2) sNil)) sNil)) (.nm 3) l_dear_hours_1
noncomputable def C_dear_hours_1 : Sm := sComp false (sRng1 (sCons (sA fLen (sCons (s2 fIx (sVar 0) (sC (.int 2))) sNil)) sNil)) (.nm 3) sYes (sCall 2 g_shaded (sCons (sVar 0) (sCons (sVar 3) sNil))) [3]
noncomputable def b_dear_hours : Ss := (sSeq (sAsg C_dear_hours_1 (.nm 2))
    (sSeq (sAsg (sCall 2 g_number_of (sCons (sVar 2) (sCons (sVar 1) sNil))) (.nm 4))
    (sSeq (sAsg (sA (fLst true) sNil) (.nm 5))
    (sSeq L_dear_hours_1
    (sRet (sFz (sVar 5)))))))
noncomputable def g_dear_hours : Fn := mkFn 2 7 b_dear_hours
theorem ok_dear_hours (T : Txt mg) (c_number_of : Cal P w K mg base 4 "number_of" 2 g_number_of) (c_shaded : Cal P w K mg base 2 "shaded" 2 g_shaded) {f : Addr} {fd : FuncData} (F : Fun K "dear_hours" "dear_hours" s_dear_hours f fd) : FnOk P w K mg base CX0 5 f fd ["yard", "many"] (spF K 2 g_dear_hours) := by
  have nd := sc_dear_hours.nd
  refine fn_ok (N := N_dear_hours) F sc_dear_hours fun cdv A outer s H E hr => ?_
  exact (pSs_cons (pS_setComp (i := 2) (own := [("hour", 3)]) (fl := false) (t := (.nm 3)) rfl nd rfl rfl (sw_true rfl rfl rfl (by decide +kernel)) (pI_rng1 (by rfl) T.b_range (pA_cons (pE_callB call_len opA_len (by rfl) T.b_len (by decide +kernel) (pA_cons (pE_ix ix_seq o2_ix (pE_var (pv 0)) pE_int) pA_nil)) pA_nil)) (blkOk_by (own := [("hour", 3)]) (N := N_dear_hours) (sc := defScope s_dear_hours) (by decide +kernel)) (fun _ _ _ _ _ => (pg_name (i := 3) nd rfl (by first | exact Or.inl rfl | exact Or.inr rfl))) (fun _ _ _ _ _ => pTs_nil) (fun _ _ _ _ _ => (pE_call c_shaded (hr.mono (by decide)) (by rfl) (pA_cons (pE_var (pv 0)) (pA_cons (pE_var (pv 3)) pA_nil)))) (by decide))
    (pSs_cons (pS_set (i := 4) nd rfl (by first | exact Or.inl rfl | exact Or.inr rfl) (pE_call c_number_of (hr.mono (by decide)) (by rfl) (pA_cons (pE_var (pv 2)) (pA_cons (pE_var (pv 1)) pA_nil))))
    (pSs_cons (pS_set (i := 5) nd rfl (by first | exact Or.inl rfl | exact Or.inr rfl) (pE_lst (b := true) pA_nil))
    (pSs_cons (pS_for (t := (.nm 3)) PassesOwn.never rfl (pI_rng1 (by rfl) T.b_range (pA_cons (pE_callB call_len opA_len (by rfl) T.b_len (by decide +kernel) (pA_cons (pE_var (pv 2)) pA_nil)) pA_nil)) (pg_name (i := 3) nd rfl (by first | exact Or.inl rfl | exact Or.inr rfl))
    (pSs_cons (pS_set (i := 6) nd rfl (by first | exact Or.inl rfl | exact Or.inr rfl) (pE_op op_addU (o2_add (b := false)) (pE_sl (fl := false) (pE_var (pv 2)) pO_none (pO_some (pE_var (pv 3)))) (pE_sl (fl := false) (pE_var (pv 2)) (pO_some (pE_op op_addU (o2_add (b := false)) (pE_var (pv 3)) pE_int)) pO_none)))
    (pSs_one (pS_if ((pT_and (pT_tru (pE_var (pv 6))) (pw_and1 (pT_cmp op_lt o2_cmp (pE_call c_number_of (hr.mono (by decide)) (by rfl) (pA_cons (pE_var (pv 6)) (pA_cons (pE_var (pv 1)) pA_nil))) (pE_var (pv 4)) (nomark _))))).pt
    (pSs_one (pS_expr (pE_app (pE_var (pv 5)) (pA_cons (pE_var (pv 3)) pA_nil))))
    pSs_nil))))
    (pSs_one (pS_ret (pE_fz (pE_var (pv 5)))))))))
theorem cal_dear_hours (T : Txt mg) (c_number_of : Cal P w K mg base 4 "number_of" 2 g_number_of) (c_shaded : Cal P w K mg base 2 "shaded" 2 g_shaded) {f : Addr} {fd : FuncData} (F : Fun K "dear_hours" "dear_hours" s_dear_hours f fd) (hm : mg "dear_hours" = some (.ref f)) : Cal P w K mg base 5 "dear_hours" 2 g_dear_hours :=
  ⟨f, fd, ["yard", "many"], rfl, ok_dear_hours T c_number_of c_shaded F, hm, F.kp, F.binds (ps := ["yard", "many"]) fun _ _ _ _ _ _ us hl => match us, hl with | [_, _], _ => rfl⟩
/-! ### needed_seats -/
abbrev s_needed_seats : Stmt := topS 38
abbrev N_needed_seats : List Str := ["yard", "many", "rows", "hour", "number", "found", "seat", "rest", "one", "row"]
theorem sc_needed_seats : FnScope N_needed_seats ["yard", "many"] (defScope s_needed_seats) := ⟨rfl, rfl, rfl, by decide +kernel, rfl, by decide +kernel, by decide +kernel⟩
noncomputable def C_needed_seats_1 : Sm := sComp false (sIt (sVar 9)) (.nm 8) (sTst (s2 (fEq true) (sVar 8) (sVar 6))) (sVar 8) [8]
noncomputable def C_needed_seats_2 : Sm := sComp false (sIt (sVar 2)) (.nm 9) sYes C_needed_seats_1 [9]
noncomputable def l_needed_seats_1 : Ss := (sSeq (sAsg (sCall 2 g_number_of (sCons C_needed_seats_2 (sCons (sVar 1) sNil))) (.nm 7))
    (sIf (sOr (sTst (s2 (fIs false) (sVar 7) (sC .none))) (sTst (s2 fGt (sVar 7) (sVar 4)))) (sExpr (sMet fApp (sVar 5) (sCons (sVar 6) sNil))) sSkip))
noncomputable def L_needed_seats_1 : Ss := sFor (sRng1 (sCons (s2 fIx (sVar 0) (sC (.int 0))) sNil)) (.nm 6) l_needed_seats_1
noncomputable def C_needed_seats_3 : Sm := sComp false (sRng1 (sCons (sA fLen (sCons (s2 fIx (sVar 0) (sC (.int 2))) sNil)) sNil)) (.nm 3) sYes (sCall 2 g_shaded (sCons (sVar 0) (sCons (sVar 3) sNil))) [3]
noncomputable def b_needed_seats : Ss := (sSeq (sAsg C_needed_seats_3 (.nm 2))
    (sSeq (sAsg (sCall 2 g_number_of (sCons (sVar 2) (sCons (sVar 1) sNil))) (.nm 4))
    (sSeq (sAsg (sA (fLst true) sNil) (.nm 5))
    (sSeq L_needed_seats_1
    (sRet (sFz (sVar 5)))))))
noncomputable def g_needed_seats : Fn := mkFn 2 10 b_needed_seats
theorem ok_needed_seats (T : Txt mg) (c_number_of : Cal P w K mg base 4 "number_of" 2 g_number_of) (c_shaded : Cal P w K mg base 2 "shaded" 2 g_shaded) {f : Addr} {fd : FuncData} (F : Fun K "needed_seats" "needed_seats" s_needed_seats f fd) : FnOk P w K mg base CX0 5 f fd ["yard", "many"] (spF K 2 g_needed_seats) := by
  have nd := sc_needed_seats.nd
  refine fn_ok (N := N_needed_seats) F sc_needed_seats fun cdv A outer s H E hr => ?_
  exact (pSs_cons (pS_setComp (i := 2) (own := [("hour", 3)]) (fl := false) (t := (.nm 3)) rfl nd rfl rfl (sw_true rfl rfl rfl (by decide +kernel)) (pI_rng1 (by rfl) T.b_range (pA_cons (pE_callB call_len opA_len (by rfl) T.b_len (by decide +kernel) (pA_cons (pE_ix ix_seq o2_ix (pE_var (pv 0)) pE_int) pA_nil)) pA_nil)) (blkOk_by (own := [("hour", 3)]) (N := N_needed_seats) (sc := defScope s_needed_seats) (by decide +kernel)) (fun _ _ _ _ _ => (pg_name (i := 3) nd rfl (by first | exact Or.inl rfl | exact Or.inr rfl))) (fun _ _ _ _ _ => pTs_nil) (fun _ _ _ _ _ => (pE_call c_shaded (hr.mono (by decide)) (by rfl) (pA_cons (pE_var (pv 0)) (pA_cons (pE_var (pv 3)) pA_nil)))) (by decide))
    (pSs_cons (pS_set (i := 4) nd rfl (by first | exact Or.inl rfl | exact Or.inr rfl) (pE_call c_number_of (hr.mono (by decide)) (by rfl) (pA_cons (pE_var (pv 2)) (pA_cons (pE_var (pv 1)) pA_nil))))
    (pSs_cons (pS_set (i := 5) nd rfl (by first | exact Or.inl rfl | exact Or.inr rfl) (pE_lst (b := true) pA_nil))
    (pSs_cons (pS_for (t := (.nm 6)) PassesOwn.never rfl (pI_rng1 (by rfl) T.b_range (pA_cons (pE_ix ix_seq o2_ix (pE_var (pv 0)) pE_int) pA_nil)) (pg_name (i := 6) nd rfl (by first | exact Or.inl rfl | exact Or.inr rfl))
    (pSs_cons (pS_set (i := 7) nd rfl (by first | exact Or.inl rfl | exact Or.inr rfl) (pE_call c_number_of (hr.mono (by decide)) (by rfl) (pA_cons (pE_comp (own := [("row", 9)]) (fl := false) (t := (.nm 9)) rfl nd (pI_it (pE_var (pv 2))) (blkOk_by (own := [("row", 9)]) (N := N_needed_seats) (sc := defScope s_needed_seats) (by decide +kernel)) (fun _ _ _ _ _ => (pg_name (i := 9) nd rfl (by first | exact Or.inl rfl | exact Or.inr rfl))) (fun _ _ _ _ _ => pTs_nil) (fun _ _ _ _ _ => (pE_comp (own := [("one", 8)]) (fl := false) (t := (.nm 8)) rfl nd (pI_it (pE_var (pv 9))) (blkOk_by (own := [("one", 8)]) (N := N_needed_seats) (by rfl)) (fun _ _ _ _ _ => (pg_name (i := 8) nd rfl (by first | exact Or.inl rfl | exact Or.inr rfl))) (fun _ _ _ _ _ => (pTs_one (pT_cmp (op_neD hr.units) o2_ne (pE_var (pv 8)) (pE_var (pv 6)) (nomark _)))) (fun _ _ _ _ _ => (pE_var (pv 8))) (by decide))) (by decide)) (pA_cons (pE_var (pv 1)) pA_nil))))
    (pSs_one (pS_if ((pT_or (pT_cmp op_isU o2_is (pE_var (pv 7)) pE_non (nomark _)) (pw_or1 (pT_cmp op_gt o2_cmp (pE_var (pv 7)) (pE_var (pv 4)) (nomark _))))).pt
    (pSs_one (pS_expr (pE_app (pE_var (pv 5)) (pA_cons (pE_var (pv 6)) pA_nil))))
    pSs_nil))))
    (pSs_one (pS_ret (pE_fz (pE_var (pv 5)))))))))
theorem cal_needed_seats (T : Txt mg) (c_number_of : Cal P w K mg base 4 "number_of" 2 g_number_of) (c_shaded : Cal P w K mg base 2 "shaded" 2 g_shaded) {f : Addr} {fd : FuncData} (F : Fun K "needed_seats" "needed_seats" s_needed_seats f fd) (hm : mg "needed_seats" = some (.ref f)) : Cal P w K mg base 5 "needed_seats" 2 g_needed_seats :=
  ⟨f, fd, ["yard", "many"], rfl, ok_needed_seats T c_number_of c_shaded F, hm, F.kp, F.binds (ps := ["yard", "many"]) fun _ _ _ _ _ _ us hl => match us, hl with | [_, _], _ => rfl⟩
/-! ### the law's turns_right -/
abbrev s_law_turns_right : Stmt := topS 48
abbrev N_law_turns_right : List Str := ["yard", "due", "hour", "day"]
theorem sc_law_turns_right : FnScope N_law_turns_right [] (defScope s_law_turns_right) := ⟨rfl, rfl, rfl, by decide +kernel, rfl, by decide +kernel, by decide +kernel⟩
noncomputable def C_law_turns_right_1 (C : Addr) : Sm := sComp false (sIt (sA fTup (sCons (sC (.int 0)) (sCons (sC (.int 2)) (sCons (sC (.int 4)) (sCons (sC (.int 6)) sNil)))))) (.nm 2) sYes (sA fTup (sCons (sC (.int 0)) (sCons (sVar 2) (sCons (sVar 2) sNil)))) [2]
noncomputable def C_law_turns_right_2 (C : Addr) : Sm := sComp false (sIt (sA fTup (sCons (sC (.int 1)) (sCons (sC (.int 3)) (sCons (sC (.int 5)) (sCons (sC (.int 7)) sNil)))))) (.nm 2) sYes (sA fTup (sCons (sC (.int 1)) (sCons (sVar 2) (sCons (sVar 2) sNil)))) [2]
noncomputable def b_law_turns_right (C : Addr) : Ss := (sSeq (sAsg (sA fTup (sCons (sC (.int 2)) (sCons (sA fTup (sCons (sA fTup (sCons (sC (.int 1)) (sCons (sC (.int 1)) sNil))) sNil)) (sCons (s2 fMul1 (sA fTup (sCons (sA fTup (sCons (sC (.str "e")) (sCons (sA fTup (sCons (sC (.int 1)) (sCons (sC (.int 2)) sNil))) sNil))) (sCons (sA fTup (sCons (sC (.str "w")) (sCons (sA fTup (sCons (sC (.int 1)) (sCons (sC (.int 2)) sNil))) sNil))) sNil))) (sC (.int 4))) sNil)))) (.nm 0))
    (sSeq (sAsg (s2 (fAdd false) (C_law_turns_right_1 C) (C_law_turns_right_2 C)) (.nm 1))
    (sSeq (sIf (sTst (s2 (fEq true) (sCall 1 g_stretches (sCons (sVar 0) sNil)) (sVar 1))) (sRet (sC (.bool false))) sSkip)
    (sSeq (sIf (sOr (sTst (s2 (fEq true) (sCallD 2 g_fewest (sCons (sVar 0) (sCons (sC (.int 1)) sNil))) (sA fTup (sCons (sC (.int 8)) (sCons (s2 fMul1 (sA fTup (sCons (sA fTup (sCons (sC (.int 0)) sNil)) (sCons (sA fTup (sCons (sC (.int 1)) sNil)) sNil))) (sC (.int 4))) sNil))))) (sTst (s2 (fEq true) (sCallD 3 g_lot_shows (sCons (sVar 0) (sCons (sC (.int 1)) (sCons (s1 fTupRg (sC (.int 8))) sNil)))) (sC (.int 8))))) (sRet (sC (.bool false))) sSkip)
    (sSeq (sAsg (sA (fDay C T1_Day T2_Day T3_Day) (sCons (sVar 0) (sCons (sA fTup (sCons (sC (.int 0)) sNil)) sNil))) (.nm 3))
    (sSeq (sIf (sOr (sTst (s2 (fIs true) (sMeth C 2 (g_Day_can_do C) (sVar 3) (sCons (sC (.int 6)) sNil)) (sC (.bool false)))) (sTst (s2 (fIs true) (sMeth C 2 (g_Day_can_do C) (sVar 3) (sCons (sC (.int 7)) sNil)) (sC (.bool true))))) (sRet (sC (.bool false))) sSkip)
    (sSeq (sIf (sOr (sTst (s2 (fEq true) (sMeth C 2 (g_Day_next_hour C) (sVar 3) (sCons (sA fTup (sCons (sC (.int 1)) sNil)) sNil)) (sC (.int 1)))) (sTst (s2 (fIs true) (sMeth C 2 (g_Day_can_do C) (sVar 3) (sCons (sC (.int 6)) sNil)) (sC (.bool true))))) (sRet (sC (.bool false))) sSkip)
    (sRet (sAndV (s2 (fEq false) (sCall 2 g_dear_hours (sCons (sVar 0) (sCons (sC (.int 1)) sNil))) (s1 (fLstRg false) (sC (.int 8)))) (s2 (fEq false) (sCall 2 g_needed_seats (sCons (sVar 0) (sCons (sC (.int 1)) sNil))) (sA (fLst false) (sCons (sC (.int 0)) (sCons (sC (.int 1)) sNil)))))))))))))
noncomputable def g_law_turns_right (C : Addr) : Fn := mkFn 0 4 (b_law_turns_right C)
theorem ok_law_turns_right {C : Addr} (T : Txt mg) (D : TxtD K C) (c_Day_can_do : CalM P w K mg base C 4 "can_do" 2 (g_Day_can_do C)) (c_Day_init : CalC P w K mg base C 4 "Day" T1_Day T2_Day T3_Day) (c_Day_next_hour : CalM P w K mg base C 3 "next_hour" 2 (g_Day_next_hour C)) (c_dear_hours : Cal P w K mg base 5 "dear_hours" 2 g_dear_hours) (c_fewest : CalD P w K mg base 4 "fewest" 2 "first" g_fewest) (c_lot_shows : CalD P w K mg base 4 "lot_shows" 3 "first" g_lot_shows) (c_needed_seats : Cal P w K mg base 5 "needed_seats" 2 g_needed_seats) (c_stretches : Cal P w K mg base 2 "stretches" 1 g_stretches) {f : Addr} {fd : FuncData} (F : Fun K "_law_turns_right" "_law_turns_right" s_law_turns_right f fd) : FnOk P w K mg base CX0 6 f fd [] (spF K 0 (g_law_turns_right C)) := by
  have nd := sc_law_turns_right.nd
  refine fn_ok (N := N_law_turns_right) F sc_law_turns_right fun cdv A outer s H E hr => ?_
  exact (pSs_cons (pS_set (i := 0) nd rfl (by first | exact Or.inl rfl | exact Or.inr rfl) (pE_tup (pA_cons pE_int (pA_cons (pE_tup (pA_cons (pE_tup (pA_cons pE_int (pA_cons pE_int pA_nil))) pA_nil)) (pA_cons (pE_op op_mul1 o2_mul1 (pE_tup (pA_cons (pE_tup (pA_cons pE_str (pA_cons (pE_tup (pA_cons pE_int (pA_cons pE_int pA_nil))) pA_nil))) (pA_cons (pE_tup (pA_cons pE_str (pA_cons (pE_tup (pA_cons pE_int (pA_cons pE_int pA_nil))) pA_nil))) pA_nil))) pE_int) pA_nil)))))
    (pSs_cons (pS_set (i := 1) nd rfl (by first | exact Or.inl rfl | exact Or.inr rfl) (pE_op op_addU (o2_add (b := false)) (pE_comp (own := [("hour", 2)]) (fl := false) (t := (.nm 2)) rfl nd (pI_it (pE_tup (pA_cons pE_int (pA_cons pE_int (pA_cons pE_int (pA_cons pE_int pA_nil)))))) (blkOk_by (own := [("hour", 2)]) (N := N_law_turns_right) (sc := defScope s_law_turns_right) (by decide +kernel)) (fun _ _ _ _ _ => (pg_name (i := 2) nd rfl (by first | exact Or.inl rfl | exact Or.inr rfl))) (fun _ _ _ _ _ => pTs_nil) (fun _ _ _ _ _ => (pE_tup (pA_cons pE_int (pA_cons (pE_var (pv 2)) (pA_cons (pE_var (pv 2)) pA_nil))))) (by decide)) (pE_comp (own := [("hour", 2)]) (fl := false) (t := (.nm 2)) rfl nd (pI_it (pE_tup (pA_cons pE_int (pA_cons pE_int (pA_cons pE_int (pA_cons pE_int pA_nil)))))) (blkOk_by (own := [("hour", 2)]) (N := N_law_turns_right) (sc := defScope s_law_turns_right) (by decide +kernel)) (fun _ _ _ _ _ => (pg_name (i := 2) nd rfl (by first | exact Or.inl rfl | exact Or.inr rfl))) (fun _ _ _ _ _ => pTs_nil) (fun _ _ _ _ _ => (pE_tup (pA_cons pE_int (pA_cons (pE_var (pv 2)) (pA_cons (pE_var (pv 2)) pA_nil))))) (by decide))))
    (pSs_cons (pS_if (pT_cmp (op_neD hr.units) o2_ne (pE_call c_stretches (hr.mono (by decide)) (by rfl) (pA_cons (pE_var (pv 0)) pA_nil)) (pE_var (pv 1)) (nomark _))
    (pSs_one (pS_ret pE_bl))
    pSs_nil)
    (pSs_cons (pS_if ((pT_or (pT_cmp (op_neD hr.units) o2_ne (pE_callD c_fewest (hr.mono (by decide)) (by rfl) (pA_cons (pE_var (pv 0)) (pA_cons pE_int pA_nil))) (pE_tup (pA_cons pE_int (pA_cons (pE_op op_mul1 o2_mul1 (pE_tup (pA_cons (pE_tup (pA_cons pE_int pA_nil)) (pA_cons (pE_tup (pA_cons pE_int pA_nil)) pA_nil))) pE_int) pA_nil))) (nomark _)) (pw_or1 (pT_cmp (op_neD hr.units) o2_ne (pE_callD c_lot_shows (hr.mono (by decide)) (by rfl) (pA_cons (pE_var (pv 0)) (pA_cons pE_int (pA_cons (pE_tupRg rfl (by rfl) T.b_tuple (by rfl) T.b_range pE_int) pA_nil)))) pE_int (nomark _))))).pt
    (pSs_one (pS_ret pE_bl))
    pSs_nil)
    (pSs_cons (pS_set (i := 3) nd rfl (by first | exact Or.inl rfl | exact Or.inr rfl) (pE_make c_Day_init (hr.mono (by decide)) (by rfl) (pA_cons (pE_var (pv 0)) (pA_cons (pE_tup (pA_cons pE_int pA_nil)) pA_nil))))
    (pSs_cons (pS_if ((pT_or (pT_cmp op_notU o2_isnot (pE_meth D.cl c_Day_can_do (hr.mono (by decide)) (dayF_no (by decide +kernel) (by decide +kernel)) (pE_var (pv 3)) (pA_cons pE_int pA_nil)) pE_bl (nomark _)) (pw_or1 (pT_cmp op_notU o2_isnot (pE_meth D.cl c_Day_can_do (hr.mono (by decide)) (dayF_no (by decide +kernel) (by decide +kernel)) (pE_var (pv 3)) (pA_cons pE_int pA_nil)) pE_bl (nomark _))))).pt
    (pSs_one (pS_ret pE_bl))
    pSs_nil)
    (pSs_cons (pS_if ((pT_or (pT_cmp (op_neD hr.units) o2_ne (pE_meth D.cl c_Day_next_hour (hr.mono (by decide)) (dayF_no (by decide +kernel) (by decide +kernel)) (pE_var (pv 3)) (pA_cons (pE_tup (pA_cons pE_int pA_nil)) pA_nil)) pE_int (nomark _)) (pw_or1 (pT_cmp op_notU o2_isnot (pE_meth D.cl c_Day_can_do (hr.mono (by decide)) (dayF_no (by decide +kernel) (by decide +kernel)) (pE_var (pv 3)) (pA_cons pE_int pA_nil)) pE_bl (nomark _))))).pt
    (pSs_one (pS_ret pE_bl))
    pSs_nil)
    (pSs_one (pS_ret (pE_and (pE_cmp (op_eqD hr.units) o2_eq (pE_call c_dear_hours (hr.mono (by decide)) (by rfl) (pA_cons (pE_var (pv 0)) (pA_cons pE_int pA_nil))) (pE_lstRg (fl := false) rfl (by rfl) T.b_list (by rfl) T.b_range pE_int) (nomark _)) (pe_one (pE_cmp (op_eqD hr.units) o2_eq (pE_call c_needed_seats (hr.mono (by decide)) (by rfl) (pA_cons (pE_var (pv 0)) (pA_cons pE_int pA_nil))) (pE_lst (b := false) (pA_cons pE_int (pA_cons pE_int pA_nil))) (nomark _)))))))))))))
theorem cal_law_turns_right {C : Addr} (T : Txt mg) (D : TxtD K C) (c_Day_can_do : CalM P w K mg base C 4 "can_do" 2 (g_Day_can_do C)) (c_Day_init : CalC P w K mg base C 4 "Day" T1_Day T2_Day T3_Day) (c_Day_next_hour : CalM P w K mg base C 3 "next_hour" 2 (g_Day_next_hour C)) (c_dear_hours : Cal P w K mg base 5 "dear_hours" 2 g_dear_hours) (c_fewest : CalD P w K mg base 4 "fewest" 2 "first" g_fewest) (c_lot_shows : CalD P w K mg base 4 "lot_shows" 3 "first" g_lot_shows) (c_needed_seats : Cal P w K mg base 5 "needed_seats" 2 g_needed_seats) (c_stretches : Cal P w K mg base 2 "stretches" 1 g_stretches) {f : Addr} {fd : FuncData} (F : Fun K "_law_turns_right" "_law_turns_right" s_law_turns_right f fd) (hm : mg "_law_turns_right" = some (.ref f)) : Cal P w K mg base 6 "_law_turns_right" 0 (g_law_turns_right C) :=
  ⟨f, fd, [], rfl, ok_law_turns_right T D c_Day_can_do c_Day_init c_Day_next_hour c_dear_hours c_fewest c_lot_shows c_needed_seats c_stretches F, hm, F.kp, F.binds (ps := []) fun _ _ _ _ _ _ us hl => match us, hl with | [], _ => rfl⟩
/-! ### is_seating -/
abbrev s_is_seating : Stmt := topS 19
abbrev N_is_seating : List Str := ["yard", "many", "thing", "hour", "seats"]
theorem sc_is_seating : FnScope N_is_seating ["yard", "many", "thing"] (defScope s_is_seating) := ⟨rfl, rfl, rfl, by decide +kernel, rfl, by decide +kernel, by decide +kernel⟩
noncomputable def C_is_seating_1 : Sm := sComp false (sEnum (sVar 2)) (.tp [3, 4]) sYes (sAndV (sCall 3 g_are_seats (sCons (sVar 0) (sCons (sVar 3) (sCons (sVar 4) sNil)))) (s2 (fEq false) (sA fLen (sCons (sVar 4) sNil)) (sVar 1))) [3, 4]
noncomputable def b_is_seating : Ss := (sSeq (sIf (sOr (sNot (sTst (s1 (fIsi .tuple) (sVar 2)))) (sTst (s2 (fEq true) (sA fLen (sCons (sVar 2) sNil)) (sA fLen (sCons (s2 fIx (sVar 0) (sC (.int 2))) sNil))))) (sRet (sC (.bool false))) sSkip)
    (sRet (sA fAll (sCons C_is_seating_1 sNil))))
noncomputable def g_is_seating : Fn := mkFn 3 5 b_is_seating
theorem ok_is_seating (T : Txt mg) (c_are_seats : Cal P w K mg base 2 "are_seats" 3 g_are_seats) {f : Addr} {fd : FuncData} (F : Fun K "is_seating" "is_seating" s_is_seating f fd) : FnOk P w K mg base CX0 3 f fd ["yard", "many", "thing"] (spF K 3 g_is_seating) := by
  have nd := sc_is_seating.nd
  refine fn_ok (N := N_is_seating) F sc_is_seating fun cdv A outer s H E hr => ?_
  exact (pSs_cons (pS_if ((pT_or (pT_not (pT_tst (pE_isi (T := .tuple) (pE_var (pv 2)) (by rfl) T.b_isinstance (by rfl) T.b_tuple (by decide +kernel)))) (pw_or1 (pT_cmp (op_neD hr.units) o2_ne (pE_callB call_len opA_len (by rfl) T.b_len (by decide +kernel) (pA_cons (pE_var (pv 2)) pA_nil)) (pE_callB call_len opA_len (by rfl) T.b_len (by decide +kernel) (pA_cons (pE_ix ix_seq o2_ix (pE_var (pv 0)) pE_int) pA_nil)) (nomark _))))).pt
    (pSs_one (pS_ret pE_bl))
    pSs_nil)
    (pSs_one (pS_ret (pE_callB (cr_all rfl) opA_all (by rfl) T.b_all (by decide +kernel) (pA_cons (pE_comp (own := [("hour", 3), ("seats", 4)]) (fl := false) (t := (.tp [3, 4])) rfl nd (pI_enum (by rfl) T.b_enumerate (pE_var (pv 2))) (blkOk_by (own := [("hour", 3), ("seats", 4)]) (N := N_is_seating) (sc := defScope s_is_seating) (by decide +kernel)) (fun _ _ _ _ _ => (pg_tup rfl (pgs_cons (pg_name (i := 3) nd rfl (by first | exact Or.inl rfl | exact Or.inr rfl)) (pgs_cons (pg_name (i := 4) nd rfl (by first | exact Or.inl rfl | exact Or.inr rfl)) pgs_nil)))) (fun _ _ _ _ _ => pTs_nil) (fun _ _ _ _ _ => (pE_and (pE_call c_are_seats (hr.mono (by decide)) (by rfl) (pA_cons (pE_var (pv 0)) (pA_cons (pE_var (pv 3)) (pA_cons (pE_var (pv 4)) pA_nil)))) (pe_one (pE_cmp (op_eqD hr.units) o2_eq (pE_callB call_len opA_len (by rfl) T.b_len (by decide +kernel) (pA_cons (pE_var (pv 4)) pA_nil)) (pE_var (pv 1)) (nomark _))))) (by decide)) pA_nil)))))
theorem cal_is_seating (T : Txt mg) (c_are_seats : Cal P w K mg base 2 "are_seats" 3 g_are_seats) {f : Addr} {fd : FuncData} (F : Fun K "is_seating" "is_seating" s_is_seating f fd) (hm : mg "is_seating" = some (.ref f)) : Cal P w K mg base 3 "is_seating" 3 g_is_seating :=
  ⟨f, fd, ["yard", "many", "thing"], rfl, ok_is_seating T c_are_seats F, hm, F.kp, F.binds (ps := ["yard", "many", "thing"]) fun _ _ _ _ _ _ us hl => match us, hl with | [_, _, _], _ => rfl⟩
/-! ### the law's full_right -/
abbrev s_law_full_right : Stmt := topS 49
abbrev N_law_full_right : List Str := ["yard", "seat"]
theorem sc_law_full_right : FnScope N_law_full_right [] (defScope s_law_full_right) := ⟨rfl, rfl, rfl, by decide +kernel, rfl, by decide +kernel, by decide +kernel⟩
noncomputable def C_law_full_right_1 : Sm := sComp false (sRng1 (sCons (sC (.int 8)) sNil)) (.nm 1) sYes (sA fTup (sCons (sVar 1) (sCons (sC (.int 0)) (sCons (sC (.int 7)) sNil)))) [1]
noncomputable def b_law_full_right : Ss := (sSeq (sAsg (sA fTup (sCons (sC (.int 8)) (sCons (sA fTup (sCons (sA fTup (sCons (sC (.int 0)) (sCons (sC (.int 9)) sNil))) (sCons (sA fTup (sCons (sC (.int 8)) (sCons (sC (.int 9)) sNil))) sNil))) (sCons (s2 fMul1 (sA fTup (sCons (sA fTup (sCons (sC (.str "e")) (sCons (sA fTup (sCons (sC (.int 9)) (sCons (sC (.int 1)) sNil))) sNil))) (sCons (sA fTup (sCons (sC (.str "w")) (sCons (sA fTup (sCons (sC (.int 9)) (sCons (sC (.int 1)) sNil))) sNil))) sNil))) (sC (.int 4))) sNil)))) (.nm 0))
    (sSeq (sIf (sOr (sNot (sTst (sCall 1 g_is_yard (sCons (sVar 0) sNil)))) (sOr (sTst (s2 (fEq true) (sCall 1 g_most_sitters (sCons (sVar 0) sNil)) (sC (.int 8)))) (sTst (s2 (fEq true) (sCall 1 g_stretches (sCons (sVar 0) sNil)) C_law_full_right_1)))) (sRet (sC (.bool false))) sSkip)
    (sSeq (sIf (sOr (sTst (s2 (fEq true) (sCallD 2 g_fewest (sCons (sVar 0) (sCons (sC (.int 8)) sNil))) (sA fTup (sCons (sC (.int 8)) (sCons (s2 fMul1 (sA fTup (sCons (s1 fTupRg (sC (.int 8))) sNil)) (sC (.int 8))) sNil))))) (sOr (sTst (s2 (fEq true) (s2 fIx (sCallD 2 g_fewest (sCons (sVar 0) (sCons (sC (.int 3)) sNil))) (sC (.int 0))) (sC (.int 3)))) (sTst (s2 (fEq true) (sCall 2 g_needed_seats (sCons (sVar 0) (sCons (sC (.int 7)) sNil))) (sA (fLst false) sNil))))) (sRet (sC (.bool false))) sSkip)
    (sSeq (sIf (sOr (sTst (s2 (fIs true) (sCall 3 g_is_seating (sCons (sVar 0) (sCons (sC (.int 2)) (sCons (s2 fMul1 (sA fTup (sCons (sA fTup (sCons (sC (.int 0)) (sCons (sC (.int 1)) sNil))) sNil)) (sC (.int 8))) sNil)))) (sC (.bool true)))) (sTst (s2 (fIs true) (sCall 3 g_is_seating (sCons (sVar 0) (sCons (sC (.int 2)) (sCons (s2 fMul1 (sA fTup (sCons (sA fTup (sCons (sC (.int 0)) (sCons (sC (.int 1)) sNil))) sNil)) (sC (.int 7))) sNil)))) (sC (.bool false))))) (sRet (sC (.bool false))) sSkip)
    (sSeq (sIf (sOr (sTst (sCall 1 g_is_yard (sCons (sA fTup (sCons (sC (.int 9)) (sCons (sA fTup sNil) (sCons (s2 fIx (sVar 0) (sC (.int 2))) sNil)))) sNil))) (sTst (sCall 1 g_is_yard (sCons (sA fTup (sCons (sC (.int 8)) (sCons (sA fTup (sCons (sA fTup (sCons (sC (.int 0)) (sCons (sC (.int 10)) sNil))) sNil)) (sCons (s2 fIx (sVar 0) (sC (.int 2))) sNil)))) sNil)))) (sRet (sC (.bool false))) sSkip)
    (sRet (s2 (fIs false) (sCall 1 g_is_yard (sCons (sA fTup (sCons (sC (.int 8)) (sCons (sA fTup sNil) (sCons (s2 fMul (s2 fIx (sVar 0) (sC (.int 2))) (sC (.int 2))) sNil)))) sNil)) (sC (.bool false)))))))))
noncomputable def g_law_full_right : Fn := mkFn 0 2 b_law_full_right
theorem ok_law_full_right (T : Txt mg) (c_fewest : CalD P w K mg base 4 "fewest" 2 "first" g_fewest) (c_is_seating : Cal P w K mg base 3 "is_seating" 3 g_is_seating) (c_is_yard : Cal P w K mg base 3 "is_yard" 1 g_is_yard) (c_most_sitters : Cal P w K mg base 3 "most_sitters" 1 g_most_sitters) (c_needed_seats : Cal P w K mg base 5 "needed_seats" 2 g_needed_seats) (c_stretches : Cal P w K mg base 2 "stretches" 1 g_stretches) {f : Addr} {fd : FuncData} (F : Fun K "_law_full_right" "_law_full_right" s_law_full_right f fd) : FnOk P w K mg base CX0 6 f fd [] (spF K 0 g_law_full_right) := by
  have nd := sc_law_full_right.nd
  refine fn_ok (N := N_law_full_right) F sc_law_full_right fun cdv A outer s H E hr => ?_
  exact (pSs_cons (pS_set (i := 0) nd rfl (by first | exact Or.inl rfl | exact Or.inr rfl) (pE_tup (pA_cons pE_int (pA_cons (pE_tup (pA_cons (pE_tup (pA_cons pE_int (pA_cons pE_int pA_nil))) (pA_cons (pE_tup (pA_cons pE_int (pA_cons pE_int pA_nil))) pA_nil))) (pA_cons (pE_op op_mul1 o2_mul1 (pE_tup (pA_cons (pE_tup (pA_cons pE_str (pA_cons (pE_tup (pA_cons pE_int (pA_cons pE_int pA_nil))) pA_nil))) (pA_cons (pE_tup (pA_cons pE_str (pA_cons (pE_tup (pA_cons pE_int (pA_cons pE_int pA_nil))) pA_nil))) pA_nil))) pE_int) pA_nil)))))
    (pSs_cons (pS_if ((pT_or (pT_not (pT_tst (pE_call c_is_yard (hr.mono (by decide)) (by rfl) (pA_cons (pE_var (pv 0)) pA_nil)))) (pT_or (pT_cmp (op_neD hr.units) o2_ne (pE_call c_most_sitters (hr.mono (by decide)) (by rfl) (pA_cons (pE_var (pv 0)) pA_nil)) pE_int (nomark _)) (pw_or1 (pT_cmp (op_neD hr.units) o2_ne (pE_call c_stretches (hr.mono (by decide)) (by rfl) (pA_cons (pE_var (pv 0)) pA_nil)) (pE_comp (own := [("seat", 1)]) (fl := false) (t := (.nm 1)) rfl nd (pI_rng1 (by rfl) T.b_range (pA_cons pE_int pA_nil)) (blkOk_by (own := [("seat", 1)]) (N := N_law_full_right) (sc := defScope s_law_full_right) (by decide +kernel)) (fun _ _ _ _ _ => (pg_name (i := 1) nd rfl (by first | exact Or.inl rfl | exact Or.inr rfl))) (fun _ _ _ _ _ => pTs_nil) (fun _ _ _ _ _ => (pE_tup (pA_cons (pE_var (pv 1)) (pA_cons pE_int (pA_cons pE_int pA_nil))))) (by decide)) (nomark _)))))).pt
    (pSs_one (pS_ret pE_bl))
    pSs_nil)
    (pSs_cons (pS_if ((pT_or (pT_cmp (op_neD hr.units) o2_ne (pE_callD c_fewest (hr.mono (by decide)) (by rfl) (pA_cons (pE_var (pv 0)) (pA_cons pE_int pA_nil))) (pE_tup (pA_cons pE_int (pA_cons (pE_op op_mul1 o2_mul1 (pE_tup (pA_cons (pE_tupRg rfl (by rfl) T.b_tuple (by rfl) T.b_range pE_int) pA_nil)) pE_int) pA_nil))) (nomark _)) (pT_or (pT_cmp (op_neD hr.units) o2_ne (pE_ix ix_seq o2_ix (pE_callD c_fewest (hr.mono (by decide)) (by rfl) (pA_cons (pE_var (pv 0)) (pA_cons pE_int pA_nil))) pE_int) pE_int (nomark _)) (pw_or1 (pT_cmp (op_neD hr.units) o2_ne (pE_call c_needed_seats (hr.mono (by decide)) (by rfl) (pA_cons (pE_var (pv 0)) (pA_cons pE_int pA_nil))) (pE_lst (b := false) pA_nil) (nomark _)))))).pt
    (pSs_one (pS_ret pE_bl))
    pSs_nil)
    (pSs_cons (pS_if ((pT_or (pT_cmp op_notU o2_isnot (pE_call c_is_seating (hr.mono (by decide)) (by rfl) (pA_cons (pE_var (pv 0)) (pA_cons pE_int (pA_cons (pE_op op_mul1 o2_mul1 (pE_tup (pA_cons (pE_tup (pA_cons pE_int (pA_cons pE_int pA_nil))) pA_nil)) pE_int) pA_nil)))) pE_bl (nomark _)) (pw_or1 (pT_cmp op_notU o2_isnot (pE_call c_is_seating (hr.mono (by decide)) (by rfl) (pA_cons (pE_var (pv 0)) (pA_cons pE_int (pA_cons (pE_op op_mul1 o2_mul1 (pE_tup (pA_cons (pE_tup (pA_cons pE_int (pA_cons pE_int pA_nil))) pA_nil)) pE_int) pA_nil)))) pE_bl (nomark _))))).pt
    (pSs_one (pS_ret pE_bl))
    pSs_nil)
    (pSs_cons (pS_if ((pT_or (pT_tst (pE_call c_is_yard (hr.mono (by decide)) (by rfl) (pA_cons (pE_tup (pA_cons pE_int (pA_cons (pE_tup pA_nil) (pA_cons (pE_ix ix_seq o2_ix (pE_var (pv 0)) pE_int) pA_nil)))) pA_nil))) (pw_or1 (pT_tst (pE_call c_is_yard (hr.mono (by decide)) (by rfl) (pA_cons (pE_tup (pA_cons pE_int (pA_cons (pE_tup (pA_cons (pE_tup (pA_cons pE_int (pA_cons pE_int pA_nil))) pA_nil)) (pA_cons (pE_ix ix_seq o2_ix (pE_var (pv 0)) pE_int) pA_nil)))) pA_nil)))))).pt
    (pSs_one (pS_ret pE_bl))
    pSs_nil)
    (pSs_one (pS_ret (pE_cmp op_isU o2_is (pE_call c_is_yard (hr.mono (by decide)) (by rfl) (pA_cons (pE_tup (pA_cons pE_int (pA_cons (pE_tup pA_nil) (pA_cons (pE_op op_mulU o2_mul (pE_ix ix_seq o2_ix (pE_var (pv 0)) pE_int) pE_int) pA_nil)))) pA_nil)) pE_bl (nomark _)))))))))
theorem cal_law_full_right (T : Txt mg) (c_fewest : CalD P w K mg base 4 "fewest" 2 "first" g_fewest) (c_is_seating : Cal P w K mg base 3 "is_seating" 3 g_is_seating) (c_is_yard : Cal P w K mg base 3 "is_yard" 1 g_is_yard) (c_most_sitters : Cal P w K mg base 3 "most_sitters" 1 g_most_sitters) (c_needed_seats : Cal P w K mg base 5 "needed_seats" 2 g_needed_seats) (c_stretches : Cal P w K mg base 2 "stretches" 1 g_stretches) {f : Addr} {fd : FuncData} (F : Fun K "_law_full_right" "_law_full_right" s_law_full_right f fd) (hm : mg "_law_full_right" = some (.ref f)) : Cal P w K mg base 6 "_law_full_right" 0 g_law_full_right :=
  ⟨f, fd, [], rfl, ok_law_full_right T c_fewest c_is_seating c_is_yard c_most_sitters c_needed_seats c_stretches F, hm, F.kp, F.binds (ps := []) fun _ _ _ _ _ _ us hl => match us, hl with | [], _ => rfl⟩
/-! ### the law's short_right -/
abbrev s_law_short_right : Stmt := topS 50
abbrev N_law_short_right : List Str := ["yard"]
theorem sc_law_short_right : FnScope N_law_short_right [] (defScope s_law_short_right) := ⟨rfl, rfl, rfl, by decide +kernel, rfl, by decide +kernel, by decide +kernel⟩
noncomputable def b_law_short_right : Ss := (sSeq (sAsg (sA fTup (sCons (sC (.int 3)) (sCons (sA fTup (sCons (sA fTup (sCons (sC (.int 2)) (sCons (sC (.int 1)) sNil))) sNil)) (sCons (sA fTup (sCons (sA fTup (sCons (sC (.str "e")) (sCons (sA fTup (sCons (sC (.int 2)) (sCons (sC (.int 1)) sNil))) sNil))) (sCons (sA fTup (sCons (sC (.str "e")) (sCons (sA fTup (sCons (sC (.int 1)) (sCons (sC (.int 1)) sNil))) sNil))) (sCons (sA fTup (sCons (sC (.str "e")) (sCons (sA fTup (sCons (sC (.int 1)) (sCons (sC (.int 1)) sNil))) sNil))) sNil)))) sNil)))) (.nm 0))
    (sSeq (sIf (sOr (sTst (s2 (fEq true) (sCall 1 g_stretches (sCons (sVar 0) sNil)) (sA (fLst false) (sCons (sA fTup (sCons (sC (.int 0)) (sCons (sC (.int 0)) (sCons (sC (.int 0)) sNil)))) (sCons (sA fTup (sCons (sC (.int 1)) (sCons (sC (.int 0)) (sCons (sC (.int 2)) sNil)))) sNil))))) (sTst (s2 (fEq true) (sCallD 2 g_fewest (sCons (sVar 0) (sCons (sC (.int 1)) sNil))) (sA fTup (sCons (sC (.int 1)) (sCons (sA fTup (sCons (sA fTup (sCons (sC (.int 1)) sNil)) (sCons (sA fTup (sCons (sC (.int 1)) sNil)) (sCons (sA fTup (sCons (sC (.int 1)) sNil)) sNil)))) sNil)))))) (sRet (sC (.bool false))) sSkip)
    (sSeq (sIf (sOr (sTst (s2 (fEq true) (sCallK 2 g_fewest (sCons (sVar 0) (sCons (sC (.int 1)) sNil)) (sA fTup (sCons (sC (.int 0)) sNil))) (sA fTup (sCons (sC (.int 2)) (sCons (sA fTup (sCons (sA fTup (sCons (sC (.int 0)) sNil)) (sCons (sA fTup (sCons (sC (.int 1)) sNil)) (sCons (sA fTup (sCons (sC (.int 1)) sNil)) sNil)))) sNil))))) (sTst (s2 (fEq true) (sCallK 3 g_lot_shows (sCons (sVar 0) (sCons (sC (.int 1)) (sCons (sA fTup (sCons (sC (.int 0)) (sCons (sC (.int 1)) sNil))) sNil))) (sA fTup (sCons (sC (.int 0)) sNil))) (sC (.int 2))))) (sRet (sC (.bool false))) sSkip)
    (sRet (sAndV (s2 (fEq false) (sCallD 3 g_lot_shows (sCons (sVar 0) (sCons (sC (.int 1)) (sCons (sA fTup (sCons (sC (.int 0)) (sCons (sC (.int 1)) sNil))) sNil)))) (sC (.int 1))) (s2 (fEq false) (sCallK 3 g_lot_shows (sCons (sVar 0) (sCons (sC (.int 1)) (sCons (sA fTup (sCons (sC (.int 0)) (sCons (sC (.int 2)) sNil))) sNil))) (sA fTup (sCons (sC (.int 1)) sNil))) (sC (.int 1))))))))
noncomputable def g_law_short_right : Fn := mkFn 0 1 b_law_short_right
theorem ok_law_short_right (T : Txt mg) (c_fewest : CalD P w K mg base 4 "fewest" 2 "first" g_fewest) (c_lot_shows : CalD P w K mg base 4 "lot_shows" 3 "first" g_lot_shows) (c_stretches : Cal P w K mg base 2 "stretches" 1 g_stretches) {f : Addr} {fd : FuncData} (F : Fun K "_law_short_right" "_law_short_right" s_law_short_right f fd) : FnOk P w K mg base CX0 5 f fd [] (spF K 0 g_law_short_right) := by
  have nd := sc_law_short_right.nd
  refine fn_ok (N := N_law_short_right) F sc_law_short_right fun cdv A outer s H E hr => ?_
  exact (pSs_cons (pS_set (i := 0) nd rfl (by first | exact Or.inl rfl | exact Or.inr rfl) (pE_tup (pA_cons pE_int (pA_cons (pE_tup (pA_cons (pE_tup (pA_cons pE_int (pA_cons pE_int pA_nil))) pA_nil)) (pA_cons (pE_tup (pA_cons (pE_tup (pA_cons pE_str (pA_cons (pE_tup (pA_cons pE_int (pA_cons pE_int pA_nil))) pA_nil))) (pA_cons (pE_tup (pA_cons pE_str (pA_cons (pE_tup (pA_cons pE_int (pA_cons pE_int pA_nil))) pA_nil))) (pA_cons (pE_tup (pA_cons pE_str (pA_cons (pE_tup (pA_cons pE_int (pA_cons pE_int pA_nil))) pA_nil))) pA_nil)))) pA_nil)))))
    (pSs_cons (pS_if ((pT_or (pT_cmp (op_neD hr.units) o2_ne (pE_call c_stretches (hr.mono (by decide)) (by rfl) (pA_cons (pE_var (pv 0)) pA_nil)) (pE_lst (b := false) (pA_cons (pE_tup (pA_cons pE_int (pA_cons pE_int (pA_cons pE_int pA_nil)))) (pA_cons (pE_tup (pA_cons pE_int (pA_cons pE_int (pA_cons pE_int pA_nil)))) pA_nil))) (nomark _)) (pw_or1 (pT_cmp (op_neD hr.units) o2_ne (pE_callD c_fewest (hr.mono (by decide)) (by rfl) (pA_cons (pE_var (pv 0)) (pA_cons pE_int pA_nil))) (pE_tup (pA_cons pE_int (pA_cons (pE_tup (pA_cons (pE_tup (pA_cons pE_int pA_nil)) (pA_cons (pE_tup (pA_cons pE_int pA_nil)) (pA_cons (pE_tup (pA_cons pE_int pA_nil)) pA_nil)))) pA_nil))) (nomark _))))).pt
    (pSs_one (pS_ret pE_bl))
    pSs_nil)
    (pSs_cons (pS_if ((pT_or (pT_cmp (op_neD hr.units) o2_ne (pE_callK c_fewest (hr.mono (by decide)) (by rfl) (pA_cons (pE_var (pv 0)) (pA_cons pE_int pA_nil)) (pE_tup (pA_cons pE_int pA_nil))) (pE_tup (pA_cons pE_int (pA_cons (pE_tup (pA_cons (pE_tup (pA_cons pE_int pA_nil)) (pA_cons (pE_tup (pA_cons pE_int pA_nil)) (pA_cons (pE_tup (pA_cons pE_int pA_nil)) pA_nil)))) pA_nil))) (nomark _)) (pw_or1 (pT_cmp (op_neD hr.units) o2_ne (pE_callK c_lot_shows (hr.mono (by decide)) (by rfl) (pA_cons (pE_var (pv 0)) (pA_cons pE_int (pA_cons (pE_tup (pA_cons pE_int (pA_cons pE_int pA_nil))) pA_nil))) (pE_tup (pA_cons pE_int pA_nil))) pE_int (nomark _))))).pt
    (pSs_one (pS_ret pE_bl))
    pSs_nil)
    (pSs_one (pS_ret (pE_and (pE_cmp (op_eqD hr.units) o2_eq (pE_callD c_lot_shows (hr.mono (by decide)) (by rfl) (pA_cons (pE_var (pv 0)) (pA_cons pE_int (pA_cons (pE_tup (pA_cons pE_int (pA_cons pE_int pA_nil))) pA_nil)))) pE_int (nomark _)) (pe_one (pE_cmp (op_eqD hr.units) o2_eq (pE_callK c_lot_shows (hr.mono (by decide)) (by rfl) (pA_cons (pE_var (pv 0)) (pA_cons pE_int (pA_cons (pE_tup (pA_cons pE_int (pA_cons pE_int pA_nil))) pA_nil))) (pE_tup (pA_cons pE_int pA_nil))) pE_int (nomark _)))))))))
theorem cal_law_short_right (T : Txt mg) (c_fewest : CalD P w K mg base 4 "fewest" 2 "first" g_fewest) (c_lot_shows : CalD P w K mg base 4 "lot_shows" 3 "first" g_lot_shows) (c_stretches : Cal P w K mg base 2 "stretches" 1 g_stretches) {f : Addr} {fd : FuncData} (F : Fun K "_law_short_right" "_law_short_right" s_law_short_right f fd) (hm : mg "_law_short_right" = some (.ref f)) : Cal P w K mg base 5 "_law_short_right" 0 g_law_short_right :=
  ⟨f, fd, [], rfl, ok_law_short_right T c_fewest c_lot_shows c_stretches F, hm, F.kp, F.binds (ps := []) fun _ _ _ _ _ _ us hl => match us, hl with | [], _ => rfl⟩
/-! ### the law's over_right -/
abbrev s_law_over_right : Stmt := topS 47
abbrev N_law_over_right : List Str := ["early", "late", "height", "yard", "near", "due", "seat", "number", "seating", "row"]
theorem sc_law_over_right : FnScope N_law_over_right ["early", "late", "height"] (defScope s_law_over_right) := ⟨rfl, rfl, rfl, by decide +kernel, rfl, by decide +kernel, by decide +kernel⟩
noncomputable def C_law_over_right_1 : Sm := sComp false (sRng2 (sCons (sC (.int 2)) (sCons (s2 (fAdd false) (sC (.int 2)) (sVar 4)) sNil))) (.nm 6) sYes (sA fTup (sCons (sVar 6) (sCons (sVar 0) (sCons (s2 fSub (s2 (fAdd false) (sVar 0) (sVar 1)) (sC (.int 1))) sNil)))) [6]
noncomputable def C_law_over_right_2 : Sm := sComp false (sRng2 (sCons (s2 fSub (sC (.int 2)) (sVar 4)) (sCons (sC (.int 2)) sNil))) (.nm 6) sYes (sA fTup (sCons (sVar 6) (sCons (sC (.int 0)) (sCons (s2 fSub (sVar 0) (sC (.int 1))) sNil)))) [6]
noncomputable def b_law_over_right : Ss := (sSeq (sAsg (sA fTup (sCons (sC (.int 4)) (sCons (sA fTup (sCons (sA fTup (sCons (sC (.int 2)) (sCons (sVar 2) sNil))) sNil)) (sCons (s2 (fAdd false) (s2 fMul1 (sA fTup (sCons (sA fTup (sCons (sC (.str "e")) (sCons (sA fTup (sCons (sC (.int 1)) (sCons (sC (.int 1)) sNil))) sNil))) sNil)) (sVar 0)) (s2 fMul1 (sA fTup (sCons (sA fTup (sCons (sC (.str "w")) (sCons (sA fTup (sCons (sC (.int 1)) (sCons (sC (.int 1)) sNil))) sNil))) sNil)) (sVar 1))) sNil)))) (.nm 3))
    (sSeq (sAsg (sA fMin (sCons (sC (.int 2)) (sCons (sVar 2) sNil))) (.nm 4))
    (sSeq (sAsg C_law_over_right_2 (.nm 5))
    (sSeq (sAsg (s2 (fAdd false) (sVar 5) C_law_over_right_1) (.nm 5))
    (sSeq (sIf (sOr (sTst (s2 (fEq true) (sCall 1 g_stretches (sCons (sVar 3) sNil)) (sVar 5))) (sOr (sTst (s2 (fEq true) (sCall 1 g_most_sitters (sCons (sVar 3) sNil)) (sVar 4))) (sTst (s2 (fEq true) (sCall 2 g_shaded (sCons (sVar 3) (sCons (sVar 0) sNil))) (s2 (fLstRg2 false) (sC (.int 2)) (s2 (fAdd false) (sC (.int 2)) (sVar 4))))))) (sRet (sC (.bool false))) sSkip)
    (sSeq (sAsg (sCallD 2 g_fewest (sCons (sVar 3) (sCons (sVar 4) sNil))) (.tp [7, 8]))
    (sSeq (sAsg (s2 (fAdd false) (s2 fMul1 (sA fTup (sCons (s2 fTupRg2 (s2 fSub (sC (.int 2)) (sVar 4)) (sC (.int 2))) sNil)) (sVar 0)) (s2 fMul1 (sA fTup (sCons (s2 fTupRg2 (sC (.int 2)) (s2 (fAdd false) (sC (.int 2)) (sVar 4))) sNil)) (sVar 1))) (.nm 9))
    (sSeq (sIf (sOr (sTst (s2 (fEq true) (sVar 7) (s2 fMul (sC (.int 2)) (sVar 4)))) (sTst (s2 (fEq true) (sVar 8) (sVar 9)))) (sRet (sC (.bool false))) sSkip)
    (sSeq (sIf (sOr (sTst (s2 (fEq true) (sCallD 3 g_lot_shows (sCons (sVar 3) (sCons (sVar 4) (sCons (sA fTup (sCons (sC (.int 0)) (sCons (sVar 0) sNil))) sNil)))) (s2 fMul (sC (.int 2)) (sVar 4)))) (sTst (s2 (fEq true) (sCallD 3 g_lot_shows (sCons (sVar 3) (sCons (sVar 4) (sCons (sA fTup (sCons (sC (.int 0)) sNil)) sNil)))) (sVar 4)))) (sRet (sC (.bool false))) sSkip)
    (sSeq (sIf (sTst (s2 (fEq true) (sCall 2 g_dear_hours (sCons (sVar 3) (sCons (sC (.int 1)) sNil))) (s2 (fAdd false) (s2 (fMulL false) (sA (fLst false) (sCons (sC (.int 0)) sNil)) (sA fInt (sCons (s2 (fEq false) (sVar 0) (sC (.int 1))) sNil))) (s2 (fMulL false) (sA (fLst false) (sCons (sVar 0) sNil)) (sA fInt (sCons (s2 (fEq false) (sVar 1) (sC (.int 1))) sNil)))))) (sRet (sC (.bool false))) sSkip)
    (sRet (sAndV (s2 (fEq false) (sCall 2 g_needed_seats (sCons (sVar 3) (sCons (sVar 4) sNil))) (s2 (fLstRg2 false) (s2 fSub (sC (.int 2)) (sVar 4)) (s2 (fAdd false) (sC (.int 2)) (sVar 4)))) (s2 (fEq false) (s2 fIx (sCallK 2 g_fewest (sCons (sVar 3) (sCons (sC (.int 1)) sNil)) (sA fTup (sCons (sC (.int 1)) sNil))) (sC (.int 0))) (sC (.int 2)))))))))))))))
noncomputable def g_law_over_right : Fn := mkFn 3 10 b_law_over_right
theorem ok_law_over_right (T : Txt mg) (c_dear_hours : Cal P w K mg base 5 "dear_hours" 2 g_dear_hours) (c_fewest : CalD P w K mg base 4 "fewest" 2 "first" g_fewest) (c_lot_shows : CalD P w K mg base 4 "lot_shows" 3 "first" g_lot_shows) (c_most_sitters : Cal P w K mg base 3 "most_sitters" 1 g_most_sitters) (c_needed_seats : Cal P w K mg base 5 "needed_seats" 2 g_needed_seats) (c_shaded : Cal P w K mg base 2 "shaded" 2 g_shaded) (c_stretches : Cal P w K mg base 2 "stretches" 1 g_stretches) {f : Addr} {fd : FuncData} (F : Fun K "_law_over_right" "_law_over_right" s_law_over_right f fd) : FnOk P w K mg base CX0 6 f fd ["early", "late", "height"] (spF K 3 g_law_over_right) := by
  have nd := sc_law_over_right.nd
  refine fn_ok (N := N_law_over_right) F sc_law_over_right fun cdv A outer s H E hr => ?_
  exact (pSs_cons (pS_set (i := 3) nd rfl (by first | exact Or.inl rfl | exact Or.inr rfl) (pE_tup (pA_cons pE_int (pA_cons (pE_tup (pA_cons (pE_tup (pA_cons pE_int (pA_cons (pE_var (pv 2)) pA_nil))) pA_nil)) (pA_cons (pE_op op_addU (o2_add (b := false)) (pE_op op_mul1 o2_mul1 (pE_tup (pA_cons (pE_tup (pA_cons pE_str (pA_cons (pE_tup (pA_cons pE_int (pA_cons pE_int pA_nil))) pA_nil))) pA_nil)) (pE_var (pv 0))) (pE_op op_mul1 o2_mul1 (pE_tup (pA_cons (pE_tup (pA_cons pE_str (pA_cons (pE_tup (pA_cons pE_int (pA_cons pE_int pA_nil))) pA_nil))) pA_nil)) (pE_var (pv 1)))) pA_nil)))))
    (pSs_cons (pS_set (i := 4) nd rfl (by first | exact Or.inl rfl | exact Or.inr rfl) (pE_callB (call_minU rfl) opA_min (by rfl) T.b_min (by decide +kernel) (pA_cons pE_int (pA_cons (pE_var (pv 2)) pA_nil))))
    (pSs_cons (pS_setComp (i := 5) (own := [("seat", 6)]) (fl := false) (t := (.nm 6)) rfl nd rfl rfl (sw_true rfl rfl rfl (by decide +kernel)) (pI_rng2 (by rfl) T.b_range (pA_cons (pE_op op_sub o2_sub pE_int (pE_var (pv 4))) (pA_cons pE_int pA_nil))) (blkOk_by (own := [("seat", 6)]) (N := N_law_over_right) (sc := defScope s_law_over_right) (by decide +kernel)) (fun _ _ _ _ _ => (pg_name (i := 6) nd rfl (by first | exact Or.inl rfl | exact Or.inr rfl))) (fun _ _ _ _ _ => pTs_nil) (fun _ _ _ _ _ => (pE_tup (pA_cons (pE_var (pv 6)) (pA_cons pE_int (pA_cons (pE_op op_sub o2_sub (pE_var (pv 0)) pE_int) pA_nil))))) (by decide))
    (pSs_cons (pS_set (i := 5) nd rfl (by first | exact Or.inl rfl | exact Or.inr rfl) (pE_op op_addU (o2_add (b := false)) (pE_var (pv 5)) (pE_comp (own := [("seat", 6)]) (fl := false) (t := (.nm 6)) rfl nd (pI_rng2 (by rfl) T.b_range (pA_cons pE_int (pA_cons (pE_op op_addU (o2_add (b := false)) pE_int (pE_var (pv 4))) pA_nil))) (blkOk_by (own := [("seat", 6)]) (N := N_law_over_right) (sc := defScope s_law_over_right) (by decide +kernel)) (fun _ _ _ _ _ => (pg_name (i := 6) nd rfl (by first | exact Or.inl rfl | exact Or.inr rfl))) (fun _ _ _ _ _ => pTs_nil) (fun _ _ _ _ _ => (pE_tup (pA_cons (pE_var (pv 6)) (pA_cons (pE_var (pv 0)) (pA_cons (pE_op op_sub o2_sub (pE_op op_addU (o2_add (b := false)) (pE_var (pv 0)) (pE_var (pv 1))) pE_int) pA_nil))))) (by decide))))
    (pSs_cons (pS_if ((pT_or (pT_cmp (op_neD hr.units) o2_ne (pE_call c_stretches (hr.mono (by decide)) (by rfl) (pA_cons (pE_var (pv 3)) pA_nil)) (pE_var (pv 5)) (nomark _)) (pT_or (pT_cmp (op_neD hr.units) o2_ne (pE_call c_most_sitters (hr.mono (by decide)) (by rfl) (pA_cons (pE_var (pv 3)) pA_nil)) (pE_var (pv 4)) (nomark _)) (pw_or1 (pT_cmp (op_neD hr.units) o2_ne (pE_call c_shaded (hr.mono (by decide)) (by rfl) (pA_cons (pE_var (pv 3)) (pA_cons (pE_var (pv 0)) pA_nil))) (pE_lstRg2 (fl := false) rfl (by rfl) T.b_list (by rfl) T.b_range pE_int (pE_op op_addU (o2_add (b := false)) pE_int (pE_var (pv 4)))) (nomark _)))))).pt
    (pSs_one (pS_ret pE_bl))
    pSs_nil)
    (pSs_cons (pS_asg (t := (.tp [7, 8])) (pE_callD c_fewest (hr.mono (by decide)) (by rfl) (pA_cons (pE_var (pv 3)) (pA_cons (pE_var (pv 4)) pA_nil))) (pg_tup rfl (pgs_cons (pg_name (i := 7) nd rfl (by first | exact Or.inl rfl | exact Or.inr rfl)) (pgs_cons (pg_name (i := 8) nd rfl (by first | exact Or.inl rfl | exact Or.inr rfl)) pgs_nil))))
    (pSs_cons (pS_set (i := 9) nd rfl (by first | exact Or.inl rfl | exact Or.inr rfl) (pE_op op_addU (o2_add (b := false)) (pE_op op_mul1 o2_mul1 (pE_tup (pA_cons (pE_tupRg2 rfl (by rfl) T.b_tuple (by rfl) T.b_range (pE_op op_sub o2_sub pE_int (pE_var (pv 4))) pE_int) pA_nil)) (pE_var (pv 0))) (pE_op op_mul1 o2_mul1 (pE_tup (pA_cons (pE_tupRg2 rfl (by rfl) T.b_tuple (by rfl) T.b_range pE_int (pE_op op_addU (o2_add (b := false)) pE_int (pE_var (pv 4)))) pA_nil)) (pE_var (pv 1)))))
    (pSs_cons (pS_if ((pT_or (pT_cmp (op_neD hr.units) o2_ne (pE_var (pv 7)) (pE_op op_mulU o2_mul pE_int (pE_var (pv 4))) (nomark _)) (pw_or1 (pT_cmp (op_neD hr.units) o2_ne (pE_var (pv 8)) (pE_var (pv 9)) (nomark _))))).pt
    (pSs_one (pS_ret pE_bl))
    pSs_nil)
    (pSs_cons (pS_if ((pT_or (pT_cmp (op_neD hr.units) o2_ne (pE_callD c_lot_shows (hr.mono (by decide)) (by rfl) (pA_cons (pE_var (pv 3)) (pA_cons (pE_var (pv 4)) (pA_cons (pE_tup (pA_cons pE_int (pA_cons (pE_var (pv 0)) pA_nil))) pA_nil)))) (pE_op op_mulU o2_mul pE_int (pE_var (pv 4))) (nomark _)) (pw_or1 (pT_cmp (op_neD hr.units) o2_ne (pE_callD c_lot_shows (hr.mono (by decide)) (by rfl) (pA_cons (pE_var (pv 3)) (pA_cons (pE_var (pv 4)) (pA_cons (pE_tup (pA_cons pE_int pA_nil)) pA_nil)))) (pE_var (pv 4)) (nomark _))))).pt
    (pSs_one (pS_ret pE_bl))
    pSs_nil)
    (pSs_cons (pS_if (pT_cmp (op_neD hr.units) o2_ne (pE_call c_dear_hours (hr.mono (by decide)) (by rfl) (pA_cons (pE_var (pv 3)) (pA_cons pE_int pA_nil))) (pE_op op_addU (o2_add (b := false)) (pE_op op_rep (o2_mulL (b := false)) (pE_lst (b := false) (pA_cons pE_int pA_nil)) (pE_callTy call_int1 opA_int (by rfl) T.b_int (by decide +kernel) (pA_cons (pE_cmp (op_eqD hr.units) o2_eq (pE_var (pv 0)) pE_int (nomark _)) pA_nil))) (pE_op op_rep (o2_mulL (b := false)) (pE_lst (b := false) (pA_cons (pE_var (pv 0)) pA_nil)) (pE_callTy call_int1 opA_int (by rfl) T.b_int (by decide +kernel) (pA_cons (pE_cmp (op_eqD hr.units) o2_eq (pE_var (pv 1)) pE_int (nomark _)) pA_nil)))) (nomark _))
    (pSs_one (pS_ret pE_bl))
    pSs_nil)
    (pSs_one (pS_ret (pE_and (pE_cmp (op_eqD hr.units) o2_eq (pE_call c_needed_seats (hr.mono (by decide)) (by rfl) (pA_cons (pE_var (pv 3)) (pA_cons (pE_var (pv 4)) pA_nil))) (pE_lstRg2 (fl := false) rfl (by rfl) T.b_list (by rfl) T.b_range (pE_op op_sub o2_sub pE_int (pE_var (pv 4))) (pE_op op_addU (o2_add (b := false)) pE_int (pE_var (pv 4)))) (nomark _)) (pe_one (pE_cmp (op_eqD hr.units) o2_eq (pE_ix ix_seq o2_ix (pE_callK c_fewest (hr.mono (by decide)) (by rfl) (pA_cons (pE_var (pv 3)) (pA_cons pE_int pA_nil)) (pE_tup (pA_cons pE_int pA_nil))) pE_int) pE_int (nomark _))))))))))))))))
theorem cal_law_over_right (T : Txt mg) (c_dear_hours : Cal P w K mg base 5 "dear_hours" 2 g_dear_hours) (c_fewest : CalD P w K mg base 4 "fewest" 2 "first" g_fewest) (c_lot_shows : CalD P w K mg base 4 "lot_shows" 3 "first" g_lot_shows) (c_most_sitters : Cal P w K mg base 3 "most_sitters" 1 g_most_sitters) (c_needed_seats : Cal P w K mg base 5 "needed_seats" 2 g_needed_seats) (c_shaded : Cal P w K mg base 2 "shaded" 2 g_shaded) (c_stretches : Cal P w K mg base 2 "stretches" 1 g_stretches) {f : Addr} {fd : FuncData} (F : Fun K "_law_over_right" "_law_over_right" s_law_over_right f fd) (hm : mg "_law_over_right" = some (.ref f)) : Cal P w K mg base 6 "_law_over_right" 3 g_law_over_right :=
  ⟨f, fd, ["early", "late", "height"], rfl, ok_law_over_right T c_dear_hours c_fewest c_lot_shows c_most_sitters c_needed_seats c_shaded c_stretches F, hm, F.kp, F.binds (ps := ["early", "late", "height"]) fun _ _ _ _ _ _ us hl => match us, hl with | [_, _, _], _ => rfl⟩
/-! ### the law's take -/
abbrev s_law_take : Stmt := topS 45
abbrev N_law_take : List Str := ["bag", "count", "found"]
theorem sc_law_take : FnScope N_law_take ["bag", "count"] (defScope s_law_take) := ⟨rfl, rfl, rfl, by decide +kernel, rfl, by decide +kernel, by decide +kernel⟩
noncomputable def b_law_take : Ss := (sSeq (sIf (sTst (s2 fGt (s2 fIx (sVar 0) (sC (.int 0))) (sC (.int 0)))) (sSeq (sAsg (s2 fMod (s2 fIx (sVar 0) (sC (.int 0))) (sVar 1)) (.nm 2))
    (sSeq (sStL (sVar 0) (sC (.int 0)) (s2 fDiv (s2 fIx (sVar 0) (sC (.int 0))) (sVar 1)))
    (sRet (sVar 2)))) sSkip)
    (sSeq (sStL (sVar 0) (sC (.int 1)) (s2 fMod (s2 fMul (s2 fIx (sVar 0) (sC (.int 1))) (sC (.int 48271))) (sC (.int 2147483647))))
    (sRet (s2 fMod (s2 fDiv (s2 fMod (s2 fMul (s2 fDiv (s2 fIx (sVar 0) (sC (.int 1))) (sC (.int 13))) (s2 (fAdd false) (s2 fMod (s2 fIx (sVar 0) (sC (.int 1))) (sC (.int 32749))) (sC (.int 17)))) (sC (.int 2147483629))) (sC (.int 32))) (sVar 1)))))
noncomputable def g_law_take : Fn := mkFn 2 3 b_law_take
theorem ok_law_take (T : Txt mg)  {f : Addr} {fd : FuncData} (F : Fun K "_law_take" "_law_take" s_law_take f fd) : FnOk P w K mg base CX0 1 f fd ["bag", "count"] (spF K 2 g_law_take) := by
  have nd := sc_law_take.nd
  refine fn_ok (N := N_law_take) F sc_law_take fun cdv A outer s H E hr => ?_
  exact (pSs_cons (pS_if (pT_cmp op_gt o2_cmp (pE_ix ix_seq o2_ix (pE_var (pv 0)) pE_int) pE_int (nomark _))
    (pSs_cons (pS_set (i := 2) nd rfl (by first | exact Or.inl rfl | exact Or.inr rfl) (pE_op op_mod o2_mod (pE_ix ix_seq o2_ix (pE_var (pv 0)) pE_int) (pE_var (pv 1))))
    (pSs_cons (pS_stL (pE_op op_fdiv o2_div (pE_ix ix_seq o2_ix (pE_var (pv 0)) pE_int) (pE_var (pv 1))) (pE_var (pv 0)) pE_int)
    (pSs_one (pS_ret (pE_var (pv 2))))))
    pSs_nil)
    (pSs_cons (pS_stL (pE_op op_mod o2_mod (pE_op op_mulU o2_mul (pE_ix ix_seq o2_ix (pE_var (pv 0)) pE_int) pE_int) pE_int) (pE_var (pv 0)) pE_int)
    (pSs_one (pS_ret (pE_op op_mod o2_mod (pE_op op_fdiv o2_div (pE_op op_mod o2_mod (pE_op op_mulU o2_mul (pE_op op_fdiv o2_div (pE_ix ix_seq o2_ix (pE_var (pv 0)) pE_int) pE_int) (pE_op op_addU (o2_add (b := false)) (pE_op op_mod o2_mod (pE_ix ix_seq o2_ix (pE_var (pv 0)) pE_int) pE_int) pE_int)) pE_int) pE_int) (pE_var (pv 1)))))))
theorem cal_law_take (T : Txt mg)  {f : Addr} {fd : FuncData} (F : Fun K "_law_take" "_law_take" s_law_take f fd) (hm : mg "_law_take" = some (.ref f)) : Cal P w K mg base 1 "_law_take" 2 g_law_take :=
  ⟨f, fd, ["bag", "count"], rfl, ok_law_take T  F, hm, F.kp, F.binds (ps := ["bag", "count"]) fun _ _ _ _ _ _ us hl => match us, hl with | [_, _], _ => rfl⟩
/-! ### law -/
abbrev s_law : Stmt := topS 51
abbrev N_law : List Str := ["script", "k", "bag", "early", "late", "height"]
theorem sc_law : FnScope N_law ["script"] (defScope s_law) := ⟨rfl, rfl, rfl, by decide +kernel, rfl, by decide +kernel, by decide +kernel⟩
noncomputable def l_law_1 (C : Addr) : Ss := (sSeq (sAsg (sCall 2 g_law_bag (sCons (sVar 0) (sCons (sVar 1) sNil))) (.nm 2))
    (sSeq (sPar [3, 4, 5] (sCons (s2 (fAdd false) (sC (.int 1)) (sCall 2 g_law_take (sCons (sVar 2) (sCons (sC (.int 4)) sNil)))) (sCons (s2 (fAdd false) (sC (.int 1)) (sCall 2 g_law_take (sCons (sVar 2) (sCons (sC (.int 4)) sNil)))) (sCons (s2 (fAdd false) (sC (.int 1)) (sCall 2 g_law_take (sCons (sVar 2) (sCons (sC (.int 9)) sNil)))) sNil))))
    (sIf (sNot (sTst (sCall 3 g_law_over_right (sCons (sVar 3) (sCons (sVar 4) (sCons (sVar 5) sNil)))))) (sRet (sC (.bool false))) sSkip)))
noncomputable def L_law_1 (C : Addr) : Ss := sFor (sRng1 (sCons (s2 (fAdd false) (sA fMin (sCons (sA fLen (sCons (sVar 0) sNil)) (sCons (sC (.int 4)) sNil))) (sC (.int 2))) sNil)) (.nm 1) (l_law_1 C)
noncomputable def b_law (C : Addr) : Ss := (sSeq (L_law_1 C)
    (sRet (sAndV (sCall 0 (g_law_turns_right C) sNil) (sAndV (sCall 0 g_law_full_right sNil) (sCall 0 g_law_short_right sNil)))))
noncomputable def g_law (C : Addr) : Fn := mkFn 1 6 (b_law C)
theorem ok_law {C : Addr} (T : Txt mg) (D : TxtD K C) (c_law_bag : Cal P w K mg base 1 "_law_bag" 2 g_law_bag) (c_law_full_right : Cal P w K mg base 6 "_law_full_right" 0 g_law_full_right) (c_law_over_right : Cal P w K mg base 6 "_law_over_right" 3 g_law_over_right) (c_law_short_right : Cal P w K mg base 5 "_law_short_right" 0 g_law_short_right) (c_law_take : Cal P w K mg base 1 "_law_take" 2 g_law_take) (c_law_turns_right : Cal P w K mg base 6 "_law_turns_right" 0 (g_law_turns_right C)) {f : Addr} {fd : FuncData} (F : Fun K "law" "law" s_law f fd) : FnOk P w K mg base CX0 7 f fd ["script"] (spF K 1 (g_law C)) := by
  have nd := sc_law.nd
  refine fn_ok (N := N_law) F sc_law fun cdv A outer s H E hr => ?_
  exact (pSs_cons (pS_for (t := (.nm 1)) PassesOwn.never rfl (pI_rng1 (by rfl) T.b_range (pA_cons (pE_op op_addU (o2_add (b := false)) (pE_callB (call_minU rfl) opA_min (by rfl) T.b_min (by decide +kernel) (pA_cons (pE_callB call_len opA_len (by rfl) T.b_len (by decide +kernel) (pA_cons (pE_var (pv 0)) pA_nil)) (pA_cons pE_int pA_nil))) pE_int) pA_nil)) (pg_name (i := 1) nd rfl (by first | exact Or.inl rfl | exact Or.inr rfl))
    (pSs_cons (pS_set (i := 2) nd rfl (by first | exact Or.inl rfl | exact Or.inr rfl) (pE_call c_law_bag (hr.mono (by decide)) (by rfl) (pA_cons (pE_var (pv 0)) (pA_cons (pE_var (pv 1)) pA_nil))))
    (pSs_cons (pS_par3 (i := 3) (j := 4) (l := 5) rfl nd rfl rfl rfl (by decide) (by decide) (by decide) rfl rfl rfl (pA_cons (pE_op op_addU (o2_add (b := false)) pE_int (pE_call c_law_take (hr.mono (by decide)) (by rfl) (pA_cons (pE_var (pv 2)) (pA_cons pE_int pA_nil)))) (pA_cons (pE_op op_addU (o2_add (b := false)) pE_int (pE_call c_law_take (hr.mono (by decide)) (by rfl) (pA_cons (pE_var (pv 2)) (pA_cons pE_int pA_nil)))) (pA_cons (pE_op op_addU (o2_add (b := false)) pE_int (pE_call c_law_take (hr.mono (by decide)) (by rfl) (pA_cons (pE_var (pv 2)) (pA_cons pE_int pA_nil)))) pA_nil))) (by rfl))
    (pSs_one (pS_if (pT_not (pT_tst (pE_call c_law_over_right (hr.mono (by decide)) (by rfl) (pA_cons (pE_var (pv 3)) (pA_cons (pE_var (pv 4)) (pA_cons (pE_var (pv 5)) pA_nil))))))
    (pSs_one (pS_ret pE_bl))
    pSs_nil)))))
    (pSs_one (pS_ret (pE_and (pE_call0 c_law_turns_right (hr.mono (by decide)) (by rfl)) (pE_and (pE_call0 c_law_full_right (hr.mono (by decide)) (by rfl)) (pe_one (pE_call0 c_law_short_right (hr.mono (by decide)) (by rfl))))))))
theorem cal_law {C : Addr} (T : Txt mg) (D : TxtD K C) (c_law_bag : Cal P w K mg base 1 "_law_bag" 2 g_law_bag) (c_law_full_right : Cal P w K mg base 6 "_law_full_right" 0 g_law_full_right) (c_law_over_right : Cal P w K mg base 6 "_law_over_right" 3 g_law_over_right) (c_law_short_right : Cal P w K mg base 5 "_law_short_right" 0 g_law_short_right) (c_law_take : Cal P w K mg base 1 "_law_take" 2 g_law_take) (c_law_turns_right : Cal P w K mg base 6 "_law_turns_right" 0 (g_law_turns_right C)) {f : Addr} {fd : FuncData} (F : Fun K "law" "law" s_law f fd) (hm : mg "law" = some (.ref f)) : Cal P w K mg base 7 "law" 1 (g_law C) :=
  ⟨f, fd, ["script"], rfl, ok_law T D c_law_bag c_law_full_right c_law_over_right c_law_short_right c_law_take c_law_turns_right F, hm, F.kp, F.binds (ps := ["script"]) fun _ _ _ _ _ _ us hl => match us, hl with | [_], _ => rfl⟩
end
end Sh
set_option Elab.async false
set_option linter.all false
set_option maxRecDepth 100000
set_option maxHeartbeats 1000000
namespace Sh
open PySem L2 PyProof.Rows
/-! ### yards -/
structure Yd where
  n : Int
  walls : List (Int × Int)
  sun : List (Bool × Int × Int)
def sideS (e : Bool) : Str := if e then "e" else "w"
def wallD (w : Int × Int) : PyData := .tuple [.int w.1, .int w.2]
def hourD (h : Bool × Int × Int) : PyData := .tuple [.str (sideS h.1), .tuple [.int h.2.1, .int h.2.2]]
def yardD (y : Yd) : PyData := .tuple [.int y.n, .tuple (y.walls.map wallD), .tuple (y.sun.map hourD)]
structure Yd.Ok (y : Yd) : Prop where
  n1 : 1 ≤ y.n
  n8 : y.n ≤ 9
  wl : y.walls.length ≤ 9
  sl : y.sun.length ≤ 16
  w : ∀ w ∈ y.walls, 0 ≤ w.1 ∧ w.1 ≤ 9 ∧ 1 ≤ w.2 ∧ w.2 ≤ 9
  s : ∀ h ∈ y.sun, 0 ≤ h.2.1 ∧ h.2.1 ≤ 1000000 ∧ 1 ≤ h.2.2 ∧ h.2.2 ≤ 1000000
/-- a wall's shadow comes to a seat's middle -/
def hit (h : Bool × Int × Int) (seat : Int) (w : Int × Int) : Bool :=
  let hv := if h.1 then 2 * (w.1 - seat) - 1 else 2 * (seat - w.1) + 1
  decide (0 < hv) && decide (hv * h.2.2 ≤ 2 * w.2 * h.2.1)
def sh (y : Yd) (seat : Int) (hour : Nat) : Bool := match y.sun[hour]? with
  | some h => y.walls.any (hit h seat)
  | none => false
@[simp] theorem side_beq (e : Bool) : (sideS e == ("e" : Str)) = e := by cases e <;> decide +kernel
@[simp] theorem side_beqw (e : Bool) : (sideS e == ("w" : Str)) = !e := by cases e <;> decide +kernel
@[simp] theorem side_ok (e : Bool) : PyData.strOk (sideS e) = true := by cases e <;> decide +kernel
@[simp] theorem ok_e : PyData.strOk "e" = true := by decide +kernel
@[simp] theorem ok_w : PyData.strOk "w" = true := by decide +kernel
@[simp] theorem b64_2 : b64 2 = true := by decide
theorem yard_hour {y : Yd} {hour : Nat} {h : Bool × Int × Int} (e : y.sun[hour]? = some h) : atI (y.sun.map hourD) (hour : Int) = some (hourD h) := atI_at (by rw [List.getElem?_map, e]; rfl)
theorem small_b64 {i : Int} (h1 : -1000000 ≤ i) (h2 : i ≤ 1000000) : b64 i = true := by
  unfold b64
  rw [Bool.and_eq_true]
  exact ⟨decide_eq_true (by omega), decide_eq_true (by omega)⟩
theorem yardD_eq (y : Yd) : yardD y = .tuple [.int y.n, .tuple (y.walls.map wallD), .tuple (y.sun.map hourD)] := rfl
theorem is_shaded_ev {y : Yd} (ok : y.Ok) {seat : Int} {hour : Nat} (s0 : 0 ≤ seat) (s9 : seat ≤ 9) (hh : hour < y.sun.length) (μ : Mu) :
    g_is_shaded [.d (yardD y), .d (.int seat), .d (.int hour)] μ = some (.d (.bool (sh y seat hour)), μ) := by
  have eh := List.getElem?_eq_getElem hh
  generalize y.sun[hour] = h at eh
  have hs := ok.s h (List.mem_of_getElem? eh)
  have eat := yard_hour eh
  have hsh : sh y seat hour = y.walls.any (hit h seat) := by unfold sh; rw [eh]
  obtain ⟨sd, a, b⟩ := h
  obtain ⟨a0, a1, b0, b1⟩ : 0 ≤ a ∧ a ≤ 1000000 ∧ 1 ≤ b ∧ b ≤ 1000000 := hs
  have st : ∃ ρ', L_is_shaded_1 [some (.d (yardD y)), some (.d (.int seat)), some (.d (.int hour)), some (.d (.str (sideS sd))), some (.d (.tuple [.int a, .int b])), none, none, none] μ = some (if y.walls.any (hit (sd, a, b) seat) then .rt (.d (.bool true)) else .nx, ρ', μ) ∧ _ :=
    search_ev (ds := y.walls.map wallD) y.walls wallD (by rw [yardD_eq]; simp) rfl (hit (sd, a, b) seat) (.d (.bool true))
    (fun ρ => ∃ p q r, ρ = [some (.d (yardD y)), some (.d (.int seat)), some (.d (.int hour)), some (.d (.str (sideS sd))), some (.d (.tuple [.int a, .int b])), p, q, r]) ⟨_, _, _, rfl⟩ (by
      rintro w hw ρ ⟨p, q, r, rfl⟩
      obtain ⟨w1, w2, w3, w4⟩ := ok.w w hw
      refine ⟨_, rfl, ?_⟩
      have m1 : b64 (2 * w.2) = true := small_b64 (by omega) (by omega)
      have m2 : b64 b = true := small_b64 (by omega) (by omega)
      cases sd
      · by_cases c1 : 0 < 2 * (seat - w.1) + 1 <;> by_cases c2 : (2 * (seat - w.1) + 1) * b ≤ 2 * w.2 * a <;> simp [l_is_shaded_1, hit, m1, m2, c1, c2]
      · by_cases c1 : 1 < 2 * (w.1 - seat) <;> by_cases c2 : (2 * (w.1 - seat) - 1) * b ≤ 2 * w.2 * a <;> simp [l_is_shaded_1, hit, m1, m2, c1, c2])
  obtain ⟨ρ', e, _⟩ := st
  simp only [g_is_shaded, mkFn, b_is_shaded]
  simp [eat, hourD, yardD_eq] at e ⊢
  rw [e, hsh]
  cases y.walls.any (hit (sd, a, b) seat) <;> simp
/-! ### the shaded seats, rising -/
def seatsAt (y : Yd) (hour : Nat) : List Int := ((List.range y.n.toNat).map fun (i : Nat) => (i : Int)).filter fun s => sh y s hour
theorem yd_n {y : Yd} (ok : y.Ok) : b62 y.n = true := by
  have := ok.n1
  have := ok.n8
  exact b62_eq (by omega) (by omega)
theorem rng0 (n : Nat) : rngD 0 n = ((List.range n).map fun (i : Nat) => (i : Int)).map .int := by
  unfold rngD
  rw [List.map_map]
  congr 1
  funext i
  show PyData.int (0 + (i : Int)) = PyData.int i
  rw [Int.zero_add]
theorem mem_rng {n : Int} {s : Int} (h : s ∈ (List.range n.toNat).map fun (i : Nat) => (i : Int)) : 0 ≤ s ∧ s < n := by
  obtain ⟨i, hi, rfl⟩ := List.mem_map.mp h
  have := List.mem_range.mp hi
  omega
theorem shaded_ev {y : Yd} (ok : y.Ok) {hour : Nat} (hh : hour < y.sun.length) (μ : Mu) : g_shaded [.d (yardD y), .d (.int hour)] μ = some (.d (.list ((seatsAt y hour).map .int)), μ) := by
  have e : C_shaded_1 [some (.d (yardD y)), some (.d (.int hour)), none] μ = some (mkL false ((seatsAt y hour).map .int) μ) := by
    refine comp_ev (s := ⟨rngD 0 y.n.toNat, none⟩) ((List.range y.n.toNat).map fun (i : Nat) => (i : Int)) .int ?_ (rng0 _) (ok_none _) ?_ (fun s => sh y s hour) .int ?_
    · rw [yardD_eq]; simp [yd_n ok]
    · have := ok.n8
      simp; omega
    · intro s hs acc
      obtain ⟨s0, s1⟩ := mem_rng hs
      refine ⟨_, rfl, ?_⟩
      have := is_shaded_ev ok s0 (by have := ok.n8; omega) hh (μ ++ [.lst acc])
      simp [this]
  simp only [g_shaded, mkFn, b_shaded]
  simp at e ⊢
  rw [e]
  simp
end Sh
set_option Elab.async false
set_option linter.all false
set_option maxRecDepth 100000
set_option maxHeartbeats 1000000
namespace Sh
open PySem L2 PyProof.Rows
/-! ### hours as stretches -/
theorem runs_take (hs : List Int) (k : Nat) (h : Int) (e : hs[k]? = some h) : runsL (hs.take (k + 1)) = runStep (runsL (hs.take k)) h := by
  unfold runsL
  rw [List.take_succ, e]
  show ((hs.take k) ++ [h]).foldl runStep [] = _
  rw [List.foldl_append]; rfl
@[simp] theorem ixN_end (n : Nat) : ixN (n + 1) (-1) = some n := by
  unfold ixN
  rw [if_neg (by decide), if_pos (by omega)]
  congr 1
  omega
theorem prD_eq (p : Int × Int) : prD p = .tuple [.int p.1, .int p.2] := rfl
theorem runs_len (hs : List Int) : (runsL hs).length ≤ hs.length := by
  have key : ∀ (hs : List Int) (acc : List (Int × Int)), (hs.foldl runStep acc).length ≤ acc.length + hs.length := by
    intro hs
    induction hs with
    | nil => intro acc; exact Nat.le_refl _
    | cons h hs ih =>
      intro acc
      have := ih (runStep acc h)
      have h2 : (runStep acc h).length ≤ acc.length + 1 := by
        unfold runStep
        split
        · split
          · rw [List.length_append, List.length_dropLast, List.length_singleton]; omega
          · rw [List.length_append]; exact Nat.le_refl _
        · exact Nat.le_add_left _ _
      rw [List.foldl_cons, List.length_cons]
      omega
  simpa [runsL] using key hs []
theorem runs_ev {hs : List Int} (hl : hs.length ≤ 1000) (μ : Mu) : g_runs [.d (.list (hs.map .int))] μ = some (.d (.list ((runsL hs).map prD)), μ) := by
  obtain ⟨f, ρ', μ', e, h⟩ := for_ev (m := sIt (sVar 0)) (t := .nm 2) (body := l_runs_1) (ρ := [some (.d (.list (hs.map .int))), some (.m μ.length), none]) (μ := μ ++ [.lst []]) (μ1 := μ ++ [.lst []]) (s := ⟨hs.map .int, none⟩) hs .int (by simp) rfl
    (fun k ρ μ' => (∃ x, ρ = [some (.d (.list (hs.map .int))), some (.m μ.length), x]) ∧ μ' = μ ++ [.lst ((runsL (hs.take k)).map prD)]) (fun _ _ => False) ⟨⟨_, rfl⟩, rfl⟩ (by
      rintro k h ρ μ' hk ⟨⟨x, rfl⟩, rfl⟩
      have hkl : k < hs.length := (List.getElem?_eq_some_iff.mp hk).1
      have hrl := runs_len (hs.take k)
      rw [List.length_take] at hrl
      rw [runs_take hs k h hk]
      generalize runsL (hs.take k) = acc at hrl
      have st : l_runs_1 [some (.d (.list (hs.map .int))), some (.m μ.length), some (.d (.int h))] (μ ++ [.lst (acc.map prD)]) = some (.nx, [some (.d (.list (hs.map .int))), some (.m μ.length), some (.d (.int h))], μ ++ [.lst ((runStep acc h).map prD)]) := by
        rcases List.eq_nil_or_concat acc with rfl | ⟨init, ⟨b, e⟩, rfl⟩
        · simp [l_runs_1, runStep, prD_eq]
        · by_cases c : e = h - 1
          · subst c
            simp [l_runs_1, runStep, prD_eq]
          · have hlt : init.length + 1 < 4096 := by simp at hrl; omega
            simp [l_runs_1, runStep, prD_eq, c, hlt]
      exact ⟨_, .nx, _, _, rfl, st, by simp [chkB_none], by simp, by simp⟩)
  have hn : f = .nx := by cases f <;> simp at h <;> rfl
  subst hn
  obtain ⟨⟨x, rfl⟩, rfl⟩ := h
  simp only [g_runs, mkFn, b_runs]
  have e : L_runs_1 [some (.d (.list (hs.map .int))), some (.m μ.length), none] (μ ++ [.lst []]) = _ := e
  simp [e]
end Sh
set_option Elab.async false
set_option linter.all false
set_option maxRecDepth 100000
set_option maxHeartbeats 1000000
namespace Sh
open PySem L2 PyProof.Rows
/-! ### stretches -/
def hoursAt (y : Yd) (seat : Int) : List Int := (nums y.sun.length).filter fun h => sh y seat h.toNat
def triD (p : Int × Int × Int) : PyData := .tuple [.int p.1, .int p.2.1, .int p.2.2]
def spansAt (y : Yd) (seat : Int) : List (Int × Int × Int) := (runsL (hoursAt y seat)).map fun p => (seat, p.1, p.2)
def spansTo (y : Yd) (ss : List Int) : List (Int × Int × Int) := ss.flatMap (spansAt y)
def spansL (y : Yd) : List (Int × Int × Int) := spansTo y (nums y.n.toNat)
theorem nums_len (n : Nat) : (nums n).length = n := by unfold nums; rw [List.length_map, List.length_range]
theorem nums_get {n k : Nat} {x : Int} (h : (nums n)[k]? = some x) : x = k ∧ k < n := by
  unfold nums at h
  rw [List.getElem?_map] at h
  by_cases c : k < n
  · rw [List.getElem?_range c] at h
    simp at h
    exact ⟨h.symm, c⟩
  · rw [List.getElem?_eq_none (by rw [List.length_range]; omega)] at h
    cases h
theorem spansTo_take (y : Yd) (ss : List Int) (k : Nat) (s : Int) (e : ss[k]? = some s) : spansTo y (ss.take (k + 1)) = spansTo y (ss.take k) ++ spansAt y s := by
  unfold spansTo
  rw [List.take_succ, e]
  simp
theorem hoursAt_len (y : Yd) (seat : Int) : (hoursAt y seat).length ≤ y.sun.length := by
  have := List.length_filter_le (fun h : Int => sh y seat h.toNat) (nums y.sun.length)
  rw [nums_len] at this
  exact this
theorem spansAt_len (y : Yd) (seat : Int) : (spansAt y seat).length ≤ y.sun.length := by
  have h1 := hoursAt_len y seat
  have h2 := runs_len (hoursAt y seat)
  unfold spansAt
  rw [List.length_map]
  omega
theorem spansTo_len (y : Yd) : ∀ ss : List Int, (spansTo y ss).length ≤ ss.length * y.sun.length
  | [] => Nat.zero_le _
  | s :: ss => by
    have h1 := spansAt_len y s
    have h2 := spansTo_len y ss
    unfold spansTo at h2 ⊢
    rw [List.flatMap_cons, List.length_append, List.length_cons, Nat.succ_mul]
    omega
theorem b62_nat {n : Nat} (h : n ≤ 1000000) : b62 (n : Int) = true := b62_eq (Int.le_trans (by decide) (Int.natCast_nonneg n)) (Int.lt_of_le_of_lt (Int.ofNat_le.mpr h) (by decide))
theorem rng1_ev {m : Sa} {ρ : Ro} {μ : Mu} {n : Nat} (e : m ρ μ = some ([.d (.int n)], μ)) (h : n ≤ 1000000) : sRng1 m ρ μ = some (⟨rngD 0 n, none⟩, μ) := by
  unfold sRng1
  rw [e]
  simp only [Option.bind_some, b62_nat h, if_true, Int.toNat_natCast]
theorem sun_len (y : Yd) (μ : Mu) (r : Ro) : sCons (sA fLen (sCons (s2 fIx (sVar 0) (sC (.int 2))) sNil)) sNil (some (.d (yardD y)) :: r) μ = some ([.d (.int y.sun.length)], μ) := by
  rw [yardD_eq]; simp
theorem hours_ev {y : Yd} (ok : y.Ok) {seat : Int} (s0 : 0 ≤ seat) (s9 : seat ≤ 9) (μ : Mu) (a b c : Option Rv) (d : Option Rv) : C_stretches_2 [some (.d (yardD y)), a, some (.d (.int seat)), b, none, c, d] μ = some (mkL false ((hoursAt y seat).map .int) μ) := by
  refine comp_ev (s := ⟨rngD 0 y.sun.length, none⟩) (nums y.sun.length) .int ?_ (rng0 _) (ok_none _) ?_ (fun h => sh y seat h.toNat) .int ?_
  · exact rng1_ev (sun_len y μ _) (by have := ok.sl; omega)
  · have := ok.sl
    rw [nums_len]; omega
  · intro h hs acc
    obtain ⟨j, hj, rfl⟩ := List.mem_map.mp hs
    have := is_shaded_ev ok s0 s9 (List.mem_range.mp hj) (μ ++ [.lst acc])
    refine ⟨_, rfl, ?_⟩
    simp [this]
theorem runsC_ev {seat : Int} {hs : List Int} (hl : hs.length ≤ 1000) (μ : Mu) (a b : Option Rv) (e : Option Rv) : C_stretches_1 [b, a, some (.d (.int seat)), some (.d (.list (hs.map .int))), e, none, none] μ = some (mkL false (((runsL hs).map fun p => (seat, p.1, p.2)).map triD) μ) := by
  have h := runs_ev hl μ
  have hr := runs_len hs
  have e : C_stretches_1 [b, a, some (.d (.int seat)), some (.d (.list (hs.map .int))), e, none, none] μ = some (mkL false (((runsL hs).filter fun _ => true).map fun p => triD (seat, p.1, p.2)) μ) := by
    refine comp_ev (s := ⟨(runsL hs).map prD, none⟩) (runsL hs) prD ?_ rfl (ok_none _) ?_ (fun h => true) _ ?_
    · simp [h]
    · omega
    · intro p hp acc
      refine ⟨[b, a, some (.d (.int seat)), some (.d (.list (hs.map .int))), e, some (.d (.int p.1)), some (.d (.int p.2))], rfl, rfl, fun _ => ?_⟩
      simp [triD]
  rw [e, List.filter_eq_self.mpr (fun _ _ => rfl), List.map_map]
  rfl
theorem stretches_ev {y : Yd} (ok : y.Ok) (μ : Mu) : g_stretches [.d (yardD y)] μ = some (.d (.list ((spansL y).map triD)), μ) := by
  obtain ⟨f, ρ', μ', e, h⟩ := for_ev (m := sRng1 (sCons (s2 fIx (sVar 0) (sC (.int 0))) sNil)) (t := .nm 2) (body := l_stretches_1) (ρ := [some (.d (yardD y)), some (.m μ.length), none, none, none, none, none]) (μ := μ ++ [.lst []]) (μ1 := μ ++ [.lst []]) (s := ⟨rngD 0 y.n.toNat, none⟩) (nums y.n.toNat) .int
    (by rw [yardD_eq]; simp [yd_n ok]) (rng0 _)
    (fun k ρ μ' => (∃ a b, ρ = [some (.d (yardD y)), some (.m μ.length), a, b, none, none, none]) ∧ μ' = μ ++ [.lst ((spansTo y ((nums y.n.toNat).take k)).map triD)]) (fun _ _ => False) ⟨⟨_, _, rfl⟩, rfl⟩ (by
      rintro k s ρ μ' hk ⟨⟨a, b, rfl⟩, rfl⟩
      obtain ⟨rfl, hk2⟩ := nums_get hk
      have hn := ok.n8
      have hsl := ok.sl
      have h1 := hoursAt_len y k
      rw [spansTo_take y _ k k hk]
      have hl := spansTo_len y ((nums y.n.toNat).take k)
      rw [List.length_take] at hl
      have hl3 := spansAt_len y k
      have hl2 : min k (nums y.n.toNat).length * y.sun.length ≤ 9 * 16 := Nat.mul_le_mul (by omega) hsl
      generalize spansTo y ((nums y.n.toNat).take k) = acc at hl
      have hb : acc.length + (spansAt y k).length ≤ 1000 := by omega
      have st : l_stretches_1 [some (.d (yardD y)), some (.m μ.length), some (.d (.int k)), b, none, none, none] (μ ++ [.lst (acc.map triD)]) = some (.nx, [some (.d (yardD y)), some (.m μ.length), some (.d (.int k)), some (.d (.list ((hoursAt y k).map .int))), none, none, none], μ ++ [.lst ((acc ++ spansAt y k).map triD)]) := by
        have e1 := hours_ev ok (seat := k) (by omega) (by omega) (μ ++ [.lst (acc.map triD)]) (some (.m μ.length)) b none none
        have e2 := runsC_ev (seat := k) (hs := hoursAt y k) (by omega) (μ ++ [.lst (acc.map triD)]) (some (.m μ.length)) (some (.d (yardD y))) none
        simp [l_stretches_1]
        rw [e1]
        simp
        rw [e2]
        simp [spansAt] at hb ⊢
        omega
      exact ⟨_, .nx, _, _, rfl, st, by simp [chkB_none], by simp, by simp⟩)
  have hn : f = .nx := by cases f <;> simp at h <;> rfl
  subst hn
  obtain ⟨⟨a, b, rfl⟩, rfl⟩ := h
  simp only [g_stretches, mkFn, b_stretches]
  have e : L_stretches_1 [some (.d (yardD y)), some (.m μ.length), none, none, none, none, none] (μ ++ [.lst []]) = _ := e
  simp [e]
  simp [spansL]
end Sh
set_option Elab.async false
set_option linter.all false
set_option maxRecDepth 100000
set_option maxHeartbeats 1000000
namespace Sh
open PySem L2 PyProof.Rows
/-! ### lowest terms -/
theorem gcd_loop {m : Nat} {test : Sb} {body : Ss} {t b : Rv} {μ : Mu} (hm : m = μ.length)
    (ht : ∀ x y : Nat, test [some t, some b, some (.d (.int x)), some (.d (.int y))] μ = some (decide (y ≠ 0), μ))
    (hb : ∀ x y : Nat, y ≠ 0 → body [some t, some b, some (.d (.int x)), some (.d (.int y))] μ = some (.nx, [some t, some b, some (.d (.int y)), some (.d (.int ((x % y : Nat) : Int)))], μ))
    (hc : ∀ x y : Int, cutR m [some t, some b, some (.d (.int x)), some (.d (.int y))] = [some t, some b, some (.d (.int x)), some (.d (.int y))]) :
    ∀ (f y x : Nat), y < f → wloop m test body f [some t, some b, some (.d (.int x)), some (.d (.int y))] μ = some (.nx, [some t, some b, some (.d (.int (Nat.gcd x y))), some (.d (.int 0))], μ) := by
  intro f
  induction f with
  | zero => intro y x h; omega
  | succ f ih =>
    intro y x h
    unfold wloop
    rw [ht]
    simp only [Option.bind_some]
    by_cases c : y = 0
    · subst c
      simp
    · rw [if_pos (by simpa using c), hb x y c]
      simp only [Option.bind_some]
      rw [hc, hm, take_self, ← hm, ih (x % y) y (by have := Nat.mod_lt x (Nat.pos_of_ne_zero c); omega)]
      rw [Nat.gcd_comm y, ← Nat.gcd_rec, Nat.gcd_comm]
theorem ne0_ev (r : List Rv) (a b c : Option Rv) (μ : Mu) (y : Nat) : sTst (s2 (fEq true) (sVar 3) (sC (.int 0))) [a, b, c, some (.d (.int y))] μ = some (decide (y ≠ 0), μ) := by
  rcases Nat.eq_zero_or_pos y with rfl | h
  · simp
  · have : y ≠ 0 := by omega
    simp [h, this]
/-! ### step by step -/
theorem seq_nx {a b : Ss} {ρ ρ' : Ro} {μ μ' : Mu} (e : a ρ μ = some (.nx, ρ', μ')) : sSeq a b ρ μ = b ρ' μ' := by
  unfold sSeq
  rw [e]; rfl
theorem seq_rt {a b : Ss} {ρ ρ' : Ro} {μ μ' : Mu} {r : Rv} (e : a ρ μ = some (.rt r, ρ', μ')) : sSeq a b ρ μ = some (.rt r, ρ', μ') := by
  unfold sSeq
  rw [e]; rfl
theorem fn_rt {n N : Nat} {b : Ss} {rs : List Rv} {μ : Mu} {r : Rv} {ρ ρ' : Ro} {μ' : Mu} (e : b ρ μ = some (.rt r, ρ', μ')) (h : rs.length = n) (hr : rs.map some ++ List.replicate (N - rs.length) none = ρ) : mkFn n N b rs μ = retv μ.length μ' r := by
  unfold mkFn
  rw [if_pos h, hr, e]; rfl
theorem retv_d (μ : Mu) (d : PyData) : retv μ.length μ (.d d) = some (.d d, μ) := by
  simp
theorem fn_d {n N : Nat} {b : Ss} {rs : List Rv} {μ : Mu} {d : PyData} {ρ ρ' : Ro} (e : b ρ μ = some (.rt (.d d), ρ', μ)) (h : rs.length = n) (hr : rs.map some ++ List.replicate (N - rs.length) none = ρ) : mkFn n N b rs μ = some (.d d, μ) := by
  rw [fn_rt e h hr, retv_d]
theorem fn_dx {n N : Nat} {b : Ss} {rs : List Rv} {μ : Mu} {d : PyData} {ρ : Ro} (e : ∃ ρ', b ρ μ = some (.rt (.d d), ρ', μ)) (h : rs.length = n) (hr : rs.map some ++ List.replicate (N - rs.length) none = ρ) : mkFn n N b rs μ = some (.d d, μ) := by
  obtain ⟨ρ', e⟩ := e
  exact fn_d e h hr
theorem fn_dm {n N : Nat} {b : Ss} {rs : List Rv} {μ : Mu} {d : PyData} {ρ : Ro} (e : ∃ ρ' μ', b ρ μ = some (.rt (.d d), ρ', μ') ∧ μ'.take μ.length = μ) (h : rs.length = n) (hr : rs.map some ++ List.replicate (N - rs.length) none = ρ) : mkFn n N b rs μ = some (.d d, μ) := by
  obtain ⟨ρ', μ', e, e2⟩ := e
  rw [fn_rt e h hr]
  simp [e2]
/-! ### slices -/
theorem cut_drop {α : Type} (xs : List α) (k : Nat) : cutG xs (some (k : Int)) none = xs.drop k := by
  unfold cutG
  rw [HT.sIx_nat, HT.sIx_none]
  rcases Nat.le_total k xs.length with h | h
  · rw [Nat.min_eq_left h, List.take_of_length_le (by rw [List.length_drop]; exact Nat.le_refl _)]
  · rw [Nat.min_eq_right h, List.drop_length, List.drop_eq_nil_of_le h, List.take_nil]
theorem cut_take {α : Type} (xs : List α) (k : Nat) : cutG xs none (some (k : Int)) = xs.take k := by
  unfold cutG
  rw [HT.sIx_nat, HT.sIx_none, List.drop_zero, Nat.sub_zero]
  rcases Nat.le_total k xs.length with h | h
  · rw [Nat.min_eq_left h]
  · rw [Nat.min_eq_right h, List.take_length, List.take_of_length_le h]
@[simp] theorem cut_drop1 {α : Type} (xs : List α) : cutG xs (some 1) none = xs.drop 1 := cut_drop xs 1
@[simp] theorem cut_take1 {α : Type} (xs : List α) : cutG xs none (some 1) = xs.take 1 := cut_take xs 1
@[simp] theorem cut_take2 {α : Type} (xs : List α) : cutG xs none (some 2) = xs.take 2 := cut_take xs 2
@[simp] theorem cut_take8 {α : Type} (xs : List α) : cutG xs none (some 8) = xs.take 8 := cut_take xs 8
@[simp] theorem cut_take9 {α : Type} (xs : List α) : cutG xs none (some 9) = xs.take 9 := cut_take xs 9
/-! ### the bag -/
abbrev bg (p : Int × Int) : Mo := .lst [.int p.1, .int p.2]
@[simp] theorem b64_48271 : b64 48271 = true := by decide
@[simp] theorem ixN_20 : ixN 2 0 = some 0 := by decide
@[simp] theorem ixN_21 : ixN 2 1 = some 1 := by decide
@[simp] theorem b64_16807 : b64 16807 = true := by decide
@[simp] theorem b64_40009 : b64 40009 = true := by decide
@[simp] theorem b64_7919 : b64 7919 = true := by decide
theorem take_ev (p : Int × Int) (c : Int) (c1 : 1 ≤ c) (c2 : c < 1073741824) (μ : Mu) : ∃ (r : Int) (q : Int × Int), 0 ≤ r ∧ r < c ∧ g_law_take [.m 0, .d (.int c)] (bg p :: μ) = some (.d (.int r), bg q :: μ) := by
  obtain ⟨a, b⟩ := p
  have c0 : 0 < c := by omega
  by_cases h : 0 < a
  · refine ⟨a % c, (a / c, b), Int.emod_nonneg _ (by omega), Int.emod_lt_of_pos _ (by omega), ?_⟩
    simp [g_law_take, mkFn, b_law_take, h, c0, c2]
  · have hb : b64 (b * 48271 % 2147483647 % 32749 + 17) = true := small_b64 (by omega) (by omega)
    refine ⟨b * 48271 % 2147483647 / 13 * (b * 48271 % 2147483647 % 32749 + 17) % 2147483629 / 32 % c, (a, b * 48271 % 2147483647), Int.emod_nonneg _ (by omega), Int.emod_lt_of_pos _ (by omega), ?_⟩
    simp [g_law_take, mkFn, b_law_take, h, c0, hb]
def seedOf (cell k : Int) : Int := 1 + (cell % 2147483629 * 16807 + 40009 * k * k + 7919 * k + 1009) % 2147483645
theorem bag_i (ns : List Int) (k : Int) (hb : b64 k = true) (hk : k < (ns.length : Int) → ∃ n, atI ns k = some n) : ∃ q : Int × Int, g_law_bag [.s ns, .d (.int k)] [] = some (.m 0, [bg q]) := by
  by_cases h : k < (ns.length : Int)
  · obtain ⟨n, ha⟩ := hk h
    by_cases h2 : n % 1000000000000000000000000000000000000000000000000000000000000 < 1000000000000000000
    · refine ⟨(0, seedOf (n % 1000000000000000000000000000000000000000000000000000000000000) k), ?_⟩
      simp [g_law_bag, mkFn, b_law_bag, h, hb, ha, h2, seedOf]
    · refine ⟨(n % 1000000000000000000000000000000000000000000000000000000000000, seedOf (n % 1000000000000000000000000000000000000000000000000000000000000) k), ?_⟩
      simp [g_law_bag, mkFn, b_law_bag, h, hb, ha, h2, seedOf]
  · refine ⟨(0, seedOf 0 k), ?_⟩
    simp [g_law_bag, mkFn, b_law_bag, h, hb, seedOf]
theorem bag_ev (ns : List Int) (k : Nat) (hk : k ≤ 100) : ∃ q : Int × Int, g_law_bag [.s ns, .d (.int k)] [] = some (.m 0, [bg q]) := by
  refine bag_i ns k (small_b64 (by omega) (by omega)) fun h => ?_
  have hk2 : k < ns.length := by omega
  exact ⟨ns[k], atI_at (List.getElem?_eq_getElem hk2)⟩
end Sh
set_option Elab.async false
set_option linter.all false
set_option maxRecDepth 100000
set_option maxHeartbeats 1000000
namespace Sh
open PySem L2 PyProof.Rows
/-! ### how many can sit -/
def lens (y : Yd) : List Int := (nums y.sun.length).map fun h => ((seatsAt y h.toNat).length : Int)
theorem lens_comp {f : Fn} {y : Yd} (hl : y.sun.length ≤ 1000) (hf : ∀ (j : Nat) (μ : Mu), j < y.sun.length → f [.d (yardD y), .d (.int j)] μ = some (.d (.list ((seatsAt y j).map .int)), μ)) (μ : Mu) :
    sComp false (sRng1 (sCons (sA fLen (sCons (s2 fIx (sVar 0) (sC (.int 2))) sNil)) sNil)) (.nm 1) sYes (sA fLen (sCons (sCall 2 f (sCons (sVar 0) (sCons (sVar 1) sNil))) sNil)) [1] [some (.d (yardD y)), none] μ = some (.d (.list ((lens y).map .int)), μ) := by
  have e : _ = some (mkL false (((nums y.sun.length).filter fun _ => true).map fun h => .int ((seatsAt y h.toNat).length : Int)) μ) := comp_ev (fl := false) (m := sRng1 (sCons (sA fLen (sCons (s2 fIx (sVar 0) (sC (.int 2))) sNil)) sNil)) (t := .nm 1) (test := sYes) (elt := sA fLen (sCons (sCall 2 f (sCons (sVar 0) (sCons (sVar 1) sNil))) sNil)) (vs := [1]) (ρ := [some (.d (yardD y)), none]) (μ := μ) (s := ⟨rngD 0 y.sun.length, none⟩) (nums y.sun.length) .int
    (rng1_ev (sun_len y μ _) (by omega)) (rng0 _) (ok_none _) (by rw [nums_len]; omega) (fun _ => true) _ (fun h hh acc => by
      obtain ⟨j, hj, rfl⟩ := List.mem_map.mp hh
      have := hf j (μ ++ [.lst acc]) (List.mem_range.mp hj)
      refine ⟨[some (.d (yardD y)), some (.d (.int j))], rfl, rfl, fun _ => ?_⟩
      simp [this])
  rw [e, List.filter_eq_self.mpr (fun _ _ => rfl)]
  unfold lens
  rw [List.map_map]
  rfl
theorem ints_map : ∀ xs : List Int, intsOf (xs.map PyData.int) = some xs
  | [] => rfl
  | x :: xs => by
    show (intsOf (xs.map PyData.int)).map (x :: ·) = _
    rw [ints_map xs]; rfl
def most (y : Yd) : Int := (minI (lens y)).getD 0
theorem most_min {y : Yd} (h : 1 ≤ y.sun.length) : minI (lens y) = some (most y) := by
  unfold most
  cases e : lens y with
  | nil =>
    have := congrArg List.length e
    unfold lens at this
    rw [List.length_map, nums_len, List.length_nil] at this
    omega
  | cons a r => rfl
theorem most_ev {y : Yd} (ok : y.Ok) (h1 : 1 ≤ y.sun.length) (μ : Mu) : g_most_sitters [.d (yardD y)] μ = some (.d (.int (most y)), μ) := by
  have e : C_most_sitters_1 [some (.d (yardD y)), none] μ = _ := lens_comp (f := g_shaded) (by have := ok.sl; omega) (fun j μ hj => shaded_ev ok hj μ) μ
  have hm := most_min h1
  generalize lens y = ls at e hm
  simp only [g_most_sitters, mkFn, b_most_sitters]
  simp [e, ints_map, hm]
end Sh
set_option Elab.async false
set_option linter.all false
set_option maxRecDepth 100000
set_option maxHeartbeats 1000000
namespace Sh
open PySem L2 PyProof.Rows
/-! ### goings -/
def rowD (r : List Int) : PyData := .tuple (r.map .int)
theorem any_ints (x : Int) : ∀ r : List Int, ((r.map PyData.int).any fun z => PyData.eqv z (.int x)) = r.contains x
  | [] => rfl
  | y :: r => by
    rw [List.map_cons, List.any_cons, any_ints x r, eqv_int, List.contains_cons]
    congr 1
    exact Bool.beq_comm
theorem flat_ints (r : List Int) : ((r.map PyData.int).all flatD) = true := by
  rw [List.all_map, List.all_eq_true]
  intro x _; rfl
theorem goings_ev (a b : List Int) (hb : b.length ≤ 1000) (μ : Mu) : g_goings [.d (rowD a), .d (rowD b)] μ = some (.d (.int (gone a b : Int)), μ) := by
  have e : C_goings_1 [some (.d (rowD a)), some (.d (rowD b)), none] μ = some (mkL false ((b.filter fun x => !a.contains x).map .int) μ) := by
    refine comp_ev (s := ⟨b.map .int, none⟩) b .int (by simp [rowD]) rfl (ok_none _) (by omega) (fun x => !a.contains x) .int (fun x hx acc => ?_)
    refine ⟨[some (.d (rowD a)), some (.d (rowD b)), some (.d (.int x))], rfl, ?_, fun _ => by simp⟩
    have h1 := any_ints x a
    have h2 := flat_ints a
    simp only [sTst, s2, sVar, rowD, fIn, rd, itemsD, flatD, h1, h2]
    rw [List.any_map] at h1
    simp
    exact h1.trans (by simp)
  have hl : gone a b = (b.filter fun x => !a.contains x).length := by unfold gone; rw [List.countP_eq_length_filter]
  simp only [g_goings, mkFn, b_goings]
  rw [hl]
  simp [e]
end Sh
set_option Elab.async false
set_option linter.all false
set_option maxRecDepth 100000
set_option maxHeartbeats 1000000
namespace Sh
open PySem L2 PyProof.Rows
/-! ### lots of so many -/
theorem lotsStep_len (n : Nat) (acc : List (List Int)) (x : Int) : (lotsStep n acc x).length ≤ 2 * acc.length := by
  unfold lotsStep
  rw [List.length_append, List.length_map]
  have := List.length_filter_le (fun l : List Int => decide (l.length < n)) acc
  omega
theorem lots_len (n : Nat) : ∀ (xs : List Int) (acc : List (List Int)), (xs.foldl (lotsStep n) acc).length ≤ 2 ^ xs.length * acc.length
  | [], acc => by simp
  | x :: xs, acc => by
    rw [List.foldl_cons, List.length_cons, Nat.pow_succ]
    have h1 := lots_len n xs (lotsStep n acc x)
    have h2 := Nat.mul_le_mul_left (2 ^ xs.length) (lotsStep_len n acc x)
    rw [Nat.mul_assoc]
    omega
theorem lotsTo_take (n : Nat) (xs : List Int) (k : Nat) (x : Int) (e : xs[k]? = some x) : lotsAll n (xs.take (k + 1)) = lotsStep n (lotsAll n (xs.take k)) x := by
  unfold lotsAll
  rw [List.take_succ, e]
  show ((xs.take k) ++ [x]).foldl (lotsStep n) [[]] = _
  rw [List.foldl_append]; rfl
theorem rows_src (ls : List (List Int)) : (Src.mk (ls.map rowD) none).items = ls.map rowD := rfl
theorem grow_ev (n : Nat) (x : Int) (ls : List (List Int)) (hl : ls.length ≤ 1000) (hn : ∀ l ∈ ls, l.length ≤ 100) (μ : Mu) (a : Option Rv) (e : Option Rv) :
    C_lots_of_2 [a, some (.d (.int n)), some (.m μ.length), some (.d (.int x)), e] (μ ++ [.lst (ls.map rowD)]) = some (.d (.list (((ls.filter fun l => decide (l.length < n)).map fun l => l ++ [x]).map rowD)), μ ++ [.lst (ls.map rowD)]) := by
  have h : C_lots_of_2 [a, some (.d (.int n)), some (.m μ.length), some (.d (.int x)), e] (μ ++ [.lst (ls.map rowD)]) = some (mkL false ((ls.filter fun l => decide (l.length < n)).map fun l => rowD (l ++ [x])) (μ ++ [.lst (ls.map rowD)])) := by
    refine comp_ev (s := ⟨ls.map rowD, some (μ.length, ls.map rowD)⟩) ls rowD (by simp) rfl (fun k ds q => by cases q; simp) (by omega) (fun l => decide (l.length < n)) _ (fun l hl2 acc => ?_)
    have h1 := hn l hl2
    refine ⟨[a, some (.d (.int n)), some (.m μ.length), some (.d (.int x)), some (.d (rowD l))], rfl, ?_, fun _ => ?_⟩
    · simp [rowD]
    · simp [rowD]
      omega
  rw [h, List.map_map]
  rfl
theorem lots_sub {n : Nat} {xs : List Int} : ∀ l ∈ lotsAll n xs, l.length ≤ xs.length := by
  intro l h
  obtain ⟨a, s, h1, h2, h3, _⟩ := (lotsAll_mem n xs [[]] l).mp h
  simp at h1
  subst h1
  rw [h3]
  simpa using h2.length_le
theorem lots_of_ev (n : Nat) (xs : List Int) (hx : xs.length ≤ 8) (μ : Mu) : g_lots_of [.d (.list (xs.map .int)), .d (.int n)] μ = some (.d (.list ((lotsL n xs).map rowD)), μ) := by
  obtain ⟨f, ρ', μ', e, h⟩ := for_ev (m := sIt (sVar 0)) (t := .nm 3) (body := l_lots_of_1) (ρ := [some (.d (.list (xs.map .int))), some (.d (.int n)), some (.m μ.length), none, none]) (μ := μ ++ [.lst [.tuple []]]) (μ1 := μ ++ [.lst [.tuple []]]) (s := ⟨xs.map .int, none⟩) xs .int (by simp) rfl
    (fun k ρ μ' => (∃ a b, ρ = [some (.d (.list (xs.map .int))), some (.d (.int n)), some (.m μ.length), a, b]) ∧ μ' = μ ++ [.lst ((lotsAll n (xs.take k)).map rowD)]) (fun _ _ => False) ⟨⟨_, _, rfl⟩, rfl⟩ (by
      rintro k x ρ μ' hk ⟨⟨a, b, rfl⟩, rfl⟩
      have hl := lots_len n (xs.take k) [[]]
      have hs := lots_sub (n := n) (xs := xs.take k)
      have hp : 2 ^ (xs.take k).length ≤ 2 ^ 8 := Nat.pow_le_pow_right (by decide) (by rw [List.length_take]; omega)
      rw [lotsTo_take n xs k x hk]
      have hl : (lotsAll n (xs.take k)).length ≤ 256 := by
        have e1 : (2 ^ (xs.take k).length) * [([] : List Int)].length = 2 ^ (xs.take k).length := Nat.mul_one _
        rw [e1] at hl
        exact Nat.le_trans hl hp
      have hs2 : ∀ l ∈ lotsAll n (xs.take k), l.length ≤ 100 := fun l h => by have := hs l h; rw [List.length_take] at this; omega
      generalize lotsAll n (xs.take k) = ls at hl hs2
      have g := grow_ev n x ls (by omega) hs2 μ (some (.d (.list (xs.map .int)))) b
      have hf := List.length_filter_le (fun l : List Int => decide (l.length < n)) ls
      have st : l_lots_of_1 [some (.d (.list (xs.map .int))), some (.d (.int n)), some (.m μ.length), some (.d (.int x)), b] (μ ++ [.lst (ls.map rowD)]) = some (.nx, [some (.d (.list (xs.map .int))), some (.d (.int n)), some (.m μ.length), some (.d (.int x)), b], μ ++ [.lst ((lotsStep n ls x).map rowD)]) := by
        simp [l_lots_of_1]
        rw [g]
        simp [lotsStep]
        omega
      exact ⟨_, .nx, _, _, rfl, st, by simp [chkB_none], by simp, by simp⟩)
  have hn : f = .nx := by cases f <;> simp at h <;> rfl
  subst hn
  obtain ⟨⟨a, b, rfl⟩, rfl⟩ := h
  rw [List.take_length] at e
  have hl2 : (lotsAll n xs).length ≤ 256 := by
    have := lots_len n xs [[]]
    have e1 : (2 ^ xs.length) * [([] : List Int)].length = 2 ^ xs.length := Nat.mul_one _
    rw [e1] at this
    exact Nat.le_trans this (Nat.pow_le_pow_right (by decide) hx)
  have ec : C_lots_of_1 [some (.d (.list (xs.map .int))), some (.d (.int n)), some (.m μ.length), a, b] (μ ++ [.lst ((lotsAll n xs).map rowD)]) = some (mkL false (((lotsAll n xs).filter fun l => decide (l.length = n)).map rowD) (μ ++ [.lst ((lotsAll n xs).map rowD)])) := by
    refine comp_ev (s := ⟨(lotsAll n xs).map rowD, some (μ.length, (lotsAll n xs).map rowD)⟩) (lotsAll n xs) rowD (by simp) rfl (fun k ds q => by cases q; simp) (by omega) (fun l => decide (l.length = n)) rowD (fun l hl acc => ?_)
    refine ⟨[some (.d (.list (xs.map .int))), some (.d (.int n)), some (.m μ.length), a, some (.d (rowD l))], rfl, ?_, fun _ => by simp⟩
    have : (((l.length : Nat) : Int) == (n : Int)) = decide (l.length = n) := by rw [Bool.eq_iff_iff, beq_iff_eq, decide_eq_true_eq]; omega
    simp [rowD, this]
  have e : L_lots_of_1 [some (.d (.list (xs.map .int))), some (.d (.int n)), some (.m μ.length), none, none] (μ ++ [.lst [.tuple []]]) = _ := e
  simp only [g_lots_of, mkFn, b_lots_of]
  simp [e, ec, lotsL]
end Sh
set_option Elab.async false
set_option linter.all false
set_option maxRecDepth 100000
set_option maxHeartbeats 1000000
namespace Sh
open PySem L2 PyProof.Rows
/-! ### the table's rows -/
def rowE (ls : List (List Int)) (val : List Int → Pt) : List (PyData × PyData) := ls.map fun l => (rowD l, ptD (val l))
theorem rowD_eqv (a b : List Int) : PyData.eqv (rowD a) (.tuple (b.map .int)) = decide (a = b) := eqvAll_ints a b
theorem rowE_get (val : List Int → Pt) (k : List Int) : ∀ ls : List (List Int), k ∈ ls → valD (rowE ls val) k = some (ptD (val k))
  | [], h => by cases h
  | l :: ls, h => by
    show ((((rowD l, ptD (val l)) :: rowE ls val).find? fun p => PyData.eqv p.1 (.tuple (k.map .int))).map (·.2)) = _
    rw [List.find?_cons, rowD_eqv]
    by_cases c : l = k
    · subst c; simp
    · rw [decide_eq_false c]
      exact rowE_get val k ls ((List.mem_cons.mp h).resolve_left fun q => c q.symm)
theorem rowE_put (val : List Int → Pt) (k : List Int) (ls : List (List Int)) (h : k ∉ ls) : putD (rowE ls val) k (ptD (val k)) = rowE (ls ++ [k]) val := by
  unfold putD
  have : ((rowE ls val).any fun p => PyData.eqv p.1 (.tuple (k.map .int))) = false := by
    rw [List.any_eq_false]
    intro p hp
    obtain ⟨l, hl, rfl⟩ := List.mem_map.mp hp
    rw [rowD_eqv]
    have : l ≠ k := fun q => h (q ▸ hl)
    simp [this]
  rw [if_neg (by rw [this]; exact Bool.false_ne_true)]
  unfold rowE
  rw [List.map_append]; rfl
theorem minOf_fst : ∀ (ps : List Pt) (p : Pt), (PySem.W.minOf p ps ∈ p :: ps) ∧ ∀ q ∈ p :: ps, (PySem.W.minOf p ps).1 ≤ q.1
  | [], p => ⟨by simp [PySem.W.minOf], fun q hq => by rw [List.mem_singleton.mp hq]; exact Int.le_refl _⟩
  | x :: ps, p => by
    have e : PySem.W.minOf p (x :: ps) = PySem.W.minOf (if PySem.W.DatumOrd.lt x p = true then x else p) ps := rfl
    have lt_def : PySem.W.DatumOrd.lt x p = if x.1 = p.1 then PySem.W.DatumOrd.lt x.2 p.2 else decide (x.1 < p.1) := rfl
    obtain ⟨h1, h2⟩ := minOf_fst ps (if PySem.W.DatumOrd.lt x p = true then x else p)
    rw [e]
    have h0 := h2 _ List.mem_cons_self
    have hx : (if PySem.W.DatumOrd.lt x p = true then x else p).1 ≤ x.1 ∧ (if PySem.W.DatumOrd.lt x p = true then x else p).1 ≤ p.1 := by
      rw [lt_def]
      by_cases c : x.1 = p.1
      · rw [if_pos c]; split <;> omega
      · rw [if_neg c]; split <;> rename_i d <;> simp at d <;> omega
    refine ⟨?_, fun q hq => ?_⟩
    · rcases List.mem_cons.mp h1 with h | h
      · rw [h]; split
        · exact List.mem_cons_of_mem _ List.mem_cons_self
        · exact List.mem_cons_self
      · exact List.mem_cons_of_mem _ (List.mem_cons_of_mem _ h)
    · rcases List.mem_cons.mp hq with rfl | hq
      · omega
      · rcases List.mem_cons.mp hq with rfl | hq
        · omega
        · exact h2 q (List.mem_cons_of_mem _ hq)
end Sh
set_option Elab.async false
set_option linter.all false
set_option maxRecDepth 100000
set_option maxHeartbeats 1000000
namespace Sh
open PySem L2 PyProof.Rows
/-! ### min and max of pairs, dict comprehensions: as evaluations -/
theorem filter_yes {α : Type} (xs : List α) : (xs.filter fun _ => true) = xs := List.filter_eq_self.mpr fun _ _ => rfl
theorem filter_no {α : Type} (xs : List α) : (xs.filter fun _ => false) = [] := List.filter_eq_nil_iff.mpr fun _ _ => by simp
def leastP : List Pt → Pt
  | [] => (0, ⟨[]⟩)
  | p :: ps => PySem.W.minOf p ps
def mostP : List Pt → Pt
  | [] => (0, ⟨[]⟩)
  | p :: ps => PySem.W.maxOf p ps
theorem minP_ev (μ : Mu) : ∀ ps : List Pt, ps ≠ [] → fMinP μ [.d (.list (ps.map ptD))] = some (.d (ptD (leastP ps)), μ)
  | [], h => absurd rfl h
  | (n, ⟨k⟩) :: ps, _ => by
    have h1 : fMin μ [.d (.list (((n, ⟨k⟩) :: ps : List Pt).map ptD))] = none := rfl
    have h2 : ptsOf (((n, ⟨k⟩) :: ps : List Pt).map ptD) = some ((n, ⟨k⟩) :: ps) := ptsOf_map _
    show (match fMin μ [.d (.list (((n, ⟨k⟩) :: ps : List Pt).map ptD))] with
      | some r => some r
      | none => (listOf μ [.d (.list (((n, ⟨k⟩) :: ps : List Pt).map ptD))]).bind fun ds => (ptsOf ds).bind fun ps => (minPt ps).map fun p => (.d (ptD p), μ)) = _
    rw [h1]
    show ((ptsOf (((n, ⟨k⟩) :: ps : List Pt).map ptD)).bind fun ps => (minPt ps).map fun p => (Rv.d (ptD p), μ)) = _
    rw [h2]; rfl
theorem maxP_ev (μ : Mu) : ∀ ps : List Pt, ps ≠ [] → fMaxP μ [.d (.list (ps.map ptD))] = some (.d (ptD (mostP ps)), μ)
  | [], h => absurd rfl h
  | (n, ⟨k⟩) :: ps, _ => by
    have h1 : fMax μ [.d (.list (((n, ⟨k⟩) :: ps : List Pt).map ptD))] = none := rfl
    have h2 : ptsOf (((n, ⟨k⟩) :: ps : List Pt).map ptD) = some ((n, ⟨k⟩) :: ps) := ptsOf_map _
    show (match fMax μ [.d (.list (((n, ⟨k⟩) :: ps : List Pt).map ptD))] with
      | some r => some r
      | none => (listOf μ [.d (.list (((n, ⟨k⟩) :: ps : List Pt).map ptD))]).bind fun ds => (ptsOf ds).bind fun ps => (maxPt ps).map fun p => (.d (ptD p), μ)) = _
    rw [h1]
    show ((ptsOf (((n, ⟨k⟩) :: ps : List Pt).map ptD)).bind fun ps => (maxPt ps).map fun p => (Rv.d (ptD p), μ)) = _
    rw [h2]; rfl
theorem ptD_all (p : Pt) : ptD p = .tuple [.int p.1, rowD p.2.1] := rfl
theorem tupOf_row (l : List Int) : tupOf (rowD l) = some l := by
  show intsOf (l.map PyData.int) = some l
  induction l with
  | nil => rfl
  | cons x k ih =>
    show (intsOf (k.map PyData.int)).map (x :: ·) = _
    rw [ih]; rfl
/-- a dict comprehension over lots, each put anew -/
theorem dloop_ev {t : Tg} {kx vx : Sm} {ρ : Ro} {μ : Mu} (val : List Int → Pt) : ∀ (xs acc : List (List Int)), acc.length + xs.length ≤ 4096 → (acc ++ xs).Nodup →
    (∀ x ∈ xs, ∀ es, ∃ ρ1, t.put (rowD x) ρ = some ρ1 ∧ kx ρ1 (μ ++ [.dT es]) = some (.d (rowD x), μ ++ [.dT es]) ∧ vx ρ1 (μ ++ [.dT es]) = some (.d (ptD (val x)), μ ++ [.dT es])) →
    dloop t sYes kx vx none μ.length ρ (xs.map rowD) (μ ++ [.dT (rowE acc val)]) = some (μ ++ [.dT (rowE (acc ++ xs) val)])
  | [], acc, _, _, _ => by simp [dloop]
  | x :: xs, acc, hl, hd, h => by
    obtain ⟨ρ1, e1, e2, e3⟩ := h x List.mem_cons_self (rowE acc val)
    have hx : x ∉ acc := by
      intro q
      exact (List.nodup_append.mp hd).2.2 x q x List.mem_cons_self rfl
    have hd2 : ((acc ++ [x]) ++ xs).Nodup := by rw [List.append_assoc]; exact hd
    rw [List.length_cons] at hl
    have ih := dloop_ev (t := t) (kx := kx) (vx := vx) (ρ := ρ) (μ := μ) val xs (acc ++ [x]) (by rw [List.length_append, List.length_singleton]; omega) hd2 (fun y hy => h y (List.mem_cons_of_mem _ hy))
    rw [List.map_cons]
    unfold dloop
    rw [e1]
    simp only [Option.bind_some, sYes, if_true, e2, e3]
    unfold dput
    simp only [get_last, take_front]
    rw [tupOf_row]
    simp only [Option.bind_some]
    have hle : (rowE acc val).length = acc.length := by unfold rowE; rw [List.length_map]
    rw [if_pos ⟨by omega, rfl⟩, rowE_put val x acc hx, ih, List.append_assoc]; rfl
theorem dct_ev {m : Si} {t : Tg} {kx vx : Sm} {vs : List Nat} {ρ : Ro} {μ : Mu} {ds : List PyData} (val : List Int → Pt) (xs : List (List Int)) (hm : m ρ μ = some (⟨ds, none⟩, μ)) (hs : ds = xs.map rowD) (hl : xs.length ≤ 4096) (hd : xs.Nodup)
    (h : ∀ x ∈ xs, ∀ es, ∃ ρ1, t.put (rowD x) (wipeR ρ vs) = some ρ1 ∧ kx ρ1 (μ ++ [.dT es]) = some (.d (rowD x), μ ++ [.dT es]) ∧ vx ρ1 (μ ++ [.dT es]) = some (.d (ptD (val x)), μ ++ [.dT es])) :
    sDcT m t sYes kx vx vs ρ μ = some (.d (.dict (rowE xs val)), μ) := by
  unfold sDcT
  rw [hm]
  simp only [Option.bind_some]
  subst hs
  have := dloop_ev (t := t) (kx := kx) (vx := vx) (ρ := wipeR ρ vs) (μ := μ) val xs [] (by simpa using hl) (by simpa using hd) h
  have e0 : rowE [] val = [] := rfl
  rw [e0] at this
  rw [this]
  simp
/-! ### the table -/
def nextV (ls : List (List Int)) (val : List Int → Pt) (l : List Int) : Pt := leastP (ls.map fun b => ((val b).1 + (gone b l : Int), ⟨b⟩))
def tabV (Ls : Nat → List (List Int)) : Nat → List Int → Pt
  | 0 => fun l => ((l.length : Int), ⟨[]⟩)
  | t + 1 => nextV (Ls t) (tabV Ls t)
def tabD (Ls : Nat → List (List Int)) (t : Nat) : PyData := .dict (rowE (Ls t) (tabV Ls t))
theorem cell_ev (ls : List (List Int)) (val : List Int → Pt) (l : List Int) (hl : l.length ≤ 1000) (h1 : ls.length ≤ 1000) (μ : Mu) (a b c d e f : Option Rv) :
    C_table_1 [a, b, c, some (.d (rowD l)), d, some (.d (.dict (rowE ls val))), e, f] μ = some (.d (.list ((ls.map fun b => (((val b).1 + (gone b l : Int), ⟨b⟩) : Pt)).map ptD)), μ) := by
  have h : C_table_1 [a, b, c, some (.d (rowD l)), d, some (.d (.dict (rowE ls val))), e, f] μ = some (mkL false ((ls.filter fun _ => true).map fun b => ptD ((val b).1 + (gone b l : Int), ⟨b⟩)) μ) := by
    refine comp_ev (s := ⟨(rowE ls val).map (·.1), none⟩) ls rowD (by simp) (by simp [rowE]) (ok_none _) (by omega) (fun _ => true) _ (fun x hx acc => ?_)
    refine ⟨[a, b, c, some (.d (rowD l)), d, some (.d (.dict (rowE ls val))), e, some (.d (rowD x))], rfl, rfl, fun _ => ?_⟩
    have g := goings_ev x l hl (μ ++ [.lst acc])
    have v := rowE_get val x ls hx
    simp [-tupOf, tupOf_row, v, g, ptD_all]
  rw [h, filter_yes]
  simp [mkL, Function.comp_def]
end Sh
set_option Elab.async false
set_option linter.all false
set_option maxRecDepth 100000
set_option maxHeartbeats 1000000
namespace Sh
open PySem L2 PyProof.Rows
/-! ### the table, whole -/
theorem take_snoc {α : Type} {xs : List α} {k : Nat} {x : α} (e : xs[k]? = some x) : xs.take (k + 1) = xs.take k ++ [x] := by
  rw [List.take_succ, e]; rfl
theorem take_two {α : Type} (l : List α) (x y : α) : (l ++ [x, y]).take (l.length + 1) = l ++ [x] := by
  have : l ++ [x, y] = (l ++ [x]) ++ [y] := by simp
  rw [this]
  exact List.take_left' (by simp)
theorem not_mem_take {α : Type} {xs : List α} (h : xs.Nodup) {k : Nat} {x : α} (e : xs[k]? = some x) : x ∉ xs.take k := by
  have h2 : (xs.take (k + 1)).Nodup := h.sublist (List.take_sublist _ _)
  rw [take_snoc e] at h2
  intro q
  exact (List.nodup_append.mp h2).2.2 x q x List.mem_cons_self rfl
theorem rowE_len (ls : List (List Int)) (val : List Int → Pt) : (rowE ls val).length = ls.length := by unfold rowE; rw [List.length_map]
theorem setT_ev (μ : Mu) (val : List Int → Pt) (ls : List (List Int)) (l : List Int) (h : l ∉ ls) (hl : ls.length ≤ 1000) : fSetD (μ ++ [.dT (rowE ls val)]) (.m μ.length) (.d (rowD l)) (.d (ptD (val l))) = some (μ ++ [.dT (rowE (ls ++ [l]) val)]) := by
  have e : (μ ++ [Mo.dT (rowE ls val)])[μ.length]? = some (.dT (rowE ls val)) := get_last _ _
  unfold fSetD
  simp only [e, tupOf_row, Option.bind_some]
  rw [if_pos (by rw [rowE_len]; omega), rowE_put val l ls h, set_last]
theorem row_ev (ls ms : List (List Int)) (val : List Int → Pt) (hne : ls ≠ []) (h1 : ls.length ≤ 1000) (h2 : ms.length ≤ 1000) (hd : ms.Nodup) (hl : ∀ l ∈ ms, l.length ≤ 1000) (μ : Mu) (r : Nat) (hr : r < μ.length) (a b : PyData) (x : Option Rv) :
    ∃ x', L_table_1 [some (.d a), some (.d b), some (.m r), x, some (.d (.list (ms.map rowD))), some (.d (.dict (rowE ls val))), some (.m μ.length), none] (μ ++ [.dT []]) = some (.nx, [some (.d a), some (.d b), some (.m r), x', some (.d (.list (ms.map rowD))), some (.d (.dict (rowE ls val))), some (.m μ.length), none], μ ++ [.dT (rowE ms (nextV ls val))]) := by
  obtain ⟨f, ρ', μ', e, h⟩ := for_ev (m := sIt (sVar 4)) (t := .nm 3) (body := l_table_1) (ρ := [some (.d a), some (.d b), some (.m r), x, some (.d (.list (ms.map rowD))), some (.d (.dict (rowE ls val))), some (.m μ.length), none]) (μ := μ ++ [.dT []]) (μ1 := μ ++ [.dT []]) (s := ⟨ms.map rowD, none⟩) ms rowD (by simp) rfl
    (fun j ρ μ' => (∃ x, ρ = [some (.d a), some (.d b), some (.m r), x, some (.d (.list (ms.map rowD))), some (.d (.dict (rowE ls val))), some (.m μ.length), none]) ∧ μ' = μ ++ [.dT (rowE (ms.take j) (nextV ls val))]) (fun _ _ => False) ⟨⟨_, rfl⟩, rfl⟩ (by
      rintro j l ρ μ' hj ⟨⟨x, rfl⟩, rfl⟩
      have hm : l ∈ ms := List.mem_of_getElem? hj
      have st : l_table_1 [some (.d a), some (.d b), some (.m r), some (.d (rowD l)), some (.d (.list (ms.map rowD))), some (.d (.dict (rowE ls val))), some (.m μ.length), none] (μ ++ [.dT (rowE (ms.take j) (nextV ls val))]) = some (.nx, [some (.d a), some (.d b), some (.m r), some (.d (rowD l)), some (.d (.list (ms.map rowD))), some (.d (.dict (rowE ls val))), some (.m μ.length), none], μ ++ [.dT (rowE (ms.take (j + 1)) (nextV ls val))]) := by
        have c := cell_ev ls val l (hl l hm) h1 (μ ++ [.dT (rowE (ms.take j) (nextV ls val))]) (some (.d a)) (some (.d b)) (some (.m r)) (some (.d (.list (ms.map rowD)))) (some (.m μ.length)) none
        have m := minP_ev (μ ++ [.dT (rowE (ms.take j) (nextV ls val))]) (ls.map fun b => (((val b).1 + (gone b l : Int), ⟨b⟩) : Pt)) (by simpa using hne)
        have s := setT_ev μ (nextV ls val) (ms.take j) l (not_mem_take hd hj) (by rw [List.length_take]; omega)
        have hv : nextV ls val l = leastP (ls.map fun b => (((val b).1 + (gone b l : Int), ⟨b⟩) : Pt)) := rfl
        rw [take_snoc hj]
        rw [hv] at s
        unfold l_table_1 sStD
        have e1 : sA fMinP (sCons C_table_1 sNil) [some (.d a), some (.d b), some (.m r), some (.d (rowD l)), some (.d (.list (ms.map rowD))), some (.d (.dict (rowE ls val))), some (.m μ.length), none] (μ ++ [.dT (rowE (ms.take j) (nextV ls val))]) = some (.d (ptD (leastP (ls.map fun b => (((val b).1 + (gone b l : Int), ⟨b⟩) : Pt)))), μ ++ [.dT (rowE (ms.take j) (nextV ls val))]) := by
          unfold sA
          simp only [sCons, sNil, c, Option.bind_some, Option.map_some]
          exact m
        rw [e1]
        simp only [Option.bind_some, sVar]
        simp [-fSetD, s]
      exact ⟨_, .nx, _, _, rfl, st, by simp [chkB_none], by simp; omega, by simp⟩)
  have hn : f = .nx := by cases f <;> simp at h <;> rfl
  subst hn
  obtain ⟨⟨x', rfl⟩, rfl⟩ := h
  rw [List.take_length] at e
  exact ⟨x', e⟩
structure LotsOk (Ls : Nat → List (List Int)) (m : Nat) : Prop where
  nd : ∀ t, t ≤ m → (Ls t).Nodup
  ne : ∀ t, t ≤ m → Ls t ≠ []
  le : ∀ t, t ≤ m → (Ls t).length ≤ 1000
  ln : ∀ t, t ≤ m → ∀ l ∈ Ls t, l.length ≤ 1000
def lotsD (ls : List (List Int)) : PyData := .list (ls.map rowD)
theorem range_get {m j t : Nat} (h : (List.range m)[j]? = some t) : t = j ∧ j < m := by
  by_cases c : j < m
  · rw [List.getElem?_range c] at h
    cases h
    exact ⟨rfl, c⟩
  · rw [List.getElem?_eq_none (by rw [List.length_range]; omega)] at h
    cases h
theorem first_ev (ls : List (List Int)) (hd : ls.Nodup) (h1 : ls.length ≤ 1000) (hl : ∀ l ∈ ls, l.length ≤ 1000) (μ : Mu) (a : Option Rv) (c d e f g h : Option Rv) :
    C_table_2 [a, some (.d (lotsD ls)), c, d, e, f, g, h] μ = some (.d (.dict (rowE ls fun l => ((l.length : Int), ⟨[]⟩))), μ) := by
  refine dct_ev (fun l => ((l.length : Int), ⟨[]⟩)) ls (m := sIt (sVar 1)) (ds := ls.map rowD) (by simp [lotsD]) rfl (by omega) hd (fun x hx es => ?_)
  refine ⟨[a, some (.d (lotsD ls)), c, some (.d (rowD x)), e, f, g, h], rfl, rfl, ?_⟩
  have := hl x hx
  simp [rowD, ptD_all]
theorem table_ev (Ls : Nat → List (List Int)) (m : Nat) (hm : m ≤ 100) (H : LotsOk Ls m) (μ : Mu) :
    g_table [.d (.list ((List.range m).map fun t => lotsD (Ls (t + 1)))), .d (lotsD (Ls 0))] μ = some (.d (.list ((List.range (m + 1)).map (tabD Ls))), μ) := by
  let A : PyData := .list ((List.range m).map fun t => lotsD (Ls (t + 1)))
  obtain ⟨f, ρ', μ', e, h⟩ := for_ev (m := sIt (sVar 0)) (t := .nm 4) (body := l_table_2) (ρ := [some (.d A), some (.d (lotsD (Ls 0))), some (.m μ.length), none, none, none, none, none]) (μ := μ ++ [.lst ((List.range 1).map (tabD Ls))]) (μ1 := μ ++ [.lst ((List.range 1).map (tabD Ls))]) (s := ⟨(List.range m).map fun t => lotsD (Ls (t + 1)), none⟩) (List.range m) (fun t => lotsD (Ls (t + 1))) (by simp [A]) rfl
    (fun j ρ μ' => (∃ x y z w, ρ = [some (.d A), some (.d (lotsD (Ls 0))), some (.m μ.length), x, y, z, w, none]) ∧ μ' = μ ++ [.lst ((List.range (j + 1)).map (tabD Ls))]) (fun _ _ => False) ⟨⟨_, _, _, _, rfl⟩, rfl⟩ (by
      rintro j t ρ μ' hj ⟨⟨x, y, z, w, rfl⟩, rfl⟩
      obtain ⟨rfl, hj⟩ := range_get hj
      obtain ⟨x', r⟩ := row_ev (Ls t) (Ls (t + 1)) (tabV Ls t) (H.ne t (by omega)) (H.le t (by omega)) (H.le (t + 1) (by omega)) (H.nd (t + 1) (by omega)) (H.ln (t + 1) (by omega)) (μ ++ [.lst ((List.range (t + 1)).map (tabD Ls))]) μ.length (by rw [List.length_append]; simp) A (lotsD (Ls 0)) x
      have st : ∃ x', l_table_2 [some (.d A), some (.d (lotsD (Ls 0))), some (.m μ.length), x, some (.d (lotsD (Ls (t + 1)))), z, w, none] (μ ++ [.lst ((List.range (t + 1)).map (tabD Ls))]) = some (.nx, [some (.d A), some (.d (lotsD (Ls 0))), some (.m μ.length), x', some (.d (lotsD (Ls (t + 1)))), some (.d (tabD Ls t)), some (.m (μ.length + 1)), none], μ ++ [.lst ((List.range (t + 1 + 1)).map (tabD Ls)), .dead]) := by
        refine ⟨x', ?_⟩
        unfold l_table_2
        rw [seq_nx (ρ' := [some (.d A), some (.d (lotsD (Ls 0))), some (.m μ.length), x, some (.d (lotsD (Ls (t + 1)))), some (.d (tabD Ls t)), w, none]) (μ' := μ ++ [.lst ((List.range (t + 1)).map (tabD Ls))]) (by
          rw [List.range_succ, List.map_append]
          simp)]
        rw [seq_nx (ρ' := [some (.d A), some (.d (lotsD (Ls 0))), some (.m μ.length), x, some (.d (lotsD (Ls (t + 1)))), some (.d (tabD Ls t)), some (.m (μ.length + 1)), none]) (μ' := (μ ++ [.lst ((List.range (t + 1)).map (tabD Ls))]) ++ [.dT []]) (by simp)]
        have len : (μ ++ [Mo.lst ((List.range (t + 1)).map (tabD Ls))]).length = μ.length + 1 := by simp
        rw [len] at r
        have r2 : L_table_1 [some (.d A), some (.d (lotsD (Ls 0))), some (.m μ.length), x, some (.d (lotsD (Ls (t + 1)))), some (.d (tabD Ls t)), some (.m (μ.length + 1)), none] ((μ ++ [.lst ((List.range (t + 1)).map (tabD Ls))]) ++ [.dT []]) = some (.nx, [some (.d A), some (.d (lotsD (Ls 0))), some (.m μ.length), x', some (.d (lotsD (Ls (t + 1)))), some (.d (tabD Ls t)), some (.m (μ.length + 1)), none], (μ ++ [.lst ((List.range (t + 1)).map (tabD Ls))]) ++ [.dT (rowE (Ls (t + 1)) (nextV (Ls t) (tabV Ls t)))]) := r
        rw [seq_nx r2]
        have ev : (.dict (rowE (Ls (t + 1)) (nextV (Ls t) (tabV Ls t))) : PyData) = tabD Ls (t + 1) := rfl
        have g1 : ((μ ++ [Mo.lst ((List.range (t + 1)).map (tabD Ls))]) ++ [Mo.dT (rowE (Ls (t + 1)) (nextV (Ls t) (tabV Ls t)))])[μ.length]? = some (.lst ((List.range (t + 1)).map (tabD Ls))) := by
          rw [List.getElem?_append_left (by simp), get_last]
        have g2 : ((μ ++ [Mo.lst ((List.range (t + 1)).map (tabD Ls))]) ++ [Mo.dT (rowE (Ls (t + 1)) (nextV (Ls t) (tabV Ls t)))])[μ.length + 1]? = some (.dT (rowE (Ls (t + 1)) (nextV (Ls t) (tabV Ls t)))) := by
          rw [← len, get_last]
        have g3 : ((μ ++ [Mo.lst ((List.range (t + 1)).map (tabD Ls))]) ++ [Mo.dT (rowE (Ls (t + 1)) (nextV (Ls t) (tabV Ls t)))]).set (μ.length + 1) .dead = μ ++ [Mo.lst ((List.range (t + 1)).map (tabD Ls)), .dead] := by
          rw [← len, set_last, List.append_assoc]; rfl
        have g4 : (μ ++ [Mo.lst ((List.range (t + 1)).map (tabD Ls)), .dead])[μ.length]? = some (.lst ((List.range (t + 1)).map (tabD Ls))) := by
          rw [List.getElem?_append_right (Nat.le_refl _), Nat.sub_self]; rfl
        have g5 : ∀ ds, (μ ++ [Mo.lst ((List.range (t + 1)).map (tabD Ls)), .dead]).set μ.length (.lst ds) = μ ++ [.lst ds, .dead] := fun ds => by
          rw [List.set_append_right _ _ (Nat.le_refl _), Nat.sub_self]; rfl
        rw [List.range_succ (n := t + 1), List.map_append]
        simp only [sExpr, sMet, sVar, List.getElem?_cons_zero, List.getElem?_cons_succ, Option.bind_some, isLst, g1, sCons, sNil, sFz, rd, g2, g3, fApp, g4, g5, Option.map_some, ev, Option.some.injEq, if_true]
        simp [tabD]
        omega
      obtain ⟨x', st⟩ := st
      exact ⟨_, .nx, _, _, rfl, st, by simp [chkB_none], by
        refine ⟨(cutR (μ.length + 1) [x']).head!, some (.d (lotsD (Ls (t + 1)))), some (.d (tabD Ls t)), none, ?_⟩
        simp [A]
        rfl, by rw [List.length_append]; exact take_two _ _ _⟩)
  have hn : f = .nx := by cases f <;> simp at h <;> rfl
  subst hn
  obtain ⟨⟨x, y, z, w, rfl⟩, rfl⟩ := h
  rw [List.length_range] at e
  have e : L_table_2 [some (.d A), some (.d (lotsD (Ls 0))), some (.m μ.length), none, none, none, none, none] (μ ++ [.lst ((List.range 1).map (tabD Ls))]) = _ := e
  have c := first_ev (Ls 0) (H.nd 0 (by omega)) (H.le 0 (by omega)) (H.ln 0 (by omega)) μ (some (.d A)) none none none none none none
  have e0 : (.dict (rowE (Ls 0) fun l => ((l.length : Int), ⟨[]⟩)) : PyData) = tabD Ls 0 := rfl
  rw [e0] at c
  refine fn_dm (ρ := [some (.d A), some (.d (lotsD (Ls 0))), none, none, none, none, none, none]) ?_ rfl rfl
  unfold b_table
  rw [seq_nx (ρ' := [some (.d A), some (.d (lotsD (Ls 0))), some (.m μ.length), none, none, none, none, none]) (μ' := μ ++ [.lst ((List.range 1).map (tabD Ls))]) (by simp [c])]
  rw [seq_nx e]
  exact ⟨_, _, by simp; exact ⟨rfl, rfl⟩, by simp⟩
end Sh
set_option Elab.async false
set_option linter.all false
set_option maxRecDepth 100000
set_option maxHeartbeats 1000000
namespace Sh
open PySem L2 PyProof.Rows
/-! ### the fewest, and a seating of so many -/
theorem leastP_mem : ∀ (ps : List Pt), ps ≠ [] → leastP ps ∈ ps ∧ ∀ q ∈ ps, (leastP ps).1 ≤ q.1
  | [], h => absurd rfl h
  | p :: ps, _ => minOf_fst ps p
theorem tabV_step {Ls : Nat → List (List Int)} {m : Nat} (H : LotsOk Ls m) {t : Nat} (ht : t + 1 ≤ m) (l : List Int) :
    (tabV Ls (t + 1) l).2.1 ∈ Ls t ∧ (tabV Ls (t + 1) l).1 = (tabV Ls t (tabV Ls (t + 1) l).2.1).1 + (gone (tabV Ls (t + 1) l).2.1 l : Int) ∧ ∀ b ∈ Ls t, (tabV Ls (t + 1) l).1 ≤ (tabV Ls t b).1 + (gone b l : Int) := by
  obtain ⟨h1, h2⟩ := leastP_mem ((Ls t).map fun b => (((tabV Ls t b).1 + (gone b l : Int), ⟨b⟩) : Pt)) (by have := H.ne t (by omega); simpa using this)
  have e : tabV Ls (t + 1) l = leastP ((Ls t).map fun b => (((tabV Ls t b).1 + (gone b l : Int), ⟨b⟩) : Pt)) := rfl
  rw [← e] at h1 h2
  obtain ⟨b, hb, eb⟩ := List.mem_map.mp h1
  refine ⟨?_, ?_, fun c hc => h2 _ (List.mem_map.mpr ⟨c, hc, rfl⟩)⟩
  · rw [← eb]; exact hb
  · rw [← eb]
def pth (Ls : Nat → List (List Int)) (m : Nat) (b : List Int) : Nat → List Int
  | 0 => b
  | j + 1 => (tabV Ls (m - j) (pth Ls m b j)).2.1
theorem pth_mem {Ls : Nat → List (List Int)} {m : Nat} (H : LotsOk Ls m) {b : List Int} (hb : b ∈ Ls m) : ∀ {j : Nat}, j ≤ m → pth Ls m b j ∈ Ls (m - j)
  | 0, _ => hb
  | j + 1, h => by
    have e : m - j = (m - (j + 1)) + 1 := by omega
    show (tabV Ls (m - j) (pth Ls m b j)).2.1 ∈ _
    rw [e]
    exact (tabV_step H (by omega) _).1
def lastP (Ls : Nat → List (List Int)) (m : Nat) : Pt := leastP ((Ls m).map fun l => (((tabV Ls m l).1, ⟨l⟩) : Pt))
theorem rev_range {α : Type} (f : Nat → α) (m : Nat) : ((List.range m).map f).reverse = (List.range m).map fun t => f (m - 1 - t) := by
  apply List.ext_getElem
  · simp
  · intro i h1 h2
    simp at h1 h2 ⊢
theorem drop_range {α : Type} (f : Nat → α) (m : Nat) : ((List.range (m + 1)).map f).drop 1 = (List.range m).map fun t => f (t + 1) := by
  rw [List.range_succ_eq_map]
  simp [Function.comp_def]
theorem best_list_ev (Ls : Nat → List (List Int)) (m : Nat) (H : LotsOk Ls m) (μ : Mu) (a b c d e f : Option Rv) :
    C_best_1 [a, b, some (.d (.list ((List.range (m + 1)).map (tabD Ls)))), d, none, e, f] μ = some (.d (.list (((Ls m).map fun l => (((tabV Ls m l).1, ⟨l⟩) : Pt)).map ptD)), μ) := by
  have hl : atI ((List.range (m + 1)).map (tabD Ls)) (-1) = some (tabD Ls m) := by
    rw [List.range_succ, List.map_append]; exact atI_last _ _
  have h : C_best_1 [a, b, some (.d (.list ((List.range (m + 1)).map (tabD Ls)))), d, none, e, f] μ = some (mkL false (((Ls m).filter fun _ => true).map fun l => ptD ((tabV Ls m l).1, ⟨l⟩)) μ) := by
    refine comp_ev (s := ⟨(rowE (Ls m) (tabV Ls m)).map (·.1), none⟩) (Ls m) rowD (by simp [hl, tabD]) (by simp [rowE]) (ok_none _) (by have := H.le m (Nat.le_refl _); omega) (fun _ => true) _ (fun x hx acc => ?_)
    refine ⟨[a, b, some (.d (.list ((List.range (m + 1)).map (tabD Ls)))), d, some (.d (rowD x)), e, f], rfl, rfl, fun _ => ?_⟩
    have v := rowE_get (tabV Ls m) x (Ls m) hx
    simp [-tupOf, hl, tabD, tupOf_row, v, ptD_all]
  rw [h, filter_yes]
  simp [mkL, Function.comp_def]
def seatD (Ls : Nat → List (List Int)) (m : Nat) : PyData := .tuple ((List.range (m + 1)).map fun t => rowD (pth Ls m (lastP Ls m).2.1 (m - t)))
theorem best_ev (Ls : Nat → List (List Int)) (m : Nat) (hm : m ≤ 100) (H : LotsOk Ls m) (μ : Mu) :
    g_best [.d (.list ((List.range m).map fun t => lotsD (Ls (t + 1)))), .d (lotsD (Ls 0))] μ = some (.d (.tuple [.int (lastP Ls m).1, seatD Ls m]), μ) := by
  let A : PyData := .list ((List.range m).map fun t => lotsD (Ls (t + 1)))
  let R : PyData := .list ((List.range (m + 1)).map (tabD Ls))
  let p := lastP Ls m
  let b := p.2.1
  have hb : b ∈ Ls m := by
    obtain ⟨h1, _⟩ := leastP_mem ((Ls m).map fun l => (((tabV Ls m l).1, ⟨l⟩) : Pt)) (by have := H.ne m (Nat.le_refl _); simpa using this)
    obtain ⟨l, hl, el⟩ := List.mem_map.mp h1
    have : b = l := by show (lastP Ls m).2.1 = l; unfold lastP; rw [← el]
    rw [this]; exact hl
  have hk : (((List.range (m + 1)).map (tabD Ls)).drop 1).reverse = (List.range m).map fun j => tabD Ls (m - j) := by
    rw [drop_range, rev_range]
    refine List.map_congr_left fun j hj => ?_
    have := List.mem_range.mp hj
    congr 1
    omega
  obtain ⟨f, ρ', μ', e, h⟩ := for_ev (m := sRev (sSl false (sVar 2) (sPart (sC (.int 1))) sNoP)) (t := .nm 6) (body := l_best_1) (ρ := [some (.d A), some (.d (lotsD (Ls 0))), some (.d R), some (.d (.int p.1)), some (.d (rowD b)), some (.m μ.length), none]) (μ := μ ++ [.lst [rowD b]]) (μ1 := μ ++ [.lst [rowD b]]) (s := ⟨(((List.range (m + 1)).map (tabD Ls)).drop 1).reverse, none⟩) (List.range m) (fun j => tabD Ls (m - j)) (by simp [R]) hk
    (fun j ρ μ' => (∃ x, ρ = [some (.d A), some (.d (lotsD (Ls 0))), some (.d R), some (.d (.int p.1)), some (.d (rowD b)), some (.m μ.length), x]) ∧ μ' = μ ++ [.lst ((List.range (j + 1)).map fun i => rowD (pth Ls m b i))]) (fun _ _ => False) ⟨⟨_, rfl⟩, rfl⟩ (by
      rintro j t ρ μ' hj ⟨⟨x, rfl⟩, rfl⟩
      obtain ⟨rfl, hj⟩ := range_get hj
      have hp := pth_mem H hb (j := t) (by omega)
      have v := rowE_get (tabV Ls (m - t)) (pth Ls m b t) (Ls (m - t)) hp
      have hr := tupOf_row (pth Ls m b t)
      have st : l_best_1 [some (.d A), some (.d (lotsD (Ls 0))), some (.d R), some (.d (.int p.1)), some (.d (rowD b)), some (.m μ.length), some (.d (tabD Ls (m - t)))] (μ ++ [.lst ((List.range (t + 1)).map fun i => rowD (pth Ls m b i))]) = some (.nx, [some (.d A), some (.d (lotsD (Ls 0))), some (.d R), some (.d (.int p.1)), some (.d (rowD b)), some (.m μ.length), some (.d (tabD Ls (m - t)))], μ ++ [.lst ((List.range (t + 1 + 1)).map fun i => rowD (pth Ls m b i))]) := by
        have e1 : rowD (pth Ls m b (t + 1)) = rowD (tabV Ls (m - t) (pth Ls m b t)).2.1 := rfl
        have hl : atI ((List.range (t + 1)).map fun i => rowD (pth Ls m b i)) (-1) = some (rowD (pth Ls m b t)) := by
          rw [List.range_succ, List.map_append]; exact atI_last _ _
        rw [List.range_succ (n := t + 1), List.map_append]
        unfold l_best_1
        simp [-tupOf, hl, tabD, hr, v, ptD_all, e1]
        omega
      exact ⟨_, .nx, _, _, rfl, st, by simp [chkB_none], by simp, by simp⟩)
  have hn : f = .nx := by cases f <;> simp at h <;> rfl
  subst hn
  obtain ⟨⟨x, rfl⟩, rfl⟩ := h
  rw [List.length_range] at e
  have e : L_best_1 [some (.d A), some (.d (lotsD (Ls 0))), some (.d R), some (.d (.int p.1)), some (.d (rowD b)), some (.m μ.length), none] (μ ++ [.lst [rowD b]]) = _ := e
  have tb : g_table [.d A, .d (lotsD (Ls 0))] μ = some (.d R, μ) := table_ev Ls m hm H μ
  have cb : C_best_1 [some (.d A), some (.d (lotsD (Ls 0))), some (.d R), none, none, none, none] μ = some (.d (.list (((Ls m).map fun l => (((tabV Ls m l).1, ⟨l⟩) : Pt)).map ptD)), μ) := best_list_ev Ls m H μ _ _ none _ _ _
  have mb := minP_ev μ ((Ls m).map fun l => (((tabV Ls m l).1, ⟨l⟩) : Pt)) (by have := H.ne m (Nat.le_refl _); simpa using this)
  refine fn_dm (ρ := [some (.d A), some (.d (lotsD (Ls 0))), none, none, none, none, none]) ?_ rfl rfl
  unfold b_best
  rw [seq_nx (ρ' := [some (.d A), some (.d (lotsD (Ls 0))), some (.d R), none, none, none, none]) (μ' := μ) (by simp [tb])]
  have s1 : sAsg (sA fMinP (sCons C_best_1 sNil)) (.tp [3, 4]) [some (.d A), some (.d (lotsD (Ls 0))), some (.d R), none, none, none, none] μ = some (.nx, [some (.d A), some (.d (lotsD (Ls 0))), some (.d R), some (.d (.int p.1)), some (.d (rowD b)), none, none], μ) := by
    have e1 : sA fMinP (sCons C_best_1 sNil) [some (.d A), some (.d (lotsD (Ls 0))), some (.d R), none, none, none, none] μ = some (.d (ptD p), μ) := by
      unfold sA
      simp only [sCons, sNil, cb, Option.bind_some, Option.map_some]
      exact mb
    unfold sAsg
    rw [e1, ptD_all]
    simp
    rfl
  rw [seq_nx s1]
  rw [seq_nx (ρ' := [some (.d A), some (.d (lotsD (Ls 0))), some (.d R), some (.d (.int p.1)), some (.d (rowD b)), some (.m μ.length), none]) (μ' := μ ++ [.lst [rowD b]]) (by simp)]
  rw [seq_nx e]
  have rv : ((List.range (m + 1)).map fun i => rowD (pth Ls m b i)).reverse = (List.range (m + 1)).map fun t => rowD (pth Ls m b (m - t)) := by
    rw [rev_range]
    refine List.map_congr_left fun j hj => ?_
    have := List.mem_range.mp hj
    congr 2
  refine ⟨[some (.d A), some (.d (lotsD (Ls 0))), some (.d R), some (.d (.int p.1)), some (.d (rowD b)), some (.m μ.length), x], μ ++ [.lst ((List.range (m + 1)).map fun i => rowD (pth Ls m b i))], ?_, by simp⟩
  simp [rv]
  exact ⟨rfl, rfl⟩
end Sh
set_option Elab.async false
set_option linter.all false
set_option maxRecDepth 100000
set_option maxHeartbeats 1000000
namespace Sh
open PySem L2 PyProof.Rows
/-! ### fewest -/
theorem seats_len {y : Yd} (h : y.n ≤ 8) (hour : Nat) : (seatsAt y hour).length ≤ 8 := by
  have h1 := List.length_filter_le (fun s => sh y s hour) ((List.range y.n.toNat).map fun (i : Nat) => (i : Int))
  rw [List.length_map, List.length_range] at h1
  unfold seatsAt
  omega
theorem seats_rise (y : Yd) (hour : Nat) : (seatsAt y hour).Pairwise (· < ·) := List.Pairwise.sublist List.filter_sublist (nums_rise y.n.toNat)
theorem foldl_min_le : ∀ (l : List Int) (a : Int), l.foldl (fun m x => if x < m then x else m) a ≤ a ∧ ∀ x ∈ l, l.foldl (fun m x => if x < m then x else m) a ≤ x
  | [], a => ⟨Int.le_refl _, fun x h => by cases h⟩
  | y :: l, a => by
    rw [List.foldl_cons]
    obtain ⟨h1, h2⟩ := foldl_min_le l (if y < a then y else a)
    have h3 : (if y < a then y else a) ≤ a ∧ (if y < a then y else a) ≤ y := by split <;> omega
    refine ⟨Int.le_trans h1 h3.1, fun x hx => ?_⟩
    rcases List.mem_cons.mp hx with rfl | hx
    · exact Int.le_trans h1 h3.2
    · exact h2 x hx
def lotsAt (y : Yd) (n : Nat) (t : Nat) : List (List Int) := lotsL n (seatsAt y t)
theorem lotsAt_len {y : Yd} (h : y.n ≤ 8) (n t : Nat) : (lotsAt y n t).length ≤ 1000 := by
  have h1 := lots_len n (seatsAt y t) [[]]
  have h2 := seats_len h t
  have e1 : (2 ^ (seatsAt y t).length) * [([] : List Int)].length = 2 ^ (seatsAt y t).length := Nat.mul_one _
  rw [e1] at h1
  have h3 : 2 ^ (seatsAt y t).length ≤ 2 ^ 8 := Nat.pow_le_pow_right (by decide) h2
  have h4 := List.length_filter_le (fun l : List Int => decide (l.length = n)) (lotsAll n (seatsAt y t))
  unfold lotsAt lotsL
  have h5 : (lotsAll n (seatsAt y t)).length ≤ 256 := Nat.le_trans h1 h3
  omega
theorem lotsOk {y : Yd} (h : y.n ≤ 8) {n m : Nat} (hn : ∀ t, t ≤ m → n ≤ (seatsAt y t).length) : LotsOk (lotsAt y n) m where
  nd t _ := lots_nodup n _ (rise_nodup (seats_rise y t))
  ne t ht := lots_ne (hn t ht)
  le t _ := lotsAt_len h n t
  ln t _ l hl := by
    have h1 := (lots_mem.mp hl).1.length_le
    have h2 := seats_len h t
    omega
theorem lots_comp {y : Yd} (ok : y.Ok) (n8 : y.n ≤ 8) (n : Nat) (μ : Mu) (a b c : Option Rv) :
    C_fewest_1 [some (.d (yardD y)), some (.d (.int n)), a, b, c] μ = some (.d (.list ((List.range y.sun.length).map fun t => lotsD (lotsAt y n t))), μ) := by
  have h : C_fewest_1 [some (.d (yardD y)), some (.d (.int n)), a, b, c] μ = some (mkL false (((List.range y.sun.length).filter fun _ => true).map fun t => lotsD (lotsAt y n t)) μ) := by
    refine comp_ev (s := ⟨rngD 0 y.sun.length, none⟩) (List.range y.sun.length) (fun (i : Nat) => .int (i : Int)) ?_ ?_ (ok_none _) ?_ (fun _ => true) _ (fun t ht acc => ?_)
    · exact rng1_ev (sun_len y μ _) (by have := ok.sl; omega)
    · show rngD 0 y.sun.length = _
      unfold rngD
      simp
    · rw [List.length_range]; have := ok.sl; omega
    · refine ⟨[some (.d (yardD y)), some (.d (.int n)), a, b, some (.d (.int t))], rfl, rfl, fun _ => ?_⟩
      have e1 := shaded_ev ok (List.mem_range.mp ht) (μ ++ [.lst acc])
      have e2 := lots_of_ev n (seatsAt y t) (seats_len n8 t) (μ ++ [.lst acc])
      simp [e1, e2, lotsD, lotsAt]
  rw [h, filter_yes]
  rfl
theorem fewest_ev {y : Yd} (ok : y.Ok) (n8 : y.n ≤ 8) {n m : Nat} (hm : y.sun.length = m + 1) (hn : ∀ t, t ≤ m → n ≤ (seatsAt y t).length) (μ : Mu) :
    g_fewest [.d (yardD y), .d (.int n), .d .none] μ = some (.d (.tuple [.int (lastP (lotsAt y n) m).1, seatD (lotsAt y n) m]), μ) := by
  have c := lots_comp ok n8 n μ (some (.d .none)) none none
  have hs := ok.sl
  have b := best_ev (lotsAt y n) m (by omega) (lotsOk n8 hn) μ
  rw [hm] at c
  have e0 : ((List.range (m + 1)).map fun t => lotsD (lotsAt y n t)).drop 1 = (List.range m).map fun t => lotsD (lotsAt y n (t + 1)) := drop_range _ _
  have e1 : atI ((List.range (m + 1)).map fun t => lotsD (lotsAt y n t)) 0 = some (lotsD (lotsAt y n 0)) := by
    rw [List.range_succ_eq_map]; exact atI_0 _ _
  refine fn_dm (ρ := [some (.d (yardD y)), some (.d (.int n)), some (.d .none), none, none]) ?_ rfl rfl
  unfold b_fewest
  rw [seq_nx (ρ' := [some (.d (yardD y)), some (.d (.int n)), some (.d .none), some (.d (.list ((List.range (m + 1)).map fun t => lotsD (lotsAt y n t)))), none]) (μ' := μ) (by simp [c])]
  refine ⟨[some (.d (yardD y)), some (.d (.int n)), some (.d .none), some (.d (.list ((List.range (m + 1)).map fun t => lotsD (lotsAt y n t)))), none], μ, ?_, by simp⟩
  rw [List.drop_one] at e0
  simp [e0, e1, b, isN]
/-- the table's values are the least costs -/
theorem tabV_isB {S : Nat → List Int} {n m : Nat} (H : LotsOk (fun t => lotsL n (S t)) m) : ∀ {t : Nat}, t ≤ m → ∀ {l : List Int}, l ∈ lotsL n (S t) → IsB S n t l (tabV (fun t => lotsL n (S t)) t l).1
  | 0, _, l, hl => by
    show (l.length : Int) = (n : Int)
    rw [(lots_mem.mp hl).2]
  | t + 1, ht, l, hl => by
    obtain ⟨h1, h2, h3⟩ := tabV_step H ht l
    refine ⟨⟨_, _, h1, tabV_isB H (by omega) h1, h2⟩, fun a va ha hva => ?_⟩
    have e := IsB.uniq hva (tabV_isB H (by omega) ha)
    rw [e]
    exact h3 a ha
theorem lastP_spec {S : Nat → List Int} {n m : Nat} (H : LotsOk (fun t => lotsL n (S t)) m) : (lastP (fun t => lotsL n (S t)) m).2.1 ∈ lotsL n (S m) ∧ IsB S n m (lastP (fun t => lotsL n (S t)) m).2.1 (lastP (fun t => lotsL n (S t)) m).1 ∧
    ∀ c w, c ∈ lotsL n (S m) → IsB S n m c w → (lastP (fun t => lotsL n (S t)) m).1 ≤ w := by
  obtain ⟨h1, h2⟩ := leastP_mem ((lotsL n (S m)).map fun l => (((tabV (fun t => lotsL n (S t)) m l).1, ⟨l⟩) : Pt)) (by have := H.ne m (Nat.le_refl _); simpa using this)
  have e : lastP (fun t => lotsL n (S t)) m = leastP ((lotsL n (S m)).map fun l => (((tabV (fun t => lotsL n (S t)) m l).1, ⟨l⟩) : Pt)) := rfl
  rw [← e] at h1 h2
  obtain ⟨l, hl, el⟩ := List.mem_map.mp h1
  have e1 : (lastP (fun t => lotsL n (S t)) m).2.1 = l := by rw [← el]
  have e2 : (lastP (fun t => lotsL n (S t)) m).1 = (tabV (fun t => lotsL n (S t)) m l).1 := by rw [← el]
  refine ⟨by rw [e1]; exact hl, by rw [e1, e2]; exact tabV_isB H (Nat.le_refl _) hl, fun c w hc hw => ?_⟩
  rw [IsB.uniq hw (tabV_isB H (Nat.le_refl _) hc)]
  exact h2 ((tabV (fun t => lotsL n (S t)) m c).1, ⟨c⟩) (List.mem_map.mpr ⟨c, hc, rfl⟩)
/-! ### the seating told -/
def stOf (Ls : Nat → List (List Int)) (m t : Nat) : List Int := pth Ls m (lastP Ls m).2.1 (m - t)
theorem lastP_mem {Ls : Nat → List (List Int)} {m : Nat} (H : LotsOk Ls m) : (lastP Ls m).2.1 ∈ Ls m ∧ (lastP Ls m).1 = (tabV Ls m (lastP Ls m).2.1).1 := by
  obtain ⟨h1, _⟩ := leastP_mem ((Ls m).map fun l => (((tabV Ls m l).1, ⟨l⟩) : Pt)) (by have := H.ne m (Nat.le_refl _); simpa using this)
  have e : lastP Ls m = leastP ((Ls m).map fun l => (((tabV Ls m l).1, ⟨l⟩) : Pt)) := rfl
  rw [← e] at h1
  obtain ⟨l, hl, el⟩ := List.mem_map.mp h1
  rw [← el]
  exact ⟨hl, rfl⟩
theorem stOf_mem {Ls : Nat → List (List Int)} {m : Nat} (H : LotsOk Ls m) {t : Nat} (ht : t ≤ m) : stOf Ls m t ∈ Ls t := by
  have := pth_mem H (lastP_mem H).1 (j := m - t) (by omega)
  have e : m - (m - t) = t := by omega
  rw [e] at this
  exact this
theorem stOf_cst {Ls : Nat → List (List Int)} {m : Nat} (H : LotsOk Ls m) : ∀ {t : Nat}, t ≤ m → (tabV Ls t (stOf Ls m t)).1 = (cst (stOf Ls m) (t + 1) : Int)
  | 0, _ => by
    show ((stOf Ls m 0).length : Int) = ((0 + gone [] (stOf Ls m 0) : Nat) : Int)
    rw [gone_nil]; simp
  | t + 1, ht => by
    have e : stOf Ls m t = (tabV Ls (t + 1) (stOf Ls m (t + 1))).2.1 := by
      have e1 : m - t = (m - (t + 1)) + 1 := by omega
      have e2 : m - (m - (t + 1)) = t + 1 := by omega
      show pth Ls m _ (m - t) = _
      rw [e1]
      show (tabV Ls (m - (m - (t + 1))) (pth Ls m _ (m - (t + 1)))).2.1 = _
      rw [e2]; rfl
    obtain ⟨h1, h2, h3⟩ := tabV_step H ht (stOf Ls m (t + 1))
    rw [← e] at h2
    rw [h2, stOf_cst H (by omega)]
    show _ = ((cst (stOf Ls m) (t + 1) + gone (stOf Ls m t) (stOf Ls m (t + 1)) : Nat) : Int)
    omega
theorem number_cst {Ls : Nat → List (List Int)} {m : Nat} (H : LotsOk Ls m) : (lastP Ls m).1 = (cst (stOf Ls m) (m + 1) : Int) := by
  rw [← stOf_cst H (Nat.le_refl _), (lastP_mem H).2]
  have e : stOf Ls m m = (lastP Ls m).2.1 := by
    show pth Ls m _ (m - m) = _
    rw [Nat.sub_self]; rfl
  rw [e]
end Sh
set_option Elab.async false
set_option linter.all false
set_option maxRecDepth 100000
set_option maxHeartbeats 1000000
namespace Sh
open PySem L2 PyProof.Rows
/-! ### is it a seating -/
def rowsD (st : Nat → List Int) (T : Nat) : PyData := .tuple ((List.range T).map fun t => rowD (st t))
structure Seated (y : Yd) (n : Nat) (st : Nat → List Int) : Prop where
  sub : ∀ t, t < y.sun.length → (st t).Sublist (seatsAt y t)
  len : ∀ t, t < y.sun.length → (st t).length = n
theorem enum_range {T : Nat} (g : Nat → PyData) : enD ((List.range T).map g) = (List.range T).map fun (t : Nat) => .tuple [.int (t : Int), g t] := by
  unfold enD
  apply List.ext_getElem
  · simp
  · intro i h1 h2
    simp
theorem bools_map {α : Type} (f : α → Bool) : ∀ xs : List α, boolsOf (xs.map fun x => PyData.bool (f x)) = some (xs.map f)
  | [] => rfl
  | x :: xs => by
    show (boolsOf (xs.map fun x => PyData.bool (f x))).map (f x :: ·) = _
    rw [bools_map f xs]; rfl
theorem all_ev {α : Type} {m : Sm} {ρ : Ro} {μ : Mu} (f : α → Bool) (xs : List α) (e : m ρ μ = some (.d (.list (xs.map fun x => .bool (f x))), μ)) : sA fAll (sCons m sNil) ρ μ = some (.d (.bool (xs.all f)), μ) := by
  have eb := bools_map f xs
  simp only [sA, sCons, sNil, e, fAll, listOf, rd, eb, Option.bind_some, Option.map_some, List.all_map]
  rfl
theorem if_no {t : Sb} {a : Ss} {ρ : Ro} {μ : Mu} (e : t ρ μ = some (false, μ)) : sIf t a sSkip ρ μ = some (.nx, ρ, μ) := by simp [e]
theorem or_ff {s t : Sb} {ρ : Ro} {μ : Mu} (e : s ρ μ = some (false, μ)) (e2 : t ρ μ = some (false, μ)) : sOr s t ρ μ = some (false, μ) := by simp [e, e2]
theorem not_t {t : Sb} {b : Bool} {ρ : Ro} {μ : Mu} (e : t ρ μ = some (b, μ)) : sNot t ρ μ = some (!b, μ) := by simp [e]
theorem tst_b {m : Sm} {b : Bool} {ρ : Ro} {μ : Mu} (e : m ρ μ = some (.d (.bool b), μ)) : sTst m ρ μ = some (b, μ) := by simp [e]
theorem isi_row (l : List Int) {m : Sm} {ρ : Ro} {μ : Mu} (e : m ρ μ = some (.d (rowD l), μ)) : sTst (s1 (fIsi .tuple) m) ρ μ = some (true, μ) := by simp [e, rowD]
theorem sortI_self {l : List Int} (h : l.Pairwise (· < ·)) : sortI l = l := (rise_eq h (sortI_rise _) fun y => (sortI_mem _ y).symm).symm
theorem eqvAll_self (l : List Int) : PyData.eqvAll (l.map .int) (l.map .int) = true := by rw [eqvAll_ints]; simp
theorem zipD_self {α : Type} (f : α → PyData) (ws : List α) : zipD (ws.map f) ((ws.map f).drop 1) = (ws.zip (ws.drop 1)).map fun p => .tuple [f p.1, f p.2] := by
  unfold zipD
  rw [← List.map_drop, List.zipWith_map, List.zip, List.map_zipWith]
theorem rise_zip : ∀ {l : List Int}, l.Pairwise (· < ·) → ∀ p ∈ l.zip (l.drop 1), p.1 < p.2
  | [], _, p, h => by cases h
  | [x], _, p, h => by cases h
  | x :: y :: r, hp, p, h => by
    obtain ⟨h1, h2⟩ := List.pairwise_cons.mp hp
    have h : p ∈ (x, y) :: (y :: r).zip r := h
    rcases List.mem_cons.mp h with rfl | h
    · exact h1 y List.mem_cons_self
    · exact rise_zip h2 p h
theorem seat_in {y : Yd} {hour : Nat} {x : Int} (h : x ∈ seatsAt y hour) : 0 ≤ x ∧ x < y.n ∧ sh y x hour = true := by
  obtain ⟨h1, h2⟩ := List.mem_filter.mp h
  obtain ⟨h3, h4⟩ := mem_rng h1
  exact ⟨h3, h4, h2⟩
section
variable {y : Yd} (ok : y.Ok) (n8 : y.n ≤ 8) {n : Nat} {st : Nat → List Int} (hs : Seated y n st)
include ok n8 hs
theorem st_len {t : Nat} (ht : t < y.sun.length) : (st t).length ≤ 8 := Nat.le_trans (hs.sub t ht).length_le (seats_len n8 t)
theorem st_rise {t : Nat} (ht : t < y.sun.length) : (st t).Pairwise (· < ·) := List.Pairwise.sublist (hs.sub t ht) (seats_rise y t)
theorem are_seats_ev {t : Nat} (ht : t < y.sun.length) (μ : Mu) : g_are_seats [.d (yardD y), .d (.int t), .d (rowD (st t))] μ = some (.d (.bool true), μ) := by
  have hl := st_len ok n8 hs ht
  have hr := st_rise ok n8 hs ht
  have hm : ∀ x ∈ st t, 0 ≤ x ∧ x < y.n ∧ sh y x t = true := fun x hx => seat_in ((hs.sub t ht).subset hx)
  have c3 : ∀ a b c, C_are_seats_3 [some (.d (yardD y)), some (.d (.int t)), some (.d (rowD (st t))), a, b, c] μ = some (.d (.list ((st t).map fun _ => .bool true)), μ) := fun a b c => by
    have h : C_are_seats_3 [some (.d (yardD y)), some (.d (.int t)), some (.d (rowD (st t))), a, b, c] μ = some (mkL false (((st t).filter fun _ => true).map fun _ => .bool true) μ) := by
      refine comp_ev (s := ⟨(st t).map .int, none⟩) (st t) .int (by simp [rowD]) rfl (ok_none _) (by omega) (fun _ => true) _ (fun x hx acc => ?_)
      refine ⟨[some (.d (yardD y)), some (.d (.int t)), some (.d (rowD (st t))), some (.d (.int x)), b, c], rfl, rfl, fun _ => ?_⟩
      obtain ⟨h1, h2, _⟩ := hm x hx
      have h3 : x ≤ y.n - 1 := by omega
      rw [yardD_eq]
      simp [g_is_from, mkFn, b_is_from, h1, h3]
    rw [h, filter_yes]; rfl
  have c2 : ∀ a, C_are_seats_2 [some (.d (yardD y)), some (.d (.int t)), some (.d (rowD (st t))), a, none, none] μ = some (.d (.list (((st t).zip ((st t).drop 1)).map fun _ => .bool true)), μ) := fun a => by
    have h : C_are_seats_2 [some (.d (yardD y)), some (.d (.int t)), some (.d (rowD (st t))), a, none, none] μ = some (mkL false ((((st t).zip ((st t).drop 1)).filter fun _ => true).map fun _ => .bool true) μ) := by
      refine comp_ev (s := ⟨zipD ((st t).map .int) (((st t).map .int).drop 1), none⟩) ((st t).zip ((st t).drop 1)) (fun p => .tuple [.int p.1, .int p.2]) (by simp [rowD]) (zipD_self _ _) (ok_none _) (by rw [List.length_zip]; omega) (fun _ => true) _ (fun p hp acc => ?_)
      refine ⟨[some (.d (yardD y)), some (.d (.int t)), some (.d (rowD (st t))), a, some (.d (.int p.1)), some (.d (.int p.2))], rfl, rfl, fun _ => ?_⟩
      have := rise_zip hr p hp
      simp [this]
    rw [h, filter_yes]; rfl
  have c1 : ∀ a b c, C_are_seats_1 [some (.d (yardD y)), some (.d (.int t)), some (.d (rowD (st t))), a, b, c] μ = some (.d (.list ((st t).map fun _ => .bool true)), μ) := fun a b c => by
    have h : C_are_seats_1 [some (.d (yardD y)), some (.d (.int t)), some (.d (rowD (st t))), a, b, c] μ = some (mkL false (((st t).filter fun _ => true).map fun _ => .bool true) μ) := by
      refine comp_ev (s := ⟨(st t).map .int, none⟩) (st t) .int (by simp [rowD]) rfl (ok_none _) (by omega) (fun _ => true) _ (fun x hx acc => ?_)
      refine ⟨[some (.d (yardD y)), some (.d (.int t)), some (.d (rowD (st t))), some (.d (.int x)), b, c], rfl, rfl, fun _ => ?_⟩
      obtain ⟨h1, h2, h3⟩ := hm x hx
      have e := is_shaded_ev ok (seat := x) (hour := t) h1 (by omega) ht (μ ++ [.lst acc])
      simp [e, h3]
    rw [h, filter_yes]; rfl
  have a3 := fun a b c => all_ev (fun _ => true) (st t) (c3 a b c)
  have a2 := fun a => all_ev (fun _ => true) ((st t).zip ((st t).drop 1)) (c2 a)
  have a1 := fun a b c => all_ev (fun _ => true) (st t) (c1 a b c)
  have t1 : (st t).all (fun _ => true) = true := by simp
  have t2 : ((st t).zip ((st t).drop 1)).all (fun _ => true) = true := by simp
  rw [t1] at a3 a1
  rw [t2] at a2
  refine fn_d (ρ := [some (.d (yardD y)), some (.d (.int t)), some (.d (rowD (st t))), none, none, none]) (ρ' := [some (.d (yardD y)), some (.d (.int t)), some (.d (rowD (st t))), none, none, none]) ?_ rfl rfl
  unfold b_are_seats
  rw [seq_nx (if_no (or_ff (not_t (isi_row (st t) (by simp))) (not_t (tst_b (a3 none none none)))))]
  rw [seq_nx (if_no (not_t (tst_b (a2 none))))]
  have := a1 none none none
  simp only [sRet, this]
  rfl
theorem is_seating_ev (μ : Mu) : g_is_seating [.d (yardD y), .d (.int n), .d (rowsD st y.sun.length)] μ = some (.d (.bool true), μ) := by
  have hT := ok.sl
  have c1 : C_is_seating_1 [some (.d (yardD y)), some (.d (.int n)), some (.d (rowsD st y.sun.length)), none, none] μ = some (.d (.list ((List.range y.sun.length).map fun _ => .bool true)), μ) := by
    have h : C_is_seating_1 [some (.d (yardD y)), some (.d (.int n)), some (.d (rowsD st y.sun.length)), none, none] μ = some (mkL false (((List.range y.sun.length).filter fun _ => true).map fun _ => .bool true) μ) := by
      refine comp_ev (s := ⟨enD ((List.range y.sun.length).map fun t => rowD (st t)), none⟩) (List.range y.sun.length) (fun (t : Nat) => .tuple [.int (t : Int), rowD (st t)]) (by simp [rowsD]) (enum_range _) (ok_none _) (by rw [List.length_range]; omega) (fun _ => true) _ (fun t ht acc => ?_)
      refine ⟨[some (.d (yardD y)), some (.d (.int n)), some (.d (rowsD st y.sun.length)), some (.d (.int t)), some (.d (rowD (st t)))], rfl, rfl, fun _ => ?_⟩
      have e := are_seats_ev ok n8 hs (List.mem_range.mp ht) (μ ++ [.lst acc])
      have hl2 : ((st t).length : Int) = (n : Int) := by rw [hs.len t (List.mem_range.mp ht)]
      have hl3 := hs.len t (List.mem_range.mp ht)
      simp only [sAndV, sCall, sA, sCons, sNil, sVar, List.getElem?_cons_zero, List.getElem?_cons_succ, Option.bind_some, Option.map_some, List.length_cons, List.length_nil, e, if_true]
      simp [rowD, hl2, hl3]
    rw [h, filter_yes]; rfl
  have a1 := all_ev (fun _ => true) (List.range y.sun.length) c1
  have t1 : (List.range y.sun.length).all (fun _ => true) = true := by simp
  rw [t1] at a1
  refine fn_d (ρ := [some (.d (yardD y)), some (.d (.int n)), some (.d (rowsD st y.sun.length)), none, none]) (ρ' := [some (.d (yardD y)), some (.d (.int n)), some (.d (rowsD st y.sun.length)), none, none]) ?_ rfl rfl
  unfold b_is_seating
  rw [seq_nx (ρ' := [some (.d (yardD y)), some (.d (.int n)), some (.d (rowsD st y.sun.length)), none, none]) (μ' := μ) (by rw [yardD_eq]; simp [rowsD])]
  simp only [sRet, a1]
  rfl
end
end Sh
namespace Sh
/-! ### first seats given -/
def firstS (S : Nat → List Int) (F : List Int) : Nat → List Int
  | 0 => F
  | t + 1 => S (t + 1)
theorem lots_self {F : List Int} (h : F.Nodup) : lotsL F.length F = [F] := by
  have h1 := lots_nodup F.length F h
  have h2 : ∀ l ∈ lotsL F.length F, l = F := fun l hl => (lots_mem.mp hl).1.eq_of_length (lots_mem.mp hl).2
  have h3 : F ∈ lotsL F.length F := lots_mem.mpr ⟨List.Sublist.refl _, rfl⟩
  generalize lotsL F.length F = ls at h1 h2 h3
  cases ls with
  | nil => cases h3
  | cons a r =>
    have ea := h2 a List.mem_cons_self
    cases r with
    | nil => rw [ea]
    | cons b r =>
      have eb := h2 b (by simp)
      subst ea
      exact absurd (by rw [eb]; simp) (List.nodup_cons.mp h1).1
theorem sub_filter : ∀ {F xs : List Int}, F.Sublist xs → xs.Nodup → F = xs.filter fun x => F.contains x
  | _, _, .slnil, _ => rfl
  | F, x :: xs, .cons _ h, hn => by
    obtain ⟨n1, n2⟩ := List.nodup_cons.mp hn
    have hx : F.contains x = false := by
      cases c : F.contains x with
      | false => rfl
      | true => exact absurd (h.subset (List.contains_iff_mem.mp c)) n1
    rw [List.filter_cons_of_neg (by rw [hx]; exact Bool.false_ne_true)]
    exact sub_filter h n2
  | x :: F, _ :: xs, .cons_cons _ h, hn => by
    obtain ⟨n1, n2⟩ := List.nodup_cons.mp hn
    have ih := sub_filter h n2
    rw [List.filter_cons_of_pos (by simp)]
    congr 1
    refine ih.trans (List.filter_congr fun y hy => ?_)
    rw [List.contains_cons]
    have : (y == x) = false := by
      rw [beq_eq_false_iff_ne]
      intro q
      exact n1 (q ▸ hy)
    rw [this, Bool.false_or]
/-- N is the least number of sittings -/
def Least (S : Nat → List Int) (n T : Nat) (N : Int) : Prop := (∃ R rs, Sit S n (T - 1) (R :: rs) (N - n)) ∧ ∀ R rs g, Sit S n (T - 1) (R :: rs) g → N ≤ (n : Int) + g
theorem number_least {S : Nat → List Int} (hS : ∀ t, (S t).Nodup) {n T : Nat} (hT : 1 ≤ T) (hn : ∀ t, t < T → n ≤ (S t).length) {N : Int} {b : List Int} (hb : b ∈ lotsL n (S (T - 1))) (h1 : IsB S n (T - 1) b N)
    (h2 : ∀ c w, c ∈ lotsL n (S (T - 1)) → IsB S n (T - 1) c w → N ≤ w) : Least S n T N := by
  obtain ⟨rs, hs⟩ := IsB.sit hS h1 hb
  refine ⟨⟨b, rs, hs⟩, fun R rs' g d1 => ?_⟩
  obtain ⟨r1, r2, r3, r4⟩ := d1.top
  have pm := canon_perm (hS (T - 1)) r1 r2
  have hm : canon (S (T - 1)) R ∈ lotsL n (S (T - 1)) := lots_mem.mpr ⟨List.filter_sublist, pm.length_eq.trans r3⟩
  obtain ⟨v, hv⟩ := IsB.ex (S := S) (n := n) (T - 1) (fun u hu => hn u (by omega)) (canon (S (T - 1)) R)
  have l1 := low hS (fun u hu => hn u (by omega)) d1 v hv
  have l2 := h2 _ _ hm hv
  omega
theorem Sit.mono {S S' : Nat → List Int} {n : Nat} (h : ∀ t, ∀ x ∈ S t, x ∈ S' t) {t : Nat} {Rs : List (List Int)} {g : Int} (s : Sit S n t Rs g) : Sit S' n t Rs g := by
  induction s with
  | one h1 h2 h3 => exact .one h1 (fun x hx => h 0 x (h2 x hx)) h3
  | step s h1 h2 h3 ih => exact .step ih h1 (fun x hx => h _ x (h2 x hx)) h3
theorem Sit.bottom {S : Nat → List Int} {n t : Nat} {Rs : List (List Int)} {g : Int} (s : Sit S n t Rs g) : ∃ R0 : List Int, R0.Nodup ∧ (∀ x ∈ R0, x ∈ S 0) ∧ R0.length = n ∧ ∀ F : List Int, (∀ x ∈ R0, x ∈ F) → Sit (firstS S F) n t Rs g := by
  induction s with
  | @one R h1 h2 h3 => exact ⟨R, h1, h2, h3, fun F hF => .one h1 hF h3⟩
  | step s h1 h2 h3 ih =>
    obtain ⟨R0, a, b, c, d⟩ := ih
    exact ⟨R0, a, b, c, fun F hF => .step (d F hF) h1 h2 h3⟩
theorem Sit.swap {S : Nat → List Int} {n : Nat} {F : List Int} (hF : F.Nodup) (hn : F.length = n) {t : Nat} {R : List Int} {rs : List (List Int)} {g : Int} (s : Sit S n t (R :: rs) g) :
    ∃ R' rs' g', Sit (firstS S F) n t (R' :: rs') g' ∧ g' ≤ g + n ∧ (t = 0 → R' = F ∧ g' = 0) ∧ (0 < t → R' = R) := by
  generalize e : R :: rs = Rs at s
  induction s generalizing R rs with
  | one h1 h2 h3 => exact ⟨F, [], 0, .one hF (fun x hx => hx) hn, by omega, fun _ => ⟨rfl, rfl⟩, fun h => by omega⟩
  | @step t R0 R1 rs0 g0 s h1 h2 h3 ih =>
    cases e
    obtain ⟨R', rs', g', a, b, c, d⟩ := ih rfl
    have g0n := s.top.2.2.2
    refine ⟨R1, R' :: rs', _, .step a h1 h2 h3, ?_, fun h => by omega, fun _ => rfl⟩
    by_cases z : t = 0
    · obtain ⟨c1, c2⟩ := c z
      have := List.countP_le_length (p := fun x => !R'.contains x) (l := R1)
      rw [h3] at this
      have h0 : (0 : Int) ≤ (R1.countP fun x => !R0.contains x : Nat) := Int.natCast_nonneg _
      omega
    · rw [d (by omega)]
      omega
theorem first_ge {S : Nat → List Int} {n T : Nat} {N M : Int} {F : List Int} (hF : ∀ x ∈ F, x ∈ S 0) (h : Least S n T N) (h' : Least (firstS S F) n T M) : N ≤ M := by
  obtain ⟨⟨R, rs, s⟩, _⟩ := h'
  have := h.2 R rs _ (s.mono (S' := S) fun t x hx => by
    cases t with
    | zero => exact hF x hx
    | succ t => exact hx)
  omega
theorem first_eq {S : Nat → List Int} (hS : ∀ t, (S t).Nodup) {n T : Nat} {N : Int} (h : Least S n T N) : ∃ F ∈ lotsL n (S 0), ∀ M, Least (firstS S F) n T M → M ≤ N := by
  obtain ⟨⟨R, rs, s⟩, _⟩ := h
  obtain ⟨R0, a, b, c, d⟩ := s.bottom
  have pm := canon_perm (hS 0) a b
  refine ⟨canon (S 0) R0, lots_mem.mpr ⟨List.filter_sublist, pm.length_eq.trans c⟩, fun M hM => ?_⟩
  have := hM.2 R rs _ (d (canon (S 0) R0) fun x hx => (canon_mem b x).mpr hx)
  omega
theorem first_le {S : Nat → List Int} {n T : Nat} {N M : Int} {F : List Int} (hF : F.Nodup) (hn : F.length = n) (h : Least S n T N) (h' : Least (firstS S F) n T M) : M ≤ N + n := by
  obtain ⟨⟨R, rs, s⟩, _⟩ := h
  obtain ⟨R', rs', g', a, b, _, _⟩ := s.swap hF hn
  have := h'.2 R' rs' g' a
  omega
/-! ### the stretches that count -/
def adjR (F : List Int) (s : Int) (r : Int × Int) : Int × Int := if r.1 = 0 ∧ F.contains s = false then (1, r.2) else r
theorem runs_nonneg (hs : List Int) (h : ∀ x ∈ hs, 0 ≤ x) : ∀ p ∈ runsL hs, 0 ≤ p.1 := by
  have key : ∀ (hs : List Int) (acc : List (Int × Int)), (∀ x ∈ hs, 0 ≤ x) → (∀ p ∈ acc, 0 ≤ p.1) → ∀ p ∈ hs.foldl runStep acc, 0 ≤ p.1 := by
    intro hs
    induction hs with
    | nil => intro acc _ h; exact h
    | cons x hs ih =>
      intro acc hx h
      have x0 := hx x List.mem_cons_self
      refine ih _ (fun y hy => hx y (List.mem_cons_of_mem _ hy)) ?_
      intro p hp
      unfold runStep at hp
      split at hp
      · rename_i q hq
        have hq2 := h q (List.mem_of_getLast? hq)
        split at hp
        · rcases List.mem_append.mp hp with hp | hp
          · exact h p (List.dropLast_subset _ hp)
          · rw [List.mem_singleton.mp hp]; exact hq2
        · rcases List.mem_append.mp hp with hp | hp
          · exact h p hp
          · rw [List.mem_singleton.mp hp]; exact x0
      · rw [List.mem_singleton.mp hp]; exact x0
  exact key hs [] h (fun p h => by cases h)
theorem upto_nonneg (p : Nat → Bool) (T : Nat) : ∀ x ∈ upto p T, 0 ≤ x := by
  intro x hx
  have := (List.mem_filter.mp hx).1
  unfold nums at this
  obtain ⟨i, _, rfl⟩ := List.mem_map.mp this
  omega
def noFirst (p : Nat → Bool) (t : Nat) : Bool := decide (t ≠ 0) && p t
def cut1 (r : Int × Int) : Int × Int := if r.1 = 0 then (1, r.2) else r
theorem runs_prs1 (p : Nat → Bool) (T : Nat) (L : List Nat) (hp : L.Pairwise (· < ·)) (hl : ∀ x ∈ L, x < T) :
    ((runsL (upto p T)).map fun r => L.countP (inR (cut1 r)) - 1).sum = prs (fun l m => decide (∀ h, h < m + 1 → l ≤ h → noFirst p h = true)) L := by
  have e : ((runsL (upto p T)).map fun r => L.countP (inR (cut1 r)) - 1) = (runsL (upto p T)).map fun r => prs (fun l m => decide ((cut1 r).1 ≤ (l : Int)) && decide ((m : Int) ≤ (cut1 r).2)) L :=
    List.map_congr_left fun r _ => run_prs (cut1 r) L hp
  rw [e, sum_prs (α := Int × Int) (fun (r : Int × Int) (l m : Nat) => decide ((cut1 r).1 ≤ (l : Int)) && decide ((m : Int) ≤ (cut1 r).2)) L, prs_prN]
  refine prN_congr (T := T) (fun l m h1 h2 => ?_) L hp hl
  have nn := runs_nonneg _ (upto_nonneg p T)
  by_cases z : l = 0
  · subst z
    have a : decide (∀ h, h < m + 1 → 0 ≤ h → noFirst p h = true) = false := by
      rw [decide_eq_false_iff_not]
      intro q
      have := q 0 (by omega) (by omega)
      simp [noFirst] at this
    rw [a, List.countP_eq_zero.mpr]
    · simp
    · intro r hr q
      have := nn r hr
      simp only [Bool.and_eq_true, decide_eq_true_eq] at q
      obtain ⟨q1, _⟩ := q
      unfold cut1 at q1
      split at q1
      · simp at q1
      · have : r.1 ≤ 0 := q1; omega
  · have c := (rinv p T).cnt l m (by omega) h2
    have e1 : (runsL (upto p T)).countP (fun r => decide ((cut1 r).1 ≤ (l : Int)) && decide ((m : Int) ≤ (cut1 r).2)) = (runsL (upto p T)).countP (fun r => decide (r.1 ≤ (l : Int)) && decide ((m : Int) ≤ r.2)) := by
      refine List.countP_congr fun r hr => ?_
      have := nn r hr
      unfold cut1
      split
      · rename_i h0
        simp only [Bool.and_eq_true, decide_eq_true_eq]
        constructor
        · rintro ⟨a, b⟩; exact ⟨by omega, b⟩
        · rintro ⟨a, b⟩; exact ⟨by omega, b⟩
      · rfl
    rw [e1, c]
    have e2 : (∀ h, h < m + 1 → l ≤ h → p h = true) ↔ (∀ h, h < m + 1 → l ≤ h → noFirst p h = true) := by
      constructor
      · intro q h a b
        have := q h a b
        have : h ≠ 0 := by omega
        simp [noFirst, *]
      · intro q h a b
        have := q h a b
        simp [noFirst] at this
        exact this.2
    by_cases q : ∀ h, h < m + 1 → l ≤ h → p h = true
    · rw [if_pos q, decide_eq_true (e2.mp q)]; rfl
    · rw [if_neg q, decide_eq_false (fun z => q (e2.mpr z))]; rfl
/-- as shows_wt, told by what each seat brings -/
theorem shows_wtG (Ss : List Int) (f : Int → Nat → Bool) (W : Int → Nat) (n T : Nat) (L : List Nat) (h0 : L ≠ []) (hp : L.Pairwise (· < ·)) (hl : ∀ x ∈ L, x < T)
    (hW : ∀ s ∈ Ss, W s = prs (fun l m => decide (∀ h, h < m + 1 → l ≤ h → f s h = true)) L) :
    (n : Int) * (L.length : Int) - ((Ss.map W).sum : Nat) = (n : Int) + wt (fun t => Ss.filter fun s => f s t) n L.reverse := by
  have e : Ss.map W = Ss.map fun s => prs (fun l m => decide (∀ h, h < m + 1 → l ≤ h → f s h = true)) L := List.map_congr_left hW
  rw [e, sum_prs (α := Int) (fun (s : Int) (l m : Nat) => decide (∀ h, h < m + 1 → l ≤ h → f s h = true)) L]
  have e2 : prN (fun l m => Ss.countP fun s => decide (∀ h, h < m + 1 → l ≤ h → f s h = true)) L = prN (cc fun t => Ss.filter fun s => f s t) L :=
    prN_congr (T := T) (fun l m h1 h2 => (cc_cnt (by omega)).symm) L hp hl
  rw [e2]
  have := wt_rev (S := fun t => Ss.filter fun s => f s t) (n := n) L h0
  omega
/-- the stretches of all seats that count -/
def spFs (P T : Nat) (f : Int → Nat → Bool) (F : List Int) : List (Int × Int) := (nums P).flatMap fun s => (runsL (upto (f s) T)).map (adjR F s)
def fF (f : Int → Nat → Bool) (F : List Int) (s : Int) (t : Nat) : Bool := if t = 0 then F.contains s else f s t
theorem firstS_filter {P : Nat} {f : Int → Nat → Bool} {F : List Int} (hF : F.Sublist ((nums P).filter fun s => f s 0)) : firstS (fun t => (nums P).filter fun s => f s t) F = fun t => (nums P).filter fun s => fF f F s t := by
  funext t
  cases t with
  | zero => exact sub_filter (hF.trans List.filter_sublist) (nums_nodup P)
  | succ t =>
    refine List.filter_congr fun s _ => ?_
    unfold fF
    rw [if_neg (by omega)]
theorem shN_wtF (P : Nat) (f : Int → Nat → Bool) (F : List Int) (hF : F.Sublist ((nums P).filter fun s => f s 0)) (n T : Nat) (L : List Nat) (h0 : L ≠ []) (hp : L.Pairwise (· < ·)) (hl : ∀ x ∈ L, x < T) :
    shN (spFs P T f F) n (L.map fun (i : Nat) => (i : Int)) = (n : Int) + wt (firstS (fun t => (nums P).filter fun s => f s t) F) n L.reverse := by
  rw [firstS_filter hF]
  have := shows_wtG (nums P) (fF f F) (fun s => ((runsL (upto (f s) T)).map fun r => L.countP (inR (adjR F s r)) - 1).sum) n T L h0 hp hl (fun s _ => by
    cases c : F.contains s with
    | true =>
      have hs0 : f s 0 = true := (List.mem_filter.mp (hF.subset (List.contains_iff_mem.mp c))).2
      have e1 : ((runsL (upto (f s) T)).map fun r => L.countP (inR (adjR F s r)) - 1) = (runsL (upto (f s) T)).map fun r => L.countP (inR r) - 1 := by
        refine List.map_congr_left fun r _ => ?_
        unfold adjR
        rw [if_neg (by rintro ⟨_, q⟩; rw [c] at q; cases q)]
      have e2 : fF f F s = f s := by
        funext t
        unfold fF
        by_cases z : t = 0
        · subst z; rw [if_pos rfl, c, hs0]
        · rw [if_neg z]
      rw [e1, e2]
      exact runs_prs (f s) T L hp hl
    | false =>
      have e1 : ((runsL (upto (f s) T)).map fun r => L.countP (inR (adjR F s r)) - 1) = (runsL (upto (f s) T)).map fun r => L.countP (inR (cut1 r)) - 1 := by
        refine List.map_congr_left fun r _ => ?_
        have : adjR F s r = cut1 r := by
          unfold adjR cut1
          by_cases z : r.1 = 0
          · rw [if_pos ⟨z, c⟩, if_pos z]
          · rw [if_neg (fun q => z q.1), if_neg z]
        rw [this]
      have e2 : fF f F s = noFirst (f s) := by
        funext t
        unfold fF noFirst
        by_cases z : t = 0
        · subst z; rw [if_pos rfl, c]; rfl
        · simp [z]
      rw [e1, e2]
      exact runs_prs1 (f s) T L hp hl)
  unfold shN spFs
  rw [List.length_map, sum_flat, ← this]
  congr 2
  congr 1
  refine List.map_congr_left fun s _ => ?_
  rw [List.map_map]
  congr 1
  refine List.map_congr_left fun r _ => ?_
  show ins (adjR F s r) _ - 1 = _
  rw [ins_map]
/-- the number told is the greatest that a lot shows: any stretches that show as the rows do -/
theorem shows_maxG {S : Nat → List Int} (hS : ∀ t, (S t).Nodup) (sp : List (Int × Int)) {n T : Nat} (hT : 1 ≤ T) (hn : ∀ t, t < T → n ≤ (S t).length) {N : Int} {b : List Int} (hb : b ∈ lotsL n (S (T - 1)))
    (h1 : IsB S n (T - 1) b N) (h2 : ∀ c w, c ∈ lotsL n (S (T - 1)) → IsB S n (T - 1) c w → N ≤ w)
    (hw : ∀ L : List Nat, L ≠ [] → L.Pairwise (· < ·) → (∀ x ∈ L, x < T) → shN sp n (L.map fun (i : Nat) => (i : Int)) = (n : Int) + wt S n L.reverse) :
    (∀ l ∈ allL T, showsV sp n l ≤ N) ∧ (∃ l ∈ allL T, showsV sp n l = N) ∧ (n : Int) ≤ N := by
  obtain ⟨⟨L, l1, l2, l3, l4⟩, m, k⟩ := number_dual (S := S) hS hT hn hb h1 h2
  refine ⟨fun l hl => ?_, ?_, k⟩
  · obtain ⟨A, rfl, hA⟩ := nums_sub (allL_mem.mp hl)
    unfold showsV
    by_cases c : A = []
    · subst c
      have : shN sp n (([] : List Nat).map fun (i : Nat) => (i : Int)) ≤ 0 := by
        unfold shN
        simp
      rw [if_neg (by omega)]
      omega
    · obtain ⟨a1, a2⟩ := range_pw hA
      have e := hw A c a1 a2
      have w := m A.reverse (List.pairwise_reverse.mpr a1) (fun x hx => a2 x (List.mem_reverse.mp hx))
      split <;> omega
  · have p1 : L.reverse.Pairwise (· < ·) := by
      rw [List.pairwise_reverse]; exact l2
    have p2 : ∀ x ∈ L.reverse, x < T := fun x hx => l3 x (List.mem_reverse.mp hx)
    refine ⟨L.reverse.map fun (i : Nat) => (i : Int), allL_mem.mpr ?_, ?_⟩
    · exact (range_sub p1 p2).map _
    · have e := hw L.reverse (by simpa using l1) p1 p2
      rw [List.reverse_reverse] at e
      unfold showsV
      split <;> omega
end Sh
set_option Elab.async false
set_option linter.all false
set_option maxRecDepth 100000
set_option maxHeartbeats 1000000
namespace Sh
open PySem L2 PyProof.Rows
/-! ### what a lot shows -/
theorem call_ev {n : Nat} {g : Fn} {a : Sa} {ρ : Ro} {μ μ1 μ2 : Mu} {rs : List Rv} {r : Rv} (e : a ρ μ = some (rs, μ1)) (h : rs.length = n) (eg : g rs μ1 = some (r, μ2)) : sCall n g a ρ μ = some (r, μ2) := by
  unfold sCall sA
  rw [e]
  simp only [Option.bind_some]
  rw [if_pos h, eg]
theorem ret_ev {m : Sm} {ρ : Ro} {μ μ2 : Mu} {r : Rv} (e : m ρ μ = some (r, μ2)) : sRet m ρ μ = some (.rt r, ρ, μ2) := by
  unfold sRet
  rw [e]; rfl
theorem cons_ev {a : Sm} {b : Sa} {ρ : Ro} {μ μ1 μ2 : Mu} {r : Rv} {rs : List Rv} (e : a ρ μ = some (r, μ1)) (e2 : b ρ μ1 = some (rs, μ2)) : sCons a b ρ μ = some (r :: rs, μ2) := by
  unfold sCons
  rw [e]
  simp only [Option.bind_some]
  rw [e2]; rfl
theorem nil_ev {ρ : Ro} {μ : Mu} : sNil ρ μ = some ([], μ) := rfl
theorem tup2_ev {a b : Sm} {ρ : Ro} {μ : Mu} {x y : PyData} (e : a ρ μ = some (.d x, μ)) (e2 : b ρ μ = some (.d y, μ)) : sA fTup (sCons a (sCons b sNil)) ρ μ = some (.d (.tuple [x, y]), μ) := by
  unfold sA
  rw [cons_ev e (cons_ev e2 nil_ev)]
  rfl
theorem runs_le (hs : List Int) : ∀ p ∈ runsL hs, p.1 ≤ p.2 := by
  have key : ∀ (hs : List Int) (acc : List (Int × Int)), (∀ p ∈ acc, p.1 ≤ p.2) → ∀ p ∈ hs.foldl runStep acc, p.1 ≤ p.2 := by
    intro hs
    induction hs with
    | nil => intro acc h; exact h
    | cons x hs ih =>
      intro acc h
      refine ih _ ?_
      intro p hp
      unfold runStep at hp
      split at hp
      · rename_i q hq
        have hq2 := h q (List.mem_of_getLast? hq)
        split at hp
        · rename_i c
          rcases List.mem_append.mp hp with hp | hp
          · exact h p (List.dropLast_subset _ hp)
          · rw [List.mem_singleton.mp hp]
            simp at c ⊢
            omega
        · rcases List.mem_append.mp hp with hp | hp
          · exact h p hp
          · rw [List.mem_singleton.mp hp]; exact Int.le_refl _
      · rw [List.mem_singleton.mp hp]; exact Int.le_refl _
  exact key hs [] (fun p h => by cases h)
def spP (y : Yd) : List (Int × Int) := (spansL y).map (·.2)
theorem spP_eq (y : Yd) : spP y = spR y.n.toNat y.sun.length (sh y) := by
  unfold spP spansL spansTo spR
  rw [List.map_flatMap]
  congr 1
  funext s
  unfold spansAt
  rw [List.map_map]
  show (runsL (hoursAt y s)).map (fun p => p) = _
  rw [List.map_id']
  rfl
theorem spansL_le {y : Yd} : ∀ p ∈ spansL y, p.2.1 ≤ p.2.2 := by
  intro p hp
  unfold spansL spansTo at hp
  obtain ⟨s, _, hp⟩ := List.mem_flatMap.mp hp
  obtain ⟨q, hq, rfl⟩ := List.mem_map.mp hp
  exact runs_le _ q hq
theorem spansL_len {y : Yd} (ok : y.Ok) (n8 : y.n ≤ 8) (s8 : y.sun.length ≤ 8) : (spansL y).length ≤ 64 := by
  have h := spansTo_len y (nums y.n.toNat)
  rw [nums_len] at h
  have h1 : y.n.toNat ≤ 8 := by omega
  have h2 := Nat.mul_le_mul h1 s8
  unfold spansL
  omega
theorem counted_ev {y : Yd} (ok : y.Ok) (n8 : y.n ≤ 8) (s8 : y.sun.length ≤ 8) (μ : Mu) : g_counted [.d (yardD y), .d .none] μ = some (.d (.list ((spP y).map prD)), μ) := by
  have hl := spansL_len ok n8 s8
  have hs := stretches_ev ok μ
  have hs' := stretches_ev ok (μ ++ [.lst []])
  obtain ⟨f, ρ', μ', e, h⟩ := for_ev (m := sIt (sCall 1 g_stretches (sCons (sVar 0) sNil))) (t := .tp [3, 4, 5]) (body := l_counted_1) (ρ := [some (.d (yardD y)), some (.d .none), some (.m μ.length), none, none, none]) (μ := μ ++ [.lst []]) (μ1 := μ ++ [.lst []]) (s := ⟨(spansL y).map triD, none⟩) (spansL y) triD (by simp [hs']) rfl
    (fun j ρ μ' => (∃ a b c, ρ = [some (.d (yardD y)), some (.d .none), some (.m μ.length), a, b, c]) ∧ μ' = μ ++ [.lst ((((spansL y).take j).map (·.2)).map prD)]) (fun _ _ => False) ⟨⟨_, _, _, rfl⟩, rfl⟩ (by
      rintro j p ρ μ' hj ⟨⟨a, b, c, rfl⟩, rfl⟩
      have hp := spansL_le p (List.mem_of_getElem? hj)
      have hk : (((spansL y).take j).map (·.2)).length ≤ 64 := by rw [List.length_map, List.length_take]; omega
      rw [take_snoc hj, List.map_append, List.map_append]
      generalize ((spansL y).take j).map (·.2) = acc at hk
      have st : l_counted_1 [some (.d (yardD y)), some (.d .none), some (.m μ.length), some (.d (.int p.1)), some (.d (.int p.2.1)), some (.d (.int p.2.2))] (μ ++ [.lst (acc.map prD)]) = some (.nx, [some (.d (yardD y)), some (.d .none), some (.m μ.length), some (.d (.int p.1)), some (.d (.int p.2.1)), some (.d (.int p.2.2))], μ ++ [.lst (acc.map prD ++ [p.2].map prD)]) := by
        unfold l_counted_1
        simp [hp, prD]
        omega
      exact ⟨_, .nx, _, _, rfl, st, by simp [chkB_none], by simp, by simp⟩)
  have hn : f = .nx := by cases f <;> simp at h <;> rfl
  subst hn
  obtain ⟨⟨a, b, c, rfl⟩, rfl⟩ := h
  rw [List.take_length] at e
  have e : L_counted_1 [some (.d (yardD y)), some (.d .none), some (.m μ.length), none, none, none] (μ ++ [.lst []]) = _ := e
  refine fn_dm (ρ := [some (.d (yardD y)), some (.d .none), none, none, none, none]) ?_ rfl rfl
  unfold b_counted
  rw [seq_nx (ρ' := [some (.d (yardD y)), some (.d .none), some (.m μ.length), none, none, none]) (μ' := μ ++ [.lst []]) (by simp), seq_nx e]
  have es : ((spansL y).map (·.2)).map prD = (spP y).map prD := rfl
  rw [es]
  refine ⟨[some (.d (yardD y)), some (.d .none), some (.m μ.length), a, b, c], μ ++ [.dead], ?_, by simp⟩
  simp
theorem mul_len_ev (q : Int) (hb : b64 q = true) (a : Sm) (i : Nat) (l : List Int) (ρ : Ro) (μ : Mu) (ha : a ρ μ = some (.d (.int q), μ)) (hi : sVar i ρ μ = some (.d (rowD l), μ)) : s2 fMul a (sA fLen (sCons (sVar i) sNil)) ρ μ = some (.d (.int (q * (l.length : Int))), μ) := by
  simp only [s2, sA, sCons, sNil, ha, hi, Option.bind_some]
  simp [rowD, hb]
theorem asg_nm {m : Sm} {i : Nat} {d : PyData} {ρ : Ro} {μ : Mu} (e : m ρ μ = some (.d d, μ)) : sAsg m (.nm i) ρ μ = some (.nx, ρ.set i (some (.d d)), μ) := by
  unfold sAsg
  rw [e]
  rfl
theorem max0_ev (k : Nat) : (if (k : Int) - 1 > 0 then (k : Int) - 1 else 0) = ((k - 1 : Nat) : Int) := by
  split <;> omega
def partN (sp : List (Int × Int)) (l : List Int) : Nat := (sp.map fun p => ins p l - 1).sum
theorem partN_snoc (sp : List (Int × Int)) (p : Int × Int) (l : List Int) : partN (sp ++ [p]) l = partN sp l + (ins p l - 1) := by
  unfold partN
  rw [List.map_append, List.sum_append]
  simp
theorem shN_part (sp : List (Int × Int)) (n : Nat) (l : List Int) : shN sp n l = (n : Int) * (l.length : Int) - (partN sp l : Int) := rfl
theorem shows_ev (sp : List (Int × Int)) (n : Nat) (l : List Int) (hn8 : n ≤ 1000) (hl : l.length ≤ 1000) (μ : Mu) : g_shows [.d (.int n), .d (.list (sp.map prD)), .d (rowD l)] μ = some (.d (.int (showsV sp n l)), μ) := by
  obtain ⟨f, ρ', μ', e, h⟩ := for_ev (m := sIt (sVar 1)) (t := .tp [4, 5]) (body := l_shows_1) (ρ := [some (.d (.int n)), some (.d (.list (sp.map prD))), some (.d (rowD l)), some (.d (.int ((n : Int) * (l.length : Int)))), none, none, none, none]) (μ := μ) (μ1 := μ) (s := ⟨sp.map prD, none⟩) sp prD (by simp) rfl
    (fun j ρ μ' => (∃ a b c, ρ = [some (.d (.int n)), some (.d (.list (sp.map prD))), some (.d (rowD l)), some (.d (.int ((n : Int) * (l.length : Int) - (partN (sp.take j) l : Int)))), a, b, c, none]) ∧ μ' = μ) (fun _ _ => False) ⟨⟨none, none, none, by simp [partN]⟩, rfl⟩ (by
      rintro j p ρ μ' hj ⟨⟨a, b, c, rfl⟩, rfl⟩
      rw [take_snoc hj, partN_snoc]
      generalize partN (sp.take j) l = k
      have hc : ∀ X : Int, C_shows_1 [some (.d (.int n)), some (.d (.list (sp.map prD))), some (.d (rowD l)), some (.d (.int X)), some (.d (.int p.1)), some (.d (.int p.2)), c, none] μ' = some (.d (.list ((l.filter (inP p)).map .int)), μ') := fun X => by
        have h : C_shows_1 [some (.d (.int n)), some (.d (.list (sp.map prD))), some (.d (rowD l)), some (.d (.int X)), some (.d (.int p.1)), some (.d (.int p.2)), c, none] μ' = some (mkL false ((l.filter (inP p)).map .int) μ') := by
          refine comp_ev (s := ⟨l.map .int, none⟩) l .int (by simp [rowD]) rfl (ok_none _) (by omega) (inP p) .int (fun x hx acc => ?_)
          refine ⟨[some (.d (.int n)), some (.d (.list (sp.map prD))), some (.d (rowD l)), some (.d (.int X)), some (.d (.int p.1)), some (.d (.int p.2)), c, some (.d (.int x))], rfl, ?_, fun _ => by simp⟩
          by_cases h1 : p.1 ≤ x
          · by_cases h2 : x ≤ p.2
            · simp [inP, h1, h2]
            · simp [inP, h1, h2]
          · simp [inP, h1]
        exact h
      have st : l_shows_1 [some (.d (.int n)), some (.d (.list (sp.map prD))), some (.d (rowD l)), some (.d (.int ((n : Int) * (l.length : Int) - (k : Int)))), some (.d (.int p.1)), some (.d (.int p.2)), c, none] μ' = some (.nx, [some (.d (.int n)), some (.d (.list (sp.map prD))), some (.d (rowD l)), some (.d (.int ((n : Int) * (l.length : Int) - ((k + (ins p l - 1) : Nat) : Int)))), some (.d (.int p.1)), some (.d (.int p.2)), some (.d (.int (ins p l))), none], μ') := by
        unfold l_shows_1
        rw [seq_nx (ρ' := [some (.d (.int n)), some (.d (.list (sp.map prD))), some (.d (rowD l)), some (.d (.int ((n : Int) * (l.length : Int) - (k : Int)))), some (.d (.int p.1)), some (.d (.int p.2)), some (.d (.int (ins p l))), none]) (μ' := μ') (by simp [hc, ins])]
        have m := max0_ev (ins p l)
        have e1 : (n : Int) * (l.length : Int) - ((k + (ins p l - 1) : Nat) : Int) = (n : Int) * (l.length : Int) - (k : Int) - ((ins p l - 1 : Nat) : Int) := by omega
        rw [e1, ← m]
        simp
      exact ⟨_, .nx, _, _, rfl, st, by simp [chkB_none], by simp, by simp⟩)
  have hn : f = .nx := by cases f <;> simp at h <;> rfl
  subst hn
  obtain ⟨⟨a, b, c, rfl⟩, rfl⟩ := h
  rw [List.take_length] at e
  have e : L_shows_1 [some (.d (.int n)), some (.d (.list (sp.map prD))), some (.d (rowD l)), some (.d (.int ((n : Int) * (l.length : Int)))), none, none, none, none] μ' = _ := e
  have hb : b64 (n : Int) = true := small_b64 (by omega) (by omega)
  refine fn_d (ρ := [some (.d (.int n)), some (.d (.list (sp.map prD))), some (.d (rowD l)), none, none, none, none, none]) (ρ' := [some (.d (.int n)), some (.d (.list (sp.map prD))), some (.d (rowD l)), some (.d (.int (shN sp n l))), a, b, c, none]) ?_ rfl rfl
  unfold b_shows
  rw [seq_nx (asg_nm (mul_len_ev (n : Int) hb (sVar 0) 2 l [some (.d (.int n)), some (.d (.list (sp.map prD))), some (.d (rowD l)), none, none, none, none, none] μ' (by simp) (by simp)))]
  simp only [List.set_cons_succ, List.set_cons_zero]
  rw [seq_nx e, ← shN_part]
  unfold showsV
  simp
end Sh
namespace Sh
open PySem L2 PyProof.Rows
/-! ### first seats given -/
def adjT (F : List Int) (p : Int × Int × Int) : Int × Int := adjR F p.1 p.2
def spA (y : Yd) (F : List Int) : List (Int × Int) := (spansL y).map (adjT F)
def spC (y : Yd) (F : List Int) : List (Int × Int) := (spA y F).filter fun r => decide (r.1 ≤ r.2)
theorem spA_eq (y : Yd) (F : List Int) : spA y F = spFs y.n.toNat y.sun.length (sh y) F := by
  unfold spA spansL spansTo spFs
  rw [List.map_flatMap]
  congr 1
  funext s
  unfold spansAt
  rw [List.map_map]
  rfl
theorem partN_cut (l : List Int) : ∀ sp : List (Int × Int), partN (sp.filter fun r => decide (r.1 ≤ r.2)) l = partN sp l
  | [] => rfl
  | r :: sp => by
    have ih := partN_cut l sp
    by_cases c : r.1 ≤ r.2
    · rw [List.filter_cons_of_pos (by simpa using c)]
      unfold partN at ih ⊢
      rw [List.map_cons, List.sum_cons, ih, List.map_cons, List.sum_cons]
    · rw [List.filter_cons_of_neg (by simpa using c)]
      have z : ins r l = 0 := by
        unfold ins
        rw [List.length_eq_zero_iff, List.filter_eq_nil_iff]
        intro x _
        unfold inP
        simp
        omega
      rw [ih]
      unfold partN
      rw [List.map_cons, List.sum_cons, z]
      simp
theorem showsV_cut (y : Yd) (F : List Int) (n : Nat) (l : List Int) : showsV (spC y F) n l = showsV (spA y F) n l := by
  unfold showsV
  rw [shN_part, shN_part]
  unfold spC
  rw [partN_cut]
theorem in_row (x : Int) (F : List Int) (μ : Mu) : fIn true μ (.d (.int x)) (.d (rowD F)) = some (.d (.bool (!F.contains x)), μ) := by
  have h1 := any_ints x F
  have h2 := flat_ints F
  unfold fIn
  simp only [rd, rowD, Option.bind_some, itemsD, flatD, h1, h2, Bool.and_self, if_true]
theorem counted_evF {y : Yd} (ok : y.Ok) (n8 : y.n ≤ 8) (s8 : y.sun.length ≤ 8) (F : List Int) (μ : Mu) : g_counted [.d (yardD y), .d (rowD F)] μ = some (.d (.list ((spC y F).map prD)), μ) := by
  have hl := spansL_len ok n8 s8
  have hs' := stretches_ev ok (μ ++ [.lst []])
  obtain ⟨f, ρ', μ', e, h⟩ := for_ev (m := sIt (sCall 1 g_stretches (sCons (sVar 0) sNil))) (t := .tp [3, 4, 5]) (body := l_counted_1) (ρ := [some (.d (yardD y)), some (.d (rowD F)), some (.m μ.length), none, none, none]) (μ := μ ++ [.lst []]) (μ1 := μ ++ [.lst []]) (s := ⟨(spansL y).map triD, none⟩) (spansL y) triD (by simp [hs']) rfl
    (fun j ρ μ' => (∃ a b c, ρ = [some (.d (yardD y)), some (.d (rowD F)), some (.m μ.length), a, b, c]) ∧ μ' = μ ++ [.lst (((((spansL y).take j).map (adjT F)).filter fun r => decide (r.1 ≤ r.2)).map prD)]) (fun _ _ => False) ⟨⟨_, _, _, rfl⟩, rfl⟩ (by
      rintro j p ρ μ' hj ⟨⟨a, b, c, rfl⟩, rfl⟩
      have hk : ((((spansL y).take j).map (adjT F)).filter fun r => decide (r.1 ≤ r.2)).length ≤ 64 := by
        have h1 := List.length_filter_le (fun r : Int × Int => decide (r.1 ≤ r.2)) (((spansL y).take j).map (adjT F))
        rw [List.length_map, List.length_take] at h1
        omega
      rw [take_snoc hj, List.map_append, List.filter_append, List.map_append]
      generalize (((spansL y).take j).map (adjT F)).filter (fun r => decide (r.1 ≤ r.2)) = acc at hk
      have i0 := in_row p.1 F (μ ++ [.lst (acc.map prD)])
      have st1 : sIf (sAnd (sTst (s2 (fIs true) (sVar 1) (sC .none))) (sAnd (sTst (s2 (fEq false) (sVar 4) (sC (.int 0)))) (sTst (s2 (fIn true) (sVar 3) (sVar 1))))) (sAsg (sC (.int 1)) (.nm 4)) sSkip [some (.d (yardD y)), some (.d (rowD F)), some (.m μ.length), some (.d (.int p.1)), some (.d (.int p.2.1)), some (.d (.int p.2.2))] (μ ++ [.lst (acc.map prD)]) = some (.nx, [some (.d (yardD y)), some (.d (rowD F)), some (.m μ.length), some (.d (.int p.1)), some (.d (.int (adjT F p).1)), some (.d (.int (adjT F p).2))], μ ++ [.lst (acc.map prD)]) := by
        have hN : isN (rowD F) = false := rfl
        unfold adjT adjR
        by_cases c0 : p.2.1 = 0
        · cases c1 : F.contains p.1 with
          | true =>
            rw [c1] at i0
            rw [if_neg (by simp)]
            simp [-fIn, -isN, hN, c0, i0]
          | false =>
            rw [c1] at i0
            rw [if_pos ⟨c0, rfl⟩]
            simp [-fIn, -isN, hN, c0, i0]
        · have hb0 : (p.2.1 == 0) = false := by simpa using c0
          rw [if_neg (fun q => c0 q.1)]
          simp [-fIn, -isN, hN, hb0]
      have st : ∃ x y', l_counted_1 [some (.d (yardD y)), some (.d (rowD F)), some (.m μ.length), some (.d (.int p.1)), some (.d (.int p.2.1)), some (.d (.int p.2.2))] (μ ++ [.lst (acc.map prD)]) = some (.nx, [some (.d (yardD y)), some (.d (rowD F)), some (.m μ.length), some (.d (.int p.1)), some (.d x), some (.d y')], μ ++ [.lst (acc.map prD ++ (([p].map (adjT F)).filter fun r => decide (r.1 ≤ r.2)).map prD)]) := by
        refine ⟨.int (adjT F p).1, .int (adjT F p).2, ?_⟩
        unfold l_counted_1
        rw [seq_nx st1]
        rw [List.map_cons, List.map_nil]
        generalize adjT F p = r
        by_cases c : r.1 ≤ r.2
        · have hf : ([r].filter fun r => decide (r.1 ≤ r.2)) = [r] := by simp [c]
          rw [hf]
          simp [c, prD]
          omega
        · have hf : ([r].filter fun r => decide (r.1 ≤ r.2)) = [] := by simp; omega
          rw [hf]
          simp [c]
      obtain ⟨x, y', st⟩ := st
      exact ⟨_, .nx, _, _, rfl, st, by simp [chkB_none], by simp, by simp⟩)
  have hn : f = .nx := by cases f <;> simp at h <;> rfl
  subst hn
  obtain ⟨⟨a, b, c, rfl⟩, rfl⟩ := h
  rw [List.take_length] at e
  have e : L_counted_1 [some (.d (yardD y)), some (.d (rowD F)), some (.m μ.length), none, none, none] (μ ++ [.lst []]) = _ := e
  refine fn_dm (ρ := [some (.d (yardD y)), some (.d (rowD F)), none, none, none, none]) ?_ rfl rfl
  unfold b_counted
  rw [seq_nx (ρ' := [some (.d (yardD y)), some (.d (rowD F)), some (.m μ.length), none, none, none]) (μ' := μ ++ [.lst []]) (by simp), seq_nx e]
  have es : (((spansL y).map (adjT F)).filter (fun r => decide (r.1 ≤ r.2))).map prD = (spC y F).map prD := rfl
  rw [es]
  refine ⟨[some (.d (yardD y)), some (.d (rowD F)), some (.m μ.length), a, b, c], μ ++ [.dead], ?_, by simp⟩
  simp
end Sh
set_option Elab.async false
set_option linter.all false
set_option maxRecDepth 100000
set_option maxHeartbeats 1000000
namespace Sh
open PySem L2 PyProof.Rows
/-! ### all lots of hours; the lot told -/
def allTo (k : Nat) : List (List Int) := allL k
theorem nums_succ (n : Nat) : nums (n + 1) = nums n ++ [(n : Int)] := by
  unfold nums
  rw [List.range_succ, List.map_append]; rfl
theorem allL_succ (k : Nat) : allL (k + 1) = allL k ++ (allL k).map fun l => l ++ [(k : Int)] := by
  unfold allL
  rw [nums_succ, List.foldl_append]
  rfl
theorem allL_len (T : Nat) : (allL T).length = 2 ^ T := by
  unfold allL
  rw [all_len, nums_len]
  simp
theorem allL_le {T : Nat} (h : T ≤ 8) : (allL T).length ≤ 256 := by
  rw [allL_len]
  exact Nat.pow_le_pow_right (by decide) h
theorem allL_ne (T : Nat) : allL T ≠ [] := by
  intro e
  have := allL_mem (T := T) (l := [])
  rw [e] at this
  exact absurd (this.mpr (List.nil_sublist _)) (by simp)
theorem allL_row {T : Nat} {l : List Int} (h : l ∈ allL T) : l.length ≤ T ∧ l.Pairwise (· < ·) ∧ ∀ x ∈ l, 0 ≤ x ∧ x < (T : Int) := by
  have h := allL_mem.mp h
  refine ⟨by have := h.length_le; rw [nums_len] at this; exact this, List.Pairwise.sublist h (nums_rise T), fun x hx => ?_⟩
  have h2 := h.subset hx
  unfold nums at h2
  obtain ⟨i, hi, rfl⟩ := List.mem_map.mp h2
  have := List.mem_range.mp hi
  omega
theorem hours_src (T : Nat) : rngD 0 T = (List.range T).map fun (i : Nat) => .int (i : Int) := by
  unfold rngD
  simp
theorem lot_shows_evG {y : Yd} (s8 : y.sun.length ≤ 8) (fd : PyData) (sp : List (Int × Int)) (hG : ∀ μ : Mu, g_counted [.d (yardD y), .d fd] μ = some (.d (.list (sp.map prD)), μ)) (n : Nat) (hn : n ≤ 1000) {l : List Int} (hl : l ∈ allL y.sun.length) (μ : Mu) :
    g_lot_shows [.d (yardD y), .d (.int n), .d (rowD l), .d fd] μ = some (.d (.int (showsV sp n l)), μ) := by
  obtain ⟨l1, l2, l3⟩ := allL_row hl
  have c2 : ∀ a b c, C_lot_shows_2 [some (.d (yardD y)), some (.d (.int n)), some (.d (rowD l)), some (.d fd), a, b, c] μ = some (.d (.list (l.map fun _ => .bool true)), μ) := fun a b c => by
    have h : C_lot_shows_2 [some (.d (yardD y)), some (.d (.int n)), some (.d (rowD l)), some (.d fd), a, b, c] μ = some (mkL false ((l.filter fun _ => true).map fun _ => .bool true) μ) := by
      refine comp_ev (s := ⟨l.map .int, none⟩) l .int (by simp [rowD]) rfl (ok_none _) (by omega) (fun _ => true) _ (fun x hx acc => ?_)
      refine ⟨[some (.d (yardD y)), some (.d (.int n)), some (.d (rowD l)), some (.d fd), some (.d (.int x)), b, c], rfl, rfl, fun _ => ?_⟩
      obtain ⟨h1, h2⟩ := l3 x hx
      have h3 : x ≤ (y.sun.length : Int) - 1 := by omega
      rw [yardD_eq]
      simp [g_is_from, mkFn, b_is_from, h1, h3]
    rw [h, filter_yes]; rfl
  have c1 : ∀ a, C_lot_shows_1 [some (.d (yardD y)), some (.d (.int n)), some (.d (rowD l)), some (.d fd), a, none, none] μ = some (.d (.list ((l.zip (l.drop 1)).map fun _ => .bool true)), μ) := fun a => by
    have h : C_lot_shows_1 [some (.d (yardD y)), some (.d (.int n)), some (.d (rowD l)), some (.d fd), a, none, none] μ = some (mkL false (((l.zip (l.drop 1)).filter fun _ => true).map fun _ => .bool true) μ) := by
      refine comp_ev (s := ⟨zipD (l.map .int) ((l.map .int).drop 1), none⟩) (l.zip (l.drop 1)) (fun p => .tuple [.int p.1, .int p.2]) (by simp [rowD]) (zipD_self _ _) (ok_none _) (by rw [List.length_zip]; omega) (fun _ => true) _ (fun p hp acc => ?_)
      refine ⟨[some (.d (yardD y)), some (.d (.int n)), some (.d (rowD l)), some (.d fd), a, some (.d (.int p.1)), some (.d (.int p.2))], rfl, rfl, fun _ => ?_⟩
      have := rise_zip l2 p hp
      simp [this]
    rw [h, filter_yes]; rfl
  have a2 := fun a b c => all_ev (fun _ => true) l (c2 a b c)
  have a1 := fun a => all_ev (fun _ => true) (l.zip (l.drop 1)) (c1 a)
  have t1 : l.all (fun _ => true) = true := by simp
  have t2 : (l.zip (l.drop 1)).all (fun _ => true) = true := by simp
  rw [t1] at a2
  rw [t2] at a1
  refine fn_d (ρ := [some (.d (yardD y)), some (.d (.int n)), some (.d (rowD l)), some (.d fd), none, none, none]) (ρ' := [some (.d (yardD y)), some (.d (.int n)), some (.d (rowD l)), some (.d fd), none, none, none]) ?_ rfl rfl
  unfold b_lot_shows
  rw [seq_nx (if_no (or_ff (not_t (isi_row l (by simp))) (not_t (tst_b (a2 none none none)))))]
  rw [seq_nx (if_no (not_t (tst_b (a1 none))))]
  have hc := hG μ
  have s := shows_ev sp n l hn (by omega) μ
  exact ret_ev (call_ev (cons_ev rfl (cons_ev (call_ev (cons_ev rfl (cons_ev rfl nil_ev)) rfl hc) (cons_ev rfl nil_ev))) rfl s)
end Sh
set_option Elab.async false
set_option linter.all false
set_option maxRecDepth 100000
set_option maxHeartbeats 1000000
namespace Sh
open PySem L2 PyProof.Rows
/-! ### what is told of a yard and a number who sit -/
theorem maxOf_fst : ∀ (ps : List Pt) (p : Pt), (PySem.W.maxOf p ps ∈ p :: ps) ∧ ∀ q ∈ p :: ps, q.1 ≤ (PySem.W.maxOf p ps).1
  | [], p => ⟨by simp [PySem.W.maxOf], fun q hq => by rw [List.mem_singleton.mp hq]; exact Int.le_refl _⟩
  | x :: ps, p => by
    have e : PySem.W.maxOf p (x :: ps) = PySem.W.maxOf (if PySem.W.DatumOrd.lt p x = true then x else p) ps := rfl
    have lt_def : PySem.W.DatumOrd.lt p x = if p.1 = x.1 then PySem.W.DatumOrd.lt p.2 x.2 else decide (p.1 < x.1) := rfl
    obtain ⟨h1, h2⟩ := maxOf_fst ps (if PySem.W.DatumOrd.lt p x = true then x else p)
    rw [e]
    have h0 := h2 _ List.mem_cons_self
    have hx : x.1 ≤ (if PySem.W.DatumOrd.lt p x = true then x else p).1 ∧ p.1 ≤ (if PySem.W.DatumOrd.lt p x = true then x else p).1 := by
      rw [lt_def]
      by_cases c : p.1 = x.1
      · rw [if_pos c]; split <;> omega
      · rw [if_neg c]; split <;> rename_i d <;> simp at d <;> omega
    refine ⟨?_, fun q hq => ?_⟩
    · rcases List.mem_cons.mp h1 with h | h
      · rw [h]; split
        · exact List.mem_cons_of_mem _ List.mem_cons_self
        · exact List.mem_cons_self
      · exact List.mem_cons_of_mem _ (List.mem_cons_of_mem _ h)
    · rcases List.mem_cons.mp hq with rfl | hq
      · omega
      · rcases List.mem_cons.mp hq with rfl | hq
        · omega
        · exact h2 q (List.mem_cons_of_mem _ hq)
theorem mostP_mem : ∀ (ps : List Pt), ps ≠ [] → mostP ps ∈ ps ∧ ∀ q ∈ ps, q.1 ≤ (mostP ps).1
  | [], h => absurd rfl h
  | p :: ps, _ => maxOf_fst ps p
theorem most_le {y : Yd} (h1 : 1 ≤ y.sun.length) {t : Nat} (ht : t < y.sun.length) : most y ≤ ((seatsAt y t).length : Int) := by
  refine (minI_ok (most_min h1)).2 _ ?_
  unfold lens
  refine List.mem_map.mpr ⟨(t : Int), ?_, by simp⟩
  unfold nums
  exact List.mem_map.mpr ⟨t, List.mem_range.mpr ht, rfl⟩
def hi (y : Yd) : Nat := y.sun.length - 1
def num (y : Yd) (n : Nat) : Int := (lastP (lotsAt y n) (hi y)).1
structure GoodN (y : Yd) (n : Nat) : Prop where
  ok : y.Ok
  n7 : y.n ≤ 8
  s1 : 1 ≤ y.sun.length
  sl : y.sun.length ≤ 8
  room : ∀ t, t < y.sun.length → n ≤ (seatsAt y t).length
theorem hi_eq {y : Yd} {n : Nat} (g : GoodN y n) : y.sun.length = hi y + 1 := by have := g.s1; unfold hi; omega
theorem lok {y : Yd} {n : Nat} (g : GoodN y n) : LotsOk (lotsAt y n) (hi y) := lotsOk g.n7 fun t ht => g.room t (by have := hi_eq g; omega)
theorem num_least {y : Yd} {n : Nat} (g : GoodN y n) : Least (seatsAt y) n y.sun.length (num y n) := by
  obtain ⟨h1, h2, h3⟩ := lastP_spec (S := seatsAt y) (lok g)
  exact number_least (S := seatsAt y) (fun t => rise_nodup (seats_rise y t)) g.s1 g.room h1 h2 h3
theorem maxL_ev (μ : Mu) (bs : List Int) (v : Int) (h : maxI bs = some v) : fMax μ [.d (.list (bs.map .int))] = some (.d (.int v), μ) := by
  have e : fMax μ [.d (.list (bs.map .int))] = (intsOf (bs.map PyData.int)).bind fun bs => (maxI bs).map fun n => (Rv.d (.int n), μ) := rfl
  rw [e, ints_map]
  simp only [Option.bind_some, h, Option.map_some]
theorem minL_ev (μ : Mu) (k : Nat) (bs : List Int) (v : Int) (hk : μ[k]? = some (.lst (bs.map .int))) (h : minI bs = some v) : fMin μ [.m k] = some (.d (.int v), μ) := by
  have e : fMin μ [.m k] = (listOf μ [.m k]).bind fun ds => (intsOf ds).bind fun bs => (minI bs).map fun n => (Rv.d (.int n), μ) := rfl
  rw [e]
  simp only [listOf, rd, hk, Option.bind_some, ints_map, h, Option.map_some]
theorem maxM_ev (μ : Mu) (k : Nat) (bs : List Int) (v : Int) (hk : μ[k]? = some (.lst (bs.map .int))) (h : maxI bs = some v) : fMax μ [.m k] = some (.d (.int v), μ) := by
  have e : fMax μ [.m k] = (listOf μ [.m k]).bind fun ds => (intsOf ds).bind fun bs => (maxI bs).map fun n => (Rv.d (.int n), μ) := rfl
  rw [e]
  simp only [listOf, rd, hk, Option.bind_some, ints_map, h, Option.map_some]
theorem minI_ne {bs : List Int} (h : bs ≠ []) : ∃ v, minI bs = some v := by
  cases bs with
  | nil => exact absurd rfl h
  | cons a r => exact ⟨_, rfl⟩
theorem maxI_ne {bs : List Int} (h : bs ≠ []) : ∃ v, maxI bs = some v := by
  cases bs with
  | nil => exact absurd rfl h
  | cons a r => exact ⟨_, rfl⟩
/-! ### first seats given -/
theorem lotsOkG {S : Nat → List Int} (hS : ∀ t, (S t).Nodup) (h8 : ∀ t, (S t).length ≤ 8) {n m : Nat} (hn : ∀ t, t ≤ m → n ≤ (S t).length) : LotsOk (fun t => lotsL n (S t)) m where
  nd t _ := lots_nodup n _ (hS t)
  ne t ht := lots_ne (hn t ht)
  le t _ := by
    have h1 := lots_len n (S t) [[]]
    have h2 := h8 t
    have e1 : (2 ^ (S t).length) * [([] : List Int)].length = 2 ^ (S t).length := Nat.mul_one _
    rw [e1] at h1
    have h3 : 2 ^ (S t).length ≤ 2 ^ 8 := Nat.pow_le_pow_right (by decide) h2
    have h4 := List.length_filter_le (fun l : List Int => decide (l.length = n)) (lotsAll n (S t))
    have h5 : (lotsAll n (S t)).length ≤ 256 := Nat.le_trans h1 h3
    unfold lotsL
    omega
  ln t _ l hl := by
    have h1 := (lots_mem.mp hl).1.length_le
    have h2 := h8 t
    omega
end Sh
set_option Elab.async false
set_option linter.all false
set_option maxRecDepth 100000
set_option maxHeartbeats 1000000
namespace Sh
open PySem L2 PyProof.Rows
/-! ### rows of shaded seats, and the number by them -/
def lstD (r : List Int) : PyData := .list (r.map .int)
def rowsL (rows : List (List Int)) : PyData := .list (rows.map lstD)
structure RowsOk (rows : List (List Int)) : Prop where
  ne : rows ≠ []
  le : rows.length ≤ 8
  rise : ∀ r ∈ rows, r.Pairwise (· < ·)
  in8 : ∀ r ∈ rows, ∀ x ∈ r, 0 ≤ x ∧ x < 8
def rowAt (rows : List (List Int)) (t : Nat) : List Int := rows.getD t []
def fits (n : Nat) (rows : List (List Int)) : Bool := rows.all fun r => decide (n ≤ r.length)
def numR (rows : List (List Int)) (n : Nat) : Int := (lastP (fun t => lotsL n (rowAt rows t)) (rows.length - 1)).1
def numO (rows : List (List Int)) (n : Nat) : PyData := if fits n rows then .int (numR rows n) else .none
theorem in_nums {n : Nat} {x : Int} : x ∈ nums n ↔ 0 ≤ x ∧ x < (n : Int) := by
  unfold nums
  rw [List.mem_map]
  constructor
  · rintro ⟨i, hi, rfl⟩
    have := List.mem_range.mp hi
    omega
  · rintro ⟨h1, h2⟩
    exact ⟨x.toNat, List.mem_range.mpr (by omega), by omega⟩
theorem row_filter {r : List Int} (hr : r.Pairwise (· < ·)) {n : Nat} (h8 : ∀ x ∈ r, 0 ≤ x ∧ x < (n : Int)) : r = (nums n).filter fun s => r.contains s := by
  refine rise_eq hr (List.Pairwise.sublist List.filter_sublist (nums_rise n)) fun x => ?_
  rw [List.mem_filter, List.contains_iff_mem, in_nums]
  exact ⟨fun h => ⟨h8 x h, h⟩, fun h => h.2⟩
theorem rowAt_mem {rows : List (List Int)} (t : Nat) : rowAt rows t ∈ rows ∨ rowAt rows t = [] := by
  unfold rowAt
  rw [List.getD_eq_getElem?_getD]
  cases e : rows[t]? with
  | none => exact .inr rfl
  | some r => exact .inl (List.mem_of_getElem? e)
theorem rowAt_lt {rows : List (List Int)} {t : Nat} (h : t < rows.length) : rowAt rows t ∈ rows := by
  unfold rowAt
  rw [List.getD_eq_getElem?_getD, List.getElem?_eq_getElem h]
  exact List.getElem_mem h
theorem map_rowAt {α : Type} (f : List Int → α) (rows : List (List Int)) : rows.map f = (List.range rows.length).map fun t => f (rowAt rows t) := by
  apply List.ext_getElem
  · simp
  · intro i h1 h2
    simp at h1
    simp [rowAt, h1]
section
variable {rows : List (List Int)} (h : RowsOk rows)
include h
theorem rAt_rise (t : Nat) : (rowAt rows t).Pairwise (· < ·) := by
  rcases rowAt_mem (rows := rows) t with q | q
  · exact h.rise _ q
  · rw [q]; exact .nil
theorem rAt_in (t : Nat) : ∀ x ∈ rowAt rows t, 0 ≤ x ∧ x < 8 := by
  rcases rowAt_mem (rows := rows) t with q | q
  · exact h.in8 _ q
  · rw [q]; intro x hx; cases hx
theorem rAt_filter (t : Nat) : rowAt rows t = (nums 8).filter fun s => (rowAt rows t).contains s := row_filter (rAt_rise h t) (rAt_in h t)
theorem rAt_len (t : Nat) : (rowAt rows t).length ≤ 8 := by
  rw [rAt_filter h t]
  have := List.length_filter_le (fun s => (rowAt rows t).contains s) (nums 8)
  rw [nums_len] at this
  exact this
theorem r_len : ∀ r ∈ rows, r.length ≤ 8 := by
  intro r hr
  rw [row_filter (h.rise r hr) (n := 8) (h.in8 r hr)]
  have := List.length_filter_le (fun s => r.contains s) (nums 8)
  rw [nums_len] at this
  exact this
theorem r_hi : rows.length = (rows.length - 1) + 1 := by
  have := h.ne
  cases rows with
  | nil => exact absurd rfl this
  | cons a r => simp
theorem fits_at {n : Nat} (hf : fits n rows = true) {t : Nat} (ht : t < rows.length) : n ≤ (rowAt rows t).length := by
  have := List.all_eq_true.mp hf _ (rowAt_lt ht)
  simpa using this
theorem r_lok {n : Nat} (hf : fits n rows = true) : LotsOk (fun t => lotsL n (rowAt rows t)) (rows.length - 1) :=
  lotsOkG (fun t => rise_nodup (rAt_rise h t)) (rAt_len h) fun t ht => fits_at h hf (by have := r_hi h; omega)
/-- the number is the greatest that a lot shows, by the seats' stretches -/
theorem numR_max {n : Nat} (hf : fits n rows = true) :
    (∀ l ∈ allL rows.length, showsV (spR 8 rows.length fun s t => (rowAt rows t).contains s) n l ≤ numR rows n) ∧ (∃ l ∈ allL rows.length, showsV (spR 8 rows.length fun s t => (rowAt rows t).contains s) n l = numR rows n) ∧ (n : Int) ≤ numR rows n := by
  have hS : (fun t => (nums 8).filter fun s => (rowAt rows t).contains s) = rowAt rows := funext fun t => (rAt_filter h t).symm
  obtain ⟨h1, h2, h3⟩ := lastP_spec (S := rowAt rows) (r_lok h hf)
  have k := r_hi h
  refine shows_maxG (S := rowAt rows) (fun t => rise_nodup (rAt_rise h t)) _ (by omega) (fun t ht => fits_at h hf ht) h1 h2 h3 fun L a b c => ?_
  have := shN_wt 8 (fun s t => (rowAt rows t).contains s) n rows.length L a b c
  rw [hS] at this
  exact this
end
/-! ### the least length of a row -/
theorem fits_min {rows : List (List Int)} (hne : rows ≠ []) (n : Nat) : ∃ v, minI (rows.map fun r => (r.length : Int)) = some v ∧ (v < (n : Int) ↔ fits n rows = false) := by
  obtain ⟨v, ev⟩ := minI_ne (bs := rows.map fun r => (r.length : Int)) (by simpa using hne)
  obtain ⟨h1, h2⟩ := minI_ok ev
  refine ⟨v, ev, ?_⟩
  obtain ⟨r, hr, er⟩ := List.mem_map.mp h1
  constructor
  · intro hv
    cases c : fits n rows with
    | false => rfl
    | true =>
      have := List.all_eq_true.mp c r hr
      simp at this
      omega
  · intro hf
    obtain ⟨q, hq, hq2⟩ := List.all_eq_false.mp hf
    have := h2 _ (List.mem_map.mpr ⟨q, hq, rfl⟩)
    simp at hq2
    omega
theorem lens_ev {rows : List (List Int)} (hl : rows.length ≤ 1000) {c : Sm} (hc : c = sComp false (sIt (sVar 0)) (.nm 2) sYes (sA fLen (sCons (sVar 2) sNil)) [2]) (b a : Option Rv) (r : Ro) (μ : Mu) :
    c (some (.d (rowsL rows)) :: b :: a :: r) μ = some (.d (.list ((rows.map fun r => (r.length : Int)).map .int)), μ) := by
  subst hc
  have h : sComp false (sIt (sVar 0)) (.nm 2) sYes (sA fLen (sCons (sVar 2) sNil)) [2] (some (.d (rowsL rows)) :: b :: a :: r) μ = some (mkL false ((rows.filter fun _ => true).map fun r => .int (r.length : Int)) μ) := by
    refine comp_ev (s := ⟨rows.map lstD, none⟩) rows lstD (by simp [rowsL]) rfl (ok_none _) (by omega) (fun _ => true) _ (fun x hx acc => ?_)
    refine ⟨some (.d (rowsL rows)) :: b :: some (.d (lstD x)) :: r, rfl, rfl, fun _ => ?_⟩
    simp [lstD]
  rw [h, filter_yes]
  simp [mkL, Function.comp_def]
theorem lots_rows_ev {rows : List (List Int)} (h : RowsOk rows) (n : Nat) (a b : Option Rv) (μ : Mu) :
    C_number_of_1 [some (.d (rowsL rows)), some (.d (.int n)), a, b] μ = some (.d (.list ((List.range rows.length).map fun t => lotsD (lotsL n (rowAt rows t)))), μ) := by
  have e : C_number_of_1 [some (.d (rowsL rows)), some (.d (.int n)), a, b] μ = some (mkL false ((rows.filter fun _ => true).map fun r => lotsD (lotsL n r)) μ) := by
    refine comp_ev (s := ⟨rows.map lstD, none⟩) rows lstD (by simp [rowsL]) rfl (ok_none _) (by have := h.le; omega) (fun _ => true) _ (fun x hx acc => ?_)
    refine ⟨[some (.d (rowsL rows)), some (.d (.int n)), some (.d (lstD x)), b], rfl, rfl, fun _ => ?_⟩
    have := lots_of_ev n x (r_len h x hx) (μ ++ [.lst acc])
    exact call_ev (cons_ev rfl (cons_ev rfl nil_ev)) rfl this
  rw [e, filter_yes, map_rowAt]
  rfl
theorem minM1_ev (μ : Mu) (bs : List Int) (v : Int) (h : minI bs = some v) : fMin μ [.d (.list (bs.map .int))] = some (.d (.int v), μ) := by
  have e : fMin μ [.d (.list (bs.map .int))] = (intsOf (bs.map PyData.int)).bind fun bs => (minI bs).map fun n => (Rv.d (.int n), μ) := rfl
  rw [e, ints_map]
  simp only [Option.bind_some, h, Option.map_some]
theorem arg1_ev {f : FA} {m : Sm} {ρ : Ro} {μ μ1 : Mu} {x : Rv} {r : Rv × Mu} (e : m ρ μ = some (x, μ1)) (ef : f μ1 [x] = some r) : sA f (sCons m sNil) ρ μ = some r := by
  unfold sA
  rw [cons_ev e nil_ev]
  exact ef
theorem too_few {rows : List (List Int)} (h : RowsOk rows) (q : Nat) (r : Ro) (a : Option Rv) (μ : Mu) :
    sTst (s2 fLt (sA fMin (sCons (sComp false (sIt (sVar 0)) (.nm 2) sYes (sA fLen (sCons (sVar 2) sNil)) [2]) sNil)) (sVar 1)) (some (.d (rowsL rows)) :: some (.d (.int q)) :: a :: r) μ = some (!fits q rows, μ) := by
  obtain ⟨v, hv, hf⟩ := fits_min h.ne q
  have e1 := lens_ev (rows := rows) (by have := h.le; omega) rfl (some (.d (.int q))) a r μ
  have e2 : sA fMin (sCons (sComp false (sIt (sVar 0)) (.nm 2) sYes (sA fLen (sCons (sVar 2) sNil)) [2]) sNil) (some (.d (rowsL rows)) :: some (.d (.int q)) :: a :: r) μ = some (.d (.int v), μ) := by
    exact arg1_ev e1 (minM1_ev μ _ v hv)
  refine tst_b ?_
  simp only [s2, e2, Option.bind_some]
  cases c : fits q rows with
  | false =>
    have := hf.mpr c
    simp [this]
  | true =>
    have : ¬ v < (q : Int) := fun z => by rw [hf.mp z] at c; cases c
    simp [this]
theorem number_of_ev {rows : List (List Int)} (h : RowsOk rows) (n : Nat) (μ : Mu) : g_number_of [.d (rowsL rows), .d (.int n)] μ = some (.d (numO rows n), μ) := by
  have t := too_few h n [none] none μ
  have t : sTst (s2 fLt (sA fMin (sCons C_number_of_2 sNil)) (sVar 1)) [some (.d (rowsL rows)), some (.d (.int n)), none, none] μ = some (!fits n rows, μ) := t
  cases c : fits n rows with
  | false =>
    rw [c] at t
    have e : numO rows n = .none := by unfold numO; rw [c]; rfl
    rw [e]
    refine fn_d (ρ := [some (.d (rowsL rows)), some (.d (.int n)), none, none]) (ρ' := [some (.d (rowsL rows)), some (.d (.int n)), none, none]) ?_ rfl rfl
    unfold b_number_of
    refine seq_rt ?_
    unfold sIf
    rw [t]
    rfl
  | true =>
    rw [c] at t
    have e : numO rows n = .int (numR rows n) := by unfold numO; rw [c]; rfl
    rw [e]
    have hi := r_hi h
    have cc := lots_rows_ev h n none none μ
    have b := best_ev (fun t => lotsL n (rowAt rows t)) (rows.length - 1) (by have := h.le; omega) (r_lok h c) μ
    have b : ∃ D, g_best [.d (.list ((List.range (rows.length - 1)).map fun t => lotsD (lotsL n (rowAt rows (t + 1))))), .d (lotsD (lotsL n (rowAt rows 0)))] μ = some (.d (.tuple [.int (numR rows n), D]), μ) := ⟨_, b⟩
    obtain ⟨D, b⟩ := b
    rw [hi] at cc
    generalize rows.length - 1 = m at cc b
    have e0 : ((List.range (m + 1)).map fun t => lotsD (lotsL n (rowAt rows t))).drop 1 = (List.range m).map fun t => lotsD (lotsL n (rowAt rows (t + 1))) := drop_range _ _
    have e1 : atI ((List.range (m + 1)).map fun t => lotsD (lotsL n (rowAt rows t))) 0 = some (lotsD (lotsL n (rowAt rows 0))) := by
      rw [List.range_succ_eq_map]; exact atI_0 _ _
    rw [List.drop_one] at e0
    generalize ((List.range (m + 1)).map fun t => lotsD (lotsL n (rowAt rows t))) = A at cc e0 e1
    generalize ((List.range m).map fun t => lotsD (lotsL n (rowAt rows (t + 1)))) = A' at e0 b
    generalize lotsD (lotsL n (rowAt rows 0)) = A0 at e1 b
    generalize numR rows n = N at b
    refine fn_d (ρ := [some (.d (rowsL rows)), some (.d (.int n)), none, none]) (ρ' := [some (.d (rowsL rows)), some (.d (.int n)), none, some (.d (.list A))]) ?_ rfl rfl
    unfold b_number_of
    rw [seq_nx (if_no t)]
    rw [seq_nx (ρ' := [some (.d (rowsL rows)), some (.d (.int n)), none, some (.d (.list A))]) (μ' := μ) (by simp [cc])]
    simp [e0, e1, b]
/-! ### the law's own number -/
theorem in_lst (neg : Bool) (x : Int) (F : List Int) (μ : Mu) : fIn neg μ (.d (.int x)) (.d (lstD F)) = some (.d (.bool (if neg then !F.contains x else F.contains x)), μ) := by
  have h1 := any_ints x F
  have h2 := flat_ints F
  unfold fIn
  simp only [rd, lstD, Option.bind_some, itemsD, flatD, h1, h2, Bool.and_self, if_true]
end Sh
set_option Elab.async false
set_option linter.all false
set_option maxRecDepth 100000
set_option maxHeartbeats 1000000
namespace Sh
open PySem L2 PyProof.Rows
/-! ### dear hours -/
def restH (rows : List (List Int)) (h : Nat) : List (List Int) := rows.take h ++ rows.drop (h + 1)
def dearB (rows : List (List Int)) (n : Nat) (h : Nat) : Bool := !(restH rows h).isEmpty && decide (numR (restH rows h) n < numR rows n)
def dearL (rows : List (List Int)) (n : Nat) : List Int := (nums rows.length).filter fun h => dearB rows n h.toNat
theorem restH_sub (rows : List (List Int)) (h : Nat) : ∀ r ∈ restH rows h, r ∈ rows := by
  intro r hr
  rcases List.mem_append.mp hr with q | q
  · exact List.take_subset _ _ q
  · exact List.drop_subset _ _ q
theorem restH_len (rows : List (List Int)) (h : Nat) : (restH rows h).length ≤ rows.length := by
  unfold restH
  rw [List.length_append, List.length_take, List.length_drop]
  omega
theorem restH_ok {rows : List (List Int)} (h : RowsOk rows) (k : Nat) (hne : restH rows k ≠ []) : RowsOk (restH rows k) :=
  ⟨hne, Nat.le_trans (restH_len rows k) h.le, fun r hr => h.rise r (restH_sub rows k r hr), fun r hr => h.in8 r (restH_sub rows k r hr)⟩
theorem restH_fits {rows : List (List Int)} {n : Nat} (hf : fits n rows = true) (k : Nat) : fits n (restH rows k) = true :=
  List.all_eq_true.mpr fun r hr => List.all_eq_true.mp hf r (restH_sub rows k r hr)
theorem numO_fits {rows : List (List Int)} {n : Nat} (hf : fits n rows = true) : numO rows n = .int (numR rows n) := by unfold numO; rw [hf]; rfl
theorem rest_D {rows : List (List Int)} (k : Nat) (hl : rows.length ≤ 1000) {m : Sm} (i : Nat) {ρ : Ro} {μ : Mu} (hv : sVar i ρ μ = some (.d (rowsL rows), μ)) (hm : m ρ μ = some (.d (.int k), μ)) :
    s2 (fAdd false) (sSl false (sVar i) sNoP (sPart m)) (sSl false (sVar i) (sPart (s2 (fAdd false) m (sC (.int 1)))) sNoP) ρ μ = some (.d (rowsL (restH rows k)), μ) := by
  have h1 : cutG (rows.map lstD) none (some (k : Int)) = (rows.map lstD).take k := cut_take _ k
  have h2 : cutG (rows.map lstD) (some ((k : Int) + 1)) none = (rows.map lstD).drop (k + 1) := cut_drop _ (k + 1)
  have e : rowsL (restH rows k) = .list ((rows.map lstD).take k ++ (rows.map lstD).drop (k + 1)) := by
    unfold rowsL restH
    rw [List.map_append, List.map_take, List.map_drop]
  have h3 : ((rows.map lstD).take k).length + ((rows.map lstD).drop (k + 1)).length ≤ 4096 := by
    rw [List.length_take, List.length_drop, List.length_map]; omega
  rw [e]
  have a1 : sSl false (sVar i) sNoP (sPart m) ρ μ = some (.d (.list ((rows.map lstD).take k)), μ) := by
    unfold sSl
    rw [hv]
    simp only [Option.bind_some, sPart, hm, rowsL]
    simp [h1, hm]
  have a2 : sSl false (sVar i) (sPart (s2 (fAdd false) m (sC (.int 1)))) sNoP ρ μ = some (.d (.list ((rows.map lstD).drop (k + 1))), μ) := by
    unfold sSl
    rw [hv]
    simp only [Option.bind_some, rowsL]
    simp [h2, hm]
  generalize (rows.map lstD).take k = A at a1 h3
  generalize (rows.map lstD).drop (k + 1) = B at a2 h3
  simp only [s2, a1, a2, Option.bind_some, fAdd, rd]
  rw [if_pos h3]
  rfl
theorem and_f {s t : Sb} {ρ : Ro} {μ : Mu} (e : s ρ μ = some (false, μ)) : sAnd s t ρ μ = some (false, μ) := by simp [e]
theorem and_t {s t : Sb} {ρ : Ro} {μ μ2 : Mu} {b : Bool} (e : s ρ μ = some (true, μ)) (e2 : t ρ μ = some (b, μ2)) : sAnd s t ρ μ = some (b, μ2) := by simp [e, e2]
theorem or_t {s t : Sb} {ρ : Ro} {μ : Mu} (e : s ρ μ = some (true, μ)) : sOr s t ρ μ = some (true, μ) := by simp [e]
theorem or_f {s t : Sb} {ρ : Ro} {μ μ2 : Mu} {b : Bool} (e : s ρ μ = some (false, μ)) (e2 : t ρ μ = some (b, μ2)) : sOr s t ρ μ = some (b, μ2) := by simp [e, e2]
theorem lt_ev {a b : Sm} {ρ : Ro} {μ : Mu} {i j : Int} (e : a ρ μ = some (.d (.int i), μ)) (e2 : b ρ μ = some (.d (.int j), μ)) : sTst (s2 fLt a b) ρ μ = some (decide (i < j), μ) := by
  refine tst_b ?_
  simp only [s2, e, e2, Option.bind_some]
  simp
theorem gt_ev {a b : Sm} {ρ : Ro} {μ : Mu} {i j : Int} (e : a ρ μ = some (.d (.int i), μ)) (e2 : b ρ μ = some (.d (.int j), μ)) : sTst (s2 fGt a b) ρ μ = some (decide (j < i), μ) := by
  refine tst_b ?_
  simp only [s2, e, e2, Option.bind_some]
  simp
theorem tru_rows {rows : List (List Int)} {m : Sm} {ρ : Ro} {μ : Mu} (e : m ρ μ = some (.d (rowsL rows), μ)) : sTru m ρ μ = some (!rows.isEmpty, μ) := by
  unfold sTru
  rw [e]
  simp [rowsL]
theorem pl_lst (r : List Int) (k : Nat) : pl (k + 1) (lstD r) = true := by
  show plAll k (r.map .int) = true
  exact plAll_ints k r
theorem pl_rows (rows : List (List Int)) (k : Nat) : pl (k + 2) (rowsL rows) = true := by
  show plAll (k + 1) (rows.map lstD) = true
  exact plAll_of fun r _ => pl_lst r k
theorem app_ev {i k : Nat} {m : Sm} {ρ : Ro} {μ : Mu} {ds : List PyData} {d : PyData} (hi : ρ[i]? = some (some (.m μ.length))) (hm : m ρ (μ ++ [.lst ds]) = some (.d d, μ ++ [.lst ds])) (hl : ds.length < 4096) :
    sExpr (sMet fApp (sVar i) (sCons m sNil)) ρ (μ ++ [.lst ds]) = some (.nx, ρ, μ ++ [.lst (ds ++ [d])]) := by
  have hv : sVar i ρ (μ ++ [Mo.lst ds]) = some (.m μ.length, μ ++ [.lst ds]) := by simp [hi]
  unfold sExpr sMet
  rw [hv]
  simp only [Option.bind_some]
  rw [if_pos (by simp), cons_ev hm nil_ev]
  simp [hl]
theorem dear_step {rows : List (List Int)} (h : RowsOk rows) {n : Nat} (hf : fits n rows = true) (Y : PyData) (k : Nat) (hk : k < rows.length) (μ : Mu) (acc : List PyData) (ha : acc.length ≤ 1000) (r6 : Option Rv) :
    ∃ r6', l_dear_hours_1 [some (.d Y), some (.d (.int n)), some (.d (rowsL rows)), some (.d (.int k)), some (.d (.int (numR rows n))), some (.m μ.length), r6] (μ ++ [.lst acc]) = some (.nx, [some (.d Y), some (.d (.int n)), some (.d (rowsL rows)), some (.d (.int k)), some (.d (.int (numR rows n))), some (.m μ.length), some r6'], μ ++ [.lst (acc ++ (if dearB rows n k then [.int (k : Int)] else []))]) ∧ cutR (μ.length + 1) [some r6'] = [some r6'] := by
  have e0 := rest_D (rows := rows) k (by have := h.le; omega) (m := sVar 3) 2 (ρ := [some (.d Y), some (.d (.int n)), some (.d (rowsL rows)), some (.d (.int k)), some (.d (.int (numR rows n))), some (.m μ.length), r6]) (μ := μ ++ [.lst acc]) (by simp) (by simp)
  refine ⟨.d (rowsL (restH rows k)), ?_, by simp⟩
  unfold l_dear_hours_1
  rw [seq_nx (asg_nm e0)]
  simp only [List.set_cons_succ, List.set_cons_zero]
  have t1 : sTru (sVar 6) [some (.d Y), some (.d (.int n)), some (.d (rowsL rows)), some (.d (.int k)), some (.d (.int (numR rows n))), some (.m μ.length), some (.d (rowsL (restH rows k)))] (μ ++ [.lst acc]) = some (!(restH rows k).isEmpty, μ ++ [.lst acc]) := tru_rows (by simp)
  unfold dearB
  cases c : (restH rows k).isEmpty with
  | true =>
    rw [c] at t1
    rw [if_no (and_f t1)]
    simp
  | false =>
    rw [c] at t1
    have hne : restH rows k ≠ [] := by intro q; rw [q] at c; cases c
    have t2 := number_of_ev (restH_ok h k hne) n (μ ++ [.lst acc])
    rw [numO_fits (restH_fits hf k)] at t2
    have t3 : sTst (s2 fLt (sCall 2 g_number_of (sCons (sVar 6) (sCons (sVar 1) sNil))) (sVar 4)) [some (.d Y), some (.d (.int n)), some (.d (rowsL rows)), some (.d (.int k)), some (.d (.int (numR rows n))), some (.m μ.length), some (.d (rowsL (restH rows k)))] (μ ++ [.lst acc]) = some (decide (numR (restH rows k) n < numR rows n), μ ++ [.lst acc]) := lt_ev (call_ev (cons_ev rfl (cons_ev rfl nil_ev)) rfl t2) rfl
    have t4 := and_t t1 t3
    by_cases z : numR (restH rows k) n < numR rows n
    · rw [decide_eq_true z] at t4
      have a := app_ev (i := 5) (k := 0) (m := sVar 3) (ρ := [some (.d Y), some (.d (.int n)), some (.d (rowsL rows)), some (.d (.int k)), some (.d (.int (numR rows n))), some (.m μ.length), some (.d (rowsL (restH rows k)))]) (μ := μ) (ds := acc) (d := .int k) rfl rfl (by omega)
      unfold sIf
      rw [t4]
      simp only [Option.bind_some, if_true]
      rw [a, decide_eq_true z]
      rfl
    · rw [decide_eq_false z] at t4
      rw [if_no t4, decide_eq_false z]
      simp
theorem dear_snoc {rows : List (List Int)} {n : Nat} (b : Nat → Bool) {T k : Nat} {x : Int} (e : (nums T)[k]? = some x) : (((nums T).take (k + 1)).filter fun h => b h.toNat).map PyData.int = (((nums T).take k).filter fun h => b h.toNat).map PyData.int ++ (if b k then [.int (k : Int)] else []) := by
  obtain ⟨rfl, _⟩ := nums_get e
  rw [take_snoc e, List.filter_append, List.map_append]
  congr 1
  cases c : b k with
  | true => simp [c]
  | false => simp [c]
theorem rowsY_ev {y : Yd} {c : Sm} {T : Nat} (hT : T = y.sun.length) (hl : T ≤ 1000) {f : Fn} {ρ : Ro} {i j : Nat} {μ : Mu}
    (hm : sRng1 (sCons (sA fLen (sCons (s2 fIx (sVar i) (sC (.int 2))) sNil)) sNil) ρ μ = some (⟨rngD 0 T, none⟩, μ))
    (hf : ∀ (t : Nat) (μ : Mu), t < T → f [.d (yardD y), .d (.int t)] μ = some (.d (lstD (seatsAt y t)), μ))
    (hp : ∀ t : Nat, ∃ ρ1, (Tg.nm j).put (.int (t : Int)) (wipeR ρ [j]) = some ρ1 ∧ (∀ μ, sVar i ρ1 μ = some (.d (yardD y), μ)) ∧ (∀ μ, sVar j ρ1 μ = some (.d (.int t), μ))) :
    sComp false (sRng1 (sCons (sA fLen (sCons (s2 fIx (sVar i) (sC (.int 2))) sNil)) sNil)) (.nm j) sYes (sCall 2 f (sCons (sVar i) (sCons (sVar j) sNil))) [j] ρ μ = some (.d (rowsL ((List.range T).map (seatsAt y))), μ) := by
  have h : sComp false (sRng1 (sCons (sA fLen (sCons (s2 fIx (sVar i) (sC (.int 2))) sNil)) sNil)) (.nm j) sYes (sCall 2 f (sCons (sVar i) (sCons (sVar j) sNil))) [j] ρ μ = some (mkL false (((List.range T).filter fun _ => true).map fun t => lstD (seatsAt y t)) μ) := by
    refine comp_ev (s := ⟨rngD 0 T, none⟩) (List.range T) (fun (i : Nat) => .int (i : Int)) hm (hours_src _) (ok_none _) (by rw [List.length_range]; omega) (fun _ => true) _ (fun t ht acc => ?_)
    obtain ⟨ρ1, h1, h2, h3⟩ := hp t
    refine ⟨ρ1, h1, rfl, fun _ => ?_⟩
    exact call_ev (cons_ev (h2 _) (cons_ev (h3 _) nil_ev)) rfl (hf t _ (List.mem_range.mp ht))
  rw [h, filter_yes]
  unfold rowsL
  rw [List.map_map]
  rfl
def rowsY (y : Yd) : List (List Int) := (List.range y.sun.length).map (seatsAt y)
theorem rowsY_len (y : Yd) : (rowsY y).length = y.sun.length := by unfold rowsY; rw [List.length_map, List.length_range]
theorem rowsY_ok {y : Yd} (n8 : y.n ≤ 8) (s1 : 1 ≤ y.sun.length) (s8 : y.sun.length ≤ 8) : RowsOk (rowsY y) := by
  refine ⟨fun q => ?_, by rw [rowsY_len]; exact s8, fun r hr => ?_, fun r hr x hx => ?_⟩
  · have := rowsY_len y
    rw [q, List.length_nil] at this
    omega
  · obtain ⟨t, _, rfl⟩ := List.mem_map.mp hr
    exact seats_rise y t
  · obtain ⟨t, _, rfl⟩ := List.mem_map.mp hr
    obtain ⟨h1, h2, _⟩ := seat_in hx
    omega
theorem rowsY_fits {y : Yd} {n : Nat} (hn : ∀ t, t < y.sun.length → n ≤ (seatsAt y t).length) : fits n (rowsY y) = true := by
  refine List.all_eq_true.mpr fun r hr => ?_
  obtain ⟨t, ht, rfl⟩ := List.mem_map.mp hr
  simpa using hn t (List.mem_range.mp ht)
theorem fn_m {n N : Nat} {b : Ss} {rs : List Rv} {μ : Mu} {ds : List PyData} {ρ ρ' : Ro} (e : b ρ μ = some (.rt (.m μ.length), ρ', μ ++ [.lst ds])) (h : rs.length = n) (hr : rs.map some ++ List.replicate (N - rs.length) none = ρ) : mkFn n N b rs μ = some (.m μ.length, μ ++ [.lst ds]) := by
  rw [fn_rt e h hr]
  simp
theorem dear_hours_ev {y : Yd} (ok : y.Ok) (n8 : y.n ≤ 8) (s1 : 1 ≤ y.sun.length) (s8 : y.sun.length ≤ 8) {n : Nat} (hn : ∀ t, t < y.sun.length → n ≤ (seatsAt y t).length) (μ : Mu) :
    g_dear_hours [.d (yardD y), .d (.int n)] μ = some (.d (.list ((dearL (rowsY y) n).map .int)), μ) := by
  have h := rowsY_ok n8 s1 s8
  have hf := rowsY_fits hn
  have ec : C_dear_hours_1 [some (.d (yardD y)), some (.d (.int n)), none, none, none, none, none] μ = some (.d (rowsL (rowsY y)), μ) := by
    refine rowsY_ev (y := y) (c := C_dear_hours_1) (T := y.sun.length) rfl (by omega) (f := g_shaded) (i := 0) (j := 3) (rng1_ev (sun_len y _ _) (by omega)) (fun t μ ht => shaded_ev ok ht μ) (fun t => ⟨[some (.d (yardD y)), some (.d (.int n)), none, some (.d (.int t)), none, none, none], rfl, fun μ => rfl, fun μ => rfl⟩)
  have en := number_of_ev h n μ
  rw [numO_fits hf] at en
  have hlen : (rowsY y).length ≤ 8 := h.le
  obtain ⟨f, ρ', μ', e, hh⟩ := for_ev (m := sRng1 (sCons (sA fLen (sCons (sVar 2) sNil)) sNil)) (t := .nm 3) (body := l_dear_hours_1) (ρ := [some (.d (yardD y)), some (.d (.int n)), some (.d (rowsL (rowsY y))), none, some (.d (.int (numR (rowsY y) n))), some (.m μ.length), none]) (μ := μ ++ [.lst []]) (μ1 := μ ++ [.lst []]) (s := ⟨rngD 0 (rowsY y).length, none⟩) (nums (rowsY y).length) .int (rng1_ev (by simp [rowsL]) (by omega)) (rng0 _)
    (fun j ρ μ' => (∃ r3 r6, ρ = [some (.d (yardD y)), some (.d (.int n)), some (.d (rowsL (rowsY y))), r3, some (.d (.int (numR (rowsY y) n))), some (.m μ.length), r6]) ∧ μ' = μ ++ [.lst ((((nums (rowsY y).length).take j).filter fun h => dearB (rowsY y) n h.toNat).map .int)]) (fun _ _ => False) ⟨⟨_, _, rfl⟩, rfl⟩ (by
      rintro j t ρ μ' hj ⟨⟨r3, r6, rfl⟩, rfl⟩
      rw [dear_snoc (rows := rowsY y) (n := n) (fun h => dearB (rowsY y) n h) hj]
      have hl := List.length_filter_le (fun h : Int => dearB (rowsY y) n h.toNat) ((nums (rowsY y).length).take j)
      rw [List.length_take, nums_len] at hl
      obtain ⟨rfl, hj2⟩ := nums_get hj
      obtain ⟨r6', st, hc⟩ := dear_step h hf (yardD y) j hj2 μ ((((nums (rowsY y).length).take j).filter fun h => dearB (rowsY y) n h.toNat).map .int) (by rw [List.length_map]; omega) r6
      refine ⟨_, .nx, _, _, rfl, st, by simp [chkB_none], ⟨some (.d (.int j)), some r6', ?_⟩, by simp⟩
      simp only [cutR, List.map_cons, List.map_nil, List.cons.injEq, and_true] at hc
      simp [hc])
  have hn2 : f = .nx := by cases f <;> simp at hh <;> rfl
  subst hn2
  obtain ⟨⟨r3, r6, rfl⟩, rfl⟩ := hh
  have hk : (nums (rowsY y).length).take (nums (rowsY y).length).length = nums (rowsY y).length := List.take_length
  rw [hk] at e
  have e : L_dear_hours_1 [some (.d (yardD y)), some (.d (.int n)), some (.d (rowsL (rowsY y))), none, some (.d (.int (numR (rowsY y) n))), some (.m μ.length), none] (μ ++ [.lst []]) = _ := e
  refine fn_dm (ρ := [some (.d (yardD y)), some (.d (.int n)), none, none, none, none, none]) ?_ rfl rfl
  unfold b_dear_hours
  rw [seq_nx (asg_nm ec)]
  simp only [List.set_cons_succ, List.set_cons_zero]
  have en2 : sCall 2 g_number_of (sCons (sVar 2) (sCons (sVar 1) sNil)) [some (.d (yardD y)), some (.d (.int n)), some (.d (rowsL (rowsY y))), none, none, none, none] μ = some (.d (.int (numR (rowsY y) n)), μ) := call_ev (cons_ev rfl (cons_ev rfl nil_ev)) rfl en
  rw [seq_nx (asg_nm en2)]
  simp only [List.set_cons_succ, List.set_cons_zero]
  rw [seq_nx (ρ' := [some (.d (yardD y)), some (.d (.int n)), some (.d (rowsL (rowsY y))), none, some (.d (.int (numR (rowsY y) n))), some (.m μ.length), none]) (μ' := μ ++ [.lst []]) (by simp)]
  rw [seq_nx e]
  refine ⟨[some (.d (yardD y)), some (.d (.int n)), some (.d (rowsL (rowsY y))), r3, some (.d (.int (numR (rowsY y) n))), some (.m μ.length), r6], μ ++ [.dead], ?_, by simp⟩
  simp
  rfl
/-! ### the law's hours -/
end Sh
set_option Elab.async false
set_option linter.all false
set_option maxRecDepth 100000
set_option maxHeartbeats 1000000
namespace Sh
open PySem L2 PyProof.Rows
/-! ### needed seats -/
def restS (rows : List (List Int)) (s : Int) : List (List Int) := rows.map fun r => r.filter fun x => decide (x ≠ s)
def needB (rows : List (List Int)) (n : Nat) (s : Int) : Bool := !fits n (restS rows s) || decide (numR (restS rows s) n > numR rows n)
def needL (rows : List (List Int)) (n P : Nat) : List Int := (nums P).filter fun s => needB rows n s
theorem restS_ok {rows : List (List Int)} (h : RowsOk rows) (s : Int) : RowsOk (restS rows s) := by
  refine ⟨fun q => h.ne (List.map_eq_nil_iff.mp q), by unfold restS; rw [List.length_map]; exact h.le, fun r hr => ?_, fun r hr x hx => ?_⟩
  · obtain ⟨q, hq, rfl⟩ := List.mem_map.mp hr
    exact List.Pairwise.sublist List.filter_sublist (h.rise q hq)
  · obtain ⟨q, hq, rfl⟩ := List.mem_map.mp hr
    exact h.in8 q hq x (List.mem_filter.mp hx).1
theorem cut_row_ev {c : Sm} {R : Ro} {i j k : Nat} {r : List Int} {s : Int} {μ : Mu} (hr : r.length ≤ 1000) (hi : sVar i R μ = some (.d (lstD r), μ))
    (hp : ∀ x : Int, ∃ ρ1, (Tg.nm j).put (.int x) (wipeR R [j]) = some ρ1 ∧ (∀ μ, sVar j ρ1 μ = some (.d (.int x), μ)) ∧ (∀ μ, sVar k ρ1 μ = some (.d (.int s), μ))) :
    sComp false (sIt (sVar i)) (.nm j) (sTst (s2 (fEq true) (sVar j) (sVar k))) (sVar j) [j] R μ = some (.d (lstD (r.filter fun x => decide (x ≠ s))), μ) := by
  have h : sComp false (sIt (sVar i)) (.nm j) (sTst (s2 (fEq true) (sVar j) (sVar k))) (sVar j) [j] R μ = some (mkL false ((r.filter fun x => decide (x ≠ s)).map .int) μ) := by
    refine comp_ev (s := ⟨r.map .int, none⟩) r .int (by unfold sIt; rw [hi]; simp [lstD]) rfl (ok_none _) (by omega) (fun x => decide (x ≠ s)) .int (fun x hx acc => ?_)
    obtain ⟨ρ1, h1, h2, h3⟩ := hp x
    refine ⟨ρ1, h1, tst_b ?_, fun _ => h2 _⟩
    have e : (!(x == s)) = decide (x ≠ s) := by
      by_cases c : x = s
      · simp [c]
      · simp [c]
    simp only [s2, h2, h3, Option.bind_some]
    simp only [fEq, rd, pl_int, Bool.and_self, if_true, eqv_int, e]
  exact h
theorem restS_ev {c : Sm} {R : Ro} {i j k l : Nat} {rows : List (List Int)} (hk : RowsOk rows) {s : Int} {μ : Mu} (hi : sVar i R μ = some (.d (rowsL rows), μ))
    (hp : ∀ r : List Int, ∃ ρ1, (Tg.nm l).put (lstD r) (wipeR R [l]) = some ρ1 ∧ (∀ μ, sVar l ρ1 μ = some (.d (lstD r), μ)) ∧ ∀ x : Int, ∃ ρ2, (Tg.nm j).put (.int x) (wipeR ρ1 [j]) = some ρ2 ∧ (∀ μ, sVar j ρ2 μ = some (.d (.int x), μ)) ∧ (∀ μ, sVar k ρ2 μ = some (.d (.int s), μ))) :
    sComp false (sIt (sVar i)) (.nm l) sYes (sComp false (sIt (sVar l)) (.nm j) (sTst (s2 (fEq true) (sVar j) (sVar k))) (sVar j) [j]) [l] R μ = some (.d (rowsL (restS rows s)), μ) := by
  have h : sComp false (sIt (sVar i)) (.nm l) sYes (sComp false (sIt (sVar l)) (.nm j) (sTst (s2 (fEq true) (sVar j) (sVar k))) (sVar j) [j]) [l] R μ = some (mkL false ((rows.filter fun _ => true).map fun r => lstD (r.filter fun x => decide (x ≠ s))) μ) := by
    refine comp_ev (s := ⟨rows.map lstD, none⟩) rows lstD (by unfold sIt; rw [hi]; simp [rowsL]) rfl (ok_none _) (by have := hk.le; omega) (fun _ => true) _ (fun r hr acc => ?_)
    obtain ⟨ρ1, h1, h2, h3⟩ := hp r
    refine ⟨ρ1, h1, rfl, fun _ => ?_⟩
    exact cut_row_ev (c := c) (by have := r_len hk r hr; omega) (h2 _) h3
  rw [h, filter_yes]
  unfold rowsL restS
  rw [List.map_map]
  rfl
theorem none_or_gt {a b : Sm} {ρ : Ro} {μ : Mu} {rows : List (List Int)} {n : Nat} {N : Int} (e : ∀ μ', μ' = μ → a ρ μ' = some (.d (numO rows n), μ')) (e2 : b ρ μ = some (.d (.int N), μ)) :
    sOr (sTst (s2 (fIs false) a (sC .none))) (sTst (s2 fGt a b)) ρ μ = some (!fits n rows || decide (numR rows n > N), μ) := by
  have e := e μ rfl
  cases c : fits n rows with
  | false =>
    have : numO rows n = .none := by unfold numO; rw [c]; rfl
    rw [this] at e
    refine or_t (tst_b ?_)
    simp only [s2, e, Option.bind_some, sC]
    simp
  | true =>
    rw [numO_fits c] at e
    refine or_f (tst_b ?_) ?_
    · simp only [s2, e, Option.bind_some, sC]
      simp
    · exact gt_ev e e2
theorem need_step {rows : List (List Int)} (h : RowsOk rows) (n : Nat) (N : Int) (hN : N = numR rows n) (Y : PyData) (s : Int) (μ : Mu) (acc : List PyData) (ha : acc.length ≤ 1000) (r3 r7 : Option Rv) :
    ∃ r7', l_needed_seats_1 [some (.d Y), some (.d (.int n)), some (.d (rowsL rows)), r3, some (.d (.int N)), some (.m μ.length), some (.d (.int s)), r7, none, none] (μ ++ [.lst acc]) = some (.nx, [some (.d Y), some (.d (.int n)), some (.d (rowsL rows)), r3, some (.d (.int N)), some (.m μ.length), some (.d (.int s)), some (.d r7'), none, none], μ ++ [.lst (acc ++ (if needB rows n s then [.int s] else []))]) := by
  refine ⟨numO (restS rows s) n, ?_⟩
  have c2 : C_needed_seats_2 [some (.d Y), some (.d (.int n)), some (.d (rowsL rows)), r3, some (.d (.int N)), some (.m μ.length), some (.d (.int s)), r7, none, none] (μ ++ [.lst acc]) = some (.d (rowsL (restS rows s)), μ ++ [.lst acc]) := by
    refine restS_ev (c := C_needed_seats_2) (i := 2) (j := 8) (k := 6) (l := 9) h rfl (fun r => ⟨[some (.d Y), some (.d (.int n)), some (.d (rowsL rows)), r3, some (.d (.int N)), some (.m μ.length), some (.d (.int s)), r7, none, some (.d (lstD r))], rfl, fun μ => rfl, fun x => ⟨[some (.d Y), some (.d (.int n)), some (.d (rowsL rows)), r3, some (.d (.int N)), some (.m μ.length), some (.d (.int s)), r7, some (.d (.int x)), some (.d (lstD r))], rfl, fun μ => rfl, fun μ => rfl⟩⟩)
  have en := number_of_ev (restS_ok h s) n (μ ++ [.lst acc])
  have e1 : sCall 2 g_number_of (sCons C_needed_seats_2 (sCons (sVar 1) sNil)) [some (.d Y), some (.d (.int n)), some (.d (rowsL rows)), r3, some (.d (.int N)), some (.m μ.length), some (.d (.int s)), r7, none, none] (μ ++ [.lst acc]) = some (.d (numO (restS rows s) n), μ ++ [.lst acc]) := call_ev (cons_ev c2 (cons_ev rfl nil_ev)) rfl en
  unfold l_needed_seats_1
  rw [seq_nx (asg_nm e1)]
  simp only [List.set_cons_succ, List.set_cons_zero]
  have t := none_or_gt (a := sVar 7) (b := sVar 4) (ρ := [some (.d Y), some (.d (.int n)), some (.d (rowsL rows)), r3, some (.d (.int N)), some (.m μ.length), some (.d (.int s)), some (.d (numO (restS rows s) n)), none, none]) (μ := μ ++ [.lst acc]) (rows := restS rows s) (n := n) (N := N) (fun μ' _ => rfl) rfl
  have hb : (!fits n (restS rows s) || decide (numR (restS rows s) n > N)) = needB rows n s := by rw [hN]; rfl
  rw [hb] at t
  cases c : needB rows n s with
  | true =>
    rw [c] at t
    have a := app_ev (i := 5) (k := 0) (m := sVar 6) (ρ := [some (.d Y), some (.d (.int n)), some (.d (rowsL rows)), r3, some (.d (.int N)), some (.m μ.length), some (.d (.int s)), some (.d (numO (restS rows s) n)), none, none]) (μ := μ) (ds := acc) (d := .int s) rfl rfl (by omega)
    unfold sIf
    rw [t]
    simp only [Option.bind_some, if_true]
    rw [a]
  | false =>
    rw [c] at t
    rw [if_no t]
    simp
theorem need_snoc (b : Int → Bool) {T k : Nat} {x : Int} (e : (nums T)[k]? = some x) : (((nums T).take (k + 1)).filter fun h => b h).map PyData.int = (((nums T).take k).filter fun h => b h).map PyData.int ++ (if b x then [.int x] else []) := by
  rw [take_snoc e, List.filter_append, List.map_append]
  congr 1
  cases c : b x with
  | true => simp [c]
  | false => simp [c]
theorem needed_seats_ev {y : Yd} (ok : y.Ok) (n8 : y.n ≤ 8) (s1 : 1 ≤ y.sun.length) (s8 : y.sun.length ≤ 8) {n : Nat} (hn : ∀ t, t < y.sun.length → n ≤ (seatsAt y t).length) (μ : Mu) :
    g_needed_seats [.d (yardD y), .d (.int n)] μ = some (.d (.list ((needL (rowsY y) n y.n.toNat).map .int)), μ) := by
  have h := rowsY_ok n8 s1 s8
  have hf := rowsY_fits hn
  have ec : C_needed_seats_3 [some (.d (yardD y)), some (.d (.int n)), none, none, none, none, none, none, none, none] μ = some (.d (rowsL (rowsY y)), μ) := by
    refine rowsY_ev (y := y) (c := C_needed_seats_3) (T := y.sun.length) rfl (by omega) (f := g_shaded) (i := 0) (j := 3) (rng1_ev (sun_len y _ _) (by omega)) (fun t μ ht => shaded_ev ok ht μ) (fun t => ⟨[some (.d (yardD y)), some (.d (.int n)), none, some (.d (.int t)), none, none, none, none, none, none], rfl, fun μ => rfl, fun μ => rfl⟩)
  have en := number_of_ev h n μ
  rw [numO_fits hf] at en
  have hlen : (rowsY y).length ≤ 8 := h.le
  have hP : y.n.toNat ≤ 8 := by omega
  obtain ⟨f, ρ', μ', e, hh⟩ := for_ev (m := sRng1 (sCons (s2 fIx (sVar 0) (sC (.int 0))) sNil)) (t := .nm 6) (body := l_needed_seats_1) (ρ := [some (.d (yardD y)), some (.d (.int n)), some (.d (rowsL (rowsY y))), none, some (.d (.int (numR (rowsY y) n))), some (.m μ.length), none, none, none, none]) (μ := μ ++ [.lst []]) (μ1 := μ ++ [.lst []]) (s := ⟨rngD 0 y.n.toNat, none⟩) (nums y.n.toNat) .int (by rw [yardD_eq]; simp [yd_n ok]) (rng0 _)
    (fun j ρ μ' => (∃ r6 r7, ρ = [some (.d (yardD y)), some (.d (.int n)), some (.d (rowsL (rowsY y))), none, some (.d (.int (numR (rowsY y) n))), some (.m μ.length), r6, r7, none, none]) ∧ μ' = μ ++ [.lst ((((nums y.n.toNat).take j).filter fun s => needB (rowsY y) n s).map .int)]) (fun _ _ => False) ⟨⟨_, _, rfl⟩, rfl⟩ (by
      rintro j s ρ μ' hj ⟨⟨r6, r7, rfl⟩, rfl⟩
      rw [need_snoc (fun s => needB (rowsY y) n s) hj]
      have hl := List.length_filter_le (fun s : Int => needB (rowsY y) n s) ((nums y.n.toNat).take j)
      rw [List.length_take, nums_len] at hl
      obtain ⟨r7', st⟩ := need_step h n (numR (rowsY y) n) rfl (yardD y) s μ ((((nums y.n.toNat).take j).filter fun s => needB (rowsY y) n s).map .int) (by rw [List.length_map]; omega) none r7
      exact ⟨_, .nx, _, _, rfl, st, by simp [chkB_none], ⟨some (.d (.int s)), some (.d r7'), by simp⟩, by simp⟩)
  have hn2 : f = .nx := by cases f <;> simp at hh <;> rfl
  subst hn2
  obtain ⟨⟨r6, r7, rfl⟩, rfl⟩ := hh
  have hk : (nums y.n.toNat).take (nums y.n.toNat).length = nums y.n.toNat := List.take_length
  rw [hk] at e
  have e : L_needed_seats_1 [some (.d (yardD y)), some (.d (.int n)), some (.d (rowsL (rowsY y))), none, some (.d (.int (numR (rowsY y) n))), some (.m μ.length), none, none, none, none] (μ ++ [.lst []]) = _ := e
  refine fn_dm (ρ := [some (.d (yardD y)), some (.d (.int n)), none, none, none, none, none, none, none, none]) ?_ rfl rfl
  unfold b_needed_seats
  rw [seq_nx (asg_nm ec)]
  simp only [List.set_cons_succ, List.set_cons_zero]
  have en2 : sCall 2 g_number_of (sCons (sVar 2) (sCons (sVar 1) sNil)) [some (.d (yardD y)), some (.d (.int n)), some (.d (rowsL (rowsY y))), none, none, none, none, none, none, none] μ = some (.d (.int (numR (rowsY y) n)), μ) := call_ev (cons_ev rfl (cons_ev rfl nil_ev)) rfl en
  rw [seq_nx (asg_nm en2)]
  simp only [List.set_cons_succ, List.set_cons_zero]
  rw [seq_nx (ρ' := [some (.d (yardD y)), some (.d (.int n)), some (.d (rowsL (rowsY y))), none, some (.d (.int (numR (rowsY y) n))), some (.m μ.length), none, none, none, none]) (μ' := μ ++ [.lst []]) (by simp)]
  rw [seq_nx e]
  refine ⟨[some (.d (yardD y)), some (.d (.int n)), some (.d (rowsL (rowsY y))), none, some (.d (.int (numR (rowsY y) n))), some (.m μ.length), r6, r7, none, none], μ ++ [.dead], ?_, by simp⟩
  simp
  rfl
/-! ### the law's seats -/
end Sh
set_option Elab.async false
set_option linter.all false
set_option maxRecDepth 100000
set_option maxHeartbeats 1000000
namespace Sh
open PySem L2 PyProof.Rows
/-! ### a yard by the program's look -/
theorem is_from_int (i : Int) (lo hi : Int) (μ : Mu) : g_is_from [.d (.int i), .d (.int lo), .d (.int hi)] μ = some (.d (.bool (decide (lo ≤ i) && decide (i ≤ hi))), μ) := by
  simp only [g_is_from, mkFn, b_is_from]
  by_cases c : lo ≤ i <;> simp [c]
theorem gt0_ev (r : List Rv) (a b c : Option Rv) (μ : Mu) (y : Nat) : sTst (s2 fGt (sVar 3) (sC (.int 0))) [a, b, c, some (.d (.int y))] μ = some (decide (y ≠ 0), μ) := by
  rcases Nat.eq_zero_or_pos y with rfl | h
  · simp
  · have : y ≠ 0 := by omega
    simp [h, this]
theorem gstep2_ev (a b : Option Rv) (μ : Mu) (x y : Nat) (h : y ≠ 0) : w_is_lowest_1 [a, b, some (.d (.int x)), some (.d (.int y))] μ = some (.nx, [a, b, some (.d (.int y)), some (.d (.int ((x % y : Nat) : Int)))], μ) := by
  have : 0 < y := by omega
  simp [w_is_lowest_1, this]
theorem is_lowest_ev (a b : Nat) (hb : b < FUEL) (μ : Mu) : g_is_lowest [.d (.int a), .d (.int b)] μ = some (.d (.bool (decide (Nat.gcd a b = 1))), μ) := by
  have e := gcd_loop (m := μ.length) (test := sTst (s2 fGt (sVar 3) (sC (.int 0)))) (body := w_is_lowest_1) (t := .d (.int a)) (b := .d (.int b)) (μ := μ) rfl (fun x y => gt0_ev [] _ _ _ _ _) (fun x y h => gstep2_ev _ _ _ _ _ h) (fun x y => by simp) FUEL b a hb
  have e : W_is_lowest_1 [some (.d (.int a)), some (.d (.int b)), some (.d (.int a)), some (.d (.int b))] μ = _ := e
  simp only [g_is_lowest, mkFn, b_is_lowest]
  have hd : (((Nat.gcd a b : Nat) : Int) == 1) = decide (Nat.gcd a b = 1) := by
    rw [Bool.eq_iff_iff, beq_iff_eq, decide_eq_true_eq]; omega
  simp [e]
  exact hd
def slOk : PyData → Bool
  | .tuple [.int a, .int b] => decide (1 ≤ b) && decide (0 ≤ a) && decide (a ≤ 9 * b) && decide (Nat.gcd a.toNat b.toNat = 1)
  | _ => false
@[simp] theorem b64_9 : b64 9 = true := by decide
theorem slant_ii (a b : Int) (a0 : -1000000 ≤ a) (a1 : a ≤ 1000000) (b0 : -1000000 ≤ b) (b1 : b ≤ 1000000) (μ : Mu) : g_is_slant [.d (.tuple [.int a, .int b])] μ = some (.d (.bool (slOk (.tuple [.int a, .int b]))), μ) := by
  simp only [g_is_slant, mkFn, b_is_slant]
  have hB : b ≤ 100000000000000000000 := by omega
  by_cases c1 : 1 ≤ b
  · by_cases c2 : 0 ≤ a
    · by_cases c3 : a ≤ 9 * b
      · obtain ⟨m, rfl⟩ := Int.eq_ofNat_of_zero_le c2
        obtain ⟨n, rfl⟩ := Int.eq_ofNat_of_zero_le (show 0 ≤ b by omega)
        have hl := is_lowest_ev m n (Nat.lt_of_le_of_lt (show n ≤ 1000000 by omega) (by decide)) μ
        simp [is_from_int, slOk, c1, c2, c3, hB, hl]
      · simp [is_from_int, slOk, c1, c2, c3, hB]
    · simp [is_from_int, slOk, c1, c2, hB]
  · simp [is_from_int, slOk, c1]
def wallOk (n : Int) (w : Int × Int) : Bool := (decide (0 ≤ w.1) && decide (w.1 ≤ n)) && (decide (1 ≤ w.2) && decide (w.2 ≤ 9))
def rise (ws : List (Int × Int)) : Bool := (ws.zip (ws.drop 1)).all fun p => decide (p.1.1 < p.2.1)
theorem rise_pair : ∀ ws : List (Int × Int), rise ws = true ↔ (ws.map (·.1)).Pairwise (· < ·)
  | [] => by simp [rise]
  | [a] => by simp [rise]
  | a :: b :: r => by
    have ih := rise_pair (b :: r)
    have e : rise (a :: b :: r) = (decide (a.1 < b.1) && rise (b :: r)) := rfl
    rw [e, Bool.and_eq_true, decide_eq_true_eq, ih, List.map_cons, List.map_cons, List.pairwise_cons (a := a.1)]
    constructor
    · rintro ⟨h1, h2⟩
      refine ⟨fun y hy => ?_, h2⟩
      rcases List.mem_cons.mp hy with rfl | hy
      · exact h1
      · exact Int.lt_trans h1 ((List.pairwise_cons.mp h2).1 y hy)
    · rintro ⟨h1, h2⟩
      exact ⟨h1 _ List.mem_cons_self, h2⟩
theorem zip_walls (ws : List (Int × Int)) : zipD (ws.map wallD) ((ws.map wallD).drop 1) = (ws.zip (ws.drop 1)).map fun p => .tuple [wallD p.1, wallD p.2] := by
  unfold zipD
  rw [← List.map_drop, List.zipWith_map, List.zip, List.map_zipWith]
theorem are_walls_ev (n : Int) (ws : List (Int × Int)) (hl : ws.length ≤ 1000) (μ : Mu) : g_are_walls [.d (.int n), .d (.tuple (ws.map wallD))] μ = some (.d (.bool (decide (ws.length ≤ 8) && ws.all (wallOk n) && rise ws)), μ) := by
  have st : ∃ ρ', L_are_walls_1 [some (.d (.int n)), some (.d (.tuple (ws.map wallD))), none, none, none] μ = some (if ws.any (fun w => !wallOk n w) then .rt (.d (.bool false)) else .nx, ρ', μ) ∧ _ :=
    search_ev (ds := ws.map wallD) ws wallD (by simp) rfl (fun w => !wallOk n w) (.d (.bool false))
    (fun ρ => ∃ p, ρ = [some (.d (.int n)), some (.d (.tuple (ws.map wallD))), p, none, none]) ⟨_, rfl⟩ (by
      rintro ⟨a, b⟩ hw ρ ⟨p, rfl⟩
      refine ⟨_, rfl, ?_⟩
      by_cases c1 : 0 ≤ a <;> by_cases c2 : a ≤ n <;> by_cases c3 : 1 ≤ b <;> by_cases c4 : b ≤ 9 <;> simp [l_are_walls_1, wallD, is_from_int, wallOk, c1, c2, c3, c4])
  obtain ⟨ρ', e, h⟩ := st
  have ha : (ws.any fun w => !wallOk n w) = !ws.all (wallOk n) := by rw [List.all_eq_not_any_not, Bool.not_not]
  rw [ha] at e h
  have e0 : (sIf (sOr (sNot (sTst (s1 (fIsi .tuple) (sVar 1)))) (sTst (s2 fGt (sA fLen (sCons (sVar 1) sNil)) (sC (.int 8))))) (sRet (sC (.bool false))) sSkip) [some (.d (.int n)), some (.d (.tuple (ws.map wallD))), none, none, none] μ = some (if ws.length ≤ 8 then .nx else .rt (.d (.bool false)), [some (.d (.int n)), some (.d (.tuple (ws.map wallD))), none, none, none], μ) := by
    by_cases h8 : ws.length ≤ 8
    · have h8' : ¬ ((8 : Int) < (ws.length : Int)) := by omega
      simp [h8, h8']
    · have h8' : (8 : Int) < (ws.length : Int) := by omega
      simp [h8, h8']
  have fin : ∀ ρ2, b_are_walls [some (.d (.int n)), some (.d (.tuple (ws.map wallD))), none, none, none] μ = some (.rt (.d (.bool (decide (ws.length ≤ 8) && ws.all (wallOk n) && rise ws))), ρ2, μ) → g_are_walls [.d (.int n), .d (.tuple (ws.map wallD))] μ = some (.d (.bool (decide (ws.length ≤ 8) && ws.all (wallOk n) && rise ws)), μ) := by
    intro ρ2 e
    exact fn_d e rfl rfl
  by_cases h8 : ws.length ≤ 8
  · rw [if_pos h8] at e0
    have hd : decide (ws.length ≤ 8) = true := by simpa using h8
    cases hb : ws.all (wallOk n) with
    | false =>
      rw [hb] at e
      rw [hb] at fin
      rw [hd] at fin ⊢
      refine fin ρ' ?_
      unfold b_are_walls
      rw [seq_nx e0, seq_rt e]
      rfl
    | true =>
      rw [hb] at e h
      rw [hb] at fin
      rw [hd] at fin ⊢
      obtain ⟨p, rfl⟩ := h rfl
      have ec : C_are_walls_1 [some (.d (.int n)), some (.d (.tuple (ws.map wallD))), p, none, none] μ = some (mkL false (((ws.zip (ws.drop 1)).filter fun _ => true).map fun p => .bool (decide (p.1.1 < p.2.1))) μ) := by
        refine comp_ev (s := ⟨zipD (ws.map wallD) ((ws.map wallD).drop 1), none⟩) (ws.zip (ws.drop 1)) (fun p => .tuple [wallD p.1, wallD p.2]) ?_ (zip_walls ws) (ok_none _) ?_ (fun _ => true) _ ?_
        · simp
        · rw [List.length_zip]; omega
        · intro q hq acc
          refine ⟨[some (.d (.int n)), some (.d (.tuple (ws.map wallD))), p, some (.d (wallD q.1)), some (.d (wallD q.2))], rfl, rfl, fun _ => ?_⟩
          simp [wallD]
      rw [List.filter_eq_self.mpr (fun _ _ => rfl)] at ec
      have hr : ((ws.zip (ws.drop 1)).map fun p => decide (p.1.1 < p.2.1)).all id = rise ws := by
        unfold rise
        rw [List.all_map]; rfl
      have eb := bools_map (fun p : (Int × Int) × (Int × Int) => decide (p.1.1 < p.2.1)) (ws.zip (ws.drop 1))
      generalize hz : ws.zip (ws.drop 1) = zs at ec hr eb
      have ec : C_are_walls_1 [some (.d (.int n)), some (.d (.tuple (ws.map wallD))), p, none, none] μ = some (.d (.list (zs.map fun p => .bool (decide (p.1.1 < p.2.1)))), μ) := ec
      have es : (sRet (sA fAll (sCons C_are_walls_1 sNil))) [some (.d (.int n)), some (.d (.tuple (ws.map wallD))), p, none, none] μ = some (.rt (.d (.bool (rise ws))), [some (.d (.int n)), some (.d (.tuple (ws.map wallD))), p, none, none], μ) := by
        rw [← hr]
        simp only [sRet, sA, sCons, sNil, fAll, listOf, rd, ec, eb, Option.bind_some, Option.map_some]
      refine fin [some (.d (.int n)), some (.d (.tuple (ws.map wallD))), p, none, none] ?_
      unfold b_are_walls
      rw [seq_nx e0, seq_nx e]
      exact es
  · rw [if_neg h8] at e0
    have hd : decide (ws.length ≤ 8) = false := by simpa using h8
    rw [hd] at fin ⊢
    refine fin [some (.d (.int n)), some (.d (.tuple (ws.map wallD))), none, none, none] ?_
    unfold b_are_walls
    rw [seq_rt e0]
    rfl
structure Valid (y : Yd) : Prop where
  n1 : 1 ≤ y.n
  n8 : y.n ≤ 8
  wl : y.walls.length ≤ 8
  w : ∀ w ∈ y.walls, 0 ≤ w.1 ∧ w.1 ≤ y.n ∧ 1 ≤ w.2 ∧ w.2 ≤ 9
  r : (y.walls.map (·.1)).Pairwise (· < ·)
  s1 : 1 ≤ y.sun.length
  sl : y.sun.length ≤ 8
  s : ∀ h ∈ y.sun, 0 ≤ h.2.1 ∧ h.2.1 ≤ 9 * h.2.2 ∧ 1 ≤ h.2.2 ∧ h.2.2 ≤ 100000 ∧ Nat.gcd h.2.1.toNat h.2.2.toNat = 1
theorem Valid.ok {y : Yd} (v : Valid y) : y.Ok :=
  ⟨v.n1, by have := v.n8; omega, by have := v.wl; omega, by have := v.sl; omega, fun w hw => by have := v.w w hw; have := v.n8; omega, fun h hh => by have := v.s h hh; omega⟩
theorem valid_walls {y : Yd} (v : Valid y) : (decide (y.walls.length ≤ 8) && y.walls.all (wallOk y.n) && rise y.walls) = true := by
  rw [decide_eq_true v.wl, (rise_pair y.walls).mpr v.r]
  have : y.walls.all (wallOk y.n) = true := List.all_eq_true.mpr fun w hw => by
    obtain ⟨a, b, c, d⟩ := v.w w hw
    simp [wallOk, a, b, c, d]
  rw [this]; rfl
theorem is_yard_ev {y : Yd} (v : Valid y) (μ : Mu) : g_is_yard [.d (yardD y)] μ = some (.d (.bool true), μ) := by
  have n1 := v.n1
  have n8 := v.n8
  have s1 := v.s1
  have sl := v.sl
  have aw := are_walls_ev y.n y.walls (by have := v.wl; omega) μ
  rw [valid_walls v] at aw
  obtain ⟨ρ', e, h⟩ := search_ev (m := sIt (s2 fIx (sVar 0) (sC (.int 2)))) (t := .nm 1) (body := l_is_yard_1) (ρ := [some (.d (yardD y)), none]) (μ := μ) (ds := y.sun.map hourD) y.sun hourD (by rw [yardD_eq]; simp) rfl (fun _ => false) (.d (.bool false)) (fun ρ => ∃ a, ρ = [some (.d (yardD y)), a]) ⟨_, rfl⟩ (by
    rintro ⟨sd, a, b⟩ hh ρ ⟨x, rfl⟩
    obtain ⟨a0, a9, b1, b2, hg⟩ := v.s _ hh
    have hg : Nat.gcd a.toNat b.toNat = 1 := hg
    have a0 : 0 ≤ a := a0
    have a9 : a ≤ 9 * b := a9
    have b1 : 1 ≤ b := b1
    have b2 : b ≤ 100000 := b2
    have sv := slant_ii a b (by omega) (by omega) (by omega) (by omega) μ
    have so : slOk (.tuple [.int a, .int b]) = true := by simp [slOk, a0, a9, b1, hg]
    rw [so] at sv
    refine ⟨_, rfl, [some (.d (yardD y)), some (.d (hourD (sd, a, b)))], ?_, _, rfl⟩
    unfold l_is_yard_1 hourD
    cases sd <;> simp [sv, sideS])
  have e : L_is_yard_1 [some (.d (yardD y)), none] μ = _ := e
  have hf : (y.sun.any fun _ => false) = false := by simp
  rw [hf] at e
  refine fn_d (ρ := [some (.d (yardD y)), none]) (ρ' := ρ') ?_ rfl rfl
  unfold b_is_yard
  rw [seq_nx (ρ' := [some (.d (yardD y)), none]) (μ' := μ) (by
    rw [yardD_eq]
    simp [is_from_int, n1, n8])]
  have h1 : (1 : Int) ≤ (y.sun.length : Int) := by omega
  have h8 : (y.sun.length : Int) ≤ 8 := by omega
  rw [seq_nx (ρ' := [some (.d (yardD y)), none]) (μ' := μ) (by
    rw [yardD_eq]
    simp [aw, h1, h8]
    try omega)]
  rw [seq_nx e]
  simp
end Sh
set_option Elab.async false
set_option linter.all false
set_option maxRecDepth 100000
set_option maxHeartbeats 1000000
namespace Sh
open PySem L2 PyProof.Rows
/-! ### first seats given -/
def LsF (y : Yd) (n : Nat) (F : List Int) (t : Nat) : List (List Int) := lotsL n (firstS (seatsAt y) F t)
def numF (y : Yd) (n : Nat) (F : List Int) : Int := (lastP (LsF y n F) (hi y)).1
def sitF (y : Yd) (n : Nat) (F : List Int) (t : Nat) : List Int := stOf (LsF y n F) (hi y) t
section
variable {y : Yd} {n : Nat} (g : GoodN y n) {F : List Int} (hF : F ∈ lotsAt y n 0)
include g hF
theorem F_sub : F.Sublist (seatsAt y 0) := (lots_mem.mp hF).1
theorem F_len : F.length = n := (lots_mem.mp hF).2
theorem F_nd (t : Nat) : (firstS (seatsAt y) F t).Nodup := by
  cases t with
  | zero => exact (rise_nodup (seats_rise y 0)).sublist (F_sub g hF)
  | succ t => exact rise_nodup (seats_rise y (t + 1))
theorem F_8 (t : Nat) : (firstS (seatsAt y) F t).length ≤ 8 := by
  cases t with
  | zero => exact Nat.le_trans (F_sub g hF).length_le (seats_len g.n7 0)
  | succ t => exact seats_len g.n7 (t + 1)
theorem F_room {t : Nat} (ht : t < y.sun.length) : n ≤ (firstS (seatsAt y) F t).length := by
  cases t with
  | zero => exact Nat.le_of_eq (F_len g hF).symm
  | succ t => exact g.room _ ht
theorem F_lok : LotsOk (LsF y n F) (hi y) := lotsOkG (S := firstS (seatsAt y) F) (F_nd g hF) (F_8 g hF) fun t ht => F_room g hF (by have := hi_eq g; omega)
theorem fewest_numF (μ : Mu) : g_fewest [.d (yardD y), .d (.int n), .d (rowD F)] μ = some (.d (.tuple [.int (numF y n F), rowsD (sitF y n F) y.sun.length]), μ) := by
  have hm := hi_eq g
  have hs := g.sl
  have c := lots_comp g.ok g.n7 n μ (some (.d (rowD F))) none none
  have b := best_ev (LsF y n F) (hi y) (by omega) (F_lok g hF) μ
  have b0 : lotsD (LsF y n F 0) = .list [rowD F] := by
    show lotsD (lotsL n F) = _
    have := lots_self (F := F) (F_nd g hF 0)
    rw [F_len g hF] at this
    rw [this]; rfl
  rw [b0] at b
  rw [hm] at c
  have e0 : ((List.range (hi y + 1)).map fun t => lotsD (lotsAt y n t)).drop 1 = (List.range (hi y)).map fun t => lotsD (LsF y n F (t + 1)) := drop_range _ _
  have e : seatD (LsF y n F) (hi y) = rowsD (sitF y n F) y.sun.length := by
    rw [hm]; rfl
  rw [e] at b
  have b : g_best [.d (.list ((List.range (hi y)).map fun t => lotsD (LsF y n F (t + 1)))), .d (.list [rowD F])] μ = some (.d (.tuple [.int (numF y n F), rowsD (sitF y n F) y.sun.length]), μ) := b
  generalize rowsD (sitF y n F) y.sun.length = D at b
  generalize numF y n F = N at b
  refine fn_dm (ρ := [some (.d (yardD y)), some (.d (.int n)), some (.d (rowD F)), none, none]) ?_ rfl rfl
  unfold b_fewest
  rw [seq_nx (ρ' := [some (.d (yardD y)), some (.d (.int n)), some (.d (rowD F)), some (.d (.list ((List.range (hi y + 1)).map fun t => lotsD (lotsAt y n t)))), none]) (μ' := μ) (by simp [c])]
  refine ⟨[some (.d (yardD y)), some (.d (.int n)), some (.d (rowD F)), some (.d (.list ((List.range (hi y + 1)).map fun t => lotsD (lotsAt y n t)))), none], μ, ?_, by simp⟩
  rw [List.drop_one] at e0
  have hN : isN (rowD F) = false := rfl
  simp [-isN, e0, b, hN]
end
/-! ### the told ones, as values -/
theorem fewest_val {y : Yd} {n : Nat} (g : GoodN y n) (μ : Mu) : g_fewest [.d (yardD y), .d (.int n), .d .none] μ = some (.d (.tuple [.int (num y n), seatD (lotsAt y n) (hi y)]), μ) :=
  fewest_ev g.ok g.n7 (n := n) (m := hi y) (hi_eq g) (fun t ht => g.room t (by have := hi_eq g; omega)) μ
theorem callD_ev {n : Nat} {g : Fn} {a : Sa} {ρ : Ro} {μ μ1 μ2 : Mu} {rs : List Rv} {r : Rv} (e : a ρ μ = some (rs, μ1)) (h : rs.length = n) (eg : g (rs ++ [.d .none]) μ1 = some (r, μ2)) : sCallD n g a ρ μ = some (r, μ2) := by
  unfold sCallD sA
  rw [e]
  simp only [Option.bind_some]
  rw [if_pos h]
  exact eg
theorem callK_ev {n : Nat} {g : Fn} {a : Sa} {b : Sm} {ρ : Ro} {μ μ1 μ2 μ3 : Mu} {rs : List Rv} {r q : Rv} (e : a ρ μ = some (rs, μ1)) (e2 : b ρ μ1 = some (q, μ2)) (h : rs.length = n) (eg : g (rs ++ [q]) μ2 = some (r, μ3)) : sCallK n g a b ρ μ = some (r, μ3) := by
  unfold sCallK
  rw [e]
  simp only [Option.bind_some]
  rw [e2]
  simp only [Option.bind_some]
  rw [if_pos h]
  exact eg
theorem shows_val {y : Yd} (ok : y.Ok) (n8 : y.n ≤ 8) (s8 : y.sun.length ≤ 8) (n : Nat) (hn : n ≤ 1000) {l : List Int} (hl : l ∈ allL y.sun.length) (μ : Mu) : g_lot_shows [.d (yardD y), .d (.int n), .d (rowD l), .d .none] μ = some (.d (.int (showsV (spP y) n l)), μ) :=
  lot_shows_evG s8 .none (spP y) (counted_ev ok n8 s8) n hn hl μ
theorem shows_valF {y : Yd} (ok : y.Ok) (n8 : y.n ≤ 8) (s8 : y.sun.length ≤ 8) (F : List Int) (n : Nat) (hn : n ≤ 1000) {l : List Int} (hl : l ∈ allL y.sun.length) (μ : Mu) : g_lot_shows [.d (yardD y), .d (.int n), .d (rowD l), .d (rowD F)] μ = some (.d (.int (showsV (spC y F) n l)), μ) :=
  lot_shows_evG s8 (rowD F) (spC y F) (counted_evF ok n8 s8 F) n hn hl μ
/-! ### comparing values -/
theorem eq_ev (neg : Bool) {a b : Sm} {ρ : Ro} {μ : Mu} {x y : PyData} (e1 : a ρ μ = some (.d x, μ)) (e2 : b ρ μ = some (.d y, μ)) (hp : pl 9 x = true) (hp2 : pl 9 y = true) : s2 (fEq neg) a b ρ μ = some (.d (.bool (if neg then !PyData.eqv x y else PyData.eqv x y)), μ) := by
  unfold s2
  rw [e1]
  simp only [Option.bind_some]
  rw [e2]
  simp only [Option.bind_some, fEq, rd, hp, hp2, Bool.and_self, if_true]
mutual
theorem eqv_refl : ∀ (n : Nat) (x : PyData), pl n x = true → PyData.eqv x x = true
  | 0, .none, _ => rfl
  | n + 1, .none, _ => rfl
  | _, .bool b, _ => by simp
  | _, .int i, _ => by simp
  | _, .str z, _ => by simp
  | n + 1, .list ds, h => eqvAll_refl n ds (by simpa using h)
  | n + 1, .tuple ds, h => eqvAll_refl n ds (by simpa using h)
  | 0, .list _, h => by cases h
  | 0, .tuple _, h => by cases h
  | 0, .dict _, h => by cases h
  | n + 1, .dict _, h => by cases h
theorem eqvAll_refl : ∀ (n : Nat) (xs : List PyData), plAll n xs = true → PyData.eqvAll xs xs = true
  | n, [], _ => rfl
  | n, x :: xs, h => by
    rw [plAll_cons, Bool.and_eq_true] at h
    rw [eqvAll_cons, eqv_refl n x h.1, eqvAll_refl n xs h.2]; rfl
end
/-- != of the same value is false -/
theorem ne_same {a b : Sm} {ρ : Ro} {μ : Mu} {x : PyData} (e1 : a ρ μ = some (.d x, μ)) (e2 : b ρ μ = some (.d x, μ)) (hp : pl 9 x = true) : sTst (s2 (fEq true) a b) ρ μ = some (false, μ) := by
  refine tst_b ?_
  rw [eq_ev true e1 e2 hp hp, eqv_refl 9 x hp]
  rfl
theorem eq_same {a b : Sm} {ρ : Ro} {μ : Mu} {x : PyData} (e1 : a ρ μ = some (.d x, μ)) (e2 : b ρ μ = some (.d x, μ)) (hp : pl 9 x = true) : s2 (fEq false) a b ρ μ = some (.d (.bool true), μ) := by
  rw [eq_ev false e1 e2 hp hp, eqv_refl 9 x hp]
  rfl
theorem pl_int' (n : Nat) (i : Int) : pl n (.int i) = true := pl_int n i
theorem pl_row (n : Nat) (l : List Int) : pl (n + 1) (rowD l) = true := plAll_ints n l
theorem pl_map {α : Type} (f : α → PyData) (n : Nat) (xs : List α) (h : ∀ x, pl n (f x) = true) : pl (n + 1) (.list (xs.map f)) = true := plAll_of fun x _ => h x
theorem pl_mapT {α : Type} (f : α → PyData) (n : Nat) (xs : List α) (h : ∀ x, pl n (f x) = true) : pl (n + 1) (.tuple (xs.map f)) = true := plAll_of fun x _ => h x
theorem pl_tri (n : Nat) (p : Int × Int × Int) : pl (n + 1) (triD p) = true := by simp [triD]
end Sh
set_option Elab.async false
set_option linter.all false
set_option maxRecDepth 100000
set_option maxHeartbeats 1000000
namespace Sh
open PySem L2 PyProof.Rows
/-! ### small steps -/
theorem cat_ev {b : Bool} {m k : Sm} {ρ : Ro} {μ μ1 μ2 : Mu} {xs ys : List PyData} (e : m ρ μ = some (.d (.tuple xs), μ1)) (e2 : k ρ μ1 = some (.d (.tuple ys), μ2)) (hl : xs.length + ys.length ≤ 4096) : s2 (fAdd b) m k ρ μ = some (.d (.tuple (xs ++ ys)), μ2) := by
  unfold s2
  rw [e]
  simp only [Option.bind_some]
  rw [e2]
  simp only [Option.bind_some, fAdd, rd]
  rw [if_pos hl]
theorem sl_take {base m : Sm} {ρ : Ro} {μ : Mu} {xs : List PyData} {a : Nat} (hv : base ρ μ = some (.d (.tuple xs), μ)) (hm : m ρ μ = some (.d (.int a), μ)) : sSl false base sNoP (sPart m) ρ μ = some (.d (.tuple (xs.take a)), μ) := by
  have c1 : cutG xs none (some (a : Int)) = xs.take a := cut_take _ a
  unfold sSl
  rw [hv]
  simp only [Option.bind_some]
  rw [← c1]
  unfold sPart
  rw [show sNoP ρ μ = some (none, μ) from rfl]
  simp only [Option.bind_some]
  rw [hm]
  rfl
theorem sl_drop {base m : Sm} {ρ : Ro} {μ : Mu} {xs : List PyData} {a : Nat} (hv : base ρ μ = some (.d (.tuple xs), μ)) (hm : m ρ μ = some (.d (.int a), μ)) : sSl false base (sPart (s2 (fAdd false) m (sC (.int 1)))) sNoP ρ μ = some (.d (.tuple (xs.drop (a + 1))), μ) := by
  have c3 : cutG xs (some ((a : Int) + 1)) none = xs.drop (a + 1) := cut_drop _ (a + 1)
  unfold sSl
  rw [hv]
  simp only [Option.bind_some]
  rw [← c3]
  unfold sPart s2
  rw [hm]
  rfl
theorem met_ev {f : FM} {o : Sm} {a : Sa} {ρ : Ro} {μ μ1 μ2 : Mu} {x : Rv} {rs : List Rv} {r : Rv × Mu} (e : o ρ μ = some (x, μ1)) (hl : isLst μ1 x = true) (ea : a ρ μ1 = some (rs, μ2)) (ef : f μ2 x rs = some r) : sMet f o a ρ μ = some r := by
  unfold sMet
  rw [e]
  simp only [Option.bind_some]
  rw [if_pos hl, ea]
  exact ef
theorem tup3_ev {a b c : Sm} {ρ : Ro} {μ μ2 : Mu} {x y z : PyData} (e : a ρ μ = some (.d x, μ)) (e2 : b ρ μ = some (.d y, μ2)) (e3 : c ρ μ2 = some (.d z, μ2)) : sA fTup (sCons a (sCons b (sCons c sNil))) ρ μ = some (.d (.tuple [x, y, z]), μ2) := by
  unfold sA
  rw [cons_ev e (cons_ev e2 (cons_ev e3 nil_ev))]
  rfl
theorem pair_ev {a b : Sm} {ρ : Ro} {μ μ2 : Mu} {x y : PyData} (e : a ρ μ = some (.d x, μ)) (e2 : b ρ μ = some (.d y, μ2)) : sA fTup (sCons a (sCons b sNil)) ρ μ = some (.d (.tuple [x, y]), μ2) := by
  unfold sA
  rw [cons_ev e (cons_ev e2 nil_ev)]
  rfl
theorem one_ev {a : Sm} {ρ : Ro} {μ μ2 : Mu} {x : PyData} (e : a ρ μ = some (.d x, μ2)) : sA fTup (sCons a sNil) ρ μ = some (.d (.tuple [x]), μ2) := by
  unfold sA
  rw [cons_ev e nil_ev]
  rfl
theorem asg_to {m : Sm} {i : Nat} {d : PyData} {ρ : Ro} {μ μ2 : Mu} (e : m ρ μ = some (.d d, μ2)) : sAsg m (.nm i) ρ μ = some (.nx, ρ.set i (some (.d d)), μ2) := by
  unfold sAsg
  rw [e]
  rfl
theorem if_yes {t : Sb} {a b : Ss} {ρ : Ro} {μ : Mu} (e : t ρ μ = some (true, μ)) : sIf t a b ρ μ = a ρ μ := by simp [e]
theorem mul1_ev (x : PyData) (T : Nat) (h1 : 1 ≤ T) (h8 : T ≤ 20) (μ : Mu) : fMul1 μ (.d (.tuple [x])) (.d (.int T)) = some (.d (.tuple (List.replicate T x)), μ) := by
  by_cases c : T = 1
  · subst c; rfl
  · have h2 : (2 : Int) ≤ T := by omega
    have h3 : (T : Int) ≤ 20 := by omega
    unfold fMul1
    split
    · rename_i xs e1 e2
      simp at e2
      omega
    · simp [h2, h3]
/-! ### a wall amid four seats -/
def rngI (i j : Int) : List Int := (List.range (j - i).toNat).map fun (k : Nat) => i + (k : Int)
theorem rngI_D (i j : Int) : rngD i (j - i).toNat = (rngI i j).map .int := by
  unfold rngD rngI
  rw [List.map_map]; rfl
theorem tupRg2_ev {a b : Sm} {ρ : Ro} {μ : Mu} {i j : Int} (e1 : a ρ μ = some (.d (.int i), μ)) (e2 : b ρ μ = some (.d (.int j), μ)) (h1 : -4096 ≤ i) (h2 : i ≤ 4096) (h3 : -4096 ≤ j) (h4 : j ≤ 4096) : s2 fTupRg2 a b ρ μ = some (.d (rowD (rngI i j)), μ) := by
  unfold s2
  rw [e1]
  simp only [Option.bind_some]
  rw [e2]
  simp only [Option.bind_some, fTupRg2, bRg_eq h1 h2 h3 h4, if_true]
  rw [rngI_D]; rfl
theorem lstRg2_ev {a b : Sm} {ρ : Ro} {μ : Mu} {i j : Int} (e1 : a ρ μ = some (.d (.int i), μ)) (e2 : b ρ μ = some (.d (.int j), μ)) (h1 : -4096 ≤ i) (h2 : i ≤ 4096) (h3 : -4096 ≤ j) (h4 : j ≤ 4096) : s2 (fLstRg2 false) a b ρ μ = some (.d (.list ((rngI i j).map .int)), μ) := by
  unfold s2
  rw [e1]
  simp only [Option.bind_some]
  rw [e2]
  simp only [Option.bind_some, fLstRg2, bRg_eq h1 h2 h3 h4, if_true]
  rw [rngI_D]; rfl
theorem catL_ev {m k : Sm} {ρ : Ro} {μ : Mu} {xs ys : List PyData} (e : m ρ μ = some (.d (.list xs), μ)) (e2 : k ρ μ = some (.d (.list ys), μ)) (hl : xs.length + ys.length ≤ 4096) : s2 (fAdd false) m k ρ μ = some (.d (.list (xs ++ ys)), μ) := by
  unfold s2
  rw [e]
  simp only [Option.bind_some]
  rw [e2]
  simp only [Option.bind_some, fAdd, rd]
  rw [if_pos hl]
  rfl
theorem mulL_ev {x : PyData} {m : Sm} {ρ : Ro} {μ : Mu} {i j : Int} {a b : Sm} (e : m ρ μ = some (.d (.list [x]), μ)) (e1 : a ρ μ = some (.d (.int i), μ)) (e2 : b ρ μ = some (.d (.int j), μ)) :
    s2 (fMulL false) m (sA fInt (sCons (s2 (fEq false) a b) sNil)) ρ μ = some (.d (.list (if i = j then [x] else [])), μ) := by
  have q := eq_ev false e1 e2 (pl_int' _ _) (pl_int' _ _)
  have q2 := arg1_ev (f := fInt) (r := (.d (.int (if (i == j) then 1 else 0)), μ)) q (by simp)
  unfold s2 at q2 ⊢
  rw [e]
  simp only [Option.bind_some]
  rw [q2]
  by_cases c : i = j
  · subst c; simp
  · simp [c]
def sitL (y : Yd) (n : Nat) : List (List Int) := (List.range (hi y + 1)).map fun t => pth (lotsAt y n) (hi y) (lastP (lotsAt y n) (hi y)).2.1 (hi y - t)
theorem seatD_sit (y : Yd) (n : Nat) : seatD (lotsAt y n) (hi y) = .tuple ((sitL y n).map rowD) := by
  unfold seatD sitL
  rw [List.map_map]; rfl
def sitFL (y : Yd) (n : Nat) (F : List Int) : List (List Int) := (List.range y.sun.length).map (sitF y n F)
theorem rowsD_sit (y : Yd) (n : Nat) (F : List Int) : rowsD (sitF y n F) y.sun.length = .tuple ((sitFL y n F).map rowD) := by
  unfold rowsD sitFL
  rw [List.map_map]; rfl
def roomB (y : Yd) (n : Nat) : Bool := (List.range y.sun.length).all fun t => decide (n ≤ (seatsAt y t).length)
def okB (y : Yd) : Bool := decide (1 ≤ y.n) && decide (y.n ≤ 8) && decide (y.walls.length ≤ 8) && decide (1 ≤ y.sun.length) && decide (y.sun.length ≤ 8) && (y.walls.all fun w => decide (0 ≤ w.1 ∧ w.1 ≤ 9 ∧ 1 ≤ w.2 ∧ w.2 ≤ 9)) && (y.sun.all fun h => decide (0 ≤ h.2.1 ∧ h.2.1 ≤ 1000000 ∧ 1 ≤ h.2.2 ∧ h.2.2 ≤ 1000000))
theorem okB_ok {y : Yd} (h : okB y = true) : y.Ok ∧ y.n ≤ 8 ∧ 1 ≤ y.sun.length ∧ y.sun.length ≤ 8 := by
  unfold okB at h
  simp only [Bool.and_eq_true, decide_eq_true_eq, List.all_eq_true] at h
  obtain ⟨⟨⟨⟨⟨⟨h1, h2⟩, h3⟩, h4⟩, h5⟩, h6⟩, h7⟩ := h
  exact ⟨⟨h1, by omega, by omega, by omega, h6, h7⟩, h2, h4, h5⟩
theorem good_of {y : Yd} {n : Nat} (h : okB y = true) (hr : roomB y n = true) : GoodN y n := by
  obtain ⟨h1, h2, h3, h4⟩ := okB_ok h
  exact ⟨h1, h2, h3, h4, fun t ht => by
    have := List.all_eq_true.mp hr t (List.mem_range.mpr ht)
    simpa using this⟩
def yO (e l h : Nat) : Yd := ⟨4, [(2, (h : Int))], List.replicate e (true, 1, 1) ++ List.replicate l (false, 1, 1)⟩
def nearO (h : Nat) : Nat := min 2 h
def rowA (h : Nat) : List Int := rngI (2 - nearO h) 2
def rowC (h : Nat) : List Int := rngI 2 (2 + nearO h)
def dueO (e l h : Nat) : List (Int × Int × Int) := (rowA h).map (fun s => (s, 0, (e : Int) - 1)) ++ (rowC h).map (fun s => (s, (e : Int), (e : Int) + l - 1))
structure OverOk (e l h : Nat) : Prop where
  ok : okB (yO e l h) = true
  len : (yO e l h).sun.length = e + l
  r1 : roomB (yO e l h) 1 = true
  rn : roomB (yO e l h) (nearO h) = true
  st : spansL (yO e l h) = dueO e l h
  ms : most (yO e l h) = (nearO h : Int)
  se : seatsAt (yO e l h) e = rowC h
  num : num (yO e l h) (nearO h) = 2 * (nearO h : Int)
  sit : sitL (yO e l h) (nearO h) = List.replicate e (rowA h) ++ List.replicate l (rowC h)
  a1 : [0, (e : Int)] ∈ allL (yO e l h).sun.length
  a2 : [0] ∈ allL (yO e l h).sun.length
  s1 : showsV (spP (yO e l h)) (nearO h) [0, (e : Int)] = 2 * (nearO h : Int)
  s2 : showsV (spP (yO e l h)) (nearO h) [0] = (nearO h : Int)
  de : dearL (rowsY (yO e l h)) 1 = (if e = 1 then [0] else []) ++ (if l = 1 then [(e : Int)] else [])
  ne : needL (rowsY (yO e l h)) (nearO h) 4 = rngI (2 - nearO h) (2 + nearO h)
  fi : [1] ∈ lotsAt (yO e l h) 1 0
  fn : numF (yO e l h) 1 [1] = 2
def overB (e l h : Nat) : Bool := okB (yO e l h) && decide ((yO e l h).sun.length = e + l) && roomB (yO e l h) 1 && roomB (yO e l h) (nearO h) && decide (spansL (yO e l h) = dueO e l h) && decide (most (yO e l h) = (nearO h : Int)) && decide (seatsAt (yO e l h) e = rowC h)
  && decide (num (yO e l h) (nearO h) = 2 * (nearO h : Int)) && decide (sitL (yO e l h) (nearO h) = List.replicate e (rowA h) ++ List.replicate l (rowC h)) && decide ([0, (e : Int)] ∈ allL (yO e l h).sun.length) && decide ([0] ∈ allL (yO e l h).sun.length)
  && decide (showsV (spP (yO e l h)) (nearO h) [0, (e : Int)] = 2 * (nearO h : Int)) && decide (showsV (spP (yO e l h)) (nearO h) [0] = (nearO h : Int))
  && decide (dearL (rowsY (yO e l h)) 1 = (if e = 1 then [0] else []) ++ (if l = 1 then [(e : Int)] else [])) && decide (needL (rowsY (yO e l h)) (nearO h) 4 = rngI (2 - nearO h) (2 + nearO h)) && decide ([1] ∈ lotsAt (yO e l h) 1 0) && decide (numF (yO e l h) 1 [1] = 2)
theorem overB_all : ((List.range 4).all fun e => (List.range 4).all fun l => (List.range 9).all fun h => overB (e + 1) (l + 1) (h + 1)) = true := by decide +kernel
theorem over_ok {e l h : Nat} (e1 : 1 ≤ e) (e4 : e ≤ 4) (l1 : 1 ≤ l) (l4 : l ≤ 4) (h1 : 1 ≤ h) (h9 : h ≤ 9) : OverOk e l h := by
  have a := List.all_eq_true.mp (List.all_eq_true.mp (List.all_eq_true.mp overB_all (e - 1) (List.mem_range.mpr (by omega))) (l - 1) (List.mem_range.mpr (by omega))) (h - 1) (List.mem_range.mpr (by omega))
  have q1 : e - 1 + 1 = e := by omega
  have q2 : l - 1 + 1 = l := by omega
  have q3 : h - 1 + 1 = h := by omega
  rw [q1, q2, q3] at a
  unfold overB at a
  simp only [Bool.and_eq_true, decide_eq_true_eq] at a
  obtain ⟨⟨⟨⟨⟨⟨⟨⟨⟨⟨⟨⟨⟨⟨⟨⟨b1, b2⟩, b3⟩, b4⟩, b5⟩, b6⟩, b7⟩, b8⟩, b9⟩, b10⟩, b11⟩, b12⟩, b13⟩, b14⟩, b15⟩, b16⟩, b17⟩ := a
  exact ⟨b1, b2, b3, b4, b5, b6, b7, b8, b9, b10, b11, b12, b13, b14, b15, b16, b17⟩
end Sh
set_option Elab.async false
set_option linter.all false
set_option maxRecDepth 100000
set_option maxHeartbeats 1000000
namespace Sh
open PySem L2 PyProof.Rows
/-! ### steps with whole numbers -/
theorem mulT_ev {m k : Sm} {ρ : Ro} {μ : Mu} {x : PyData} {T : Nat} (e : m ρ μ = some (.d (.tuple [x]), μ)) (e2 : k ρ μ = some (.d (.int T), μ)) (h1 : 1 ≤ T) (h8 : T ≤ 20) : s2 fMul1 m k ρ μ = some (.d (.tuple (List.replicate T x)), μ) := by
  unfold s2
  rw [e]
  simp only [Option.bind_some]
  rw [e2]
  simp only [Option.bind_some]
  exact mul1_ev x T h1 h8 μ
theorem sub_ev {a b : Sm} {ρ : Ro} {μ : Mu} {i j : Int} (e : a ρ μ = some (.d (.int i), μ)) (e2 : b ρ μ = some (.d (.int j), μ)) : s2 fSub a b ρ μ = some (.d (.int (i - j)), μ) := by
  unfold s2
  rw [e]
  simp only [Option.bind_some]
  rw [e2]
  rfl
theorem add_ev {a b : Sm} {ρ : Ro} {μ : Mu} {i j : Int} (e : a ρ μ = some (.d (.int i), μ)) (e2 : b ρ μ = some (.d (.int j), μ)) : s2 (fAdd false) a b ρ μ = some (.d (.int (i + j)), μ) := by
  unfold s2
  rw [e]
  simp only [Option.bind_some]
  rw [e2]
  rfl
theorem two_mul_ev {b : Sm} {ρ : Ro} {μ : Mu} {j : Int} (e2 : b ρ μ = some (.d (.int j), μ)) : s2 fMul (sC (.int 2)) b ρ μ = some (.d (.int (2 * j)), μ) := by
  unfold s2
  rw [show sC (.int 2) ρ μ = some (.d (.int 2), μ) from rfl]
  simp only [Option.bind_some]
  rw [e2]
  rfl
theorem lst1_ev {a : Sm} {ρ : Ro} {μ : Mu} {x : PyData} (e : a ρ μ = some (.d x, μ)) : sA (fLst false) (sCons a sNil) ρ μ = some (.d (.list [x]), μ) := by
  unfold sA
  rw [cons_ev e nil_ev]
  rfl
theorem ix0_ev {a : Sm} {ρ : Ro} {μ : Mu} {x y : PyData} (e : a ρ μ = some (.d (.tuple [x, y]), μ)) : s2 fIx a (sC (.int 0)) ρ μ = some (.d x, μ) := by
  unfold s2
  rw [e]
  rfl
theorem rng2_ev {a b : Sm} {ρ : Ro} {μ : Mu} {i j : Int} (e : a ρ μ = some (.d (.int i), μ)) (e2 : b ρ μ = some (.d (.int j), μ)) (h1 : -1000 ≤ i) (h2 : i ≤ 1000) (h3 : -1000 ≤ j) (h4 : j ≤ 1000) : sRng2 (sCons a (sCons b sNil)) ρ μ = some (⟨(rngI i j).map .int, none⟩, μ) := by
  unfold sRng2
  rw [cons_ev e (cons_ev e2 nil_ev)]
  have p1 : b62 i = true := b62_eq (by omega) (by omega)
  have p2 : b62 j = true := b62_eq (by omega) (by omega)
  simp only [Option.bind_some, p1, p2, Bool.and_self, if_true]
  rw [rngI_D]
theorem rngI_len (i j : Int) : (rngI i j).length = (j - i).toNat := by unfold rngI; rw [List.length_map, List.length_range]
theorem andv_ev {A B : Sm} {ρ : Ro} {μ : Mu} {r : Rv × Mu} (p1 : A ρ μ = some (.d (.bool true), μ)) (p2 : B ρ μ = some r) : sAndV A B ρ μ = some r := by
  unfold sAndV
  rw [p1]
  exact p2
/-- [(s, a, b) for s in range(i, j)] -/
theorem tri_comp {a b x y z : Sm} {ρ : Ro} {μ : Mu} {i j p q : Int} {k : Nat} (hm : sRng2 (sCons a (sCons b sNil)) ρ μ = some (⟨(rngI i j).map .int, none⟩, μ)) (hl : (j - i).toNat ≤ 100)
    (h : ∀ (s : Int) (μ : Mu), ∃ ρ1, (Tg.nm k).put (.int s) (wipeR ρ [k]) = some ρ1 ∧ x ρ1 μ = some (.d (.int s), μ) ∧ y ρ1 μ = some (.d (.int p), μ) ∧ z ρ1 μ = some (.d (.int q), μ)) :
    sComp false (sRng2 (sCons a (sCons b sNil))) (.nm k) sYes (sA fTup (sCons x (sCons y (sCons z sNil)))) [k] ρ μ = some (.d (.list (((rngI i j).map fun s => (s, p, q)).map triD)), μ) := by
  have e : sComp false (sRng2 (sCons a (sCons b sNil))) (.nm k) sYes (sA fTup (sCons x (sCons y (sCons z sNil)))) [k] ρ μ = some (mkL false (((rngI i j).filter fun _ => true).map fun s => triD (s, p, q)) μ) := by
    refine comp_ev (s := ⟨(rngI i j).map .int, none⟩) (rngI i j) (fun s : Int => .int s) hm rfl (ok_none _) (by rw [rngI_len]; omega) (fun _ => true) _ (fun s hs acc => ?_)
    obtain ⟨ρ1, h1, h2, h3, h4⟩ := h s (μ ++ [.lst acc])
    exact ⟨ρ1, h1, rfl, fun _ => tup3_ev h2 h3 h4⟩
  rw [e, filter_yes, List.map_map]
  rfl
theorem asg_tp2 {m : Sm} {i j : Nat} {x y : PyData} {ρ : Ro} {μ μ2 : Mu} (e : m ρ μ = some (.d (.tuple [x, y]), μ2)) : sAsg m (.tp [i, j]) ρ μ = some (.nx, (ρ.set i (some (.d x))).set j (some (.d y)), μ2) := by
  unfold sAsg
  rw [e]
  rfl
theorem nd_of (h : Nat) : (if (h : Int) < 2 then (h : Int) else 2) = (nearO h : Int) := by
  unfold nearO
  by_cases c : h < 2
  · rw [if_pos (by omega)]; omega
  · rw [if_neg (by omega)]; omega
theorem yO_D (e l h : Nat) : yardD (yO e l h) = .tuple [.int 4, .tuple [.tuple [.int 2, .int h]], .tuple (List.replicate e (.tuple [.str "e", .tuple [.int 1, .int 1]]) ++ List.replicate l (.tuple [.str "w", .tuple [.int 1, .int 1]]))] := by
  rw [yardD_eq]
  unfold yO
  simp only [List.map_append, List.map_replicate]
  rfl
theorem over_right_ev {e l h : Nat} (e1 : 1 ≤ e) (e4 : e ≤ 4) (l1 : 1 ≤ l) (l4 : l ≤ 4) (h1 : 1 ≤ h) (h9 : h ≤ 9) (μ : Mu) : g_law_over_right [.d (.int e), .d (.int l), .d (.int h)] μ = some (.d (.bool true), μ) := by
  have O := over_ok e1 e4 l1 l4 h1 h9
  have hy := yO_D e l h
  have g1 := good_of O.ok O.r1
  have gn := good_of O.ok O.rn
  have hn : nearO h ≤ 2 := by unfold nearO; omega
  have hT := O.len
  have y4 : (yO e l h).n = 4 := rfl
  obtain ⟨ok, n8, s1, s8⟩ := okB_ok O.ok
  have st := fun μ => stretches_ev ok μ
  have ms := fun μ => most_ev ok s1 μ
  have se := shaded_ev ok (hour := e) (by omega) μ
  have f1 := fewest_val gn μ
  have sa := shows_val ok n8 s8 (nearO h) (by omega) O.a1 μ
  have sb := shows_val ok n8 s8 (nearO h) (by omega) O.a2 μ
  have de := dear_hours_ev ok n8 s1 s8 (n := 1) g1.room μ
  have ne := needed_seats_ev ok n8 s1 s8 (n := nearO h) gn.room μ
  have fn := fewest_numF g1 O.fi μ
  rw [O.st] at st
  rw [O.ms] at ms
  rw [O.se] at se
  rw [O.num, seatD_sit, O.sit] at f1
  rw [O.s1] at sa
  rw [O.s2] at sb
  rw [O.de] at de
  rw [y4, show (4 : Int).toNat = 4 from rfl, O.ne] at ne
  rw [O.fn] at fn
  generalize hY : yardD (yO e l h) = Y at hy st ms se f1 sa sb de ne fn
  generalize rowsD (sitF (yO e l h) 1 [1]) (yO e l h).sun.length = FD at fn
  have hde : ((if e = 1 then [(0 : Int)] else []) ++ (if l = 1 then [(e : Int)] else [])).map PyData.int = (if (e : Int) = 1 then [.int 0] else []) ++ (if (l : Int) = 1 then [.int e] else []) := by
    by_cases c : e = 1
    · by_cases d : l = 1
      · subst c; subst d; rfl
      · have : ¬ (l : Int) = 1 := by omega
        subst c
        simp [d, this]
    · have c2 : ¬ (e : Int) = 1 := by omega
      by_cases d : l = 1
      · subst d
        simp [c, c2]
      · have : ¬ (l : Int) = 1 := by omega
        simp [c, c2, d, this]
  refine fn_dx (ρ := [some (.d (.int e)), some (.d (.int l)), some (.d (.int h)), none, none, none, none, none, none, none]) ?_ rfl rfl
  unfold b_law_over_right
  rw [seq_nx (asg_to (d := Y) (by
    rw [hy]
    exact tup3_ev rfl (one_ev (pair_ev rfl rfl)) (cat_ev (mulT_ev (one_ev (pair_ev rfl (pair_ev rfl rfl))) rfl e1 (by omega)) (mulT_ev (one_ev (pair_ev rfl (pair_ev rfl rfl))) rfl l1 (by omega)) (by simp only [List.length_replicate]; omega))))]
  simp only [List.set_cons_succ, List.set_cons_zero]
  rw [seq_nx (asg_to (d := .int (nearO h : Int)) (by rw [← nd_of]; rfl))]
  simp only [List.set_cons_succ, List.set_cons_zero]
  rw [seq_nx (asg_to (d := .list (((rowA h).map (fun s => (s, (0 : Int), (e : Int) - 1))).map triD)) (by
    unfold C_law_over_right_2
    exact tri_comp (rng2_ev (sub_ev rfl rfl) rfl (by omega) (by omega) (by omega) (by omega)) (by omega) fun s μ => ⟨_, rfl, rfl, rfl, sub_ev rfl rfl⟩))]
  simp only [List.set_cons_succ, List.set_cons_zero]
  rw [seq_nx (asg_to (d := .list ((dueO e l h).map triD)) (by
    unfold dueO
    rw [List.map_append]
    refine catL_ev rfl ?_ ?_
    · unfold C_law_over_right_1
      exact tri_comp (rng2_ev rfl (add_ev rfl rfl) (by omega) (by omega) (by omega) (by omega)) (by omega) fun s μ => ⟨_, rfl, rfl, rfl, sub_ev (add_ev rfl rfl) rfl⟩
    · unfold rowA rowC
      simp only [List.length_map, rngI_len]
      omega))]
  simp only [List.set_cons_succ, List.set_cons_zero]
  rw [seq_nx (if_no (by exact or_ff (ne_same (call_ev (cons_ev rfl nil_ev) rfl (st μ)) rfl (pl_map triD 8 _ (pl_tri 7))) (or_ff (ne_same (call_ev (cons_ev rfl nil_ev) rfl (ms μ)) rfl (pl_int' _ _)) (ne_same (call_ev (cons_ev rfl (cons_ev rfl nil_ev)) rfl se) (lstRg2_ev rfl (add_ev rfl rfl) (by omega) (by omega) (by omega) (by omega)) (pl_lst _ 8)))))]
  rw [seq_nx (ρ' := [some (.d (.int e)), some (.d (.int l)), some (.d (.int h)), some (.d Y), some (.d (.int (nearO h : Int))), some (.d (.list ((dueO e l h).map triD))), none, some (.d (.int (2 * (nearO h : Int)))), some (.d (.tuple ((List.replicate e (rowA h) ++ List.replicate l (rowC h)).map rowD))), none]) (μ' := μ) (by
    exact asg_tp2 (callD_ev (cons_ev rfl (cons_ev rfl nil_ev)) rfl f1))]
  rw [seq_nx (asg_to (d := .tuple ((List.replicate e (rowA h) ++ List.replicate l (rowC h)).map rowD)) (by
    rw [List.map_append, List.map_replicate, List.map_replicate]
    exact cat_ev (mulT_ev (one_ev (tupRg2_ev (sub_ev rfl rfl) rfl (by omega) (by omega) (by omega) (by omega))) rfl e1 (by omega)) (mulT_ev (one_ev (tupRg2_ev rfl (add_ev rfl rfl) (by omega) (by omega) (by omega) (by omega))) rfl l1 (by omega)) (by simp only [List.length_replicate]; omega)))]
  simp only [List.set_cons_succ, List.set_cons_zero]
  rw [seq_nx (if_no (by exact or_ff (ne_same rfl (two_mul_ev rfl) (pl_int' _ _)) (ne_same rfl rfl (pl_mapT rowD 8 _ (pl_row 7)))))]
  rw [seq_nx (if_no (by exact or_ff (ne_same (callD_ev (cons_ev rfl (cons_ev rfl (cons_ev (pair_ev rfl rfl) nil_ev))) rfl sa) (two_mul_ev rfl) (pl_int' _ _)) (ne_same (callD_ev (cons_ev rfl (cons_ev rfl (cons_ev (one_ev rfl) nil_ev))) rfl sb) rfl (pl_int' _ _))))]
  rw [seq_nx (if_no (by exact ne_same (call_ev (cons_ev rfl (cons_ev rfl nil_ev)) rfl de) (by
    rw [hde]
    exact catL_ev (mulL_ev (lst1_ev rfl) rfl rfl) (mulL_ev (lst1_ev rfl) rfl rfl) (by split <;> split <;> simp)) (pl_lst _ 8)))]
  exact ⟨_, ret_ev (andv_ev (eq_same (call_ev (cons_ev rfl (cons_ev rfl nil_ev)) rfl ne) (lstRg2_ev (sub_ev rfl rfl) (add_ev rfl rfl) (by omega) (by omega) (by omega) (by omega)) (pl_lst _ 8)) (eq_same (ix0_ev (callK_ev (cons_ev rfl (cons_ev rfl nil_ev)) (one_ev rfl) rfl fn)) rfl (pl_int' _ _)))⟩
end Sh
set_option Elab.async false
set_option linter.all false
set_option maxRecDepth 100000
set_option maxHeartbeats 1000000
namespace Sh
open PySem L2 PyProof.Rows
/-! ### first seats that are shaded not for long -/
theorem lst2_ev {a b : Sm} {ρ : Ro} {μ : Mu} {x y : PyData} (e : a ρ μ = some (.d x, μ)) (e2 : b ρ μ = some (.d y, μ)) : sA (fLst false) (sCons a (sCons b sNil)) ρ μ = some (.d (.list [x, y]), μ) := by
  unfold sA
  rw [cons_ev e (cons_ev e2 nil_ev)]
  rfl
def yS : Yd := ⟨3, [(2, 1)], [(true, 2, 1), (true, 1, 1), (true, 1, 1)]⟩
theorem yS_D : yardD yS = .tuple [.int 3, .tuple [.tuple [.int 2, .int 1]], .tuple [.tuple [.str "e", .tuple [.int 2, .int 1]], .tuple [.str "e", .tuple [.int 1, .int 1]], .tuple [.str "e", .tuple [.int 1, .int 1]]]] := rfl
theorem shortB : (okB yS && roomB yS 1 && decide (spansL yS = [(0, 0, 0), (1, 0, 2)]) && decide (num yS 1 = 1) && decide (sitL yS 1 = [[1], [1], [1]]) && decide ([0] ∈ lotsAt yS 1 0) && decide (numF yS 1 [0] = 2) && decide (sitFL yS 1 [0] = [[0], [1], [1]])
  && decide ([0, 1] ∈ allL yS.sun.length) && decide ([0, 2] ∈ allL yS.sun.length) && decide (showsV (spC yS [0]) 1 [0, 1] = 2) && decide (showsV (spP yS) 1 [0, 1] = 1) && decide (showsV (spC yS [1]) 1 [0, 2] = 1)) = true := by decide +kernel
theorem short_right_ev (μ : Mu) : g_law_short_right [] μ = some (.d (.bool true), μ) := by
  have hb := shortB
  simp only [Bool.and_eq_true, decide_eq_true_eq] at hb
  obtain ⟨⟨⟨⟨⟨⟨⟨⟨⟨⟨⟨⟨b1, b2⟩, b3⟩, b4⟩, b5⟩, b6⟩, b7⟩, b8⟩, b9⟩, b10⟩, b11⟩, b12⟩, b13⟩ := hb
  have g := good_of b1 b2
  obtain ⟨ok, n8, s1, s8⟩ := okB_ok b1
  have hy := yS_D
  have st := stretches_ev ok μ
  have f1 := fewest_val g μ
  have f2 := fewest_numF g b6 μ
  have sa := shows_valF ok n8 s8 [0] 1 (by omega) b9 μ
  have sb := shows_val ok n8 s8 1 (by omega) b9 μ
  have sc := shows_valF ok n8 s8 [1] 1 (by omega) b10 μ
  rw [b3] at st
  rw [b4, seatD_sit, b5] at f1
  rw [b7, rowsD_sit, b8] at f2
  rw [b11] at sa
  rw [b12] at sb
  rw [b13] at sc
  generalize yardD yS = Y at hy st f1 f2 sa sb sc
  refine fn_dx (ρ := [none]) ?_ rfl rfl

  unfold b_law_short_right
  rw [seq_nx (asg_to (d := Y) (by
    rw [hy]
    exact tup3_ev rfl (one_ev (pair_ev rfl rfl)) (tup3_ev (pair_ev rfl (pair_ev rfl rfl)) (pair_ev rfl (pair_ev rfl rfl)) (pair_ev rfl (pair_ev rfl rfl)))))]
  simp only [List.set_cons_succ, List.set_cons_zero]
  rw [seq_nx (if_no (by exact or_ff (ne_same (call_ev (cons_ev rfl nil_ev) rfl st) (lst2_ev (tup3_ev rfl rfl rfl) (tup3_ev rfl rfl rfl)) (pl_map triD 8 _ (pl_tri 7))) (ne_same (callD_ev (cons_ev rfl (cons_ev rfl nil_ev)) rfl f1) (pair_ev rfl (tup3_ev (one_ev rfl) (one_ev rfl) (one_ev rfl))) rfl)))]
  rw [seq_nx (if_no (by exact or_ff (ne_same (callK_ev (cons_ev rfl (cons_ev rfl nil_ev)) (one_ev rfl) rfl f2) (pair_ev rfl (tup3_ev (one_ev rfl) (one_ev rfl) (one_ev rfl))) rfl) (ne_same (callK_ev (cons_ev rfl (cons_ev rfl (cons_ev (pair_ev rfl rfl) nil_ev))) (one_ev rfl) rfl sa) rfl (pl_int' _ _))))]
  exact ⟨_, ret_ev (andv_ev (eq_same (callD_ev (cons_ev rfl (cons_ev rfl (cons_ev (pair_ev rfl rfl) nil_ev))) rfl sb) rfl (pl_int' _ _)) (eq_same (callK_ev (cons_ev rfl (cons_ev rfl (cons_ev (pair_ev rfl rfl) nil_ev))) (one_ev rfl) rfl sc) rfl (pl_int' _ _)))⟩
end Sh
set_option Elab.async false
set_option linter.all false
set_option maxRecDepth 100000
set_option maxHeartbeats 1000000
namespace Sh
open PySem L2 PyProof.Rows
/-! ### eight seats under walls at both ends -/
def yF : Yd := ⟨8, [(0, 9), (8, 9)], [(true, 9, 1), (false, 9, 1), (true, 9, 1), (false, 9, 1), (true, 9, 1), (false, 9, 1), (true, 9, 1), (false, 9, 1)]⟩
def sunF : PyData := .tuple [.tuple [.str "e", .tuple [.int 9, .int 1]], .tuple [.str "w", .tuple [.int 9, .int 1]], .tuple [.str "e", .tuple [.int 9, .int 1]], .tuple [.str "w", .tuple [.int 9, .int 1]], .tuple [.str "e", .tuple [.int 9, .int 1]], .tuple [.str "w", .tuple [.int 9, .int 1]], .tuple [.str "e", .tuple [.int 9, .int 1]], .tuple [.str "w", .tuple [.int 9, .int 1]]]
theorem yF_D : yardD yF = .tuple [.int 8, .tuple [.tuple [.int 0, .int 9], .tuple [.int 8, .int 9]], sunF] := rfl
theorem validF : Valid yF := ⟨by decide, by decide, by decide, by decide, by decide, by decide, by decide, by decide⟩
theorem fullB1 : (okB yF && roomB yF 8 && roomB yF 7 && roomB yF 3) = true := by decide +kernel
theorem fullB2 : (decide (spansL yF = (nums 8).map fun s => (s, 0, 7)) && decide (most yF = 8)) = true := by decide +kernel
theorem fullB3 : (decide (num yF 8 = 8) && decide (sitL yF 8 = List.replicate 8 (nums 8))) = true := by decide +kernel
theorem fullB4 : needL (rowsY yF) 7 8 = [] := by decide +kernel
theorem fullB5 : num yF 3 = 3 := by decide +kernel
theorem fullB6 : ∀ t, t < yF.sun.length → ([0, 1] : List Int).Sublist (seatsAt yF t) := by decide +kernel
theorem tri_comp1 {x y z : Sm} {m : Si} {ρ : Ro} {μ : Mu} {p q : Int} {T k : Nat} (hm : m ρ μ = some (⟨rngD 0 T, none⟩, μ)) (hl : T ≤ 100)
    (h : ∀ (s : Int) (μ : Mu), ∃ ρ1, (Tg.nm k).put (.int s) (wipeR ρ [k]) = some ρ1 ∧ x ρ1 μ = some (.d (.int s), μ) ∧ y ρ1 μ = some (.d (.int p), μ) ∧ z ρ1 μ = some (.d (.int q), μ)) :
    sComp false m (.nm k) sYes (sA fTup (sCons x (sCons y (sCons z sNil)))) [k] ρ μ = some (.d (.list (((nums T).map fun s => (s, p, q)).map triD)), μ) := by
  have e : sComp false m (.nm k) sYes (sA fTup (sCons x (sCons y (sCons z sNil)))) [k] ρ μ = some (mkL false (((nums T).filter fun _ => true).map fun s => triD (s, p, q)) μ) := by
    refine comp_ev (s := ⟨rngD 0 T, none⟩) (nums T) (fun s : Int => .int s) hm (rng0 _) (ok_none _) (by rw [nums_len]; omega) (fun _ => true) _ (fun s hs acc => ?_)
    obtain ⟨ρ1, h1, h2, h3, h4⟩ := h s (μ ++ [.lst acc])
    exact ⟨ρ1, h1, rfl, fun _ => tup3_ev h2 h3 h4⟩
  rw [e, filter_yes, List.map_map]
  rfl
theorem tupRg1_ev {a : Sm} {ρ : Ro} {μ : Mu} {n : Nat} (e : a ρ μ = some (.d (.int n), μ)) (h : n ≤ 4096) : s1 fTupRg a ρ μ = some (.d (rowD (nums n)), μ) := by
  unfold s1
  rw [e]
  have hb : bSm (n : Int) = true := bSm_eq (by omega) (by omega)
  simp only [Option.bind_some, fTupRg, hb, if_true]
  rw [Int.toNat_natCast, rng0]; rfl
theorem is_ev {neg b c : Bool} {a : Sm} {ρ : Ro} {μ : Mu} (e : a ρ μ = some (.d (.bool b), μ)) : s2 (fIs neg) a (sC (.bool c)) ρ μ = some (.d (.bool (if neg then !(b == c) else b == c)), μ) := by
  unfold s2
  rw [e]
  rfl
theorem is_no {b : Bool} {a : Sm} {ρ : Ro} {μ : Mu} (e : a ρ μ = some (.d (.bool b), μ)) : sTst (s2 (fIs true) a (sC (.bool b))) ρ μ = some (false, μ) := by
  refine tst_b ?_
  rw [is_ev e]
  cases b <;> rfl
theorem seven_ev (μ : Mu) : g_is_seating [.d (yardD yF), .d (.int 2), .d (.tuple (List.replicate 7 (rowD [0, 1])))] μ = some (.d (.bool false), μ) := by
  refine fn_d (ρ := [some (.d (yardD yF)), some (.d (.int 2)), some (.d (.tuple (List.replicate 7 (rowD [0, 1])))), none, none]) (ρ' := [some (.d (yardD yF)), some (.d (.int 2)), some (.d (.tuple (List.replicate 7 (rowD [0, 1])))), none, none]) ?_ rfl rfl
  unfold b_is_seating
  rw [seq_rt (r := .d (.bool false)) (ρ' := [some (.d (yardD yF)), some (.d (.int 2)), some (.d (.tuple (List.replicate 7 (rowD [0, 1])))), none, none]) (μ' := μ) (by
    rw [yF_D]
    simp [sunF])]
theorem nine_no (S : PyData) (μ : Mu) : g_is_yard [.d (.tuple [.int 9, .tuple [], S])] μ = some (.d (.bool false), μ) := by
  refine fn_d (ρ := [some (.d (.tuple [.int 9, .tuple [], S])), none]) (ρ' := [some (.d (.tuple [.int 9, .tuple [], S])), none]) ?_ rfl rfl
  unfold b_is_yard
  rw [seq_rt (r := .d (.bool false)) (ρ' := [some (.d (.tuple [.int 9, .tuple [], S])), none]) (μ' := μ) (by simp [is_from_int])]
theorem ten_no (S : PyData) (μ : Mu) : g_is_yard [.d (.tuple [.int 8, .tuple [.tuple [.int 0, .int 10]], S])] μ = some (.d (.bool false), μ) := by
  have aw := are_walls_ev 8 [(0, 10)] (by decide) μ
  have hw : (decide ([((0 : Int), (10 : Int))].length ≤ 8) && [((0 : Int), (10 : Int))].all (wallOk 8) && rise [(0, 10)]) = false := by decide
  rw [hw] at aw
  have aw : g_are_walls [.d (.int 8), .d (.tuple [.tuple [.int 0, .int 10]])] μ = some (.d (.bool false), μ) := aw
  refine fn_d (ρ := [some (.d (.tuple [.int 8, .tuple [.tuple [.int 0, .int 10]], S])), none]) (ρ' := [some (.d (.tuple [.int 8, .tuple [.tuple [.int 0, .int 10]], S])), none]) ?_ rfl rfl
  unfold b_is_yard
  rw [seq_nx (ρ' := [some (.d (.tuple [.int 8, .tuple [.tuple [.int 0, .int 10]], S])), none]) (μ' := μ) (by simp [is_from_int])]
  rw [seq_rt (r := .d (.bool false)) (ρ' := [some (.d (.tuple [.int 8, .tuple [.tuple [.int 0, .int 10]], S])), none]) (μ' := μ) (by simp [aw])]
theorem long_no (ds : List PyData) (h : ds.length = 16) (μ : Mu) : g_is_yard [.d (.tuple [.int 8, .tuple [], .tuple ds])] μ = some (.d (.bool false), μ) := by
  have aw := are_walls_ev 8 [] (by decide) μ
  have hw : (decide (([] : List (Int × Int)).length ≤ 8) && ([] : List (Int × Int)).all (wallOk 8) && rise []) = true := by decide
  rw [hw] at aw
  have aw : g_are_walls [.d (.int 8), .d (.tuple [])] μ = some (.d (.bool true), μ) := aw
  refine fn_d (ρ := [some (.d (.tuple [.int 8, .tuple [], .tuple ds])), none]) (ρ' := [some (.d (.tuple [.int 8, .tuple [], .tuple ds])), none]) ?_ rfl rfl
  unfold b_is_yard
  rw [seq_nx (ρ' := [some (.d (.tuple [.int 8, .tuple [], .tuple ds])), none]) (μ' := μ) (by simp [is_from_int])]
  rw [seq_rt (r := .d (.bool false)) (ρ' := [some (.d (.tuple [.int 8, .tuple [], .tuple ds])), none]) (μ' := μ) (by simp [aw, h])]
theorem full_right_ev (μ : Mu) : g_law_full_right [] μ = some (.d (.bool true), μ) := by
  have hb := fullB1
  have hc := fullB2
  have hd := fullB3
  simp only [Bool.and_eq_true, decide_eq_true_eq] at hb hc hd
  obtain ⟨⟨⟨b1, b2⟩, b3⟩, b4⟩ := hb
  have g8 := good_of b1 b2
  have g7 := good_of b1 b3
  have g3 := good_of b1 b4
  obtain ⟨ok, n8, s1, s8⟩ := okB_ok b1
  have hy := yF_D
  have iy := is_yard_ev validF μ
  have ms := most_ev ok s1 μ
  have st := stretches_ev ok μ
  have f8 := fewest_val g8 μ
  have f3 := fewest_val g3 μ
  have ne := needed_seats_ev ok n8 s1 s8 (n := 7) g7.room μ
  have se := is_seating_ev ok n8 (n := 2) (st := fun _ => [0, 1]) ⟨fullB6, fun _ _ => rfl⟩ μ
  have s7 := seven_ev μ
  rw [hc.1] at st
  rw [hc.2] at ms
  rw [hd.1, seatD_sit, hd.2] at f8
  rw [fullB5] at f3
  rw [show yF.n.toNat = 8 from rfl, fullB4] at ne
  have se : g_is_seating [.d (yardD yF), .d (.int 2), .d (.tuple (List.replicate 8 (rowD [0, 1])))] μ = some (.d (.bool true), μ) := se
  generalize yardD yF = Y at hy iy ms st f8 f3 ne se s7
  generalize seatD (lotsAt yF 3) (hi yF) = D3 at f3
  refine fn_dx (ρ := [none, none]) ?_ rfl rfl
  unfold b_law_full_right
  rw [seq_nx (asg_to (d := Y) (by
    rw [hy]
    exact tup3_ev rfl (pair_ev (pair_ev rfl rfl) (pair_ev rfl rfl)) rfl))]
  simp only [List.set_cons_succ, List.set_cons_zero]
  rw [seq_nx (if_no (by exact or_ff (not_t (tst_b (call_ev (cons_ev rfl nil_ev) rfl iy))) (or_ff (ne_same (call_ev (cons_ev rfl nil_ev) rfl ms) rfl (pl_int' _ _)) (ne_same (call_ev (cons_ev rfl nil_ev) rfl st) (by
    unfold C_law_full_right_1
    exact tri_comp1 (T := 8) (rng1_ev (n := 8) rfl (by omega)) (by omega) fun s μ => ⟨_, rfl, rfl, rfl, rfl⟩) (pl_map triD 8 _ (pl_tri 7))))))]
  rw [seq_nx (if_no (by exact or_ff (ne_same (callD_ev (cons_ev rfl (cons_ev rfl nil_ev)) rfl f8) (by
    rw [List.map_replicate]
    exact pair_ev rfl (mulT_ev (T := 8) (one_ev (tupRg1_ev (n := 8) rfl (by omega))) rfl (by omega) (by omega))) rfl) (or_ff (ne_same (ix0_ev (callD_ev (cons_ev rfl (cons_ev rfl nil_ev)) rfl f3)) rfl (pl_int' _ _)) (ne_same (call_ev (cons_ev rfl (cons_ev rfl nil_ev)) rfl ne) rfl rfl))))]
  rw [seq_nx (if_no (by exact or_ff (is_no (call_ev (cons_ev rfl (cons_ev rfl (cons_ev (mulT_ev (T := 8) (one_ev (pair_ev rfl rfl)) rfl (by omega) (by omega)) nil_ev))) rfl se)) (is_no (call_ev (cons_ev rfl (cons_ev rfl (cons_ev (mulT_ev (T := 7) (one_ev (pair_ev rfl rfl)) rfl (by omega) (by omega)) nil_ev))) rfl s7))))]
  have ix : ∀ ρ : Ro, s2 fIx (sVar 0) (sC (.int 2)) (some (.d Y) :: ρ) μ = some (.d sunF, μ) := fun ρ => by rw [hy]; rfl
  rw [seq_nx (if_no (by exact or_ff (tst_b (call_ev (cons_ev (tup3_ev rfl rfl (ix _)) nil_ev) rfl (nine_no sunF μ))) (tst_b (call_ev (cons_ev (tup3_ev rfl (one_ev (pair_ev rfl rfl)) (ix _)) nil_ev) rfl (ten_no sunF μ)))))]
  exact ⟨_, ret_ev (is_ev (call_ev (cons_ev (tup3_ev rfl rfl (by rw [hy]; rfl)) nil_ev) rfl (long_no _ rfl μ)))⟩
end Sh
set_option Elab.async false
set_option linter.all false
set_option maxRecDepth 100000
set_option maxHeartbeats 1000000
namespace Sh
open PySem L2 PyProof.Rows
/-! ### a day -/
theorem le_ev {a b : Sm} {ρ : Ro} {μ : Mu} {i j : Int} (e : a ρ μ = some (.d (.int i), μ)) (e2 : b ρ μ = some (.d (.int j), μ)) : s2 fLe a b ρ μ = some (.d (.bool (decide (i ≤ j))), μ) := by
  unfold s2
  rw [e]
  simp only [Option.bind_some]
  rw [e2]
  rfl
theorem yard_ev {C : Addr} {m : Sm} {k j : Nat} {Y : PyData} {ρ : Ro} {μ : Mu} (e : m ρ μ = some (.m k, μ)) (hk : μ[k]? = some (.day C Y j)) : s1 (fYard C) m ρ μ = some (.d Y, μ) := by
  unfold s1
  rw [e]
  simp [hk]
theorem rows_ev {C : Addr} {m : Sm} {k j : Nat} {Y : PyData} {ρ : Ro} {μ : Mu} (e : m ρ μ = some (.m k, μ)) (hk : μ[k]? = some (.day C Y j)) : s1 (fRows C) m ρ μ = some (.m j, μ) := by
  unfold s1
  rw [e]
  simp [hk]
theorem lenM_ev {m : Sm} {j s : Nat} {rows : List PyData} {ρ : Ro} {μ : Mu} (e : m ρ μ = some (.m j, μ)) (hj : μ[j]? = some (.lst rows)) (hs : rows.length = s) : sA fLen (sCons m sNil) ρ μ = some (.d (.int s), μ) :=
  arg1_ev e (by simp [hj, hs])
theorem ixM_ev {m k : Sm} {j : Nat} {i : Int} {x : PyData} {rows : List PyData} {ρ : Ro} {μ : Mu} (e : m ρ μ = some (.m j, μ)) (e2 : k ρ μ = some (.d (.int i), μ)) (hj : μ[j]? = some (.lst rows)) (hx : atI rows i = some x) : s2 fIx m k ρ μ = some (.d x, μ) := by
  unfold s2
  rw [e]
  simp only [Option.bind_some]
  rw [e2]
  simp [hj, hx]
theorem sunM_ev {C : Addr} {m : Sm} {k j : Nat} {y : Yd} {ρ : Ro} {μ : Mu} (e : m ρ μ = some (.m k, μ)) (hk : μ[k]? = some (.day C (yardD y) j)) : sA fLen (sCons (s2 fIx (s1 (fYard C) m) (sC (.int 2))) sNil) ρ μ = some (.d (.int y.sun.length), μ) := by
  refine arg1_ev (x := .d (.tuple (y.sun.map hourD))) (μ1 := μ) ?_ (by simp)
  unfold s2
  rw [yard_ev e hk, yardD_eq]
  simp
theorem meth_ev {C : Addr} {n : Nat} {g : Fn} {o : Sm} {a : Sa} {k j : Nat} {Y : PyData} {ρ : Ro} {μ : Mu} {rs : List Rv} {r : Rv × Mu} (e : o ρ μ = some (.m k, μ)) (hk : μ[k]? = some (.day C Y j)) (ea : a ρ μ = some (rs, μ)) (h : rs.length + 1 = n) (eg : g (.m k :: rs) μ = some r) : sMeth C n g o a ρ μ = some r := by
  unfold sMeth
  rw [e]
  simp only [Option.bind_some, hk, if_true]
  rw [ea]
  simp only [Option.bind_some]
  rw [if_pos h]
  exact eg
def LsR (y : Yd) (n : Nat) (b : List Int) (s : Nat) (t : Nat) : List (List Int) := if t = 0 then [b] else lotsAt y n (s - 1 + t)
def restN (y : Yd) (n : Nat) (b : List Int) (s : Nat) : Int := (lastP (LsR y n b s) (y.sun.length - s)).1
theorem rest_lok {y : Yd} (n8 : y.n ≤ 8) {n s : Nat} {b : List Int} (s1 : 1 ≤ s) (room : ∀ t, s ≤ t → t < y.sun.length → n ≤ (seatsAt y t).length) (hb : b.length ≤ 8) : LotsOk (LsR y n b s) (y.sun.length - s) where
  nd t ht := by
    unfold LsR
    split
    · simp
    · exact lots_nodup n _ (rise_nodup (seats_rise y _))
  ne t ht := by
    unfold LsR
    split
    · simp
    · exact lots_ne (room _ (by omega) (by omega))
  le t ht := by
    unfold LsR
    split
    · simp
    · exact lotsAt_len n8 _ _
  ln t ht l hl := by
    unfold LsR at hl
    split at hl
    · rw [List.mem_singleton] at hl
      subst hl
      omega
    · have h1 := (lots_mem.mp hl).1.length_le
      have h2 := seats_len n8 (s - 1 + t)
      omega
theorem can_do_ev {y : Yd} (ok : y.Ok) (n8 : y.n ≤ 8) (s8 : y.sun.length ≤ 8) {C : Addr} {k j : Nat} {μ : Mu} (hk : μ[k]? = some (.day C (yardD y) j)) {a b : List Int} {rows : List PyData} (hj : μ[j]? = some (.lst rows)) (ha : atI rows 0 = some (rowD a)) (hb : atI rows (-1) = some (rowD b))
    {s : Nat} (hs : rows.length = s) (s1 : 1 ≤ s) (sl : s ≤ y.sun.length) (room : ∀ t, s ≤ t → t < y.sun.length → a.length ≤ (seatsAt y t).length) (hbl : b.length ≤ 8) {q : Int} (hq : 0 ≤ q) :
    g_Day_can_do C [.m k, .d (.int q)] μ = some (.d (.bool (decide (restN y a.length b s - a.length ≤ q))), μ) := by
  have hc : C_Day_can_do_1 C [some (.m k), some (.d (.int q)), some (.d (.int a.length)), none, none] μ = some (.d (.list ((List.range (y.sun.length - s)).map fun i => lotsD (LsR y a.length b s (i + 1)))), μ) := by
    have h : C_Day_can_do_1 C [some (.m k), some (.d (.int q)), some (.d (.int a.length)), none, none] μ = some (mkL false (((List.range (y.sun.length - s)).filter fun _ => true).map fun i => lotsD (LsR y a.length b s (i + 1))) μ) := by
      refine comp_ev (s := ⟨(rngI s y.sun.length).map .int, none⟩) (List.range (y.sun.length - s)) (fun (i : Nat) => .int ((s + i : Nat) : Int)) (rng2_ev (lenM_ev (rows_ev rfl hk) hj hs) (sunM_ev rfl hk) (by omega) (by omega) (by omega) (by omega)) ?_ (ok_none _) (by rw [List.length_range]; omega) (fun _ => true) _ (fun i hi acc => ?_)
      · show (rngI s y.sun.length).map PyData.int = _
        unfold rngI
        have : ((y.sun.length : Int) - (s : Int)).toNat = y.sun.length - s := by omega
        rw [this, List.map_map]
        rfl
      · have hi := List.mem_range.mp hi
        have hk' : (μ ++ [.lst acc])[k]? = some (.day C (yardD y) j) := (get_snoc _ _ _ _).mpr (.inl hk)
        have e1 := shaded_ev ok (hour := s + i) (by omega) (μ ++ [.lst acc])
        have e2 := lots_of_ev a.length (seatsAt y (s + i)) (seats_len n8 _) (μ ++ [.lst acc])
        have e3 : lotsD (LsR y a.length b s (i + 1)) = .list ((lotsL a.length (seatsAt y (s + i))).map rowD) := by
          unfold LsR lotsAt
          rw [if_neg (by omega), show s - 1 + (i + 1) = s + i by omega]
          rfl
        rw [e3]
        exact ⟨_, rfl, rfl, fun _ => call_ev (cons_ev (call_ev (cons_ev (yard_ev rfl hk') (cons_ev rfl nil_ev)) rfl e1) (cons_ev rfl nil_ev)) rfl e2⟩
    rw [h, filter_yes]
    rfl
  have be := best_ev (LsR y a.length b s) (y.sun.length - s) (by omega) (rest_lok n8 s1 room hbl) μ
  have b0 : lotsD (LsR y a.length b s 0) = .list [rowD b] := rfl
  rw [b0] at be
  refine fn_d (ρ := [some (.m k), some (.d (.int q)), none, none, none]) (ρ' := [some (.m k), some (.d (.int q)), some (.d (.int a.length)), some (.d (.list ((List.range (y.sun.length - s)).map fun i => lotsD (LsR y a.length b s (i + 1))))), none]) ?_ rfl rfl
  unfold b_Day_can_do
  have lt0 : sTst (s2 fLt (sVar 1) (sC (.int 0))) [some (.m k), some (.d (.int q)), none, none, none] μ = some (false, μ) := by
    have := lt_ev (a := sVar 1) (b := sC (.int 0)) (ρ := [some (.m k), some (.d (.int q)), none, none, none]) (μ := μ) (i := q) (j := 0) rfl rfl
    rw [this, decide_eq_false (by omega)]
  rw [seq_nx (if_no (by exact or_ff (not_t (tst_b (b := true) rfl)) (or_ff (tst_b (b := false) rfl) lt0)))]
  rw [seq_nx (asg_to (d := .int a.length) (μ2 := μ) (by exact arg1_ev (x := .d (rowD a)) (μ1 := μ) (ixM_ev (rows_ev rfl hk) rfl hj ha) (by simp [rowD])))]
  simp only [List.set_cons_succ, List.set_cons_zero]
  rw [seq_nx (asg_to hc)]
  simp only [List.set_cons_succ, List.set_cons_zero]
  exact ret_ev (le_ev (sub_ev (ix0_ev (call_ev (cons_ev rfl (cons_ev (lst1_ev (ixM_ev (rows_ev rfl hk) rfl hj hb)) nil_ev)) rfl be)) rfl) rfl)
theorem asg_any {m : Sm} {i : Nat} {r : Rv} {ρ : Ro} {μ μ2 : Mu} (e : m ρ μ = some (r, μ2)) : sAsg m (.nm i) ρ μ = some (.nx, ρ.set i (some r), μ2) := by
  unfold sAsg
  rw [e]
  rfl
theorem next_ev {C : Addr} {y : Yd} {k j : Nat} {μ : Mu} (hk : μ[k]? = some (.day C (yardD y) j)) {a b c : List Int} {rows : List PyData} (hj : μ[j]? = some (.lst rows)) (ha : atI rows 0 = some (rowD a)) (hb : atI (rows ++ [rowD c]) (-2) = some (rowD b))
    {s : Nat} (hs : rows.length = s) (sl : s < y.sun.length) (s8 : y.sun.length ≤ 8) (ar : g_are_seats [.d (yardD y), .d (.int s), .d (rowD c)] μ = some (.d (.bool true), μ)) (hc : c.length = a.length) (c8 : c.length ≤ 8) :
    g_Day_next_hour C [.m k, .d (rowD c)] μ = some (.d (.int (gone b c : Int)), μ.set j (.lst (rows ++ [rowD c]))) := by
  have hjl : j < μ.length := (List.getElem?_eq_some_iff.mp hj).1
  have hjk : j ≠ k := fun e => by subst e; rw [hj] at hk; cases hk
  have hk2 : (μ.set j (.lst (rows ++ [rowD c])))[k]? = some (.day C (yardD y) j) := by rw [List.getElem?_set_ne hjk]; exact hk
  have hj2 : (μ.set j (.lst (rows ++ [rowD c])))[j]? = some (.lst (rows ++ [rowD c])) := List.getElem?_set_self hjl
  have go := goings_ev b c (by omega) (μ.set j (.lst (rows ++ [rowD c])))
  have lt1 := eq_ev false (a := sA fLen (sCons (s1 (fRows C) (sVar 0)) sNil)) (b := sA fLen (sCons (s2 fIx (s1 (fYard C) (sVar 0)) (sC (.int 2))) sNil)) (ρ := [some (.m k), some (.d (rowD c))]) (μ := μ) (lenM_ev (rows_ev rfl hk) hj hs) (sunM_ev rfl hk) (pl_int' _ _) (pl_int' _ _)
  have ne1 : (PyData.eqv (.int (s : Int)) (.int (y.sun.length : Int))) = false := by
    show ((s : Int) == (y.sun.length : Int)) = false
    rw [beq_eq_false_iff_ne]
    omega
  rw [ne1] at lt1
  have ap : sMet fApp (s1 (fRows C) (sVar 0)) (sCons (sVar 1) sNil) [some (.m k), some (.d (rowD c))] μ = some (.d .none, μ.set j (.lst (rows ++ [rowD c]))) := by
    refine met_ev (rows_ev rfl hk) (by simp [hj]) (cons_ev rfl nil_ev) ?_
    have : rows.length < 4096 := by omega
    simp [hj, this]
  have e : b_Day_next_hour C [some (.m k), some (.d (rowD c))] μ = some (.rt (.d (.int (gone b c : Int))), [some (.m k), some (.d (rowD c))], μ.set j (.lst (rows ++ [rowD c]))) := by
    unfold b_Day_next_hour
    rw [seq_nx (if_no (by exact tst_b lt1))]
    rw [seq_nx (if_no (by exact or_ff (not_t (tst_b (call_ev (cons_ev (yard_ev rfl hk) (cons_ev (lenM_ev (rows_ev rfl hk) hj hs) (cons_ev rfl nil_ev))) rfl ar))) (ne_same (x := .int a.length) (arg1_ev (x := .d (rowD c)) rfl (by simp [rowD, hc])) (arg1_ev (ixM_ev (rows_ev rfl hk) rfl hj ha) (by simp [rowD])) (pl_int' _ _))))]
    rw [seq_nx (ρ' := [some (.m k), some (.d (rowD c))]) (μ' := μ.set j (.lst (rows ++ [rowD c]))) (by
      unfold sExpr
      rw [ap]
      rfl)]
    exact ret_ev (call_ev (cons_ev (ixM_ev (rows_ev rfl hk2) rfl hj2 hb) (cons_ev rfl nil_ev)) rfl go)
  unfold g_Day_next_hour
  rw [fn_rt (n := 2) (N := 2) (rs := [.m k, .d (rowD c)]) e rfl rfl]
  simp only [retv]
  rw [List.take_of_length_le (by rw [List.length_set]; exact Nat.le_refl _)]
end Sh
set_option Elab.async false
set_option linter.all false
set_option maxRecDepth 100000
set_option maxHeartbeats 1000000
namespace Sh
open PySem L2 PyProof.Rows
/-! ### two seats shaded by turns -/
def yT : Yd := ⟨2, [(1, 1)], [(true, 1, 2), (false, 1, 2), (true, 1, 2), (false, 1, 2), (true, 1, 2), (false, 1, 2), (true, 1, 2), (false, 1, 2)]⟩
def sunT : List PyData := yT.sun.map hourD
theorem yT_D : yardD yT = .tuple [.int 2, .tuple [.tuple [.int 1, .int 1]], .tuple sunT] := rfl
theorem validT : Valid yT := ⟨by decide, by decide, by decide, by decide, by decide, by decide, by decide, by decide⟩
def sitT : List (List Int) := [[0], [1], [0], [1], [0], [1], [0], [1]]
theorem turnsB1 : (okB yT && roomB yT 1 && decide (spansL yT = (([0, 2, 4, 6] : List Int).map fun h => (0, h, h)) ++ (([1, 3, 5, 7] : List Int).map fun h => (1, h, h))) && decide (num yT 1 = 8) && decide (sitL yT 1 = sitT)) = true := by decide +kernel
theorem turnsB2 : (decide (nums 8 ∈ allL yT.sun.length) && decide (showsV (spP yT) 1 (nums 8) = 8) && decide (dearL (rowsY yT) 1 = nums 8) && decide (needL (rowsY yT) 1 2 = [0, 1]) && decide (most yT = 1)) = true := by decide +kernel
theorem turnsB3 : (decide (restN yT 1 [0] 1 = 8) && decide (restN yT 1 [1] 2 = 7)) = true := by decide +kernel
theorem turnsB4 : ∀ t, t < yT.sun.length → ([if t % 2 = 0 then 0 else 1] : List Int).Sublist (seatsAt yT t) := by decide +kernel
theorem tri_comp2 {x y z : Sm} {m : Si} {ρ : Ro} {μ : Mu} {p : Int} {hs : List Int} {k : Nat} (hm : m ρ μ = some (⟨hs.map .int, none⟩, μ)) (hl : hs.length ≤ 100)
    (h : ∀ (s : Int) (μ : Mu), ∃ ρ1, (Tg.nm k).put (.int s) (wipeR ρ [k]) = some ρ1 ∧ x ρ1 μ = some (.d (.int p), μ) ∧ y ρ1 μ = some (.d (.int s), μ) ∧ z ρ1 μ = some (.d (.int s), μ)) :
    sComp false m (.nm k) sYes (sA fTup (sCons x (sCons y (sCons z sNil)))) [k] ρ μ = some (.d (.list ((hs.map fun h => (p, h, h)).map triD)), μ) := by
  have e : sComp false m (.nm k) sYes (sA fTup (sCons x (sCons y (sCons z sNil)))) [k] ρ μ = some (mkL false ((hs.filter fun _ => true).map fun s => triD (p, s, s)) μ) := by
    refine comp_ev (s := ⟨hs.map .int, none⟩) hs (fun s : Int => .int s) hm rfl (ok_none _) (by omega) (fun _ => true) _ (fun s hs acc => ?_)
    obtain ⟨ρ1, h1, h2, h3, h4⟩ := h s (μ ++ [.lst acc])
    exact ⟨ρ1, h1, rfl, fun _ => tup3_ev h2 h3 h4⟩
  rw [e, filter_yes, List.map_map]
  rfl
theorem or_fm {s t : Sb} {ρ : Ro} {μ μ1 μ2 : Mu} {b : Bool} (e : s ρ μ = some (false, μ1)) (e2 : t ρ μ1 = some (b, μ2)) : sOr s t ρ μ = some (b, μ2) := by simp [e, e2]
theorem if_nom {t : Sb} {a : Ss} {ρ : Ro} {μ μ1 : Mu} (e : t ρ μ = some (false, μ1)) : sIf t a sSkip ρ μ = some (.nx, ρ, μ1) := by simp [e]
theorem ne_samem {a b : Sm} {ρ : Ro} {μ μ1 : Mu} {x : PyData} (e1 : a ρ μ = some (.d x, μ1)) (e2 : b ρ μ1 = some (.d x, μ1)) (hp : pl 9 x = true) : sTst (s2 (fEq true) a b) ρ μ = some (false, μ1) := by
  have q : s2 (fEq true) a b ρ μ = some (.d (.bool false), μ1) := by
    unfold s2
    rw [e1]
    simp only [Option.bind_some]
    rw [e2]
    simp only [Option.bind_some, fEq, rd, hp, Bool.and_self, if_true, eqv_refl 9 x hp]
    rfl
  simp [-s2, q]
theorem lstRg1_ev {a : Sm} {ρ : Ro} {μ : Mu} {n : Nat} (e : a ρ μ = some (.d (.int n), μ)) (h : n ≤ 4096) : s1 (fLstRg false) a ρ μ = some (.d (lstD (nums n)), μ) := by
  unfold s1
  rw [e]
  have hb : bRg 0 (n : Int) = true := bRg_eq (by omega) (by omega) (by omega) (by omega)
  simp only [Option.bind_some, fLstRg, hb, if_true]
  rw [Int.toNat_natCast, rng0]; rfl
theorem day_ev {C : Addr} {y : Yd} (v : Valid y) (ok : y.Ok) (n8 : y.n ≤ 8) {f : List Int} {st : Nat → List Int} {n : Nat} (hs : Seated y n st) (h0 : st 0 = f) (n1 : 1 ≤ f.length) (ms : (f.length : Int) ≤ most y) {a : Sa} {ρ : Ro} {μ : Mu} (e : a ρ μ = some ([.d (yardD y), .d (rowD f)], μ)) :
    sA (fDay C T1_Day T2_Day T3_Day) a ρ μ = some (.m (μ.length + 1), μ ++ [.lst [rowD f], .day C (yardD y) μ.length]) := by
  have hl : sA fLen (sCons (sVar 2) sNil) [none, some (.d (yardD y)), some (.d (rowD f))] μ = some (.d (.int f.length), μ) := arg1_ev (x := .d (rowD f)) rfl (by simp [rowD])
  have ar := are_seats_ev ok n8 hs (t := 0) v.s1 μ
  rw [h0] at ar
  have ar : g_are_seats [.d (yardD y), .d (.int 0), .d (rowD f)] μ = some (.d (.bool true), μ) := ar
  have t1 : T1_Day [none, some (.d (yardD y)), some (.d (rowD f))] μ = some (false, μ) := not_t (tst_b (call_ev (cons_ev rfl nil_ev) rfl (is_yard_ev v μ)))
  have t2 : T2_Day [none, some (.d (yardD y)), some (.d (rowD f))] μ = some (false, μ) := by
    refine or_ff (not_t (tst_b (call_ev (cons_ev rfl (cons_ev rfl (cons_ev rfl nil_ev))) rfl ar))) ?_
    refine tst_b ?_
    rw [eq_ev false hl rfl (pl_int' _ _) (pl_int' _ _)]
    have : PyData.eqv (.int (f.length : Int)) (.int 0) = false := by
      show ((f.length : Int) == 0) = false
      rw [beq_eq_false_iff_ne]
      omega
    rw [this]
    rfl
  have t3 : T3_Day [none, some (.d (yardD y)), some (.d (rowD f))] μ = some (false, μ) := by
    unfold T3_Day
    rw [gt_ev hl (by exact call_ev (cons_ev rfl nil_ev) rfl (most_ev ok v.s1 μ)), decide_eq_false (by omega)]
  unfold sA
  rw [e]
  simp only [Option.bind_some, fDay, dayB_eq t1 t2 t3, if_true]
theorem turns_right_ev (C : Addr) : g_law_turns_right C [] [] = some (.d (.bool true), []) := by
  have hb := turnsB1
  have hc := turnsB2
  have hd := turnsB3
  simp only [Bool.and_eq_true, decide_eq_true_eq] at hb hc hd
  obtain ⟨⟨⟨⟨b1, b2⟩, b3⟩, b4⟩, b5⟩ := hb
  obtain ⟨⟨⟨⟨c1, c2⟩, c3⟩, c4⟩, c5⟩ := hc
  obtain ⟨d1, d2⟩ := hd
  have g := good_of b1 b2
  obtain ⟨ok, n8, s1, s8⟩ := okB_ok b1
  have hy := yT_D
  have sT : Seated yT 1 (fun t => [if t % 2 = 0 then 0 else 1]) := ⟨turnsB4, fun _ _ => rfl⟩
  have st := stretches_ev ok []
  have f1 := fewest_val g []
  have sh := shows_val ok n8 s8 1 (by omega) c1 []
  have da := fun (a : Sa) (ρ : Ro) (e : a ρ [] = some ([.d (yardD yT), .d (rowD [0])], [])) => day_ev (C := C) validT ok n8 sT (f := [0]) rfl (by decide) (by rw [c5]; decide) e
  have q6 := can_do_ev ok n8 s8 (C := C) (k := 1) (j := 0) (μ := [.lst [rowD [0]], .day C (yardD yT) 0]) rfl (a := [0]) (b := [0]) (rows := [rowD [0]]) rfl rfl rfl (s := 1) rfl (by omega) s1 (fun t _ ht => g.room t ht) (by decide) (q := 6) (by decide)
  have q7 := can_do_ev ok n8 s8 (C := C) (k := 1) (j := 0) (μ := [.lst [rowD [0]], .day C (yardD yT) 0]) rfl (a := [0]) (b := [0]) (rows := [rowD [0]]) rfl rfl rfl (s := 1) rfl (by omega) s1 (fun t _ ht => g.room t ht) (by decide) (q := 7) (by decide)
  have ar := are_seats_ev ok n8 sT (t := 1) (by decide) [.lst [rowD [0]], .day C (yardD yT) 0]
  have nx := next_ev (C := C) (y := yT) (k := 1) (j := 0) (μ := [.lst [rowD [0]], .day C (yardD yT) 0]) rfl (a := [0]) (b := [0]) (c := [1]) (rows := [rowD [0]]) rfl rfl rfl (s := 1) rfl (by decide) s8 ar rfl (by decide)
  have r6 := can_do_ev ok n8 s8 (C := C) (k := 1) (j := 0) (μ := [.lst [rowD [0], rowD [1]], .day C (yardD yT) 0]) rfl (a := [0]) (b := [1]) (rows := [rowD [0], rowD [1]]) rfl rfl rfl (s := 2) rfl (by omega) (by decide) (fun t _ ht => g.room t ht) (by decide) (q := 6) (by decide)
  have de := dear_hours_ev ok n8 s1 s8 (n := 1) g.room [.lst [rowD [0], rowD [1]], .day C (yardD yT) 0]
  have ne := needed_seats_ev ok n8 s1 s8 (n := 1) g.room [.lst [rowD [0], rowD [1]], .day C (yardD yT) 0]
  rw [b3] at st
  rw [b4, seatD_sit, b5] at f1
  rw [c2] at sh
  rw [show ([0] : List Int).length = 1 from rfl, d1] at q6 q7
  rw [show ([0] : List Int).length = 1 from rfl, d2] at r6
  rw [c3] at de
  rw [show yT.n.toNat = 2 from rfl, c4] at ne
  have q6 : g_Day_can_do C [.m 1, .d (.int 6)] [.lst [rowD [0]], .day C (yardD yT) 0] = some (.d (.bool false), [.lst [rowD [0]], .day C (yardD yT) 0]) := q6
  have q7 : g_Day_can_do C [.m 1, .d (.int 7)] [.lst [rowD [0]], .day C (yardD yT) 0] = some (.d (.bool true), [.lst [rowD [0]], .day C (yardD yT) 0]) := q7
  have r6 : g_Day_can_do C [.m 1, .d (.int 6)] [.lst [rowD [0], rowD [1]], .day C (yardD yT) 0] = some (.d (.bool true), [.lst [rowD [0], rowD [1]], .day C (yardD yT) 0]) := r6
  have nx : g_Day_next_hour C [.m 1, .d (rowD [1])] [.lst [rowD [0]], .day C (yardD yT) 0] = some (.d (.int 1), [.lst [rowD [0], rowD [1]], .day C (yardD yT) 0]) := nx
  generalize yardD yT = Y at hy st f1 sh da q6 q7 r6 nx de ne
  refine fn_dm (ρ := [none, none, none, none]) ?_ rfl rfl
  unfold b_law_turns_right
  rw [seq_nx (asg_to (d := Y) (by rw [hy]; rfl))]
  simp only [List.set_cons_succ, List.set_cons_zero]
  rw [seq_nx (asg_to (d := .list (((([0, 2, 4, 6] : List Int).map fun h => ((0 : Int), h, h)) ++ (([1, 3, 5, 7] : List Int).map fun h => ((1 : Int), h, h))).map triD)) (by
    rw [List.map_append]
    refine catL_ev ?_ ?_ (by decide)
    · unfold C_law_turns_right_1
      exact tri_comp2 rfl (by decide) fun s μ => ⟨_, rfl, rfl, rfl, rfl⟩
    · unfold C_law_turns_right_2
      exact tri_comp2 rfl (by decide) fun s μ => ⟨_, rfl, rfl, rfl, rfl⟩))]
  simp only [List.set_cons_succ, List.set_cons_zero]
  rw [seq_nx (if_no (by exact ne_same (call_ev (cons_ev rfl nil_ev) rfl st) rfl (pl_map triD 8 _ (pl_tri 7))))]
  rw [seq_nx (if_no (by exact or_ff (ne_same (callD_ev (cons_ev rfl (cons_ev rfl nil_ev)) rfl f1) (pair_ev rfl (by rfl)) rfl) (ne_same (callD_ev (cons_ev rfl (cons_ev rfl (cons_ev (tupRg1_ev (n := 8) rfl (by omega)) nil_ev))) rfl sh) rfl (pl_int' _ _))))]
  rw [seq_nx (asg_any (by exact da _ _ (cons_ev rfl (cons_ev (one_ev rfl) nil_ev))))]
  simp only [List.set_cons_succ, List.set_cons_zero, List.length_nil, List.nil_append, Nat.zero_add]
  rw [seq_nx (if_no (by exact or_ff (is_no (meth_ev rfl rfl (cons_ev rfl nil_ev) rfl q6)) (is_no (meth_ev rfl rfl (cons_ev rfl nil_ev) rfl q7))))]
  rw [seq_nx (if_nom (by exact or_fm (ne_samem (meth_ev rfl rfl (cons_ev (one_ev rfl) nil_ev) rfl nx) rfl (pl_int' _ _)) (is_no (meth_ev rfl rfl (cons_ev rfl nil_ev) rfl r6))))]
  exact ⟨_, _, ret_ev (andv_ev (eq_same (call_ev (cons_ev rfl (cons_ev rfl nil_ev)) rfl de) (lstRg1_ev (n := 8) rfl (by omega)) (pl_lst _ 8)) (eq_same (call_ev (cons_ev rfl (cons_ev rfl nil_ev)) rfl ne) (lst2_ev rfl rfl) (pl_lst _ 8))), rfl⟩
end Sh
set_option Elab.async false
set_option linter.all false
set_option maxRecDepth 100000
set_option maxHeartbeats 1000000
namespace Sh
open PySem L2 PyProof.Rows
/-! ### the law -/
theorem add_evm {a b : Sm} {ρ : Ro} {μ μ1 μ2 : Mu} {i j : Int} (e : a ρ μ = some (.d (.int i), μ1)) (e2 : b ρ μ1 = some (.d (.int j), μ2)) : s2 (fAdd false) a b ρ μ = some (.d (.int (i + j)), μ2) := by
  unfold s2
  rw [e]
  simp only [Option.bind_some]
  rw [e2]
  rfl
theorem par_ev {is : List Nat} {m : Sa} {ρ : Ro} {μ μ2 : Mu} {rs : List Rv} (e : m ρ μ = some (rs, μ2)) (h : rs.length = is.length) : sPar is m ρ μ = some (.nx, sets ρ is rs, μ2) := by
  unfold sPar
  rw [e]
  simp only [Option.bind_some]
  rw [if_pos h]
theorem turn_ev (C : Addr) (ns : List Int) (j : Nat) (hj : j ≤ 100) (b c d e : Option Rv) : ∃ c' d' e' q, l_law_1 C [some (.s ns), some (.d (.int j)), b, c, d, e] [] = some (.nx, [some (.s ns), some (.d (.int j)), some (.m 0), some (.d (.int c')), some (.d (.int d')), some (.d (.int e'))], [bg q]) := by
  obtain ⟨q0, b0⟩ := bag_ev ns j hj
  obtain ⟨r1, q1, l1, u1, t1⟩ := take_ev q0 4 (by decide) (by decide) []
  obtain ⟨r2, q2, l2, u2, t2⟩ := take_ev q1 4 (by decide) (by decide) []
  obtain ⟨r3, q3, l3, u3, t3⟩ := take_ev q2 9 (by decide) (by decide) []
  obtain ⟨a1, h1⟩ := Int.eq_ofNat_of_zero_le (show (0 : Int) ≤ 1 + r1 by omega)
  obtain ⟨a2, h2⟩ := Int.eq_ofNat_of_zero_le (show (0 : Int) ≤ 1 + r2 by omega)
  obtain ⟨a3, h3⟩ := Int.eq_ofNat_of_zero_le (show (0 : Int) ≤ 1 + r3 by omega)
  have ov := over_right_ev (e := a1) (l := a2) (h := a3) (by omega) (by omega) (by omega) (by omega) (by omega) (by omega) [bg q3]
  rw [← h1, ← h2, ← h3] at ov
  refine ⟨1 + r1, 1 + r2, 1 + r3, q3, ?_⟩
  unfold l_law_1
  rw [seq_nx (asg_any (by exact call_ev (cons_ev rfl (cons_ev rfl nil_ev)) rfl b0))]
  simp only [List.set_cons_succ, List.set_cons_zero]
  rw [seq_nx (par_ev (by exact cons_ev (add_evm rfl (call_ev (cons_ev rfl (cons_ev rfl nil_ev)) rfl t1)) (cons_ev (add_evm rfl (call_ev (cons_ev rfl (cons_ev rfl nil_ev)) rfl t2)) (cons_ev (add_evm rfl (call_ev (cons_ev rfl (cons_ev rfl nil_ev)) rfl t3)) nil_ev))) rfl)]
  simp only [sets, List.set_cons_succ, List.set_cons_zero]
  exact if_no (not_t (tst_b (call_ev (cons_ev rfl (cons_ev rfl (cons_ev rfl nil_ev))) rfl ov)))
theorem law_true (C : Addr) (ns : List Int) (h : ns.length ≤ 63) : ∃ μ', g_law C [.s ns] [] = some (.d (.bool true), μ') := by
  obtain ⟨f, ρ', μ', e, h⟩ := for_ev (m := sRng1 (sCons (s2 (fAdd false) (sA fMin (sCons (sA fLen (sCons (sVar 0) sNil)) (sCons (sC (.int 4)) sNil))) (sC (.int 2))) sNil)) (t := .nm 1) (body := l_law_1 C) (ρ := [some (.s ns), none, none, none, none, none]) (μ := []) (μ1 := []) (s := ⟨rngD 0 (min ns.length 4 + 2), none⟩) (nums (min ns.length 4 + 2)) .int (rng1_ev (by
      by_cases c : (4 : Int) < (ns.length : Int)
      · have : ((min ns.length 4 + 2 : Nat) : Int) = 6 := by omega
        rw [this]
        simp [c]
      · have : ((min ns.length 4 + 2 : Nat) : Int) = (ns.length : Int) + 2 := by omega
        rw [this]
        simp [c]) (by omega)) (rng0 _)
    (fun _ ρ μ' => (∃ a b c d e, ρ = [some (.s ns), a, b, c, d, e]) ∧ μ' = []) (fun _ _ => False) ⟨⟨_, _, _, _, _, rfl⟩, rfl⟩ (by
      rintro j s ρ μ' hk ⟨⟨a, b, c, d, e, rfl⟩, rfl⟩
      obtain ⟨rfl, hk2⟩ := nums_get hk
      obtain ⟨c', d', e', q, st⟩ := turn_ev C ns j (by omega) b c d e
      exact ⟨_, .nx, _, _, rfl, st, rfl, ⟨_, _, _, _, _, rfl⟩, List.take_zero⟩)
  cases f with
  | nx =>
    obtain ⟨⟨a, b, c, d, e', rfl⟩, rfl⟩ := h
    have e : L_law_1 C [some (.s ns), none, none, none, none, none] [] = some (.nx, [some (.s ns), a, b, c, d, e'], []) := e
    refine ⟨[], fn_d (ρ := [some (.s ns), none, none, none, none, none]) (ρ' := [some (.s ns), a, b, c, d, e']) ?_ rfl rfl⟩
    unfold b_law
    rw [seq_nx e]
    exact ret_ev (andv_ev (call_ev nil_ev rfl (turns_right_ev C)) (andv_ev (call_ev nil_ev rfl (full_right_ev [])) (call_ev nil_ev rfl (short_right_ev []))))
  | rt r => exact h.elim
  | ct => exact h.elim
  | bk => exact h.elim
end Sh
set_option Elab.async false
set_option linter.all false
set_option maxRecDepth 100000
namespace Sh
open PySem L2 PyProof.Rows
theorem law_sp {K : PySem.W.Frag} {H : Hp} {a : Addr} {ns : List Int} {g : Fn} {μ' : Mu} (e : g [.s ns] [] = some (.d (.bool true), μ')) (hS : SqL K H a (ns.map V.int)) : spF K 1 g [.ref a] H (fun v _ => v = .bl true) fun _ _ _ => False := by
  refine ⟨⟨[], [], H⟩, [.s ns], _, μ', rfl, rfl, e, ⟨rfl, fun i j o u b h => by simp at h, fun k o b h => by simp at h⟩, .cons ⟨a, rfl, ?_⟩ .nil, fun u v _ _ _ h => by cases h; rfl⟩
  have hF : (Wd.mk [] [] H).F = H := by
    funext b
    exact Wd.F_not (fun ⟨k, o, h, _⟩ => by simp at h)
  rw [hF]
  exact hS
end Sh
set_option Elab.async false
set_option linter.all false
set_option maxRecDepth 100000
namespace Sh
open PySem L2 PyProof.Rows
/-- what the law's def promises, whatever the class' place -/
def spL (K : PySem.W.Frag) : Sp := fun vs H Q E => ∀ C, spF K 1 (g_law C) vs H Q E
set_option maxHeartbeats 4000000 in
theorem all_mk {l : PySem.W.OpenLaw} {w : World} {K : PySem.W.Frag} {h : Heap} {mg : Str → Option Value} {fa : Addr} (X : K.In h) (G : h.Ns mainGlobals mg) (hfa : mg "law" = some (.ref fa))
    {f_law_bag f_is_from f_are_walls f_is_lowest f_is_slant f_is_yard f_is_shaded f_shaded f_most_sitters f_are_seats f_Day_init f_runs f_stretches f_goings f_table f_best f_lots_of f_fewest f_shows f_counted f_lot_shows f_Day_can_do f_Day_next_hour f_number_of f_dear_hours f_needed_seats f_law_turns_right f_is_seating f_law_full_right f_law_short_right f_law_over_right f_law_take f_law D_fewest D_lot_shows C : Addr} {od_law_bag an_law_bag od_is_from an_is_from od_are_walls an_are_walls od_is_lowest an_is_lowest od_is_slant an_is_slant od_is_yard an_is_yard od_is_shaded an_is_shaded od_shaded an_shaded od_most_sitters an_most_sitters od_are_seats an_are_seats od_Day_init an_Day_init od_runs an_runs od_stretches an_stretches od_goings an_goings od_table an_table od_best an_best od_lots_of an_lots_of od_fewest an_fewest od_shows an_shows od_counted an_counted od_lot_shows an_lot_shows od_Day_can_do an_Day_can_do od_Day_next_hour an_Day_next_hour od_number_of an_number_of od_dear_hours an_dear_hours od_needed_seats an_needed_seats od_law_turns_right an_law_turns_right od_is_seating an_is_seating od_law_full_right an_law_full_right od_law_short_right an_law_short_right od_law_over_right an_law_over_right od_law_take an_law_take od_law an_law : Option Addr} {sl_law_bag sl_is_from sl_are_walls sl_is_lowest sl_is_slant sl_is_yard sl_is_shaded sl_shaded sl_most_sitters sl_are_seats sl_Day_init sl_runs sl_stretches sl_goings sl_table sl_best sl_lots_of sl_fewest sl_shows sl_counted sl_lot_shows sl_Day_can_do sl_Day_next_hour sl_number_of sl_dear_hours sl_needed_seats sl_law_turns_right sl_is_seating sl_law_full_right sl_law_short_right sl_law_over_right sl_law_take sl_law : Array (Option Value)} {oc_law_bag kV_law_bag dc_law_bag pm_law_bag cd_law_bag ct_law_bag oc_is_from kV_is_from dc_is_from pm_is_from cd_is_from ct_is_from oc_are_walls kV_are_walls dc_are_walls pm_are_walls cd_are_walls ct_are_walls oc_is_lowest kV_is_lowest dc_is_lowest pm_is_lowest cd_is_lowest ct_is_lowest oc_is_slant kV_is_slant dc_is_slant pm_is_slant cd_is_slant ct_is_slant oc_is_yard kV_is_yard dc_is_yard pm_is_yard cd_is_yard ct_is_yard oc_is_shaded kV_is_shaded dc_is_shaded pm_is_shaded cd_is_shaded ct_is_shaded oc_shaded kV_shaded dc_shaded pm_shaded cd_shaded ct_shaded oc_most_sitters kV_most_sitters dc_most_sitters pm_most_sitters cd_most_sitters ct_most_sitters oc_are_seats kV_are_seats dc_are_seats pm_are_seats cd_are_seats ct_are_seats oc_Day_init kV_Day_init dc_Day_init pm_Day_init cd_Day_init ct_Day_init oc_runs kV_runs dc_runs pm_runs cd_runs ct_runs oc_stretches kV_stretches dc_stretches pm_stretches cd_stretches ct_stretches oc_goings kV_goings dc_goings pm_goings cd_goings ct_goings oc_table kV_table dc_table pm_table cd_table ct_table oc_best kV_best dc_best pm_best cd_best ct_best oc_lots_of kV_lots_of dc_lots_of pm_lots_of cd_lots_of ct_lots_of oc_fewest dc_fewest pm_fewest cd_fewest ct_fewest oc_shows kV_shows dc_shows pm_shows cd_shows ct_shows oc_counted kV_counted dc_counted pm_counted cd_counted ct_counted oc_lot_shows dc_lot_shows pm_lot_shows cd_lot_shows ct_lot_shows oc_Day_can_do kV_Day_can_do dc_Day_can_do pm_Day_can_do cd_Day_can_do ct_Day_can_do oc_Day_next_hour kV_Day_next_hour dc_Day_next_hour pm_Day_next_hour cd_Day_next_hour ct_Day_next_hour oc_number_of kV_number_of dc_number_of pm_number_of cd_number_of ct_number_of oc_dear_hours kV_dear_hours dc_dear_hours pm_dear_hours cd_dear_hours ct_dear_hours oc_needed_seats kV_needed_seats dc_needed_seats pm_needed_seats cd_needed_seats ct_needed_seats oc_law_turns_right kV_law_turns_right dc_law_turns_right pm_law_turns_right cd_law_turns_right ct_law_turns_right oc_is_seating kV_is_seating dc_is_seating pm_is_seating cd_is_seating ct_is_seating oc_law_full_right kV_law_full_right dc_law_full_right pm_law_full_right cd_law_full_right ct_law_full_right oc_law_short_right kV_law_short_right dc_law_short_right pm_law_short_right cd_law_short_right ct_law_short_right oc_law_over_right kV_law_over_right dc_law_over_right pm_law_over_right cd_law_over_right ct_law_over_right oc_law_take kV_law_take dc_law_take pm_law_take cd_law_take ct_law_take oc_law kV_law dc_law pm_law cd_law ct_law : Value}
    (a_law_bag : PySem.W.nsIn K mainGlobals "_law_bag" = some (some (.ref f_law_bag))) (l_law_bag : K.lookup f_law_bag = some ⟨oc_law_bag, od_law_bag, .func (PySem.W.fnOf "_law_bag" "_law_bag" (defArgs s_law_bag) (defBody s_law_bag) (defScope s_law_bag) .none kV_law_bag dc_law_bag pm_law_bag an_law_bag cd_law_bag ct_law_bag), sl_law_bag⟩) (c_law_bag : PySem.W.codeIn K cd_law_bag "_law_bag" = true) (k_law_bag : PySem.W.keepIn K (.ref f_law_bag) = true)
    (a_is_from : PySem.W.nsIn K mainGlobals "is_from" = some (some (.ref f_is_from))) (l_is_from : K.lookup f_is_from = some ⟨oc_is_from, od_is_from, .func (PySem.W.fnOf "is_from" "is_from" (defArgs s_is_from) (defBody s_is_from) (defScope s_is_from) .none kV_is_from dc_is_from pm_is_from an_is_from cd_is_from ct_is_from), sl_is_from⟩) (c_is_from : PySem.W.codeIn K cd_is_from "is_from" = true) (k_is_from : PySem.W.keepIn K (.ref f_is_from) = true)
    (a_are_walls : PySem.W.nsIn K mainGlobals "are_walls" = some (some (.ref f_are_walls))) (l_are_walls : K.lookup f_are_walls = some ⟨oc_are_walls, od_are_walls, .func (PySem.W.fnOf "are_walls" "are_walls" (defArgs s_are_walls) (defBody s_are_walls) (defScope s_are_walls) .none kV_are_walls dc_are_walls pm_are_walls an_are_walls cd_are_walls ct_are_walls), sl_are_walls⟩) (c_are_walls : PySem.W.codeIn K cd_are_walls "are_walls" = true) (k_are_walls : PySem.W.keepIn K (.ref f_are_walls) = true)
    (a_is_lowest : PySem.W.nsIn K mainGlobals "is_lowest" = some (some (.ref f_is_lowest))) (l_is_lowest : K.lookup f_is_lowest = some ⟨oc_is_lowest, od_is_lowest, .func (PySem.W.fnOf "is_lowest" "is_lowest" (defArgs s_is_lowest) (defBody s_is_lowest) (defScope s_is_lowest) .none kV_is_lowest dc_is_lowest pm_is_lowest an_is_lowest cd_is_lowest ct_is_lowest), sl_is_lowest⟩) (c_is_lowest : PySem.W.codeIn K cd_is_lowest "is_lowest" = true) (k_is_lowest : PySem.W.keepIn K (.ref f_is_lowest) = true)
    (a_is_slant : PySem.W.nsIn K mainGlobals "is_slant" = some (some (.ref f_is_slant))) (l_is_slant : K.lookup f_is_slant = some ⟨oc_is_slant, od_is_slant, .func (PySem.W.fnOf "is_slant" "is_slant" (defArgs s_is_slant) (defBody s_is_slant) (defScope s_is_slant) .none kV_is_slant dc_is_slant pm_is_slant an_is_slant cd_is_slant ct_is_slant), sl_is_slant⟩) (c_is_slant : PySem.W.codeIn K cd_is_slant "is_slant" = true) (k_is_slant : PySem.W.keepIn K (.ref f_is_slant) = true)
    (a_is_yard : PySem.W.nsIn K mainGlobals "is_yard" = some (some (.ref f_is_yard))) (l_is_yard : K.lookup f_is_yard = some ⟨oc_is_yard, od_is_yard, .func (PySem.W.fnOf "is_yard" "is_yard" (defArgs s_is_yard) (defBody s_is_yard) (defScope s_is_yard) .none kV_is_yard dc_is_yard pm_is_yard an_is_yard cd_is_yard ct_is_yard), sl_is_yard⟩) (c_is_yard : PySem.W.codeIn K cd_is_yard "is_yard" = true) (k_is_yard : PySem.W.keepIn K (.ref f_is_yard) = true)
    (a_is_shaded : PySem.W.nsIn K mainGlobals "is_shaded" = some (some (.ref f_is_shaded))) (l_is_shaded : K.lookup f_is_shaded = some ⟨oc_is_shaded, od_is_shaded, .func (PySem.W.fnOf "is_shaded" "is_shaded" (defArgs s_is_shaded) (defBody s_is_shaded) (defScope s_is_shaded) .none kV_is_shaded dc_is_shaded pm_is_shaded an_is_shaded cd_is_shaded ct_is_shaded), sl_is_shaded⟩) (c_is_shaded : PySem.W.codeIn K cd_is_shaded "is_shaded" = true) (k_is_shaded : PySem.W.keepIn K (.ref f_is_shaded) = true)
    (a_shaded : PySem.W.nsIn K mainGlobals "shaded" = some (some (.ref f_shaded))) (l_shaded : K.lookup f_shaded = some ⟨oc_shaded, od_shaded, .func (PySem.W.fnOf "shaded" "shaded" (defArgs s_shaded) (defBody s_shaded) (defScope s_shaded) .none kV_shaded dc_shaded pm_shaded an_shaded cd_shaded ct_shaded), sl_shaded⟩) (c_shaded : PySem.W.codeIn K cd_shaded "shaded" = true) (k_shaded : PySem.W.keepIn K (.ref f_shaded) = true)
    (a_most_sitters : PySem.W.nsIn K mainGlobals "most_sitters" = some (some (.ref f_most_sitters))) (l_most_sitters : K.lookup f_most_sitters = some ⟨oc_most_sitters, od_most_sitters, .func (PySem.W.fnOf "most_sitters" "most_sitters" (defArgs s_most_sitters) (defBody s_most_sitters) (defScope s_most_sitters) .none kV_most_sitters dc_most_sitters pm_most_sitters an_most_sitters cd_most_sitters ct_most_sitters), sl_most_sitters⟩) (c_most_sitters : PySem.W.codeIn K cd_most_sitters "most_sitters" = true) (k_most_sitters : PySem.W.keepIn K (.ref f_most_sitters) = true)
    (a_are_seats : PySem.W.nsIn K mainGlobals "are_seats" = some (some (.ref f_are_seats))) (l_are_seats : K.lookup f_are_seats = some ⟨oc_are_seats, od_are_seats, .func (PySem.W.fnOf "are_seats" "are_seats" (defArgs s_are_seats) (defBody s_are_seats) (defScope s_are_seats) .none kV_are_seats dc_are_seats pm_are_seats an_are_seats cd_are_seats ct_are_seats), sl_are_seats⟩) (c_are_seats : PySem.W.codeIn K cd_are_seats "are_seats" = true) (k_are_seats : PySem.W.keepIn K (.ref f_are_seats) = true)
    (a_Day_init : PySem.W.findIn K (.ref C) "__init__" = some (some (.ref f_Day_init))) (i_Day_init : PySem.W.isFn K (.ref f_Day_init) = true) (l_Day_init : K.lookup f_Day_init = some ⟨oc_Day_init, od_Day_init, .func (PySem.W.fnOf "__init__" "Day.__init__" (defArgs s_Day_init) (defBody s_Day_init) (defScope s_Day_init) .none kV_Day_init dc_Day_init pm_Day_init an_Day_init cd_Day_init ct_Day_init), sl_Day_init⟩) (c_Day_init : PySem.W.codeIn K cd_Day_init "Day.__init__" = true) (k_Day_init : PySem.W.keepIn K (.ref f_Day_init) = true)
    (a_runs : PySem.W.nsIn K mainGlobals "runs" = some (some (.ref f_runs))) (l_runs : K.lookup f_runs = some ⟨oc_runs, od_runs, .func (PySem.W.fnOf "runs" "runs" (defArgs s_runs) (defBody s_runs) (defScope s_runs) .none kV_runs dc_runs pm_runs an_runs cd_runs ct_runs), sl_runs⟩) (c_runs : PySem.W.codeIn K cd_runs "runs" = true) (k_runs : PySem.W.keepIn K (.ref f_runs) = true)
    (a_stretches : PySem.W.nsIn K mainGlobals "stretches" = some (some (.ref f_stretches))) (l_stretches : K.lookup f_stretches = some ⟨oc_stretches, od_stretches, .func (PySem.W.fnOf "stretches" "stretches" (defArgs s_stretches) (defBody s_stretches) (defScope s_stretches) .none kV_stretches dc_stretches pm_stretches an_stretches cd_stretches ct_stretches), sl_stretches⟩) (c_stretches : PySem.W.codeIn K cd_stretches "stretches" = true) (k_stretches : PySem.W.keepIn K (.ref f_stretches) = true)
    (a_goings : PySem.W.nsIn K mainGlobals "goings" = some (some (.ref f_goings))) (l_goings : K.lookup f_goings = some ⟨oc_goings, od_goings, .func (PySem.W.fnOf "goings" "goings" (defArgs s_goings) (defBody s_goings) (defScope s_goings) .none kV_goings dc_goings pm_goings an_goings cd_goings ct_goings), sl_goings⟩) (c_goings : PySem.W.codeIn K cd_goings "goings" = true) (k_goings : PySem.W.keepIn K (.ref f_goings) = true)
    (a_goings_seatings : PySem.W.nsIn K mainGlobals "goings_seatings" = some (some (.ref f_goings)))
    (a_table : PySem.W.nsIn K mainGlobals "table" = some (some (.ref f_table))) (l_table : K.lookup f_table = some ⟨oc_table, od_table, .func (PySem.W.fnOf "table" "table" (defArgs s_table) (defBody s_table) (defScope s_table) .none kV_table dc_table pm_table an_table cd_table ct_table), sl_table⟩) (c_table : PySem.W.codeIn K cd_table "table" = true) (k_table : PySem.W.keepIn K (.ref f_table) = true)
    (a_best : PySem.W.nsIn K mainGlobals "best" = some (some (.ref f_best))) (l_best : K.lookup f_best = some ⟨oc_best, od_best, .func (PySem.W.fnOf "best" "best" (defArgs s_best) (defBody s_best) (defScope s_best) .none kV_best dc_best pm_best an_best cd_best ct_best), sl_best⟩) (c_best : PySem.W.codeIn K cd_best "best" = true) (k_best : PySem.W.keepIn K (.ref f_best) = true)
    (a_lots_of : PySem.W.nsIn K mainGlobals "lots_of" = some (some (.ref f_lots_of))) (l_lots_of : K.lookup f_lots_of = some ⟨oc_lots_of, od_lots_of, .func (PySem.W.fnOf "lots_of" "lots_of" (defArgs s_lots_of) (defBody s_lots_of) (defScope s_lots_of) .none kV_lots_of dc_lots_of pm_lots_of an_lots_of cd_lots_of ct_lots_of), sl_lots_of⟩) (c_lots_of : PySem.W.codeIn K cd_lots_of "lots_of" = true) (k_lots_of : PySem.W.keepIn K (.ref f_lots_of) = true)
    (a_fewest : PySem.W.nsIn K mainGlobals "fewest" = some (some (.ref f_fewest))) (l_fewest : K.lookup f_fewest = some ⟨oc_fewest, od_fewest, .func (PySem.W.fnOf "fewest" "fewest" (defArgs s_fewest) (defBody s_fewest) (defScope s_fewest) .none (.ref D_fewest) dc_fewest pm_fewest an_fewest cd_fewest ct_fewest), sl_fewest⟩) (c_fewest : PySem.W.codeIn K cd_fewest "fewest" = true) (k_fewest : PySem.W.keepIn K (.ref f_fewest) = true) (d_fewest : PySem.W.nsIn K D_fewest "first" = some (some .none))
    (a_shows : PySem.W.nsIn K mainGlobals "shows" = some (some (.ref f_shows))) (l_shows : K.lookup f_shows = some ⟨oc_shows, od_shows, .func (PySem.W.fnOf "shows" "shows" (defArgs s_shows) (defBody s_shows) (defScope s_shows) .none kV_shows dc_shows pm_shows an_shows cd_shows ct_shows), sl_shows⟩) (c_shows : PySem.W.codeIn K cd_shows "shows" = true) (k_shows : PySem.W.keepIn K (.ref f_shows) = true)
    (a_counted : PySem.W.nsIn K mainGlobals "counted" = some (some (.ref f_counted))) (l_counted : K.lookup f_counted = some ⟨oc_counted, od_counted, .func (PySem.W.fnOf "counted" "counted" (defArgs s_counted) (defBody s_counted) (defScope s_counted) .none kV_counted dc_counted pm_counted an_counted cd_counted ct_counted), sl_counted⟩) (c_counted : PySem.W.codeIn K cd_counted "counted" = true) (k_counted : PySem.W.keepIn K (.ref f_counted) = true)
    (a_lot_shows : PySem.W.nsIn K mainGlobals "lot_shows" = some (some (.ref f_lot_shows))) (l_lot_shows : K.lookup f_lot_shows = some ⟨oc_lot_shows, od_lot_shows, .func (PySem.W.fnOf "lot_shows" "lot_shows" (defArgs s_lot_shows) (defBody s_lot_shows) (defScope s_lot_shows) .none (.ref D_lot_shows) dc_lot_shows pm_lot_shows an_lot_shows cd_lot_shows ct_lot_shows), sl_lot_shows⟩) (c_lot_shows : PySem.W.codeIn K cd_lot_shows "lot_shows" = true) (k_lot_shows : PySem.W.keepIn K (.ref f_lot_shows) = true) (d_lot_shows : PySem.W.nsIn K D_lot_shows "first" = some (some .none))
    (a_Day_can_do : PySem.W.findIn K (.ref C) "can_do" = some (some (.ref f_Day_can_do))) (i_Day_can_do : PySem.W.isFn K (.ref f_Day_can_do) = true) (l_Day_can_do : K.lookup f_Day_can_do = some ⟨oc_Day_can_do, od_Day_can_do, .func (PySem.W.fnOf "can_do" "Day.can_do" (defArgs s_Day_can_do) (defBody s_Day_can_do) (defScope s_Day_can_do) .none kV_Day_can_do dc_Day_can_do pm_Day_can_do an_Day_can_do cd_Day_can_do ct_Day_can_do), sl_Day_can_do⟩) (c_Day_can_do : PySem.W.codeIn K cd_Day_can_do "Day.can_do" = true) (k_Day_can_do : PySem.W.keepIn K (.ref f_Day_can_do) = true)
    (a_Day_next_hour : PySem.W.findIn K (.ref C) "next_hour" = some (some (.ref f_Day_next_hour))) (i_Day_next_hour : PySem.W.isFn K (.ref f_Day_next_hour) = true) (l_Day_next_hour : K.lookup f_Day_next_hour = some ⟨oc_Day_next_hour, od_Day_next_hour, .func (PySem.W.fnOf "next_hour" "Day.next_hour" (defArgs s_Day_next_hour) (defBody s_Day_next_hour) (defScope s_Day_next_hour) .none kV_Day_next_hour dc_Day_next_hour pm_Day_next_hour an_Day_next_hour cd_Day_next_hour ct_Day_next_hour), sl_Day_next_hour⟩) (c_Day_next_hour : PySem.W.codeIn K cd_Day_next_hour "Day.next_hour" = true) (k_Day_next_hour : PySem.W.keepIn K (.ref f_Day_next_hour) = true)
    (a_number_of : PySem.W.nsIn K mainGlobals "number_of" = some (some (.ref f_number_of))) (l_number_of : K.lookup f_number_of = some ⟨oc_number_of, od_number_of, .func (PySem.W.fnOf "number_of" "number_of" (defArgs s_number_of) (defBody s_number_of) (defScope s_number_of) .none kV_number_of dc_number_of pm_number_of an_number_of cd_number_of ct_number_of), sl_number_of⟩) (c_number_of : PySem.W.codeIn K cd_number_of "number_of" = true) (k_number_of : PySem.W.keepIn K (.ref f_number_of) = true)
    (a_dear_hours : PySem.W.nsIn K mainGlobals "dear_hours" = some (some (.ref f_dear_hours))) (l_dear_hours : K.lookup f_dear_hours = some ⟨oc_dear_hours, od_dear_hours, .func (PySem.W.fnOf "dear_hours" "dear_hours" (defArgs s_dear_hours) (defBody s_dear_hours) (defScope s_dear_hours) .none kV_dear_hours dc_dear_hours pm_dear_hours an_dear_hours cd_dear_hours ct_dear_hours), sl_dear_hours⟩) (c_dear_hours : PySem.W.codeIn K cd_dear_hours "dear_hours" = true) (k_dear_hours : PySem.W.keepIn K (.ref f_dear_hours) = true)
    (a_needed_seats : PySem.W.nsIn K mainGlobals "needed_seats" = some (some (.ref f_needed_seats))) (l_needed_seats : K.lookup f_needed_seats = some ⟨oc_needed_seats, od_needed_seats, .func (PySem.W.fnOf "needed_seats" "needed_seats" (defArgs s_needed_seats) (defBody s_needed_seats) (defScope s_needed_seats) .none kV_needed_seats dc_needed_seats pm_needed_seats an_needed_seats cd_needed_seats ct_needed_seats), sl_needed_seats⟩) (c_needed_seats : PySem.W.codeIn K cd_needed_seats "needed_seats" = true) (k_needed_seats : PySem.W.keepIn K (.ref f_needed_seats) = true)
    (a_law_turns_right : PySem.W.nsIn K mainGlobals "_law_turns_right" = some (some (.ref f_law_turns_right))) (l_law_turns_right : K.lookup f_law_turns_right = some ⟨oc_law_turns_right, od_law_turns_right, .func (PySem.W.fnOf "_law_turns_right" "_law_turns_right" (defArgs s_law_turns_right) (defBody s_law_turns_right) (defScope s_law_turns_right) .none kV_law_turns_right dc_law_turns_right pm_law_turns_right an_law_turns_right cd_law_turns_right ct_law_turns_right), sl_law_turns_right⟩) (c_law_turns_right : PySem.W.codeIn K cd_law_turns_right "_law_turns_right" = true) (k_law_turns_right : PySem.W.keepIn K (.ref f_law_turns_right) = true)
    (a_is_seating : PySem.W.nsIn K mainGlobals "is_seating" = some (some (.ref f_is_seating))) (l_is_seating : K.lookup f_is_seating = some ⟨oc_is_seating, od_is_seating, .func (PySem.W.fnOf "is_seating" "is_seating" (defArgs s_is_seating) (defBody s_is_seating) (defScope s_is_seating) .none kV_is_seating dc_is_seating pm_is_seating an_is_seating cd_is_seating ct_is_seating), sl_is_seating⟩) (c_is_seating : PySem.W.codeIn K cd_is_seating "is_seating" = true) (k_is_seating : PySem.W.keepIn K (.ref f_is_seating) = true)
    (a_law_full_right : PySem.W.nsIn K mainGlobals "_law_full_right" = some (some (.ref f_law_full_right))) (l_law_full_right : K.lookup f_law_full_right = some ⟨oc_law_full_right, od_law_full_right, .func (PySem.W.fnOf "_law_full_right" "_law_full_right" (defArgs s_law_full_right) (defBody s_law_full_right) (defScope s_law_full_right) .none kV_law_full_right dc_law_full_right pm_law_full_right an_law_full_right cd_law_full_right ct_law_full_right), sl_law_full_right⟩) (c_law_full_right : PySem.W.codeIn K cd_law_full_right "_law_full_right" = true) (k_law_full_right : PySem.W.keepIn K (.ref f_law_full_right) = true)
    (a_law_short_right : PySem.W.nsIn K mainGlobals "_law_short_right" = some (some (.ref f_law_short_right))) (l_law_short_right : K.lookup f_law_short_right = some ⟨oc_law_short_right, od_law_short_right, .func (PySem.W.fnOf "_law_short_right" "_law_short_right" (defArgs s_law_short_right) (defBody s_law_short_right) (defScope s_law_short_right) .none kV_law_short_right dc_law_short_right pm_law_short_right an_law_short_right cd_law_short_right ct_law_short_right), sl_law_short_right⟩) (c_law_short_right : PySem.W.codeIn K cd_law_short_right "_law_short_right" = true) (k_law_short_right : PySem.W.keepIn K (.ref f_law_short_right) = true)
    (a_law_over_right : PySem.W.nsIn K mainGlobals "_law_over_right" = some (some (.ref f_law_over_right))) (l_law_over_right : K.lookup f_law_over_right = some ⟨oc_law_over_right, od_law_over_right, .func (PySem.W.fnOf "_law_over_right" "_law_over_right" (defArgs s_law_over_right) (defBody s_law_over_right) (defScope s_law_over_right) .none kV_law_over_right dc_law_over_right pm_law_over_right an_law_over_right cd_law_over_right ct_law_over_right), sl_law_over_right⟩) (c_law_over_right : PySem.W.codeIn K cd_law_over_right "_law_over_right" = true) (k_law_over_right : PySem.W.keepIn K (.ref f_law_over_right) = true)
    (a_law_take : PySem.W.nsIn K mainGlobals "_law_take" = some (some (.ref f_law_take))) (l_law_take : K.lookup f_law_take = some ⟨oc_law_take, od_law_take, .func (PySem.W.fnOf "_law_take" "_law_take" (defArgs s_law_take) (defBody s_law_take) (defScope s_law_take) .none kV_law_take dc_law_take pm_law_take an_law_take cd_law_take ct_law_take), sl_law_take⟩) (c_law_take : PySem.W.codeIn K cd_law_take "_law_take" = true) (k_law_take : PySem.W.keepIn K (.ref f_law_take) = true)
    (a_law : PySem.W.nsIn K mainGlobals "law" = some (some (.ref f_law))) (l_law : K.lookup f_law = some ⟨oc_law, od_law, .func (PySem.W.fnOf "law" "law" (defArgs s_law) (defBody s_law) (defScope s_law) .none kV_law dc_law pm_law an_law cd_law ct_law), sl_law⟩) (c_law : PySem.W.codeIn K cd_law "law" = true) (k_law : PySem.W.keepIn K (.ref f_law) = true)
    (a_C : PySem.W.nsIn K mainGlobals "Day" = some (some (.ref C))) (pg : PySem.W.plainGet K C Str.empty = true) (hd : PySem.W.hasDictIn K C = true) (po : PySem.W.plainOver K C = true) (sa : PySem.W.findIn K (.ref C) "__setattr__" = some (some (.builtin "object.__setattr__"))) (mk : PySem.W.makesIn K C = true) (kc : PySem.W.keepIn K (.ref C) = true)
    (nY : PySem.W.findIn K (.ref C) "yard" = some none) (nR : PySem.W.findIn K (.ref C) "rows" = some none)
    (z_all : PySem.W.nsIn K mainGlobals "all" = some none)
    (z_bool : PySem.W.nsIn K mainGlobals "bool" = some none)
    (z_enumerate : PySem.W.nsIn K mainGlobals "enumerate" = some none)
    (z_int : PySem.W.nsIn K mainGlobals "int" = some none)
    (z_isinstance : PySem.W.nsIn K mainGlobals "isinstance" = some none)
    (z_len : PySem.W.nsIn K mainGlobals "len" = some none)
    (z_list : PySem.W.nsIn K mainGlobals "list" = some none)
    (z_max : PySem.W.nsIn K mainGlobals "max" = some none)
    (z_min : PySem.W.nsIn K mainGlobals "min" = some none)
    (z_range : PySem.W.nsIn K mainGlobals "range" = some none)
    (z_reversed : PySem.W.nsIn K mainGlobals "reversed" = some none)
    (z_str : PySem.W.nsIn K mainGlobals "str" = some none)
    (z_tuple : PySem.W.nsIn K mainGlobals "tuple" = some none)
    (z_zip : PySem.W.nsIn K mainGlobals "zip" = some none)
    {t_HIGH : Tok} (q_HIGH : PySem.W.nsIn K mainGlobals "HIGH" = some (some (.int 9 t_HIGH)))
    {t_HOURS : Tok} (q_HOURS : PySem.W.nsIn K mainGlobals "HOURS" = some (some (.int 8 t_HOURS)))
    {t_SEATS : Tok} (q_SEATS : PySem.W.nsIn K mainGlobals "SEATS" = some (some (.int 8 t_SEATS)))
    {t_SLANT : Tok} (q_SLANT : PySem.W.nsIn K mainGlobals "SLANT" = some (some (.int 9 t_SLANT)))
    {t_WALLS : Tok} (q_WALLS : PySem.W.nsIn K mainGlobals "WALLS" = some (some (.int 8 t_WALLS))) :
    ∃ fd : FuncData, (∀ (s : Shared) (v : Value), BindsTo s fd ⟨[v], []⟩ [("script", v)]) ∧ ∀ base : Heap, K.In base → base.Ns mainGlobals mg → FnOk l.prog w K mg base CX0 7 fa fd ["script"] (spL K) := by
  have e := hfa.symm.trans (PySem.W.mg_of X G a_law)
  cases e
  have T : Txt mg := ⟨PySem.W.mg_none_of X G z_all, PySem.W.mg_none_of X G z_bool, PySem.W.mg_none_of X G z_enumerate, PySem.W.mg_none_of X G z_int, PySem.W.mg_none_of X G z_isinstance, PySem.W.mg_none_of X G z_len, PySem.W.mg_none_of X G z_list, PySem.W.mg_none_of X G z_max, PySem.W.mg_none_of X G z_min, PySem.W.mg_none_of X G z_range, PySem.W.mg_none_of X G z_reversed, PySem.W.mg_none_of X G z_str, PySem.W.mg_none_of X G z_tuple, PySem.W.mg_none_of X G z_zip, ⟨_, PySem.W.mg_of X G q_HIGH⟩, ⟨_, PySem.W.mg_of X G q_HOURS⟩, ⟨_, PySem.W.mg_of X G q_SEATS⟩, ⟨_, PySem.W.mg_of X G q_SLANT⟩, ⟨_, PySem.W.mg_of X G q_WALLS⟩⟩
  have D : TxtD K C := ⟨⟨pg, hd, po, sa⟩, nY, nR⟩
  have F_law_bag := fun_mk (st := s_law_bag) l_law_bag c_law_bag k_law_bag
  have F_is_from := fun_mk (st := s_is_from) l_is_from c_is_from k_is_from
  have F_are_walls := fun_mk (st := s_are_walls) l_are_walls c_are_walls k_are_walls
  have F_is_lowest := fun_mk (st := s_is_lowest) l_is_lowest c_is_lowest k_is_lowest
  have F_is_slant := fun_mk (st := s_is_slant) l_is_slant c_is_slant k_is_slant
  have F_is_yard := fun_mk (st := s_is_yard) l_is_yard c_is_yard k_is_yard
  have F_is_shaded := fun_mk (st := s_is_shaded) l_is_shaded c_is_shaded k_is_shaded
  have F_shaded := fun_mk (st := s_shaded) l_shaded c_shaded k_shaded
  have F_most_sitters := fun_mk (st := s_most_sitters) l_most_sitters c_most_sitters k_most_sitters
  have F_are_seats := fun_mk (st := s_are_seats) l_are_seats c_are_seats k_are_seats
  have F_Day_init := fun_mk (st := s_Day_init) l_Day_init c_Day_init k_Day_init
  have F_runs := fun_mk (st := s_runs) l_runs c_runs k_runs
  have F_stretches := fun_mk (st := s_stretches) l_stretches c_stretches k_stretches
  have F_goings := fun_mk (st := s_goings) l_goings c_goings k_goings
  have F_table := fun_mk (st := s_table) l_table c_table k_table
  have F_best := fun_mk (st := s_best) l_best c_best k_best
  have F_lots_of := fun_mk (st := s_lots_of) l_lots_of c_lots_of k_lots_of
  have F_fewest := fund_mk (st := s_fewest) l_fewest c_fewest k_fewest d_fewest
  have F_shows := fun_mk (st := s_shows) l_shows c_shows k_shows
  have F_counted := fun_mk (st := s_counted) l_counted c_counted k_counted
  have F_lot_shows := fund_mk (st := s_lot_shows) l_lot_shows c_lot_shows k_lot_shows d_lot_shows
  have F_Day_can_do := fun_mk (st := s_Day_can_do) l_Day_can_do c_Day_can_do k_Day_can_do
  have F_Day_next_hour := fun_mk (st := s_Day_next_hour) l_Day_next_hour c_Day_next_hour k_Day_next_hour
  have F_number_of := fun_mk (st := s_number_of) l_number_of c_number_of k_number_of
  have F_dear_hours := fun_mk (st := s_dear_hours) l_dear_hours c_dear_hours k_dear_hours
  have F_needed_seats := fun_mk (st := s_needed_seats) l_needed_seats c_needed_seats k_needed_seats
  have F_law_turns_right := fun_mk (st := s_law_turns_right) l_law_turns_right c_law_turns_right k_law_turns_right
  have F_is_seating := fun_mk (st := s_is_seating) l_is_seating c_is_seating k_is_seating
  have F_law_full_right := fun_mk (st := s_law_full_right) l_law_full_right c_law_full_right k_law_full_right
  have F_law_short_right := fun_mk (st := s_law_short_right) l_law_short_right c_law_short_right k_law_short_right
  have F_law_over_right := fun_mk (st := s_law_over_right) l_law_over_right c_law_over_right k_law_over_right
  have F_law_take := fun_mk (st := s_law_take) l_law_take c_law_take k_law_take
  have F_law := fun_mk (st := s_law) l_law c_law k_law
  refine ⟨PySem.W.fnOf "law" "law" (defArgs s_law) (defBody s_law) (defScope s_law) .none kV_law dc_law pm_law an_law cd_law ct_law, fun s v => .of_eq rfl, fun base _ _ => ?_⟩
  have C_law_bag := cal_law_bag (P := l.prog) (w := w) (base := base) T  F_law_bag (PySem.W.mg_of X G a_law_bag)
  have C_is_from := cal_is_from (P := l.prog) (w := w) (base := base) T  F_is_from (PySem.W.mg_of X G a_is_from)
  have C_are_walls := cal_are_walls (P := l.prog) (w := w) (base := base) T C_is_from F_are_walls (PySem.W.mg_of X G a_are_walls)
  have C_is_lowest := cal_is_lowest (P := l.prog) (w := w) (base := base) T  F_is_lowest (PySem.W.mg_of X G a_is_lowest)
  have C_is_slant := cal_is_slant (P := l.prog) (w := w) (base := base) T C_is_from C_is_lowest F_is_slant (PySem.W.mg_of X G a_is_slant)
  have C_is_yard := cal_is_yard (P := l.prog) (w := w) (base := base) T C_are_walls C_is_from C_is_slant F_is_yard (PySem.W.mg_of X G a_is_yard)
  have C_is_shaded := cal_is_shaded (P := l.prog) (w := w) (base := base) T  F_is_shaded (PySem.W.mg_of X G a_is_shaded)
  have C_shaded := cal_shaded (P := l.prog) (w := w) (base := base) T C_is_shaded F_shaded (PySem.W.mg_of X G a_shaded)
  have C_most_sitters := cal_most_sitters (P := l.prog) (w := w) (base := base) T C_shaded F_most_sitters (PySem.W.mg_of X G a_most_sitters)
  have C_are_seats := cal_are_seats (P := l.prog) (w := w) (base := base) T C_is_from C_is_shaded F_are_seats (PySem.W.mg_of X G a_are_seats)
  have C_Day_init := cal_Day_init (P := l.prog) (w := w) (base := base) T D C_are_seats C_is_yard C_most_sitters F_Day_init ⟨mk, a_Day_init, i_Day_init, kc⟩ (PySem.W.mg_of X G a_C)
  have C_runs := cal_runs (P := l.prog) (w := w) (base := base) T  F_runs (PySem.W.mg_of X G a_runs)
  have C_stretches := cal_stretches (P := l.prog) (w := w) (base := base) T C_is_shaded C_runs F_stretches (PySem.W.mg_of X G a_stretches)
  have C_goings := cal_goings (P := l.prog) (w := w) (base := base) T  F_goings (PySem.W.mg_of X G a_goings)
  have C_goings_seatings := cal_goings_seatings (P := l.prog) (w := w) (base := base) T  F_goings (PySem.W.mg_of X G a_goings_seatings)
  have C_table := cal_table (P := l.prog) (w := w) (base := base) T C_goings_seatings F_table (PySem.W.mg_of X G a_table)
  have C_best := cal_best (P := l.prog) (w := w) (base := base) T C_table F_best (PySem.W.mg_of X G a_best)
  have C_lots_of := cal_lots_of (P := l.prog) (w := w) (base := base) T  F_lots_of (PySem.W.mg_of X G a_lots_of)
  have C_fewest := cal_fewest (P := l.prog) (w := w) (base := base) T C_best C_lots_of C_shaded F_fewest (PySem.W.mg_of X G a_fewest)
  have C_shows := cal_shows (P := l.prog) (w := w) (base := base) T  F_shows (PySem.W.mg_of X G a_shows)
  have C_counted := cal_counted (P := l.prog) (w := w) (base := base) T C_stretches F_counted (PySem.W.mg_of X G a_counted)
  have C_lot_shows := cal_lot_shows (P := l.prog) (w := w) (base := base) T C_counted C_is_from C_shows F_lot_shows (PySem.W.mg_of X G a_lot_shows)
  have C_Day_can_do := cal_Day_can_do (P := l.prog) (w := w) (base := base) T D C_best C_lots_of C_shaded F_Day_can_do ⟨a_Day_can_do, i_Day_can_do, k_Day_can_do⟩
  have C_Day_next_hour := cal_Day_next_hour (P := l.prog) (w := w) (base := base) T D C_are_seats C_goings_seatings F_Day_next_hour ⟨a_Day_next_hour, i_Day_next_hour, k_Day_next_hour⟩
  have C_number_of := cal_number_of (P := l.prog) (w := w) (base := base) T C_best C_lots_of F_number_of (PySem.W.mg_of X G a_number_of)
  have C_dear_hours := cal_dear_hours (P := l.prog) (w := w) (base := base) T C_number_of C_shaded F_dear_hours (PySem.W.mg_of X G a_dear_hours)
  have C_needed_seats := cal_needed_seats (P := l.prog) (w := w) (base := base) T C_number_of C_shaded F_needed_seats (PySem.W.mg_of X G a_needed_seats)
  have C_law_turns_right := cal_law_turns_right (P := l.prog) (w := w) (base := base) T D C_Day_can_do C_Day_init C_Day_next_hour C_dear_hours C_fewest C_lot_shows C_needed_seats C_stretches F_law_turns_right (PySem.W.mg_of X G a_law_turns_right)
  have C_is_seating := cal_is_seating (P := l.prog) (w := w) (base := base) T C_are_seats F_is_seating (PySem.W.mg_of X G a_is_seating)
  have C_law_full_right := cal_law_full_right (P := l.prog) (w := w) (base := base) T C_fewest C_is_seating C_is_yard C_most_sitters C_needed_seats C_stretches F_law_full_right (PySem.W.mg_of X G a_law_full_right)
  have C_law_short_right := cal_law_short_right (P := l.prog) (w := w) (base := base) T C_fewest C_lot_shows C_stretches F_law_short_right (PySem.W.mg_of X G a_law_short_right)
  have C_law_over_right := cal_law_over_right (P := l.prog) (w := w) (base := base) T C_dear_hours C_fewest C_lot_shows C_most_sitters C_needed_seats C_shaded C_stretches F_law_over_right (PySem.W.mg_of X G a_law_over_right)
  have C_law_take := cal_law_take (P := l.prog) (w := w) (base := base) T  F_law_take (PySem.W.mg_of X G a_law_take)
  exact (ok_law T D C_law_bag C_law_full_right C_law_over_right C_law_short_right C_law_take C_law_turns_right F_law).imp fun vs H Q E h => h C
theorem walk {l : PySem.W.OpenLaw} {q : Program} {loose : List Str} {XP : (Str → Option Value) → Heap → Prop} {YP : World → Heap → Prop} {d : DefRec} {K : Params → PySem.W.Frag} (hn : l.most = some 63) (hdf : d.params.defaults = [])
    (hY : ∀ (w : World) (h : Heap), YP w h → (K w.params).In h)
    (F : ∀ (w : World) (mg : Str → Option Value) (fa : Addr) (h : Heap), (K w.params).In h → h.Ns mainGlobals mg → mg d.name = some (.ref fa) →
      ∃ fd : FuncData, (∀ (s : Shared) (u : Value), BindsTo s fd ⟨[u], []⟩ [("script", u)]) ∧ ∀ base : Heap, (K w.params).In base → base.Ns mainGlobals mg → FnOk l.prog w (K w.params) mg base CX0 7 fa fd ["script"] (spL (K w.params))) :
    PySem.W.WalkO q loose XP YP l.row.toRowW d [] (fun f vs => PySem.call f vs) :=
  L2.walk_of (n := 63) (k := 7) (x := "script") (CX := fun _ => CX0) (sp := fun w => spL (K w.params)) hn (by decide) hdf ⟨rfl, by decide, by decide⟩ hY F (fun w H a ns hl _ hS => by
    intro C
    obtain ⟨μ', e⟩ := law_true C ns hl
    exact law_sp e hS) fun _ _ _ _ _ z => z
end Sh
open PySem PySem.W PyProof.Rows in
set_option maxRecDepth 100000 in
set_option maxHeartbeats 0 in
theorem PySem.Challenge.cw_shadehours_k08_whole_written_yards_at_ev_holds : PySem.Challenge.rw_shadehours_k08_whole_written_yards_at_ev.Holds := by
  w_on; o_law; k_head; (case hw => w_witness2)
  k_fill
  refine Sh.walk (l := PySem.Challenge.rw_shadehours_k08_whole_written_yards_at_ev) rfl rfl (fun w h Y => PySem.W.kIn_of Y) ?F
  case F =>
    intro w mg fa h KX G hmg
    refine' Sh.all_mk KX G hmg ?a_law_bag ?l_law_bag ?c_law_bag ?k_law_bag ?a_is_from ?l_is_from ?c_is_from ?k_is_from ?a_are_walls ?l_are_walls ?c_are_walls ?k_are_walls ?a_is_lowest ?l_is_lowest ?c_is_lowest ?k_is_lowest ?a_is_slant ?l_is_slant ?c_is_slant ?k_is_slant ?a_is_yard ?l_is_yard ?c_is_yard ?k_is_yard ?a_is_shaded ?l_is_shaded ?c_is_shaded ?k_is_shaded ?a_shaded ?l_shaded ?c_shaded ?k_shaded ?a_most_sitters ?l_most_sitters ?c_most_sitters ?k_most_sitters ?a_are_seats ?l_are_seats ?c_are_seats ?k_are_seats ?a_Day_init ?i_Day_init ?l_Day_init ?c_Day_init ?k_Day_init ?a_runs ?l_runs ?c_runs ?k_runs ?a_stretches ?l_stretches ?c_stretches ?k_stretches ?a_goings ?l_goings ?c_goings ?k_goings ?a_goings_seatings ?a_table ?l_table ?c_table ?k_table ?a_best ?l_best ?c_best ?k_best ?a_lots_of ?l_lots_of ?c_lots_of ?k_lots_of ?a_fewest ?l_fewest ?c_fewest ?k_fewest ?d_fewest ?a_shows ?l_shows ?c_shows ?k_shows ?a_counted ?l_counted ?c_counted ?k_counted ?a_lot_shows ?l_lot_shows ?c_lot_shows ?k_lot_shows ?d_lot_shows ?a_Day_can_do ?i_Day_can_do ?l_Day_can_do ?c_Day_can_do ?k_Day_can_do ?a_Day_next_hour ?i_Day_next_hour ?l_Day_next_hour ?c_Day_next_hour ?k_Day_next_hour ?a_number_of ?l_number_of ?c_number_of ?k_number_of ?a_dear_hours ?l_dear_hours ?c_dear_hours ?k_dear_hours ?a_needed_seats ?l_needed_seats ?c_needed_seats ?k_needed_seats ?a_law_turns_right ?l_law_turns_right ?c_law_turns_right ?k_law_turns_right ?a_is_seating ?l_is_seating ?c_is_seating ?k_is_seating ?a_law_full_right ?l_law_full_right ?c_law_full_right ?k_law_full_right ?a_law_short_right ?l_law_short_right ?c_law_short_right ?k_law_short_right ?a_law_over_right ?l_law_over_right ?c_law_over_right ?k_law_over_right ?a_law_take ?l_law_take ?c_law_take ?k_law_take ?a_law ?l_law ?c_law ?k_law ?a_C ?pg ?hd ?po ?sa ?mk ?kc ?nY ?nR ?z_all ?z_bool ?z_enumerate ?z_int ?z_isinstance ?z_len ?z_list ?z_max ?z_min ?z_range ?z_reversed ?z_str ?z_tuple ?z_zip ?q_HIGH ?q_HOURS ?q_SEATS ?q_SLANT ?q_WALLS
    (case a_C => k_is)
    (case pg => k_is)
    (case hd => k_is)
    (case po => k_is)
    (case sa => k_is)
    (case mk => k_is)
    (case kc => k_is)
    (case nY => k_is)
    (case nR => k_is)
    (case a_law_bag => k_is)
    (case l_law_bag => k_is)
    (case c_law_bag => k_is)
    (case k_law_bag => k_is)
    (case a_is_from => k_is)
    (case l_is_from => k_is)
    (case c_is_from => k_is)
    (case k_is_from => k_is)
    (case a_are_walls => k_is)
    (case l_are_walls => k_is)
    (case c_are_walls => k_is)
    (case k_are_walls => k_is)
    (case a_is_lowest => k_is)
    (case l_is_lowest => k_is)
    (case c_is_lowest => k_is)
    (case k_is_lowest => k_is)
    (case a_is_slant => k_is)
    (case l_is_slant => k_is)
    (case c_is_slant => k_is)
    (case k_is_slant => k_is)
    (case a_is_yard => k_is)
    (case l_is_yard => k_is)
    (case c_is_yard => k_is)
    (case k_is_yard => k_is)
    (case a_is_shaded => k_is)
    (case l_is_shaded => k_is)
    (case c_is_shaded => k_is)
    (case k_is_shaded => k_is)
    (case a_shaded => k_is)
    (case l_shaded => k_is)
    (case c_shaded => k_is)
    (case k_shaded => k_is)
    (case a_most_sitters => k_is)
    (case l_most_sitters => k_is)
    (case c_most_sitters => k_is)
    (case k_most_sitters => k_is)
    (case a_are_seats => k_is)
    (case l_are_seats => k_is)
    (case c_are_seats => k_is)
    (case k_are_seats => k_is)
    (case a_Day_init => k_is)
    (case i_Day_init => k_is)
    (case l_Day_init => k_is)
    (case c_Day_init => k_is)
    (case k_Day_init => k_is)
    (case a_runs => k_is)
    (case l_runs => k_is)
    (case c_runs => k_is)
    (case k_runs => k_is)
    (case a_stretches => k_is)
    (case l_stretches => k_is)
    (case c_stretches => k_is)
    (case k_stretches => k_is)
    (case a_goings => k_is)
    (case l_goings => k_is)
    (case c_goings => k_is)
    (case k_goings => k_is)
    (case a_goings_seatings => k_is)
    (case a_table => k_is)
    (case l_table => k_is)
    (case c_table => k_is)
    (case k_table => k_is)
    (case a_best => k_is)
    (case l_best => k_is)
    (case c_best => k_is)
    (case k_best => k_is)
    (case a_lots_of => k_is)
    (case l_lots_of => k_is)
    (case c_lots_of => k_is)
    (case k_lots_of => k_is)
    (case a_fewest => k_is)
    (case l_fewest => k_is)
    (case c_fewest => k_is)
    (case k_fewest => k_is)
    (case d_fewest => k_is)
    (case a_shows => k_is)
    (case l_shows => k_is)
    (case c_shows => k_is)
    (case k_shows => k_is)
    (case a_counted => k_is)
    (case l_counted => k_is)
    (case c_counted => k_is)
    (case k_counted => k_is)
    (case a_lot_shows => k_is)
    (case l_lot_shows => k_is)
    (case c_lot_shows => k_is)
    (case k_lot_shows => k_is)
    (case d_lot_shows => k_is)
    (case a_Day_can_do => k_is)
    (case i_Day_can_do => k_is)
    (case l_Day_can_do => k_is)
    (case c_Day_can_do => k_is)
    (case k_Day_can_do => k_is)
    (case a_Day_next_hour => k_is)
    (case i_Day_next_hour => k_is)
    (case l_Day_next_hour => k_is)
    (case c_Day_next_hour => k_is)
    (case k_Day_next_hour => k_is)
    (case a_number_of => k_is)
    (case l_number_of => k_is)
    (case c_number_of => k_is)
    (case k_number_of => k_is)
    (case a_dear_hours => k_is)
    (case l_dear_hours => k_is)
    (case c_dear_hours => k_is)
    (case k_dear_hours => k_is)
    (case a_needed_seats => k_is)
    (case l_needed_seats => k_is)
    (case c_needed_seats => k_is)
    (case k_needed_seats => k_is)
    (case a_law_turns_right => k_is)
    (case l_law_turns_right => k_is)
    (case c_law_turns_right => k_is)
    (case k_law_turns_right => k_is)
    (case a_is_seating => k_is)
    (case l_is_seating => k_is)
    (case c_is_seating => k_is)
    (case k_is_seating => k_is)
    (case a_law_full_right => k_is)
    (case l_law_full_right => k_is)
    (case c_law_full_right => k_is)
    (case k_law_full_right => k_is)
    (case a_law_short_right => k_is)
    (case l_law_short_right => k_is)
    (case c_law_short_right => k_is)
    (case k_law_short_right => k_is)
    (case a_law_over_right => k_is)
    (case l_law_over_right => k_is)
    (case c_law_over_right => k_is)
    (case k_law_over_right => k_is)
    (case a_law_take => k_is)
    (case l_law_take => k_is)
    (case c_law_take => k_is)
    (case k_law_take => k_is)
    (case a_law => k_is)
    (case l_law => k_is)
    (case c_law => k_is)
    (case k_law => k_is)
    (case z_all => k_is)
    (case z_bool => k_is)
    (case z_enumerate => k_is)
    (case z_int => k_is)
    (case z_isinstance => k_is)
    (case z_len => k_is)
    (case z_list => k_is)
    (case z_max => k_is)
    (case z_min => k_is)
    (case z_range => k_is)
    (case z_reversed => k_is)
    (case z_str => k_is)
    (case z_tuple => k_is)
    (case z_zip => k_is)
    (case q_HIGH => k_is)
    (case q_HOURS => k_is)
    (case q_SEATS => k_is)
    (case q_SLANT => k_is)
    (case q_WALLS => k_is)
#print axioms PySem.Challenge.cw_shadehours_k08_whole_written_yards_at_ev_holds
