import PyProof.Rows.All
import HandS.ForMost
import HandS.ForExc
import HandS.TryMany
import HandS.ExcInit
import HandS.Defaults
import HandS.HeadWalk
import HandS.HeadHook4
import HandS.Head2
import HandS.HeadEnd
import HandS.Flow
import HandS.Style
import HandS.Conv
import HandS.Codes
import HandS.FStr
import HandS.OwnEq
import HandS.Deep
import HandS.IsInst
import HandS.SortRule
import HandS.DictComp
import HandS.Wide
import HandS.TupAny
import HandS.NoneIn
import KE.SortData
import HandS.Zip
import HandS.Strs
import HandS.RaiseMore
import PyProof.ReprRoads
import PyProof.InstNe
import HandS.EndBits
import KE.KTupTruth
import HandS.Small
import PyProof.Rows.TupMore
import HandS.SetFor
import HandS.SortInts
import HandS.Dict
import HandS.MakeKwOnly
import HandS.TryOnly
import PySem.Challenge.RW_callplans_k33_sets_of_outcomes
set_option Elab.async false
set_option linter.all false
set_option maxRecDepth 100000
namespace DL
open PySem PySem.Spec PyProof.Rows L2

/-! ### data -/
inductive D where
  | non | bl (b : Bool) | int (i : Int) | str (x : Str)
  | tup (ds : List D) | lst (ds : List D) | dct (kvs : List (D × D)) | obj (c : Str) (fs : List (Str × D))
  | ref (a : Addr) | ty (n : String) | fro (ds : List D) | cls (c : Str)

structure SE where
  K : PySem.W.Frag
  mg : Str → Option Value

/-- a plain class of the text, by what the written part holds of it -/
def clsOkB (K : PySem.W.Frag) (C : Addr) : Bool :=
  PySem.W.makesIn K C && PySem.W.keepIn K (.ref C) && PySem.W.plainGet K C Str.empty && PySem.W.hasDictIn K C && PySem.W.plainOver K C &&
  PySem.W.findIn K (.ref C) "__setattr__" == some (some (.builtin "object.__setattr__")) &&
  PySem.W.findIn K (.ref C) "__class__" == some (some (.builtin "object.__class__")) &&
  PySem.W.specialIn K (.builtin "object.__class__") "__get__" == some (some (.builtin "getset_descriptor.__get__")) &&
  PySem.W.takesIn K (.builtin "object.__class__") == some true &&
  (match PySem.W.clsIn K C with
    | some cd => cd.mro == [.ref C, .type "object"]
    | none => false) &&
  PySem.W.typeIn K (.ref C) == some (.type "type")
/-- the class's own name -/
def clsNmB (K : PySem.W.Frag) (C : Addr) (c : Str) : Bool := match PySem.W.clsIn K C with
  | some cd => cd.name == c
  | none => false
structure ClsAt (S : SE) (c : Str) (C : Addr) : Prop where
  mg : S.mg c = some (.ref C)
  ok : clsOkB S.K C = true
  nm : clsNmB S.K C c = true

def keyD : Key → D
  | .inl i => .int i
  | .inr x => .str x

mutual
inductive Rep (S : SE) (F : Hp) : V → D → Prop
  | non : Rep S F .non .non
  | bl (b : Bool) : Rep S F (.bl b) (.bl b)
  | int (i : Int) : Rep S F (.int i) (.int i)
  | str (x : Str) : Rep S F (.str x) (.str x)
  | ty (n : String) : Rep S F (.ty n) (.ty n)
  | ref (a : Addr) : Rep S F (.ref a) (.ref a)
  | tup {a : Addr} {vs : List V} {ds : List D} (h : SqT S.K F a vs) (r : Reps S F vs ds) : Rep S F (.ref a) (.tup ds)
  | lst {a : Addr} {vs : List V} {ds : List D} (h : F a = some (.lst vs)) (r : Reps S F vs ds) : Rep S F (.ref a) (.lst ds)
  | fro {a : Addr} {vs : List V} {ds : List D} (h : SqL S.K F a vs) (r : Reps S F vs ds) : Rep S F (.ref a) (.fro ds)
  | dctK {a : Addr} {kvs : List (Key × V)} {gs : List (D × D)} (h : Rd F a (.dK kvs)) (r : RepK S F kvs gs) : Rep S F (.ref a) (.dct gs)
  | obj {a C dx : Addr} {c : Str} {vs : List (Str × V)} {gs : List (Str × D)} (h : F a = some (.ins C dx vs)) (hc : ClsAt S c C) (r : RepF S F vs gs) : Rep S F (.ref a) (.obj c gs)
  | cls {c : Str} {C : Addr} (h : ClsAt S c C) : Rep S F (.ref C) (.cls c)
inductive Reps (S : SE) (F : Hp) : List V → List D → Prop
  | nil : Reps S F [] []
  | cons {v : V} {d : D} {vs : List V} {ds : List D} (h : Rep S F v d) (t : Reps S F vs ds) : Reps S F (v :: vs) (d :: ds)
inductive RepK (S : SE) (F : Hp) : List (Key × V) → List (D × D) → Prop
  | nil : RepK S F [] []
  | cons {k : Key} {v : V} {d : D} {vs : List (Key × V)} {ds : List (D × D)} (h : Rep S F v d) (t : RepK S F vs ds) : RepK S F ((k, v) :: vs) ((keyD k, d) :: ds)
inductive RepT (S : SE) (F : Hp) : List (List Key × V) → List (D × D) → Prop
  | nil : RepT S F [] []
  | cons {k : List Key} {v : V} {d : D} {vs : List (List Key × V)} {ds : List (D × D)} (h : Rep S F v d) (t : RepT S F vs ds) : RepT S F ((k, v) :: vs) ((.tup (k.map keyD), d) :: ds)
inductive RepF (S : SE) (F : Hp) : List (Str × V) → List (Str × D) → Prop
  | nil : RepF S F [] []
  | cons {k : Str} {v : V} {d : D} {vs : List (Str × V)} {ds : List (Str × D)} (h : Rep S F v d) (t : RepF S F vs ds) : RepF S F ((k, v) :: vs) ((k, d) :: ds)
end

/-- the frozen heap grows -/
structure Le (F F' : Hp) : Prop where
  rd : ∀ a u, Rd F a u → Rd F' a u
  ins : ∀ a C dx fs, F a = some (.ins C dx fs) → F' a = some (.ins C dx fs)
  lst : ∀ a xs, F a = some (.lst xs) → F' a = some (.lst xs)
  dT : ∀ a xs, F a = some (.dT xs) → F' a = some (.dT xs)
theorem Le.refl (F : Hp) : Le F F := ⟨fun _ _ h => h, fun _ _ _ _ h => h, fun _ _ h => h, fun _ _ h => h⟩
theorem Le.trans {F G H : Hp} (a : Le F G) (b : Le G H) : Le F H := ⟨fun x u h => b.rd x u (a.rd x u h), fun x C dx fs h => b.ins x C dx fs (a.ins x C dx fs h), fun x xs h => b.lst x xs (a.lst x xs h), fun x xs h => b.dT x xs (a.dT x xs h)⟩
theorem Le.new {F : Hp} {p : Addr} {o : HO} (h : F p = none) : Le F (upd F p o) := by
  have k : ∀ a u, F a = some u → upd F p o a = some u := fun a u e => by rw [upd_ne (ne_of_none e h)]; exact e
  refine ⟨fun a u q => ?_, fun a C dx fs e => k a _ e, fun a xs e => k a _ e, fun a xs e => k a _ e⟩
  rcases q with e | ⟨ob, e⟩
  · exact .inl (k a _ e)
  · exact .inr ⟨ob, k a _ e⟩
theorem Le.sqL {K : PySem.W.Frag} {F F' : Hp} {a : Addr} {xs : List V} (l : Le F F') (h : SqL K F a xs) : SqL K F' a xs := by
  rcases h with h | h
  · exact .inl (l.rd _ _ h)
  · exact .inr h
theorem Le.sqT {K : PySem.W.Frag} {F F' : Hp} {a : Addr} {xs : List V} (l : Le F F') (h : SqT K F a xs) : SqT K F' a xs := by
  rcases h with h | h
  · exact .inl (l.rd _ _ h)
  · exact .inr h

mutual
theorem Rep.mono {S : SE} {F F' : Hp} (l : Le F F') : ∀ {v : V} {d : D}, Rep S F v d → Rep S F' v d
  | _, _, .non => .non
  | _, _, .bl b => .bl b
  | _, _, .int i => .int i
  | _, _, .str x => .str x
  | _, _, .ty n => .ty n
  | _, _, .ref a => .ref a
  | _, _, .tup h r => .tup (l.sqT h) (Reps.mono l r)
  | _, _, .lst h r => .lst (l.lst _ _ h) (Reps.mono l r)
  | _, _, .fro h r => .fro (l.sqL h) (Reps.mono l r)
  | _, _, .dctK h r => .dctK (l.rd _ _ h) (RepK.mono l r)
  | _, _, .obj h hc r => .obj (l.ins _ _ _ _ h) hc (RepF.mono l r)
  | _, _, .cls h => .cls h
theorem Reps.mono {S : SE} {F F' : Hp} (l : Le F F') : ∀ {v : List V} {d : List D}, Reps S F v d → Reps S F' v d
  | _, _, .nil => .nil
  | _, _, .cons h t => .cons (Rep.mono l h) (Reps.mono l t)
theorem RepK.mono {S : SE} {F F' : Hp} (l : Le F F') : ∀ {v : List (Key × V)} {d : List (D × D)}, RepK S F v d → RepK S F' v d
  | _, _, .nil => .nil
  | _, _, .cons h t => .cons (Rep.mono l h) (RepK.mono l t)
theorem RepT.mono {S : SE} {F F' : Hp} (l : Le F F') : ∀ {v : List (List Key × V)} {d : List (D × D)}, RepT S F v d → RepT S F' v d
  | _, _, .nil => .nil
  | _, _, .cons h t => .cons (Rep.mono l h) (RepT.mono l t)
theorem RepF.mono {S : SE} {F F' : Hp} (l : Le F F') : ∀ {v : List (Str × V)} {d : List (Str × D)}, RepF S F v d → RepF S F' v d
  | _, _, .nil => .nil
  | _, _, .cons h t => .cons (Rep.mono l h) (RepF.mono l t)
end
section
variable {S : SE} {F F' : Hp}
theorem Reps.len : ∀ {vs : List V} {ds : List D}, Reps S F vs ds → vs.length = ds.length
  | _, _, .nil => rfl
  | _, _, .cons _ t => congrArg Nat.succ (Reps.len t)
theorem Reps.get : ∀ {vs : List V} {ds : List D} {i : Nat} {d : D}, Reps S F vs ds → ds[i]? = some d → ∃ v, vs[i]? = some v ∧ Rep S F v d
  | _, _, _, _, .nil, e => by simp at e
  | _, _, 0, _, .cons r _, e => by simp at e; subst e; exact ⟨_, rfl, r⟩
  | _, _, i + 1, d, .cons _ t, e => by
    obtain ⟨v, h1, h2⟩ := Reps.get (i := i) (d := d) t (by simpa using e)
    exact ⟨v, by simpa using h1, h2⟩
theorem Reps.getV : ∀ {vs : List V} {ds : List D} {i : Nat} {v : V}, Reps S F vs ds → vs[i]? = some v → ∃ d, ds[i]? = some d ∧ Rep S F v d
  | _, _, _, _, .nil, e => by simp at e
  | _, _, 0, _, .cons r _, e => by simp at e; subst e; exact ⟨_, rfl, r⟩
  | _, _, i + 1, d, .cons _ t, e => by
    obtain ⟨v, h1, h2⟩ := Reps.getV (i := i) (v := d) t (by simpa using e)
    exact ⟨v, by simpa using h1, h2⟩
theorem Reps.append : ∀ {vs ws : List V} {ds es : List D}, Reps S F vs ds → Reps S F ws es → Reps S F (vs ++ ws) (ds ++ es)
  | _, _, _, _, .nil, s => s
  | _, _, _, _, .cons r t, s => .cons r (Reps.append t s)
theorem Reps.take : ∀ {vs : List V} {ds : List D} (n : Nat), Reps S F vs ds → Reps S F (vs.take n) (ds.take n)
  | _, _, 0, _ => .nil
  | _, _, _ + 1, .nil => .nil
  | _, _, n + 1, .cons r t => .cons r (Reps.take n t)
theorem Reps.drop : ∀ {vs : List V} {ds : List D} (n : Nat), Reps S F vs ds → Reps S F (vs.drop n) (ds.drop n)
  | _, _, 0, r => r
  | _, _, _ + 1, .nil => .nil
  | _, _, n + 1, .cons _ t => Reps.drop n t
theorem Reps.set : ∀ {vs : List V} {ds : List D} (n : Nat) {v : V} {d : D}, Rep S F v d → Reps S F vs ds → Reps S F (vs.set n v) (ds.set n d)
  | _, _, _, _, _, _, .nil => .nil
  | _, _, 0, _, _, r, .cons _ t => .cons r t
  | _, _, n + 1, _, _, r, .cons q t => .cons q (Reps.set n r t)
theorem Reps.reverse : ∀ {vs : List V} {ds : List D}, Reps S F vs ds → Reps S F vs.reverse ds.reverse
  | _, _, .nil => .nil
  | _, _, .cons r t => by rw [List.reverse_cons, List.reverse_cons]; exact (Reps.reverse t).append (.cons r .nil)
end

/-! ### mutable objects -/
inductive MO where
  | lst (ds : List D) | dct (kvs : List (D × D)) | ins (c : Str) (fs : List (Str × D))
abbrev Store := Addr → Option MO
def updM (M : Store) (p : Addr) (m : MO) : Store := fun b => if b = p then some m else M b
def delM (M : Store) (p : Addr) : Store := fun b => if b = p then none else M b
theorem updM_same {M : Store} {p : Addr} {m : MO} : updM M p m p = some m := if_pos rfl
theorem updM_ne {M : Store} {p b : Addr} {m : MO} (h : b ≠ p) : updM M p m b = M b := if_neg h
theorem updM_updM {M : Store} {p : Addr} {m n : MO} : updM (updM M p m) p n = updM M p n := by funext b; unfold updM; split <;> rfl
theorem delM_updM {M : Store} {p : Addr} {m : MO} (h : M p = none) : delM (updM M p m) p = M := by
  funext b; unfold delM updM
  by_cases e : b = p
  · rw [if_pos e, e, h]
  · rw [if_neg e, if_neg e]
theorem updM_self {M : Store} {p : Addr} {m : MO} (h : M p = some m) : updM M p m = M := by
  funext b; unfold updM; split
  · rename_i e; rw [e, h]
  · rfl
theorem updM_comm {M : Store} {p q : Addr} {m n : MO} (h : p ≠ q) : updM (updM M p m) q n = updM (updM M q n) p m := by
  funext b; unfold updM
  by_cases e1 : b = q
  · rw [if_pos e1, if_neg (fun e => h (e.symm.trans e1)), if_pos e1]
  · rw [if_neg e1, if_neg e1]
theorem delM_ne {M : Store} {p b : Addr} (h : b ≠ p) : delM M p b = M b := if_neg h
theorem delM_none {M : Store} {p : Addr} (h : M p = none) : delM M p = M := by
  funext b; unfold delM; split
  · rename_i e; rw [e, h]
  · rfl
theorem delM_updM_ne {M : Store} {p q : Addr} {m : MO} (h : p ≠ q) : delM (updM M p m) q = updM (delM M q) p m := by
  funext b
  show (if b = q then none else if b = p then some m else M b) = (if b = p then some m else if b = q then none else M b)
  by_cases e : b = q
  · rw [if_pos e, if_neg (fun z => h (z.symm.trans e)), if_pos e]
  · rw [if_neg e, if_neg e]
/-- M' holds no more than M -/
def SubM (M' M : Store) : Prop := ∀ a m, M' a = some m → M a = some m
theorem SubM.refl (M : Store) : SubM M M := fun _ _ h => h
theorem SubM.trans {A B C : Store} (a : SubM A B) (b : SubM B C) : SubM A C := fun x m h => b x m (a x m h)
theorem SubM.new {M : Store} {p : Addr} {m : MO} (h : M p = none) : SubM M (updM M p m) := fun a n e => by
  rw [updM_ne (fun z => by rw [z, h] at e; cases e)]; exact e
theorem SubM.dl {M : Store} {p : Addr} : SubM (delM M p) M := fun a n e => by
  unfold delM at e
  split at e
  · cases e
  · exact e

inductive RepM (S : SE) (F : Hp) : MO → HO → Prop
  | lst {vs : List V} {ds : List D} (r : Reps S F vs ds) : RepM S F (.lst ds) (.lst vs)
  | dctK {vs : List (Key × V)} {ds : List (D × D)} (r : RepK S F vs ds) : RepM S F (.dct ds) (.dK vs)
  | ins {C dx : Addr} {c : Str} {vs : List (Str × V)} {gs : List (Str × D)} (hc : ClsAt S c C) (r : RepF S F vs gs) : RepM S F (.ins c gs) (.ins C dx vs)
theorem RepM.mono {S : SE} {F F' : Hp} (l : Le F F') {m : MO} {o : HO} (h : RepM S F m o) : RepM S F' m o := by
  cases h with
  | lst r => exact .lst (r.mono l)
  | dctK r => exact .dctK (r.mono l)
  | ins hc r => exact .ins hc (r.mono l)

structure Good (S : SE) (F : Hp) (M : Store) (H : Hp) : Prop where
  sub : ∀ a o, F a = some o → H a = some o
  cel : ∀ a m, M a = some m → F a = none ∧ ∃ o, H a = some o ∧ RepM S F m o

section
variable {S : SE} {F F' H H' : Hp} {M : Store} {p : Addr} {o : HO} {m : MO}
theorem Good.freshF (g : Good S F M H) (h : H p = none) : F p = none := by
  cases e : F p with
  | none => rfl
  | some u => rw [g.sub _ _ e] at h; cases h
theorem Good.freshM (g : Good S F M H) (h : H p = none) : M p = none := by
  cases e : M p with
  | none => rfl
  | some u =>
    obtain ⟨_, o, q, _⟩ := g.cel _ _ e
    rw [q] at h; cases h
theorem Good.new (g : Good S F M H) (h : H p = none) : Good S (upd F p o) M (upd H p o) := by
  have f := g.freshF h
  refine ⟨fun a u e => ?_, fun a m e => ?_⟩
  · by_cases ha : a = p
    · subst ha; rw [upd_same] at e ⊢; exact e
    · rw [upd_ne ha] at e ⊢; exact g.sub _ _ e
  · obtain ⟨f1, u, h1, r⟩ := g.cel a m e
    have ha : a ≠ p := ne_of_none h1 h
    exact ⟨by rw [upd_ne ha]; exact f1, u, by rw [upd_ne ha]; exact h1, r.mono (Le.new f)⟩
theorem Good.newM (g : Good S F M H) (h : H p = none) (r : RepM S F m o) : Good S F (updM M p m) (upd H p o) := by
  have f := g.freshF h
  refine ⟨fun a u e => ?_, fun a n e => ?_⟩
  · rw [upd_ne (ne_of_none e f)]; exact g.sub _ _ e
  · by_cases ha : a = p
    · subst ha
      rw [updM_same] at e; cases e
      exact ⟨f, o, upd_same, r⟩
    · rw [updM_ne ha] at e
      obtain ⟨f1, u, h1, r1⟩ := g.cel a n e
      exact ⟨f1, u, by rw [upd_ne ha]; exact h1, r1⟩
theorem Good.set {m0 : MO} (g : Good S F M H) (h : M p = some m0) (r : RepM S F m o) : Good S F (updM M p m) (upd H p o) := by
  have f := (g.cel _ _ h).1
  refine ⟨fun a u e => ?_, fun a n e => ?_⟩
  · rw [upd_ne (ne_of_none e f)]; exact g.sub _ _ e
  · by_cases ha : a = p
    · subst ha
      rw [updM_same] at e; cases e
      exact ⟨f, o, upd_same, r⟩
    · rw [updM_ne ha] at e
      obtain ⟨f1, u, h1, r1⟩ := g.cel a n e
      exact ⟨f1, u, by rw [upd_ne ha]; exact h1, r1⟩
theorem Good.freeze (g : Good S F M H) (h : M p = some m) (ho : H p = some o) : Good S (upd F p o) (delM M p) H := by
  have f := (g.cel _ _ h).1
  refine ⟨fun a u e => ?_, fun a n e => ?_⟩
  · by_cases ha : a = p
    · subst ha; rw [upd_same] at e; rw [← e]; exact ho
    · rw [upd_ne ha] at e; exact g.sub _ _ e
  · by_cases ha : a = p
    · subst ha; unfold delM at e; rw [if_pos rfl] at e; cases e
    · rw [delM_ne ha] at e
      obtain ⟨f1, u, h1, r1⟩ := g.cel a n e
      exact ⟨by rw [upd_ne ha]; exact f1, u, h1, r1.mono (Le.new f)⟩
theorem Good.drop {M' : Store} (g : Good S F M H) (h : SubM M' M) : Good S F M' H := ⟨g.sub, fun a m e => g.cel a m (h a m e)⟩
theorem Good.rd (g : Good S F M H) {a : Addr} {u : HO} (h : Rd F a u) : Rd H a u := by
  rcases h with e | ⟨ob, e⟩
  · exact .inl (g.sub _ _ e)
  · exact .inr ⟨ob, g.sub _ _ e⟩
theorem Good.sqL (g : Good S F M H) {a : Addr} {xs : List V} (h : SqL S.K F a xs) : SqL S.K H a xs := by
  rcases h with h | h
  · exact .inl (g.rd h)
  · exact .inr h
theorem Good.sqT (g : Good S F M H) {a : Addr} {xs : List V} (h : SqT S.K F a xs) : SqT S.K H a xs := by
  rcases h with h | h
  · exact .inl (g.rd h)
  · exact .inr h
end

/-! ### slots -/
abbrev Ro := List (Option D)
inductive RelS (S : SE) (F : Hp) : Option V → Option D → Prop
  | none {v : Option V} : RelS S F v none
  | some {v : V} {d : D} (h : Rep S F v d) : RelS S F (some v) (some d)
inductive Slots (S : SE) (F : Hp) : L2.St → Ro → Prop
  | nil : Slots S F [] []
  | cons {v : Option V} {d : Option D} {vs : L2.St} {ds : Ro} (h : RelS S F v d) (t : Slots S F vs ds) : Slots S F (v :: vs) (d :: ds)
section
variable {S : SE} {F F' : Hp}
theorem Slots.mono (l : Le F F') : ∀ {σ : L2.St} {ρ : Ro}, Slots S F σ ρ → Slots S F' σ ρ
  | _, _, .nil => .nil
  | _, _, .cons .none t => .cons .none (Slots.mono l t)
  | _, _, .cons (.some h) t => .cons (.some (h.mono l)) (Slots.mono l t)
theorem Slots.get : ∀ {σ : L2.St} {ρ : Ro} {i : Nat} {d : D}, Slots S F σ ρ → ρ[i]? = some (some d) → ∃ v, σ[i]? = some (some v) ∧ Rep S F v d
  | _, _, _, _, .nil, e => by simp at e
  | _, _, 0, _, .cons r _, e => by
    simp at e; subst e
    cases r with
    | some h => exact ⟨_, rfl, h⟩
  | _, _, i + 1, d, .cons _ t, e => by
    obtain ⟨v, h1, h2⟩ := Slots.get (i := i) (d := d) t (by simpa using e)
    exact ⟨v, by simpa using h1, h2⟩
theorem Slots.set : ∀ {σ : L2.St} {ρ : Ro} (i : Nat) {v : V} {d : D}, Rep S F v d → Slots S F σ ρ → Slots S F (σ.set i (some v)) (ρ.set i (some d))
  | _, _, _, _, _, _, .nil => .nil
  | _, _, 0, _, _, r, .cons _ t => .cons (.some r) t
  | _, _, i + 1, _, _, r, .cons q t => .cons q (Slots.set i r t)
theorem Slots.setN : ∀ {σ : L2.St} {ρ : Ro} (i : Nat) {v : Option V}, Slots S F σ ρ → Slots S F (σ.set i v) (ρ.set i none)
  | _, _, _, _, .nil => .nil
  | _, _, 0, _, .cons _ t => .cons .none t
  | _, _, i + 1, _, .cons q t => .cons q (Slots.setN i t)
def wipeR (ρ : Ro) : List Nat → Ro
  | [] => ρ
  | v :: vs => (wipeR ρ vs).set v none
theorem Slots.wipe {σ : L2.St} {ρ : Ro} (h : Slots S F σ ρ) : ∀ vs : List Nat, Slots S F (L2.wipe σ vs) (wipeR ρ vs)
  | [] => h
  | v :: vs => (Slots.wipe h vs).setN v
def startR (N : List Str) (ds : List D) : Ro := ds.map some ++ List.replicate (N.length - ds.length) none
theorem Slots.start {N : List Str} {vs : List V} {ds : List D} (h : Reps S F vs ds) : Slots S F (L2.start N vs) (startR N ds) := by
  unfold L2.start startR
  rw [h.len]
  have tail : ∀ n : Nat, Slots S F (List.replicate n none) (List.replicate n none) := fun n => by
    induction n with
    | zero => exact .nil
    | succ n ih => rw [List.replicate_succ, List.replicate_succ]; exact .cons .none ih
  have : ∀ {vs : List V} {ds : List D} {a : L2.St} {b : Ro}, Reps S F vs ds → Slots S F a b → Slots S F (vs.map some ++ a) (ds.map some ++ b) := by
    intro vs ds a b h
    induction vs generalizing ds with
    | nil => cases h; exact fun t => t
    | cons v vs ih => cases h with | cons r t => exact fun q => .cons (.some r) (ih t q)
  exact this h (tail _)
end

/-! ### readings over data, brought down -/
abbrev DX := Str → List (Str × D) → Store → Prop
abbrev DWX := Str → List (Str × D) → Ro → Store → Prop
abbrev DTE := Ro → Store → (D → Store → Prop) → Prop
abbrev DTT := Ro → Store → (Bool → Store → Prop) → Prop
abbrev DTA := Ro → Store → (List D → Store → Prop) → Prop
structure DEnds where
  nx : Ro → Store → Prop
  rt : D → Store → Prop
  bk : Ro → Store → Prop := fun _ _ => False
  ct : Ro → Store → Prop := fun _ _ => False
abbrev DTS := DEnds → Ro → Store → Prop

section
variable (S : SE) (F0 : Hp)
/-- what an expression's reading over data says below -/
def low {α β : Type} (R : Hp → α → β → Prop) (t : Ro → Store → (β → Store → Prop) → Prop) : L2.St → Hp → (α → Hp → Prop) → Prop := fun σ H Q =>
  ∃ (ρ : Ro) (M : Store) (F : Hp) (P : β → Store → Prop), Le F0 F ∧ Slots S F σ ρ ∧ Good S F M H ∧ t ρ M P ∧
    ∀ v d M' F' H', Le F F' → Good S F' M' H' → R F' v d → P d M' → Q v H'
def lowS (t : DTS) : TS := fun E σ H => ∃ (ρ : Ro) (M : Store) (F : Hp) (D : DEnds), Le F0 F ∧ Slots S F σ ρ ∧ Good S F M H ∧ t D ρ M ∧
  (∀ σ' ρ' M' F' H', Le F F' → Slots S F' σ' ρ' → Good S F' M' H' → D.nx ρ' M' → E.nx σ' H') ∧
  (∀ v d M' F' H', Le F F' → Good S F' M' H' → Rep S F' v d → D.rt d M' → E.rt v H') ∧
  (∀ σ' ρ' M' F' H', Le F F' → Slots S F' σ' ρ' → Good S F' M' H' → D.bk ρ' M' → E.bk σ' H') ∧
  (∀ σ' ρ' M' F' H', Le F F' → Slots S F' σ' ρ' → Good S F' M' H' → D.ct ρ' M' → E.ct σ' H')
end
abbrev Cx.se (X : Cx) : SE := ⟨X.K, X.mg⟩
abbrev eqB : Hp → Bool → Bool → Prop := fun _ a b => a = b
structure DE (X : Cx) (F0 : Hp) (e : Expr) (t : DTE) : Prop where
  pe : PE X e (low (Cx.se X) F0 (fun F => Rep (Cx.se X) F) t)
structure DT (X : Cx) (F0 : Hp) (e : Expr) (t : DTT) : Prop where
  pt : PT X e (low (Cx.se X) F0 eqB t)
structure DW (X : Cx) (F0 : Hp) (e : Expr) (t : DTT) : Prop where
  pw : PW X e (low (Cx.se X) F0 eqB t)
structure DA (X : Cx) (F0 : Hp) (es : List Expr) (t : DTA) : Prop where
  pa : PA X es (low (Cx.se X) F0 (fun F => Reps (Cx.se X) F) t)
structure DS (X : Cx) (F0 : Hp) (st : Stmt) (t : DTS) : Prop where
  ps : PS X st (lowS (Cx.se X) F0 t)
structure DSs (X : Cx) (F0 : Hp) (st : List Stmt) (t : DTS) : Prop where
  pss : PSs X st (lowS (Cx.se X) F0 t)

theorem PE.weak {X : Cx} {e : Expr} {t u : TE} (h : PE X e t) (k : ∀ σ H Q, u σ H Q → t σ H Q) : PE X e u := ⟨fun pins s σ H Q I q => h.run pins s σ H Q I (k _ _ _ q)⟩
theorem PT.weak {X : Cx} {e : Expr} {t u : TT} (h : PT X e t) (k : ∀ σ H Q, u σ H Q → t σ H Q) : PT X e u := ⟨fun pins s σ H Q I q => h.run pins s σ H Q I (k _ _ _ q)⟩
theorem PW.weak {X : Cx} {e : Expr} {t u : TT} (h : PW X e t) (k : ∀ σ H Q, u σ H Q → t σ H Q) : PW X e u := ⟨fun w pins s σ H Q I q => h.run w pins s σ H Q I (k _ _ _ q)⟩
theorem PA.weak {X : Cx} {es : List Expr} {t u : TA} (h : PA X es t) (k : ∀ σ H Q, u σ H Q → t σ H Q) : PA X es u := ⟨fun pos pins s σ H Q I q => h.run pos pins s σ H Q I (k _ _ _ q)⟩
theorem PS.weak {X : Cx} {st : Stmt} {t u : TS} (h : PS X st t) (k : ∀ D σ H, u D σ H → t D σ H) : PS X st u := ⟨fun pins s σ H D I q => h.run pins s σ H D I (k _ _ _ q)⟩
theorem PSs.weak {X : Cx} {st : List Stmt} {t u : TS} (h : PSs X st t) (k : ∀ D σ H, u D σ H → t D σ H) : PSs X st u := ⟨fun pins s σ H D I q => h.run pins s σ H D I (k _ _ _ q)⟩
end DL


set_option Elab.async false
set_option linter.all false
set_option maxRecDepth 100000
namespace DL
open PySem PySem.Spec PyProof.Rows L2
section
variable {X : Cx} {F0 : Hp} {pos : Pos}

/-! ### names, constants -/
def dVar (i : Nat) : DTE := fun ρ M Q => match ρ[i]? with
  | some (some d) => Q d M
  | _ => False
def dC (d : D) : DTE := fun _ M Q => Q d M
theorem de_var {i : Nat} {x : Str} (hN : X.N[i]? = some x) (hv : Vis X.env.scope x) (hd : (x == ("__debug__" : Str)) = false := by decide) (hcd : (x == ("__classdict__" : Str)) = false := by decide) : DE X F0 (.Name x pos) (dVar i) := by
  refine ⟨PE.weak (pe_var hN hv hd hcd) fun σ H Q ⟨ρ, M, F, P, l0, sl, g, t, k⟩ => ?_⟩
  unfold dVar at t
  split at t
  · rename_i d e
    obtain ⟨v, e1, r⟩ := sl.get e
    exact ⟨v, e1, k v d M F H (Le.refl F) g r t⟩
  · exact t.elim
/-- the name in slot i -/
theorem dv (i : Nat) {x : Str} (hN : X.N[i]? = some x := by rfl) (hv : Vis X.env.scope x := by first | exact Or.inl rfl | exact Or.inr (Or.inl rfl) | exact Or.inr (Or.inr rfl)) (hd : (x == ("__debug__" : Str)) = false := by decide)
    (hcd : (x == ("__classdict__" : Str)) = false := by decide) : DE X F0 (.Name x pos) (dVar i) := de_var hN hv hd hcd
theorem de_of_const {e : Expr} {v : V} {d : D} (h : PE X e (tC v)) (r : ∀ F, Rep (Cx.se X) F v d) : DE X F0 e (dC d) :=
  ⟨PE.weak h fun σ H Q ⟨ρ, M, F, P, l0, sl, g, t, k⟩ => k v d M F H (Le.refl F) g (r F) t⟩
theorem de_int {i j} : DE X F0 (.Constant (.int i) j pos) (dC (.int i)) := de_of_const pe_int fun _ => .int _
theorem de_bl {b j} : DE X F0 (.Constant (.bool b) j pos) (dC (.bl b)) := de_of_const pe_bl fun _ => .bl _
theorem de_non {j} : DE X F0 (.Constant .none j pos) (dC .non) := de_of_const pe_non fun _ => .non
theorem de_str {x j} : DE X F0 (.Constant (.str x) j pos) (dC (.str x)) := de_of_const pe_str fun _ => .str _
/-- a constant of the module -/
def GC (S : SE) (x : Str) (d : D) : Prop := ∃ u v, S.mg x = some u ∧ RelV v u ∧ ∀ F, Rep S F v d
theorem de_glob {x : Str} {d : D} (c : GC (Cx.se X) x d) (hg : Gl X x := by rfl) (hd : (x == ("__debug__" : Str)) = false := by decide) : DE X F0 (.Name x pos) (dC d) := by
  obtain ⟨u, v, h1, h2, h3⟩ := c
  exact de_of_const (pe_glob hg h1 h2 hd) h3

/-! ### two expressions and an operator -/
abbrev DR2 := D → D → Store → (D → Store → Prop) → Prop
def low2 (S : SE) (F0 : Hp) (rd : DR2) : R2 := fun x y H Q => ∃ dx dy M F P, Le F0 F ∧ Good S F M H ∧ Rep S F x dx ∧ Rep S F y dy ∧ rd dx dy M P ∧ ∀ v d M' F' H', Le F F' → Good S F' M' H' → Rep S F' v d → P d M' → Q v H'
def DOp (X : Cx) (F0 : Hp) (f : Value → Value → Sem Value) (rd : DR2) : Prop := OpR X f (low2 (Cx.se X) F0 rd)
def dOp (rd : DR2) (ta tb : DTE) : DTE := fun ρ M Q => ta ρ M fun x M1 => tb ρ M1 fun y M2 => rd x y M2 Q
variable {a b : Expr} {ta tb : DTE}
theorem low_op {rd : DR2} {ta tb : DTE} {σ : L2.St} {H : Hp} {Q : VK} (h : low (Cx.se X) F0 (fun F => Rep (Cx.se X) F) (dOp rd ta tb) σ H Q) :
    tOp (low2 (Cx.se X) F0 rd) (low (Cx.se X) F0 (fun F => Rep (Cx.se X) F) ta) (low (Cx.se X) F0 (fun F => Rep (Cx.se X) F) tb) σ H Q := by
  obtain ⟨ρ, M, F, P, l0, sl, g, t, k⟩ := h
  exact ⟨ρ, M, F, _, l0, sl, g, t, fun x dx M1 F1 H1 l1 g1 r1 t1 => ⟨ρ, M1, F1, _, l0.trans l1, sl.mono l1, g1, t1, fun y dy M2 F2 H2 l2 g2 r2 t2 =>
    ⟨dx, dy, M2, F2, P, (l0.trans l1).trans l2, g2, r1.mono l2, r2, t2, fun v d M' F' H' l3 g3 r3 p => k v d M' F' H' ((l1.trans l2).trans l3) g3 r3 p⟩⟩⟩
theorem de_op {op : Operator} {rd : DR2} (ho : DOp X F0 (binaryOp op) rd) (ha : DE X F0 a ta) (hb : DE X F0 b tb) : DE X F0 (.BinOp a op b pos) (dOp rd ta tb) :=
  ⟨PE.weak (pe_op ho ha.pe hb.pe) fun _ _ _ h => low_op h⟩
theorem de_cmp {op : CmpOp} {rd : DR2} (ho : DOp X F0 (compareOp op) rd) (ha : DE X F0 a ta) (hb : DE X F0 b tb) (hm : behindInMarks op b = false := by first | exact nomark _ | rfl) : DE X F0 (.Compare a [op] [b] pos) (dOp rd ta tb) :=
  ⟨PE.weak (pe_cmpR ho ha.pe hb.pe hm) fun _ _ _ h => low_op h⟩
/-- a test by a value that is a bool -/
def dB (t : DTE) : DTT := fun ρ M Q => t ρ M fun x M1 => match x with
  | .bl b => Q b M1
  | _ => False
theorem low_test {t : DTE} {σ : L2.St} {H : Hp} {Q : Bool → Hp → Prop} (h : low (Cx.se X) F0 eqB (dB t) σ H Q) : low (Cx.se X) F0 (fun F => Rep (Cx.se X) F) t σ H fun x H' => ∃ k, x = .bl k ∧ Q k H' := by
  obtain ⟨ρ, M, F, P, l0, sl, g, t, k⟩ := h
  refine ⟨ρ, M, F, _, l0, sl, g, t, fun v d M' F' H' l g' r p => ?_⟩
  split at p
  · cases r; exact ⟨_, rfl, k _ _ M' F' H' l g' rfl p⟩
  · exact p.elim
theorem dt_cmp {op : CmpOp} {rd : DR2} (ho : DOp X F0 (compareOp op) rd) (ha : DE X F0 a ta) (hb : DE X F0 b tb) (hm : behindInMarks op b = false := by first | exact nomark _ | rfl) : DT X F0 (.Compare a [op] [b] pos) (dB (dOp rd ta tb)) := by
  refine ⟨PT.weak (pt_cmpR ho ha.pe hb.pe hm) fun σ H Q h => ?_⟩
  obtain ⟨ρ, M, F, P, l0, sl, g, t, k⟩ := h
  exact low_op (low_test ⟨ρ, M, F, P, l0, sl, g, t, k⟩)
theorem dt_val {e : Expr} {t : DTE} (h : DE X F0 e t) (he : ∀ whole, isTrue e X.env whole = (do let v ← whole; standAt e.pos; holding [v] (truthy v)) := by intro _; rfl) : DT X F0 e (dB t) :=
  ⟨PT.weak (pt_val h.pe he) fun _ _ _ q => low_test q⟩

/-! ### arithmetic -/
/-- a list that is no locked one: its items -/
def asL (M : Store) : D → Option (List D)
  | .lst ds => some ds
  | .ref a => match M a with
    | some (.lst ds) => some ds
    | _ => none
  | _ => none
theorem asL_at {S : SE} {F H : Hp} {M : Store} {d : D} {v : V} {ds : List D} (g : Good S F M H) (r : Rep S F v d) (h : asL M d = some ds) : ∃ a vs, v = .ref a ∧ H a = some (.lst vs) ∧ Reps S F vs ds := by
  cases d with
  | lst es =>
    cases h
    cases r with
    | lst q r => exact ⟨_, _, rfl, g.sub _ _ q, r⟩
  | ref a =>
    cases r
    have h' : (match M a with | some (.lst ds) => some ds | _ => none) = some ds := h
    split at h'
    · rename_i e
      cases h'
      obtain ⟨_, o, e, q⟩ := g.cel _ _ e
      cases q with
      | lst r => exact ⟨_, _, rfl, e, r⟩
    · cases h'
  | _ => cases h
/-- a list read: its items -/
def asR (M : Store) : D → Option (List D)
  | .fro ds => some ds
  | d => asL M d
theorem asR_at {S : SE} {F H : Hp} {M : Store} {d : D} {v : V} {ds : List D} (g : Good S F M H) (r : Rep S F v d) (h : asR M d = some ds) : ∃ a vs, v = .ref a ∧ SqL S.K H a vs ∧ Reps S F vs ds := by
  unfold asR at h
  split at h
  · cases h
    cases r with
    | fro q r => exact ⟨_, _, rfl, g.sqL q, r⟩
  · obtain ⟨a, vs, e, h1, h2⟩ := asL_at g r h
    exact ⟨a, vs, e, .inl (.inl h1), h2⟩
def asT : D → Option (List D)
  | .tup ds => some ds
  | _ => none
theorem asT_at {S : SE} {F H : Hp} {M : Store} {d : D} {v : V} {ds : List D} (g : Good S F M H) (r : Rep S F v d) (h : asT d = some ds) : ∃ a vs, v = .ref a ∧ SqT S.K H a vs ∧ Reps S F vs ds := by
  cases r with
  | tup q r => cases h; exact ⟨_, _, rfl, g.sqT q, r⟩
  | _ => cases h
def rdAdd : DR2 := fun x y M Q => match x, y with
  | .int i, .int j => Q (.int (i + j)) M
  | .str i, .str j => i.length + j.length ≤ sizeLine ∧ Q (.str (i ++ j)) M
  | .tup xs, .tup ys => xs.length + ys.length ≤ sizeLine ∧ Q (.tup (xs ++ ys)) M
  | x, y => match asL M x, asL M y with
    | some xs, some ys => xs.length + ys.length ≤ sizeLine ∧ Q (.lst (xs ++ ys)) M
    | _, _ => False
theorem do_add : DOp X F0 (binaryOp .Add) rdAdd := by
  intro pins s σ H x y v u Q I rx ry ⟨dx, dy, M, F, P, l0, g, hx, hy, t, k⟩
  unfold rdAdd at t
  split at t
  · cases hx; cases hy
    exact op_add pins s σ H _ _ v u Q I rx ry ⟨_, _, rfl, rfl, k _ _ M F H (Le.refl F) g (.int _) t⟩
  · cases hx; cases hy
    exact op_add_str pins s σ H _ _ v u Q I rx ry ⟨_, _, rfl, rfl, t.1, k _ _ M F H (Le.refl F) g (.str _) t.2⟩
  · obtain ⟨a, vs, rfl, h1, r1⟩ := asT_at g hx rfl
    obtain ⟨b, ws, rfl, h2, r2⟩ := asT_at g hy rfl
    refine op_catA pins s σ H _ _ v u Q I rx ry ⟨a, b, vs, ws, rfl, rfl, h1, h2, by rw [r1.len, r2.len]; exact t.1, fun e => ?_, fun e1 e2 => ?_, fun e1 e2 p hp => ?_⟩
    · subst e
      cases r1
      exact k _ _ M F H (Le.refl F) g hy t.2
    · subst e2
      cases r2
      rw [List.append_nil] at t
      exact k _ _ M F H (Le.refl F) g hx t.2
    · have f := g.freshF hp
      exact k _ _ M _ _ (Le.new f) (g.new hp) (.tup (.inl (.inl upd_same)) ((r1.append r2).mono (Le.new f))) t.2
  · split at t
    · rename_i xs ys e1 e2
      obtain ⟨a, vs, rfl, h1, r1⟩ := asL_at g hx e1
      obtain ⟨b, ws, rfl, h2, r2⟩ := asL_at g hy e2
      refine op_cat pins s σ H _ _ v u Q I rx ry ⟨a, b, vs, ws, rfl, rfl, h1, h2, by rw [r1.len, r2.len]; exact t.1, fun p hp => ?_⟩
      have f := g.freshF hp
      exact k _ _ M _ _ (Le.new f) (g.new hp) (.lst upd_same ((r1.append r2).mono (Le.new f))) t.2
    · exact t.elim
def rdI (c : Int → Int → Prop) (f : Int → Int → D) : DR2 := fun x y M Q => match x, y with
  | .int i, .int j => c i j ∧ Q (f i j) M
  | _, _ => False
theorem do_int {f : Value → Value → Sem Value} {C : Int → Int → Prop} {g : Int → Int → V} {h : Int → Int → D} (ho : OpR X f (rI C g)) (hr : ∀ i j F, Rep (Cx.se X) F (g i j) (h i j)) : DOp X F0 f (rdI C h) := by
  intro pins s σ H x y v u Q I rx ry ⟨dx, dy, M, F, P, l0, gd, hx, hy, t, k⟩
  unfold rdI at t
  split at t
  · cases hx; cases hy
    exact ho pins s σ H _ _ v u Q I rx ry ⟨_, _, rfl, rfl, t.1, k _ _ M F H (Le.refl F) gd (hr _ _ F) t.2⟩
  · exact t.elim
theorem do_int0 {f : Value → Value → Sem Value} {g : Int → Int → V} {h : Int → Int → D} (ho : OpR X f (rI0 g)) (hr : ∀ i j F, Rep (Cx.se X) F (g i j) (h i j)) : DOp X F0 f (rdI (fun _ _ => True) h) := by
  intro pins s σ H x y v u Q I rx ry ⟨dx, dy, M, F, P, l0, gd, hx, hy, t, k⟩
  unfold rdI at t
  split at t
  · cases hx; cases hy
    exact ho pins s σ H _ _ v u Q I rx ry ⟨_, _, rfl, rfl, k _ _ M F H (Le.refl F) gd (hr _ _ F) t.2⟩
  · exact t.elim
abbrev rdSub : DR2 := rdI (fun _ _ => True) fun i j => .int (i - j)
theorem do_sub : DOp X F0 (binaryOp .Sub) rdSub := do_int0 op_sub fun _ _ _ => .int _
abbrev rdDiv : DR2 := rdI CDivW fun i j => .int (i / j)
theorem do_div : DOp X F0 (binaryOp .FloorDiv) rdDiv := do_int op_fdivW fun _ _ _ => .int _
abbrev rdMod : DR2 := rdI (fun _ j => 0 < j) fun i j => .int (i % j)
theorem do_mod : DOp X F0 (binaryOp .Mod) rdMod := do_int op_mod fun _ _ _ => .int _
abbrev rdPow : DR2 := rdI CPow fun i j => .int (i ^ j.toNat)
theorem do_pow : DOp X F0 (binaryOp .Pow) rdPow := do_int op_pow fun _ _ _ => .int _
theorem Reps.rep {S : SE} {F : Hp} {vs : List V} {ds : List D} (h : Reps S F vs ds) : ∀ n : Nat, Reps S F (List.replicate n vs).flatten (List.replicate n ds).flatten
  | 0 => .nil
  | n + 1 => by
    rw [List.replicate_succ, List.replicate_succ, List.flatten_cons, List.flatten_cons]
    exact h.append (Reps.rep h n)
def rdMul : DR2 := fun x y M Q => match x, y with
  | .int i, .int j => (CMul i j ∨ CMulW i j) ∧ Q (.int (i * j)) M
  | x, .int k => match asL M x with
    | some xs => -(2 ^ 63) ≤ k ∧ k < 2 ^ 63 ∧ xs.length * k.toNat ≤ sizeLine ∧ Q (.lst (List.replicate k.toNat xs).flatten) M
    | none => False
  | _, _ => False
theorem do_mul : DOp X F0 (binaryOp .Mult) rdMul := by
  intro pins s σ H x y v u Q I rx ry ⟨dx, dy, M, F, P, l0, g, hx, hy, t, k⟩
  unfold rdMul at t
  split at t
  · cases hx; cases hy
    rcases t.1 with c | c
    · exact op_mul pins s σ H _ _ v u Q I rx ry ⟨_, _, rfl, rfl, c, k _ _ M F H (Le.refl F) g (.int _) t.2⟩
    · exact op_mulW pins s σ H _ _ v u Q I rx ry ⟨_, _, rfl, rfl, c, k _ _ M F H (Le.refl F) g (.int _) t.2⟩
  · cases hy
    split at t
    · rename_i xs e1
      obtain ⟨a, vs, rfl, h1, r1⟩ := asL_at g hx e1
      obtain ⟨t1, t2, t3, t4⟩ := t
      refine op_rep pins s σ H _ _ v u Q I rx ry ⟨a, _, vs, rfl, rfl, h1, t1, t2, by rw [r1.len]; exact t3, fun p hp => ?_⟩
      have f := g.freshF hp
      exact k _ _ M _ _ (Le.new f) (g.new hp) (.lst upd_same ((r1.rep _).mono (Le.new f))) t4
    · exact t.elim
  · exact t.elim
end
end DL


set_option Elab.async false
set_option linter.all false
set_option maxRecDepth 100000
namespace DL
open PySem PySem.Spec PyProof.Rows L2

/-! ### data that compare by value -/
mutual
def toP : D → Option PyData
  | .non => some .none
  | .bl b => some (.bool b)
  | .int i => some (.int i)
  | .str x => some (.str x)
  | .tup ds => (toPs ds).map .tuple
  | .lst ds => (toPs ds).map .list
  | .fro ds => (toPs ds).map .list
  | .dct _ => none
  | .obj _ _ => none
  | .ref _ => none
  | .ty _ => none
  | .cls _ => none
def toPs : List D → Option (List PyData)
  | [] => some []
  | d :: ds => match toP d, toPs ds with
    | some e, some es => some (e :: es)
    | _, _ => none
end
def toPM (M : Store) (d : D) : Option PyData := match asL M d with
  | some ds => (toPs ds).map .list
  | none => toP d
mutual
theorem rep_toP {S : SE} {F H : Hp} {M : Store} (g : Good S F M H) : ∀ {v : V} {d : D} {e : PyData}, Rep S F v d → toP d = some e → Dp S.K H v e
  | _, _, _, .non, h => by simp only [toP, Option.some.injEq] at h; subst h; exact .non
  | _, _, _, .bl b, h => by simp only [toP, Option.some.injEq] at h; subst h; exact .bl b
  | _, _, _, .int b, h => by simp only [toP, Option.some.injEq] at h; subst h; exact .int b
  | _, _, _, .str b, h => by simp only [toP, Option.some.injEq] at h; subst h; exact .str b
  | _, _, _, .ty b, h => by simp [toP] at h
  | _, _, _, .ref b, h => by simp [toP] at h
  | _, _, _, .tup q r, h => by
    simp only [toP, Option.map_eq_some_iff] at h
    obtain ⟨es, h1, rfl⟩ := h
    exact .tup (g.sqT q) (reps_toP g r h1)
  | _, _, _, .lst q r, h => by
    simp only [toP, Option.map_eq_some_iff] at h
    obtain ⟨es, h1, rfl⟩ := h
    exact .lst (.inl (.inl (g.sub _ _ q))) (reps_toP g r h1)
  | _, _, _, .fro q r, h => by
    simp only [toP, Option.map_eq_some_iff] at h
    obtain ⟨es, h1, rfl⟩ := h
    exact .lst (g.sqL q) (reps_toP g r h1)
  | _, _, _, .dctK _ _, h => by simp [toP] at h
  | _, _, _, .obj _ _ _, h => by simp [toP] at h
  | _, _, _, .cls _, h => by simp [toP] at h
theorem reps_toP {S : SE} {F H : Hp} {M : Store} (g : Good S F M H) : ∀ {v : List V} {d : List D} {e : List PyData}, Reps S F v d → toPs d = some e → DpAll S.K H v e
  | _, _, _, .nil, h => by simp only [toPs, Option.some.injEq] at h; subst h; exact .nil
  | _, _, _, .cons r t, h => by
    simp only [toPs] at h
    split at h
    · rename_i e es h1 h2
      cases h
      exact .cons (rep_toP g r h1) (reps_toP g t h2)
    · cases h
end
theorem rep_toPM {S : SE} {F H : Hp} {M : Store} (g : Good S F M H) {v : V} {d : D} {e : PyData} (r : Rep S F v d) (h : toPM M d = some e) : Dp S.K H v e := by
  unfold toPM at h
  split at h
  · rename_i ds e1
    obtain ⟨a, vs, rfl, h1, r1⟩ := asL_at g r e1
    obtain ⟨es, h2, rfl⟩ := Option.map_eq_some_iff.mp h
    exact .lst (.inl (.inl h1)) (reps_toP g r1 h2)
  · exact rep_toP g r h

def okP (d : PyData) : Prop := SeqAt.shaped d = true
section
variable {X : Cx} {F0 : Hp} {pos : Pos} {a b c : Expr} {ta tb tc : DTE}
/-- x == y, x != y of data -/
def rdEq (neg : Bool) : DR2 := fun x y M Q => match x, y with
  | .str a, .str b => Q (.bl (neg != decide (a = b))) M
  | .int a, .int b => Q (.bl (neg != decide (a = b))) M
  | x, y => match toPM M x, toPM M y with
    | some d, some e => okP d ∧ okP e ∧ Q (.bl (neg != PyData.eqv d e)) M
    | _, _ => False
theorem room64 {k : Nat} {A : Around} (hr : Room k A) : A.units + 64 < cLine := hr.units
theorem room65 {k : Nat} {A : Around} (hr : Room k A) : A.units + 65 < cLine := by have := hr.un; omega
theorem do_eq {k : Nat} (hr : Room k X.A) : DOp X F0 (compareOp .Eq) (rdEq false) := by
  intro pins s σ H x y v u Q I rx ry ⟨dx, dy, M, F, P, l0, g, hx, hy, t, k⟩
  unfold rdEq at t
  split at t
  · cases hx; cases hy
    refine op_eq pins s σ H _ _ v u Q I rx ry ⟨rfl, ?_⟩
    refine k _ _ M F H (Le.refl F) g (.bl _) ?_
    simpa using t
  · cases hx; cases hy
    refine op_eq pins s σ H _ _ v u Q I rx ry ⟨rfl, ?_⟩
    refine k _ _ M F H (Le.refl F) g (.bl _) ?_
    simpa using t
  split at t
  · rename_i d e e1 e2
    refine op_eqD hr.units pins s σ H _ _ v u Q I rx ry ⟨d, e, rep_toPM g hx e1, rep_toPM g hy e2, t.1, t.2.1, ?_⟩
    have q := t.2.2
    rw [Bool.false_bne] at q
    exact k _ _ M F H (Le.refl F) g (.bl _) q
  · exact t.elim
theorem do_ne {k : Nat} (hr : Room k X.A) : DOp X F0 (compareOp .NotEq) (rdEq true) := by
  intro pins s σ H x y v u Q I rx ry ⟨dx, dy, M, F, P, l0, g, hx, hy, t, k⟩
  unfold rdEq at t
  split at t
  · cases hx; cases hy
    refine op_ne pins s σ H _ _ v u Q I rx ry ⟨rfl, ?_⟩
    refine k _ _ M F H (Le.refl F) g (.bl _) ?_
    simpa using t
  · cases hx; cases hy
    refine op_ne pins s σ H _ _ v u Q I rx ry ⟨rfl, ?_⟩
    refine k _ _ M F H (Le.refl F) g (.bl _) ?_
    simpa using t
  split at t
  · rename_i d e e1 e2
    refine op_neD hr.units pins s σ H _ _ v u Q I rx ry ⟨d, e, rep_toPM g hx e1, rep_toPM g hy e2, t.1, t.2.1, ?_⟩
    have q := t.2.2
    rw [Bool.true_bne] at q
    exact k _ _ M F H (Le.refl F) g (.bl _) q
  · exact t.elim
/-- x in y, of a list, a tuple of data, of a text (one sign) -/
def rdIn (neg : Bool) : DR2 := fun x y M Q => match x, y with
  | .str a, .str b => ∃ c, a = ⟨#[c]⟩ ∧ Q (.bl (neg != decide (c ∈ b.cps.toList))) M
  | x, y => match toPM M x, toPM M y with
    | some d, some (.list es) => okP d ∧ okP (.list es) ∧ Q (.bl (neg != es.any fun z => PyData.eqv z d)) M
    | some d, some (.tuple es) => okP d ∧ okP (.tuple es) ∧ Q (.bl (neg != es.any fun z => PyData.eqv z d)) M
    | _, _ => False
theorem room_in {d : PyData} {es : List PyData} {n : Nat} (h : okP d) (hu : n + 65 < cLine) : n + 1 + min (PyData.depthAll es) d.depth < cLine := by
  have h' : (d.canLay0 && decide (d.depth ≤ 64)) = true := h
  have h2 : d.depth ≤ 64 := of_decide_eq_true (Bool.and_eq_true_iff.mp h').2
  omega
theorem lay_all {es : List PyData} (h : okP (.tuple es) ∨ okP (.list es)) : PyData.canLayAll0 es = true := by
  have key : ∀ d : PyData, okP d → d.canLay0 = true := fun d h => (Bool.and_eq_true_iff.mp (show (d.canLay0 && decide (d.depth ≤ 64)) = true from h)).1
  rcases h with h | h
  · have := key _ h
    simpa only [PyData.canLay0] using this
  · have := key _ h
    simpa only [PyData.canLay0] using this
theorem lay_one {d : PyData} (h : okP d) : d.canLay0 = true := (Bool.and_eq_true_iff.mp (show (d.canLay0 && decide (d.depth ≤ 64)) = true from h)).1
theorem do_in {k : Nat} (hr : Room k X.A) : DOp X F0 (compareOp .In) (rdIn false) := by
  intro pins s σ H x y v u Q I rx ry ⟨dx, dy, M, F, P, l0, g, hx, hy, t, k⟩
  unfold rdIn at t
  split at t
  · cases hx; cases hy
    obtain ⟨c, rfl, q⟩ := t
    rw [Bool.false_bne] at q
    exact op_in_sign pins s σ H _ _ v u Q I rx ry ⟨c, _, rfl, rfl, k _ _ M F H (Le.refl F) g (.bl _) q⟩
  · split at t
    · rename_i d es e1 e2
      obtain ⟨t1, t2, q⟩ := t
      rw [Bool.false_bne] at q
      obtain ⟨as, r1⟩ := Dp.reads I _ _ v (rep_toPM g hx e1) rx
      obtain ⟨bs, r2⟩ := Dp.reads I _ _ u (rep_toPM g hy e2) ry
      exact SeqAt.in_list_reads r2 r1 (lay_all (.inr t2)) (lay_one t1) (room_in t1 (room65 hr)) ⟨.bl _, H, I, rfl, k _ _ M F H (Le.refl F) g (.bl _) q⟩
    · rename_i d es e1 e2
      obtain ⟨t1, t2, q⟩ := t
      rw [Bool.false_bne] at q
      obtain ⟨as, r1⟩ := Dp.reads I _ _ v (rep_toPM g hx e1) rx
      obtain ⟨bs, r2⟩ := Dp.reads I _ _ u (rep_toPM g hy e2) ry
      exact SeqAt.in_tuple_reads r2 r1 (lay_all (.inl t2)) (lay_one t1) (room_in t1 (room65 hr)) ⟨.bl _, H, I, rfl, k _ _ M F H (Le.refl F) g (.bl _) q⟩
    · exact t.elim
theorem do_notIn {k : Nat} (hr : Room k X.A) : DOp X F0 (compareOp .NotIn) (rdIn true) := by
  intro pins s σ H x y v u Q I rx ry ⟨dx, dy, M, F, P, l0, g, hx, hy, t, k⟩
  unfold rdIn at t
  split at t
  · cases hx; cases hy
    obtain ⟨c, rfl, q⟩ := t
    rw [Bool.true_bne] at q
    exact op_notIn_sign pins s σ H _ _ v u Q I rx ry ⟨c, _, rfl, rfl, k _ _ M F H (Le.refl F) g (.bl _) q⟩
  · split at t
    · rename_i d es e1 e2
      obtain ⟨t1, t2, q⟩ := t
      rw [Bool.true_bne] at q
      obtain ⟨as, r1⟩ := Dp.reads I _ _ v (rep_toPM g hx e1) rx
      obtain ⟨bs, r2⟩ := Dp.reads I _ _ u (rep_toPM g hy e2) ry
      exact SeqAt.notIn_list_reads r2 r1 (lay_all (.inr t2)) (lay_one t1) (room_in t1 (room65 hr)) ⟨.bl _, H, I, rfl, k _ _ M F H (Le.refl F) g (.bl _) q⟩
    · rename_i d es e1 e2
      obtain ⟨t1, t2, q⟩ := t
      rw [Bool.true_bne] at q
      obtain ⟨as, r1⟩ := Dp.reads I _ _ v (rep_toPM g hx e1) rx
      obtain ⟨bs, r2⟩ := Dp.reads I _ _ u (rep_toPM g hy e2) ry
      exact SeqAt.notIn_tuple_reads r2 r1 (lay_all (.inl t2)) (lay_one t1) (room_in t1 (room65 hr)) ⟨.bl _, H, I, rfl, k _ _ M F H (Le.refl F) g (.bl _) q⟩
    · exact t.elim
/-- orders of ints -/
abbrev rdCmp (p : Int → Int → Bool) : DR2 := rdI (fun _ _ => True) fun i j => .bl (p i j)
theorem do_lt : DOp X F0 (compareOp .Lt) (rdCmp fun i j => decide (i < j)) := do_int0 op_lt fun _ _ _ => .bl _
theorem do_le : DOp X F0 (compareOp .LtE) (rdCmp fun i j => decide (i ≤ j)) := do_int0 op_le fun _ _ _ => .bl _
theorem do_gt : DOp X F0 (compareOp .Gt) (rdCmp fun i j => decide (j < i)) := do_int0 op_gt fun _ _ _ => .bl _
theorem do_ge : DOp X F0 (compareOp .GtE) (rdCmp fun i j => decide (j ≤ i)) := do_int0 op_ge fun _ _ _ => .bl _
/-- x is None, x is not None; True -/
def isNonD : D → Bool
  | .non => true
  | _ => false
def rdIs (neg : Bool) : DR2 := fun x y M Q => match x, y with
  | .bl i, .bl j => Q (.bl (neg != decide (i = j))) M
  | x, .non => Q (.bl (neg != isNonD x)) M
  | _, _ => False
theorem isNonD_rep {S : SE} {F : Hp} {v : V} {d : D} (r : Rep S F v d) : decide (v = V.non) = isNonD d := by
  cases r <;> rfl
theorem do_is : DOp X F0 (compareOp .Is) (rdIs false) := by
  intro pins s σ H x y v u Q I rx ry ⟨dx, dy, M, F, P, l0, g, hx, hy, t, k⟩
  unfold rdIs at t
  split at t
  · cases hx; cases hy
    rw [Bool.false_bne] at t
    exact op_isBl pins s σ H _ _ v u Q I rx ry ⟨_, _, rfl, rfl, k _ _ M F H (Le.refl F) g (.bl _) t⟩
  · cases hy
    rw [Bool.false_bne] at t
    exact op_isN pins s σ H _ _ v u Q I rx ry ⟨rfl, by rw [isNonD_rep hx]; exact k _ _ M F H (Le.refl F) g (.bl _) t⟩
  · exact t.elim
theorem do_isNot : DOp X F0 (compareOp .IsNot) (rdIs true) := by
  intro pins s σ H x y v u Q I rx ry ⟨dx, dy, M, F, P, l0, g, hx, hy, t, k⟩
  unfold rdIs at t
  split at t
  · cases hx; cases hy
    rw [Bool.true_bne] at t
    exact op_notBl pins s σ H _ _ v u Q I rx ry ⟨_, _, rfl, rfl, k _ _ M F H (Le.refl F) g (.bl _) t⟩
  · cases hy
    rw [Bool.true_bne] at t
    exact op_notN pins s σ H _ _ v u Q I rx ry ⟨rfl, by rw [isNonD_rep hx]; exact k _ _ M F H (Le.refl F) g (.bl _) t⟩
  · exact t.elim
/-- a op b op c -/
def dChain (r r' : DR2) (ta tb tc : DTE) : DTE := fun ρ M Q => ta ρ M fun x M1 => tb ρ M1 fun y M2 => r x y M2 fun z M3 => match z with
  | .bl true => tc ρ M3 fun w M4 => r' y w M4 Q
  | .bl false => Q (.bl false) M3
  | _ => False
theorem low_chain {r r' : DR2} {σ : L2.St} {H : Hp} {Q : VK} (h : low (Cx.se X) F0 (fun F => Rep (Cx.se X) F) (dChain r r' ta tb tc) σ H Q) :
    tChain (low2 (Cx.se X) F0 r) (low2 (Cx.se X) F0 r') (low (Cx.se X) F0 (fun F => Rep (Cx.se X) F) ta) (low (Cx.se X) F0 (fun F => Rep (Cx.se X) F) tb) (low (Cx.se X) F0 (fun F => Rep (Cx.se X) F) tc) σ H Q := by
  obtain ⟨ρ, M, F, P, l0, sl, g, t, k⟩ := h
  exact ⟨ρ, M, F, _, l0, sl, g, t, fun x dx M1 F1 H1 l1 g1 r1 t1 => ⟨ρ, M1, F1, _, l0.trans l1, sl.mono l1, g1, t1, fun y dy M2 F2 H2 l2 g2 r2 t2 =>
    ⟨dx, dy, M2, F2, _, (l0.trans l1).trans l2, g2, r1.mono l2, r2, t2, fun z dz M3 F3 H3 l3 g3 r3 t3 => by
      split at t3
      · cases r3
        exact ⟨true, rfl, iteT ⟨ρ, M3, F3, _, ((l0.trans l1).trans l2).trans l3, ((sl.mono l1).mono l2).mono l3, g3, t3, fun z dz M4 F4 H4 l4 g4 r4 t4 =>
          ⟨dy, dz, M4, F4, P, (((l0.trans l1).trans l2).trans l3).trans l4, g4, (r2.mono l3).mono l4, r4, t4, fun v d M' F' H' l5 g5 r5 p => k v d M' F' H' ((((l1.trans l2).trans l3).trans l4).trans l5) g5 r5 p⟩⟩⟩
      · cases r3
        exact ⟨false, rfl, iteF (k _ _ M3 F3 H3 ((l1.trans l2).trans l3) g3 (.bl _) t3)⟩
      · exact t3.elim⟩⟩⟩
theorem de_chain {op op' : CmpOp} {r r' : DR2} (ho : DOp X F0 (compareOp op) r) (ho' : DOp X F0 (compareOp op') r') (ha : DE X F0 a ta) (hb : DE X F0 b tb) (hc : DE X F0 c tc)
    (hm : lastMarks [op, op'] [b, c] = false := by with_unfolding_all rfl) : DE X F0 (.Compare a [op, op'] [b, c] pos) (dChain r r' ta tb tc) :=
  ⟨PE.weak (pe_chain ho ho' ha.pe hb.pe hc.pe hm) fun _ _ _ h => low_chain h⟩
theorem dt_chain {op op' : CmpOp} {r r' : DR2} (ho : DOp X F0 (compareOp op) r) (ho' : DOp X F0 (compareOp op') r') (ha : DE X F0 a ta) (hb : DE X F0 b tb) (hc : DE X F0 c tc)
    (hm : lastMarks [op, op'] [b, c] = false := by with_unfolding_all rfl) : DT X F0 (.Compare a [op, op'] [b, c] pos) (dB (dChain r r' ta tb tc)) :=
  ⟨PT.weak (pt_chain ho ho' ha.pe hb.pe hc.pe hm) fun _ _ _ h => low_chain (low_test h)⟩

/-! ### truth; and, or, not, if -/
abbrev DTr := D → Store → (Bool → Store → Prop) → Prop
def lowTr (S : SE) (F0 : Hp) (tr : DTr) : V → Hp → (Bool → Hp → Prop) → Prop := fun x H Q => ∃ d M F P, Le F0 F ∧ Good S F M H ∧ Rep S F x d ∧ tr d M P ∧ ∀ b M' F' H', Le F F' → Good S F' M' H' → P b M' → Q b H'
def DTru (X : Cx) (F0 : Hp) (tr : DTr) : Prop := TruR X (lowTr (Cx.se X) F0 tr)
/-- the truth of plain values -/
def trP : DTr := fun d M Q => match d with
  | .bl b => Q b M
  | .non => Q false M
  | .int i => Q (i != 0) M
  | .str y => y.length ≤ sizeLine ∧ Q ((y.length : Int) != 0) M
  | .tup ds => Q (!ds.isEmpty) M
  | d => match asR M d with
    | some ds => Q (!ds.isEmpty) M
    | none => False
theorem reps_empty {S : SE} {F : Hp} {vs : List V} {ds : List D} (r : Reps S F vs ds) : (!vs.isEmpty) = !ds.isEmpty := by cases r <;> rfl
theorem tru_plain : DTru X F0 trP := by
  intro pins s σ H x v Q I rx ⟨d, M, F, P, l0, g, hx, t, k⟩
  unfold trP at t
  have fin : ∀ b, TruV X.K x H b → P b M → wpAny (model X.prog X.w) X.A (truthy v) (TP X pins σ Q) X.xe s := fun b h p => tru_ok pins s σ H x v Q I rx ⟨b, h, k b M F H (Le.refl F) g p⟩
  split at t
  · cases hx; exact fin _ rfl t
  · cases hx; exact fin _ rfl t
  · cases hx; exact fin _ rfl t
  · cases hx; exact fin _ ⟨t.1, rfl⟩ t.2
  · obtain ⟨a, vs, rfl, h1, r1⟩ := asT_at g hx rfl
    exact fin _ (.inr (.inl ⟨vs, h1, (reps_empty r1).symm⟩)) t
  · split at t
    · rename_i ds e
      obtain ⟨a, vs, rfl, h1, r1⟩ := asR_at g hx e
      exact fin _ (.inl ⟨vs, h1, (reps_empty r1).symm⟩) t
    · exact t.elim
def dTr (tr : DTr) (t : DTE) : DTT := fun ρ M Q => t ρ M fun x M1 => tr x M1 Q
/-- an expression by its value's truth -/
theorem dt_tr {tr : DTr} (hr : DTru X F0 tr) (ha : DE X F0 a ta) (he : ∀ whole, isTrue a X.env whole = (do let v ← whole; standAt a.pos; holding [v] (truthy v)) := by intro _; rfl) : DT X F0 a (dTr tr ta) := by
  refine ⟨⟨fun pins s σ H Q I h => isTrue_plain ?_ (he _)⟩⟩
  obtain ⟨ρ, M, F, P, l0, sl, g, t, k⟩ := h
  refine thn (ha.pe.run pins s σ H (lowTr (Cx.se X) F0 tr · · Q) I ⟨ρ, M, F, _, l0, sl, g, t, fun v d M' F' H' l g' r p => ⟨d, M', F', P, l0.trans l, g', r, p, fun b M2 F2 H2 l2 g2 p2 => k b b M2 F2 H2 (l.trans l2) g2 rfl p2⟩⟩) fun v s1 ⟨x, H1, I1, r1, q1⟩ => ?_
  exact hr pins s1 σ H1 x v Q I1 r1 q1
variable {pA pB : DTT} {rest : List Expr}
def dAnd (t u : DTT) : DTT := fun ρ M Q => t ρ M fun b M1 => if b = true then u ρ M1 Q else Q false M1
def dOr (t u : DTT) : DTT := fun ρ M Q => t ρ M fun b M1 => if b = true then Q true M1 else u ρ M1 Q
def dNot (t : DTT) : DTT := fun ρ M Q => t ρ M fun b M1 => Q (!b) M1
theorem dw_and1 (ha : DT X F0 a pA) : DW X F0 (.BoolOp .And [a] pos) pA := ⟨pw_and1 ha.pt⟩
theorem dw_or1 (ha : DT X F0 a pA) : DW X F0 (.BoolOp .Or [a] pos) pA := ⟨pw_or1 ha.pt⟩
theorem dw_and (ha : DT X F0 a pA) (hb : DW X F0 (.BoolOp .And (b :: rest) pos) pB) : DW X F0 (.BoolOp .And (a :: b :: rest) pos) (dAnd pA pB) := by
  refine ⟨PW.weak (pw_and ha.pt hb.pw) fun σ H Q ⟨ρ, M, F, P, l0, sl, g, t, k⟩ => ⟨ρ, M, F, _, l0, sl, g, t, fun v d M1 F1 H1 l1 g1 r1 p => ?_⟩⟩
  cases r1
  cases v with
  | true => exact ⟨ρ, M1, F1, P, l0.trans l1, sl.mono l1, g1, p, fun v d M' F' H' l g' r p => k v d M' F' H' (l1.trans l) g' r p⟩
  | false => exact k _ _ M1 F1 H1 l1 g1 rfl p
theorem dw_or (ha : DT X F0 a pA) (hb : DW X F0 (.BoolOp .Or (b :: rest) pos) pB) : DW X F0 (.BoolOp .Or (a :: b :: rest) pos) (dOr pA pB) := by
  refine ⟨PW.weak (pw_or ha.pt hb.pw) fun σ H Q ⟨ρ, M, F, P, l0, sl, g, t, k⟩ => ⟨ρ, M, F, _, l0, sl, g, t, fun v d M1 F1 H1 l1 g1 r1 p => ?_⟩⟩
  cases r1
  cases v with
  | true => exact k _ _ M1 F1 H1 l1 g1 rfl p
  | false => exact ⟨ρ, M1, F1, P, l0.trans l1, sl.mono l1, g1, p, fun v d M' F' H' l g' r p => k v d M' F' H' (l1.trans l) g' r p⟩
theorem dt_w (h : DW X F0 a pA) : DT X F0 a pA := ⟨h.pw.pt⟩
theorem dt_not (ha : DT X F0 a pA) : DT X F0 (.UnaryOp .Not a pos) (dNot pA) :=
  ⟨PT.weak (pt_not ha.pt) fun σ H Q ⟨ρ, M, F, P, l0, sl, g, t, k⟩ => ⟨ρ, M, F, _, l0, sl, g, t, fun v d M1 F1 H1 l1 g1 r1 p => k _ _ M1 F1 H1 l1 g1 (by cases r1; rfl) p⟩⟩
/-- as values -/
def dAndV (tr : DTr) (ta tb : DTE) : DTE := fun ρ M Q => ta ρ M fun x M1 => tr x M1 fun b M2 => if b = true then tb ρ M2 Q else Q x M2
def dOrV (tr : DTr) (ta tb : DTE) : DTE := fun ρ M Q => ta ρ M fun x M1 => tr x M1 fun b M2 => if b = true then Q x M2 else tb ρ M2 Q
def dNotV (tr : DTr) (ta : DTE) : DTE := fun ρ M Q => ta ρ M fun x M1 => tr x M1 fun b M2 => Q (.bl (!b)) M2
theorem de_one {op} (h : DE X F0 a ta) : DE X F0 (.BoolOp op [a] pos) ta := ⟨pe_one h.pe⟩
theorem de_and {tr : DTr} (hr : DTru X F0 tr) (ha : DE X F0 a ta) (hb : DE X F0 (.BoolOp .And (b :: rest) pos) tb) : DE X F0 (.BoolOp .And (a :: b :: rest) pos) (dAndV tr ta tb) := by
  refine ⟨⟨fun pins s σ H Q I ⟨ρ, M, F, P, l0, sl, g, t, k⟩ => ?_⟩⟩
  refine BoolOp_and (thn (ha.pe.run pins s σ H (fun x H1 => ∃ d M1 F1, Le F F1 ∧ Good (Cx.se X) F1 M1 H1 ∧ Rep (Cx.se X) F1 x d ∧ tr d M1 fun b M2 => if b = true then tb ρ M2 P else P d M2) I
    ⟨ρ, M, F, _, l0, sl, g, t, fun v d M' F' H' l g' r p => ⟨d, M', F', l, g', r, p⟩⟩) fun v s1 ⟨x, H1, I1, r1, d, M1, F1, l1, g1, rd, q1⟩ => ?_)
  refine thn (hr pins s1 σ H1 x v (fun b H2 => ∃ M2 F2, Le F1 F2 ∧ Good (Cx.se X) F2 M2 H2 ∧ if b = true then tb ρ M2 P else P d M2) I1 r1 ⟨d, M1, F1, _, l0.trans l1, g1, rd, q1, fun b M2 F2 H2 l2 g2 p => ⟨M2, F2, l2, g2, p⟩⟩) fun b s2 ⟨H2, I2, M2, F2, l2, g2, q2⟩ => ?_
  cases b with
  | true => exact hb.pe.run pins s2 σ H2 Q I2 ⟨ρ, M2, F2, P, (l0.trans l1).trans l2, sl.mono (l1.trans l2), g2, q2, fun v d M' F' H' l g' r p => k v d M' F' H' ((l1.trans l2).trans l) g' r p⟩
  | false => exact ⟨x, H2, I2, r1, k x d M2 F2 H2 (l1.trans l2) g2 (rd.mono l2) q2⟩
theorem de_or {tr : DTr} (hr : DTru X F0 tr) (ha : DE X F0 a ta) (hb : DE X F0 (.BoolOp .Or (b :: rest) pos) tb) : DE X F0 (.BoolOp .Or (a :: b :: rest) pos) (dOrV tr ta tb) := by
  refine ⟨⟨fun pins s σ H Q I ⟨ρ, M, F, P, l0, sl, g, t, k⟩ => ?_⟩⟩
  refine BoolOp_or (thn (ha.pe.run pins s σ H (fun x H1 => ∃ d M1 F1, Le F F1 ∧ Good (Cx.se X) F1 M1 H1 ∧ Rep (Cx.se X) F1 x d ∧ tr d M1 fun b M2 => if b = true then P d M2 else tb ρ M2 P) I
    ⟨ρ, M, F, _, l0, sl, g, t, fun v d M' F' H' l g' r p => ⟨d, M', F', l, g', r, p⟩⟩) fun v s1 ⟨x, H1, I1, r1, d, M1, F1, l1, g1, rd, q1⟩ => ?_)
  refine thn (hr pins s1 σ H1 x v (fun b H2 => ∃ M2 F2, Le F1 F2 ∧ Good (Cx.se X) F2 M2 H2 ∧ if b = true then P d M2 else tb ρ M2 P) I1 r1 ⟨d, M1, F1, _, l0.trans l1, g1, rd, q1, fun b M2 F2 H2 l2 g2 p => ⟨M2, F2, l2, g2, p⟩⟩) fun b s2 ⟨H2, I2, M2, F2, l2, g2, q2⟩ => ?_
  cases b with
  | false => exact hb.pe.run pins s2 σ H2 Q I2 ⟨ρ, M2, F2, P, (l0.trans l1).trans l2, sl.mono (l1.trans l2), g2, q2, fun v d M' F' H' l g' r p => k v d M' F' H' ((l1.trans l2).trans l) g' r p⟩
  | true => exact ⟨x, H2, I2, r1, k x d M2 F2 H2 (l1.trans l2) g2 (rd.mono l2) q2⟩
theorem de_not {tr : DTr} (hr : DTru X F0 tr) (ha : DE X F0 a ta) : DE X F0 (.UnaryOp .Not a pos) (dNotV tr ta) := by
  refine ⟨⟨fun pins s σ H Q I ⟨ρ, M, F, P, l0, sl, g, t, k⟩ => ?_⟩⟩
  refine UnaryOp_ (thn (ha.pe.run pins s σ H (fun x H1 => ∃ d M1 F1, Le F F1 ∧ Good (Cx.se X) F1 M1 H1 ∧ Rep (Cx.se X) F1 x d ∧ tr d M1 fun b M2 => P (.bl (!b)) M2) I
    ⟨ρ, M, F, _, l0, sl, g, t, fun v d M' F' H' l g' r p => ⟨d, M', F', l, g', r, p⟩⟩) fun v s1 ⟨x, H1, I1, r1, d, M1, F1, l1, g1, rd, q1⟩ => ?_)
  refine not_of (thn (hr pins s1 σ H1 x v (fun b H2 => Q (.bl (!b)) H2) I1 r1 ⟨d, M1, F1, _, l0.trans l1, g1, rd, q1, fun b M2 F2 H2 l2 g2 p => k _ _ M2 F2 H2 (l1.trans l2) g2 (.bl _) p⟩) fun b s2 ⟨H2, I2, q2⟩ => ⟨V.bl (!b), H2, I2, rfl, q2⟩)
def dIfE (t : DTT) (ta tb : DTE) : DTE := fun ρ M Q => t ρ M fun b M1 => if b = true then ta ρ M1 Q else tb ρ M1 Q
theorem de_if (hc : DT X F0 c pA) (ha : DE X F0 a ta) (hb : DE X F0 b tb) : DE X F0 (.IfExp c a b pos) (dIfE pA ta tb) := by
  refine ⟨PE.weak (pe_ifExp hc.pt ha.pe hb.pe) fun σ H Q ⟨ρ, M, F, P, l0, sl, g, t, k⟩ => ⟨ρ, M, F, _, l0, sl, g, t, fun v d M1 F1 H1 l1 g1 r1 p => ?_⟩⟩
  cases r1
  cases v with
  | true => exact iteT ⟨ρ, M1, F1, P, l0.trans l1, sl.mono l1, g1, p, fun v d M' F' H' l g' r p => k v d M' F' H' (l1.trans l) g' r p⟩
  | false => exact iteF ⟨ρ, M1, F1, P, l0.trans l1, sl.mono l1, g1, p, fun v d M' F' H' l g' r p => k v d M' F' H' (l1.trans l) g' r p⟩
def dNeg (ta : DTE) : DTE := fun ρ M Q => ta ρ M fun x M1 => match x with
  | .int i => Q (.int (-i)) M1
  | _ => False
theorem de_neg (ha : DE X F0 a ta) : DE X F0 (.UnaryOp .USub a pos) (dNeg ta) := by
  refine ⟨PE.weak (pe_un un_neg ha.pe) fun σ H Q ⟨ρ, M, F, P, l0, sl, g, t, k⟩ => ⟨ρ, M, F, _, l0, sl, g, t, fun v d M1 F1 H1 l1 g1 r1 p => ?_⟩⟩
  split at p
  · cases r1; exact ⟨_, rfl, k _ _ M1 F1 H1 l1 g1 (.int _) p⟩
  · exact p.elim
end
end DL


set_option Elab.async false
set_option linter.all false
set_option maxRecDepth 100000
namespace DL
open PySem PySem.Spec PyProof.Rows L2

/-! ### targets -/
abbrev DTG := D → Ro → Store → (Ro → Store → Prop) → Prop
abbrev DTGs := List D → Ro → Store → (Ro → Store → Prop) → Prop
def lowG (S : SE) (F0 : Hp) (vs : List Nat) (t : DTG) : TG := fun v σ H Q => ∃ d ρ M F P, Le F0 F ∧ Rep S F v d ∧ Slots S F σ ρ ∧ Good S F M H ∧ t d ρ M P ∧
  ∀ σ' ρ' M' F' H', (vs ≠ [] → L2.wipe σ' vs = L2.wipe σ vs) → Le F F' → Slots S F' σ' ρ' → Good S F' M' H' → P ρ' M' → Q σ' H'
def lowGs (S : SE) (F0 : Hp) (vs : List Nat) (t : DTGs) : TGs := fun v σ H Q => ∃ d ρ M F P, Le F0 F ∧ Reps S F v d ∧ Slots S F σ ρ ∧ Good S F M H ∧ t d ρ M P ∧
  ∀ σ' ρ' M' F' H', (vs ≠ [] → L2.wipe σ' vs = L2.wipe σ vs) → Le F F' → Slots S F' σ' ρ' → Good S F' M' H' → P ρ' M' → Q σ' H'
/-- a target; vs: the slots that it may change (none said: any) -/
structure DG (X : Cx) (F0 : Hp) (vs : List Nat) (tg : Expr) (t : DTG) : Prop where
  pg : PG X tg (lowG (Cx.se X) F0 vs t)
structure DGs (X : Cx) (F0 : Hp) (vs : List Nat) (tg : List Expr) (t : DTGs) : Prop where
  pgs : PGs X tg (lowGs (Cx.se X) F0 vs t)
def dgName (i : Nat) : DTG := fun d ρ M Q => Q (ρ.set i (some d)) M
def dgNil : DTGs := fun ds ρ M Q => match ds with
  | [] => Q ρ M
  | _ :: _ => False
def dgCons (t : DTG) (u : DTGs) : DTGs := fun ds ρ M Q => match ds with
  | d :: r => t d ρ M fun ρ1 M1 => u r ρ1 M1 Q
  | [] => False
/-- the items of a tuple or list -/
def asS (M : Store) : D → Option (List D)
  | .tup ds => some ds
  | d => asR M d
def dgTup (n : Nat) (t : DTGs) : DTG := fun d ρ M Q => match asS M d with
  | some ds => ds.length = n ∧ t ds ρ M Q
  | none => False
theorem asS_at {S : SE} {F H : Hp} {M : Store} {d : D} {v : V} {ds : List D} (g : Good S F M H) (r : Rep S F v d) (h : asS M d = some ds) : ∃ a vs, v = .ref a ∧ (SqL S.K H a vs ∨ SqT S.K H a vs) ∧ Reps S F vs ds := by
  unfold asS at h
  split at h
  · obtain ⟨a, vs, e, h1, h2⟩ := asT_at g r h
    exact ⟨a, vs, e, .inr h1, h2⟩
  · obtain ⟨a, vs, e, h1, h2⟩ := asR_at g r h
    exact ⟨a, vs, e, .inl h1, h2⟩
theorem wipe_set {σ : L2.St} {i : Nat} {v : Option V} : ∀ {vs : List Nat}, i ∈ vs → L2.wipe (σ.set i v) vs = L2.wipe σ vs
  | j :: vs, h => by
    show (L2.wipe (σ.set i v) vs).set j none = (L2.wipe σ vs).set j none
    by_cases hm : i ∈ vs
    · rw [wipe_set hm]
    · have e : j = i := by
        rcases List.mem_cons.mp h with e | e
        · exact e.symm
        · exact absurd e hm
      subst e
      have key : ∀ ws : List Nat, L2.wipe (σ.set j v) ws = (L2.wipe σ ws).set j (if j ∈ ws then none else v) := by
        intro ws
        induction ws with
        | nil => simp [L2.wipe]
        | cons k ws ih =>
          show (L2.wipe (σ.set j v) ws).set k none = ((L2.wipe σ ws).set k none).set j _
          rw [ih]
          by_cases ek : k = j
          · subst ek
            simp
          · rw [List.set_comm _ _ (Ne.symm ek)]
            congr 1
            by_cases e2 : j ∈ ws
            · simp [e2]
            · have : ¬ j = k := fun z => ek z.symm
              simp [e2, this]
      rw [key, if_neg hm, List.set_set]
section
variable {X : Cx} {F0 : Hp} {vs : List Nat} {pos : Pos}
theorem dg_name {i : Nat} {x : Str} (hN : X.N.Nodup) (hi : X.N[i]? = some x) (hx : Loc X.env.scope x) (hvs : vs ≠ [] → i ∈ vs) (hf : X.fn x = true ∨ X.env.scope.names.lookup x = some .local := by first | exact .inl rfl | exact .inr rfl) : DG X F0 vs (.Name x pos) (dgName i) := by
  refine ⟨⟨fun pins s σ H v u Q I r ⟨d, ρ, M, F, P, l0, rd, sl, g, t, k⟩ => (pg_name hN hi hx hf).run pins s σ H v u Q I r ?_⟩⟩
  exact k _ _ M F H (fun h => wipe_set (hvs h)) (Le.refl F) (sl.set i rd) g t
theorem dgs_nil : DGs X F0 vs [] dgNil := by
  refine ⟨⟨fun pins s σ H v u Q I r ⟨d, ρ, M, F, P, l0, rd, sl, g, t, k⟩ => pgs_nil.run pins s σ H v u Q I r ?_⟩⟩
  cases rd with
  | nil => exact ⟨rfl, k _ _ M F H (fun _ => rfl) (Le.refl F) sl g t⟩
  | cons _ _ => exact t.elim
theorem dgs_cons {e : Expr} {es : List Expr} {t : DTG} {u : DTGs} (h1 : DG X F0 vs e t) (h2 : DGs X F0 vs es u)
    (hs : (assignEach (e :: es) X.env).map (·.2) = assign e X.env :: (assignEach es X.env).map (·.2) := by rfl) : DGs X F0 vs (e :: es) (dgCons t u) := by
  refine ⟨⟨fun pins s σ H v w Q I r ⟨d, ρ, M, F, P, l0, rd, sl, g, t, k⟩ => (pgs_cons h1.pg h2.pgs hs).run pins s σ H v w Q I r ?_⟩⟩
  cases rd with
  | nil => exact t.elim
  | cons ra rr =>
    exact ⟨_, _, rfl, _, ρ, M, F, _, l0, ra, sl, g, t, fun σ1 ρ1 M1 F1 H1 w1 l1 s1 g1 p1 => ⟨_, ρ1, M1, F1, P, l0.trans l1, rr.mono l1, s1, g1, p1, fun σ' ρ' M' F' H' w2 l2 s2 g2 p2 =>
      k σ' ρ' M' F' H' (fun z => (w2 z).trans (w1 z)) (l1.trans l2) s2 g2 p2⟩⟩
theorem dg_tup {es : List Expr} {k : Nat} {t : DTGs} {n : Nat} (hc : X.calm = true) (h : DGs X F0 vs es t)
    (hn : (assignEach es X.env).length = n := by rfl) (hst : (assignEach es X.env).findIdx? (·.1) = none := by rfl) : DG X F0 vs (.Tuple es k pos) (dgTup n t) := by
  refine ⟨⟨fun pins s σ H v u Q I r ⟨d, ρ, M, F, P, l0, rd, sl, g, tt, kk⟩ => ?_⟩⟩
  unfold dgTup at tt
  split at tt
  · rename_i ds e
    obtain ⟨a, ws, rfl, hq, rs⟩ := asS_at g rd e
    rcases hq with hq | hq
    · refine (pg_lst hc h.pgs hn hst).run pins s σ H _ u Q I r ⟨a, ws, rfl, hq, by rw [rs.len]; exact tt.1, ds, ρ, M, F, P, l0, rs, sl, g, tt.2, kk⟩
    · refine (pg_tup hc h.pgs hn hst).run pins s σ H _ u Q I r ⟨a, ws, rfl, hq, by rw [rs.len]; exact tt.1, ds, ρ, M, F, P, l0, rs, sl, g, tt.2, kk⟩
  · exact tt.elim
/-! o[i] = v -/
abbrev DSet := D → D → D → Store → (Store → Prop) → Prop
def lowSet (S : SE) (F0 : Hp) (t : DSet) : TSet := fun o i v H Q => ∃ do_ di dv M F P, Le F0 F ∧ Rep S F o do_ ∧ Rep S F i di ∧ Rep S F v dv ∧ Good S F M H ∧ t do_ di dv M P ∧
  ∀ M' F' H', Le F F' → Good S F' M' H' → P M' → Q H'
def DSetR (X : Cx) (F0 : Hp) (t : DSet) : Prop := PSet X (lowSet (Cx.se X) F0 t)
def rdSetL : DSet := fun o i v M Q => match o, i with
  | .ref a, .int j => match M a with
    | some (.lst ds) => match ixN ds.length j with
      | some n => Q (updM M a (.lst (ds.set n v)))
      | none => False
    | _ => False
  | _, _ => False
theorem ds_list : DSetR X F0 rdSetL := by
  intro pins s σ H o i v ov iv u Q I ro ri rv ⟨d1, d2, d3, M, F, P, l0, h1, h2, h3, g, t, k⟩
  unfold rdSetL at t
  split at t
  · cases h1; cases h2
    split at t
    · rename_i ds e
      obtain ⟨f, ob, hH, rm⟩ := g.cel _ _ e
      cases rm with
      | lst rs =>
        split at t
        · rename_i n en
          refine set_list pins s σ H _ _ v ov iv u Q I ro ri rv ⟨_, _, _, n, rfl, rfl, hH, by rw [rs.len]; exact en, ?_⟩
          exact k _ F _ (Le.refl F) (g.set e (.lst (rs.set n h3))) t
        · exact t.elim
    · exact t.elim
  · exact t.elim
variable {o i : Expr} {to ti : DTE}
def dgSub (to ti : DTE) (t : DSet) : DTG := fun d ρ M Q => to ρ M fun o M1 => ti ρ M1 fun i M2 => t o i d M2 fun M3 => Q ρ M3
theorem dg_sub {t : DSet} (ho : DE X F0 o to) (hi : DE X F0 i ti) (hs : DSetR X F0 t)
    (ha : ∀ v, assign (.Subscript o i pos) X.env v = (do
      let ov ← holding [v] (eval o X.env)
      let iv ← holding [v, ov] (eval i X.env)
      standAt pos
      holding [v, ov, iv] (setItem ov iv v)
      release [v, ov, iv] []) := by intro _; rfl) : DG X F0 vs (.Subscript o i pos) (dgSub to ti t) := by
  refine ⟨⟨fun pins s σ H v u Q I r ⟨d, ρ, M, F, P, l0, rd, sl, g, t, k⟩ => (pg_sub ho.pe hi.pe hs ha).run pins s σ H v u Q I r ?_⟩⟩
  exact ⟨ρ, M, F, _, l0, sl, g, t, fun v1 d1 M1 F1 H1 l1 g1 r1 p1 => ⟨ρ, M1, F1, _, l0.trans l1, sl.mono l1, g1, p1, fun v2 d2 M2 F2 H2 l2 g2 r2 p2 =>
    ⟨d1, d2, d, M2, F2, _, (l0.trans l1).trans l2, r1.mono l2, r2, rd.mono (l1.trans l2), g2, p2, fun M3 F3 H3 l3 g3 p3 => k σ ρ M3 F3 H3 (fun _ => rfl) ((l1.trans l2).trans l3) (sl.mono ((l1.trans l2).trans l3)) g3 p3⟩⟩⟩
end

/-! ### statements -/
section
variable {X : Cx} {F0 : Hp} {pos : Pos} {e : Expr} {te : DTE} {st : Stmt} {rest : List Stmt} {t u : DTS}
def dNext : DTS := fun D ρ M => D.nx ρ M
def dSeq (t u : DTS) : DTS := fun D ρ M => t { D with nx := u D } ρ M
theorem dss_nil : DSs X F0 [] dNext := ⟨PSs.weak pss_nil fun E σ H ⟨ρ, M, F, D, l0, sl, g, t, k1, k2, k3, k4⟩ => k1 σ ρ M F H (Le.refl F) sl g t⟩
theorem dss_cons (h1 : DS X F0 st t) (h2 : DSs X F0 rest u) : DSs X F0 (st :: rest) (dSeq t u) := by
  refine ⟨PSs.weak (pss_cons h1.ps h2.pss) fun E σ H ⟨ρ, M, F, D, l0, sl, g, tt, k1, k2, k3, k4⟩ => ?_⟩
  refine ⟨ρ, M, F, { D with nx := u D }, l0, sl, g, tt, fun σ' ρ' M' F' H' l s' g' p => ?_, k2, k3, k4⟩
  exact ⟨ρ', M', F', D, l0.trans l, s', g', p, fun a b c d e f => k1 a b c d e (l.trans f), fun a b c d e f => k2 a b c d e (l.trans f), fun a b c d e f => k3 a b c d e (l.trans f), fun a b c d e f => k4 a b c d e (l.trans f)⟩
theorem dss_one (h1 : DS X F0 st t) : DSs X F0 [st] t := ⟨pss_one h1.ps⟩
theorem ds_pass : DS X F0 (.Pass pos) dNext := ⟨PS.weak ps_pass fun E σ H ⟨ρ, M, F, D, l0, sl, g, t, k1, k2, k3, k4⟩ => k1 σ ρ M F H (Le.refl F) sl g t⟩
def dBreak : DTS := fun D ρ M => D.bk ρ M
def dCont : DTS := fun D ρ M => D.ct ρ M
theorem ds_break : DS X F0 (.Break pos) dBreak := ⟨PS.weak ps_break fun E σ H ⟨ρ, M, F, D, l0, sl, g, t, k1, k2, k3, k4⟩ => k3 σ ρ M F H (Le.refl F) sl g t⟩
theorem ds_cont : DS X F0 (.Continue pos) dCont := ⟨PS.weak ps_continue fun E σ H ⟨ρ, M, F, D, l0, sl, g, t, k1, k2, k3, k4⟩ => k4 σ ρ M F H (Le.refl F) sl g t⟩
def dDrop (te : DTE) : DTS := fun D ρ M => te ρ M fun _ M1 => D.nx ρ M1
theorem ds_expr (he : DE X F0 e te) (hs : swapsWith e none pos.line X.env = pure false := by rfl) : DS X F0 (.Expr e pos) (dDrop te) :=
  ⟨PS.weak (ps_expr he.pe hs) fun E σ H ⟨ρ, M, F, D, l0, sl, g, t, k1, k2, k3, k4⟩ => ⟨ρ, M, F, _, l0, sl, g, t, fun v d M' F' H' l g' r p => k1 σ ρ M' F' H' l (sl.mono l) g' p⟩⟩
def dRet (te : DTE) : DTS := fun D ρ M => te ρ M D.rt
theorem ds_ret (he : DE X F0 e te) : DS X F0 (.Return (some e) pos) (dRet te) :=
  ⟨PS.weak (ps_ret he.pe) fun E σ H ⟨ρ, M, F, D, l0, sl, g, t, k1, k2, k3, k4⟩ => ⟨ρ, M, F, _, l0, sl, g, t, fun v d M' F' H' l g' r p => k2 v d M' F' H' l g' r p⟩⟩
def dRetN : DTS := fun D ρ M => D.rt .non M
theorem ds_retN : DS X F0 (.Return none pos) dRetN :=
  ⟨PS.weak ps_retN fun E σ H ⟨ρ, M, F, D, l0, sl, g, t, k1, k2, k3, k4⟩ => k2 _ _ M F H (Le.refl F) g .non t⟩
def dIf (c : DTT) (t u : DTS) : DTS := fun D ρ M => c ρ M fun b M1 => if b = true then t D ρ M1 else u D ρ M1
theorem ds_if {c : Expr} {a b : List Stmt} {tc : DTT} (hc : DT X F0 c tc) (ha : DSs X F0 a t) (hb : DSs X F0 b u) : DS X F0 (.If c a b pos) (dIf tc t u) := by
  refine ⟨PS.weak (ps_if hc.pt ha.pss hb.pss) fun E σ H ⟨ρ, M, F, D, l0, sl, g, t, k1, k2, k3, k4⟩ => ⟨ρ, M, F, _, l0, sl, g, t, fun v d M' F' H' l g' r p => ?_⟩⟩
  cases r
  have fin : ∀ w : DTS, w D ρ M' → lowS (Cx.se X) F0 w E σ H' := fun w q => ⟨ρ, M', F', D, l0.trans l, sl.mono l, g', q, fun a b c d e f => k1 a b c d e (l.trans f), fun a b c d e f => k2 a b c d e (l.trans f), fun a b c d e f => k3 a b c d e (l.trans f), fun a b c d e f => k4 a b c d e (l.trans f)⟩
  cases v with
  | true => exact iteT (fin _ p)
  | false => exact iteF (fin _ p)
/-- target = value -/
def dAsg (te : DTE) (g : DTG) : DTS := fun D ρ M => te ρ M fun x M1 => g x ρ M1 D.nx
theorem low_asg {te : DTE} {g : DTG} {E : Ends} {σ : L2.St} {H : Hp} (h : lowS (Cx.se X) F0 (dAsg te g) E σ H) : tAsg (low (Cx.se X) F0 (fun F => Rep (Cx.se X) F) te) (lowG (Cx.se X) F0 [] g) E σ H := by
  obtain ⟨ρ, M, F, D, l0, sl, g, t, k1, k2, k3, k4⟩ := h
  exact ⟨ρ, M, F, _, l0, sl, g, t, fun v d M1 F1 H1 l1 g1 r1 p1 => ⟨d, ρ, M1, F1, _, l0.trans l1, r1, sl.mono l1, g1, p1, fun σ' ρ' M' F' H' _ l2 s2 g2 p2 => k1 σ' ρ' M' F' H' (l1.trans l2) s2 g2 p2⟩⟩
theorem ds_asg {tg : Expr} {g : DTG} (he : DE X F0 e te) (hg : DG X F0 [] tg g) (hs : swapsWithSole [tg] e pos.line X.env = pure false := by rfl) (hw : swappedStores [tg] e X.env = pure none := by rfl)
    (h1 : (assignEach [tg] X.env).map (·.2) = [assign tg X.env] := by rfl) : DS X F0 (.Assign [tg] e pos) (dAsg te g) :=
  ⟨PS.weak (ps_asg he.pe hg.pg hs hw h1) fun E σ H h => low_asg h⟩
/-- name = value -/
theorem ds_set {i : Nat} {x : Str} {pos' : Pos} (hN : X.N.Nodup) (hi : X.N[i]? = some x) (hx : Loc X.env.scope x) (he : DE X F0 e te) (hs : swapsWith e (some (.Name x pos')) pos.line X.env = pure false := by rfl)
    (hf : X.fn x = true ∨ X.env.scope.names.lookup x = some .local := by first | exact .inl rfl | exact .inr rfl | assumption) : DS X F0 (.Assign [.Name x pos'] e pos) (dAsg te (dgName i)) := by
  refine ⟨PS.weak (ps_set hN hi hx he.pe hs hf) fun E σ H ⟨ρ, M, F, D, l0, sl, g, t, k1, k2, k3, k4⟩ => ?_⟩
  exact ⟨ρ, M, F, _, l0, sl, g, t, fun v d M1 F1 H1 l1 g1 r1 p1 => k1 _ _ M1 F1 H1 l1 ((sl.mono l1).set i r1) g1 p1⟩
/-- a, b = x, y -/
def dPar (i j : Nat) (ta : DTA) : DTS := fun D ρ M => ta ρ M fun ds M1 => match ds with
  | [v, w] => D.nx ((ρ.set i (some v)).set j (some w)) M1
  | _ => False
theorem ds_par {i j : Nat} {x y : Str} {a b : Expr} {ta : DTA} {px py pt : Pos} {kt k2 pt2} (hc : X.calm = true) (hN : X.N.Nodup) (hi : X.N[i]? = some x) (hj : X.N[j]? = some y) (hij : i ≠ j)
    (hx : X.env.scope.names.lookup x = some .local) (hy : X.env.scope.names.lookup y = some .local) (ha : DA X F0 [a, b] ta)
    (hw : swappedStores [.Tuple [.Name x px, .Name y py] kt pt] (.Tuple [a, b] k2 pt2) X.env = pure (some [x, y]) := by rfl)
    (hs : swapsWithSole [.Tuple [.Name x px, .Name y py] kt pt] (.Tuple [a, b] k2 pt2) pos.line X.env = pure false := by rfl) :
    DS X F0 (.Assign [.Tuple [.Name x px, .Name y py] kt pt] (.Tuple [a, b] k2 pt2) pos) (dPar i j ta) := by
  refine ⟨PS.weak (ps_par hc hN hi hj hij hx hy ha.pa hw hs) fun E σ H ⟨ρ, M, F, D, l0, sl, g, t, k1, k2, k3, k4⟩ => ⟨ρ, M, F, _, l0, sl, g, t, fun v d M1 F1 H1 l1 g1 r1 p1 => ?_⟩⟩
  split at p1
  · cases r1 with
    | cons ra rr => cases rr with
      | cons rb rz =>
        cases rz
        exact ⟨_, _, rfl, k1 _ _ M1 F1 H1 l1 (((sl.mono l1).set i ra).set j rb) g1 p1⟩
  · exact p1.elim
/-- name op= value -/
def lowIp (S : SE) (F0 : Hp) (t : DR2) : TIp := low2 S F0 t
def DIp (X : Cx) (F0 : Hp) (op : Operator) (t : DR2) : Prop := PIp X op (low2 (Cx.se X) F0 t)
def dAug (i : Nat) (te : DTE) (ti : DR2) : DTS := fun D ρ M => match ρ[i]? with
  | some (some x) => te ρ M fun y M1 => ti x y M1 fun z M2 => D.nx (ρ.set i (some z)) M2
  | _ => False
theorem ds_aug {i : Nat} {x : Str} {op : Operator} {ti : DR2} {pos' : Pos} (hN : X.N.Nodup) (hi : X.N[i]? = some x) (hx : Loc X.env.scope x) (he : DE X F0 e te) (ho : DIp X F0 op ti)
    (hf : X.fn x = true ∨ X.env.scope.names.lookup x = some .local := by first | exact .inl rfl | exact .inr rfl | assumption) : DS X F0 (.AugAssign (.Name x pos') op e pos) (dAug i te ti) := by
  refine ⟨PS.weak (ps_aug hN hi hx he.pe ho hf) fun E σ H ⟨ρ, M, F, D, l0, sl, g, t, k1, k2, k3, k4⟩ => ?_⟩
  unfold dAug at t
  split at t
  · rename_i d e1
    obtain ⟨v, e2, r⟩ := sl.get e1
    exact ⟨v, e2, ρ, M, F, _, l0, sl, g, t, fun w d1 M1 F1 H1 l1 g1 r1 p1 => ⟨d, d1, M1, F1, _, l0.trans l1, g1, r.mono l1, r1, p1, fun z d2 M2 F2 H2 l2 g2 r2 p2 =>
      k1 _ _ M2 F2 H2 (l1.trans l2) ((sl.mono (l1.trans l2)).set i r2) g2 p2⟩⟩
  · exact t.elim
theorem di_of {op : Operator} {rd : DR2} (h : DOp X F0 (inplaceOp op) rd) : DIp X F0 op rd := h
/-! the in-place operators on ints, texts, tuples; lists that stand in M are extended in place -/
def rdIAdd : DR2 := fun x y M Q => match x, y with
  | .int i, .int j => Q (.int (i + j)) M
  | .str i, .str j => i.length + j.length ≤ sizeLine ∧ Q (.str (i ++ j)) M
  | .ref a, y => match M a, asL M y with
    | some (.lst xs), some ys => xs.length + ys.length ≤ sizeLine ∧ Q (.ref a) (updM M a (.lst (xs ++ ys)))
    | _, _ => False
  | _, _ => False
theorem dip_add : DIp X F0 .Add rdIAdd := by
  intro pins s σ H x y v u Q I rx ry ⟨dx, dy, M, F, P, l0, g, hx, hy, t, k⟩
  unfold rdIAdd at t
  split at t
  · cases hx; cases hy
    exact iop_add pins s σ H _ _ v u Q I rx ry ⟨_, _, rfl, rfl, k _ _ M F H (Le.refl F) g (.int _) t⟩
  · cases hx; cases hy
    exact iop_add_str pins s σ H _ _ v u Q I rx ry ⟨_, _, rfl, rfl, t.1, k _ _ M F H (Le.refl F) g (.str _) t.2⟩
  · cases hx
    split at t
    · rename_i xs ys e1 e2
      obtain ⟨f, ob, hH, rm⟩ := g.cel _ _ e1
      cases rm with
      | lst rs =>
        obtain ⟨b, ws, rfl, h2, r2⟩ := asL_at g hy e2
        exact iop_ext pins s σ H _ _ v u Q I rx ry ⟨_, b, _, ws, rfl, rfl, hH, h2, by rw [rs.len, r2.len]; exact t.1, k _ _ _ F _ (Le.refl F) (g.set e1 (.lst (rs.append r2))) (.ref _) t.2⟩
    · exact t.elim
  · exact t.elim
theorem dip_mul : DIp X F0 .Mult (rdI CMul fun i j => .int (i * j)) := di_of (do_int iop_mul fun _ _ _ => .int _)
theorem dip_sub : DIp X F0 .Sub rdSub := di_of (do_int0 iop_sub fun _ _ _ => .int _)

/-! ### arguments, displays -/
def daNil : DTA := fun _ M Q => Q [] M
def daCons (ta : DTE) (tr : DTA) : DTA := fun ρ M Q => ta ρ M fun x M1 => tr ρ M1 fun xs M2 => Q (x :: xs) M2
theorem da_nil : DA X F0 [] daNil := ⟨PA.weak pa_nil fun σ H Q ⟨ρ, M, F, P, l0, sl, g, t, k⟩ => k _ _ M F H (Le.refl F) g .nil t⟩
theorem da_cons {es : List Expr} {tr : DTA} (ha : DE X F0 e te) (hr : DA X F0 es tr) (hs : starEach (e :: es) X.env = (false, eval e X.env) :: starEach es X.env := by rfl) : DA X F0 (e :: es) (daCons te tr) :=
  ⟨PA.weak (pa_cons ha.pe hr.pa hs) fun σ H Q ⟨ρ, M, F, P, l0, sl, g, t, k⟩ => ⟨ρ, M, F, _, l0, sl, g, t, fun v d M1 F1 H1 l1 g1 r1 p1 => ⟨ρ, M1, F1, _, l0.trans l1, sl.mono l1, g1, p1, fun vs ds M2 F2 H2 l2 g2 r2 p2 =>
    k _ _ M2 F2 H2 (l1.trans l2) g2 (.cons (r1.mono l2) r2) p2⟩⟩⟩
variable {es : List Expr} {ta : DTA}
def dTup (ta : DTA) : DTE := fun ρ M Q => ta ρ M fun ds M1 => ds.length ≤ sizeLine ∧ Q (.tup ds) M1
def dLst (ta : DTA) : DTE := fun ρ M Q => ta ρ M fun ds M1 => ds.length ≤ sizeLine ∧ Q (.lst ds) M1
def dLstM (ta : DTA) : DTE := fun ρ M Q => ta ρ M fun ds M1 => ds.length ≤ sizeLine ∧ ∀ p, M1 p = none → Q (.ref p) (updM M1 p (.lst ds))
theorem de_tup {x1} (h : DA X F0 es ta) : DE X F0 (.Tuple es x1 pos) (dTup ta) :=
  ⟨PE.weak (pe_tup h.pa) fun σ H Q ⟨ρ, M, F, P, l0, sl, g, t, k⟩ => ⟨ρ, M, F, _, l0, sl, g, t, fun v d M1 F1 H1 l1 g1 r1 p1 => ⟨by rw [r1.len]; exact p1.1, fun p hp =>
    k _ _ M1 _ _ (l1.trans (Le.new (g1.freshF hp))) (g1.new hp) (.tup (.inl (.inl upd_same)) (r1.mono (Le.new (g1.freshF hp)))) p1.2⟩⟩⟩
theorem de_lst (h : DA X F0 es ta) : DE X F0 (.List es pos) (dLst ta) :=
  ⟨PE.weak (pe_lst h.pa) fun σ H Q ⟨ρ, M, F, P, l0, sl, g, t, k⟩ => ⟨ρ, M, F, _, l0, sl, g, t, fun v d M1 F1 H1 l1 g1 r1 p1 => ⟨by rw [r1.len]; exact p1.1, fun p hp =>
    k _ _ M1 _ _ (l1.trans (Le.new (g1.freshF hp))) (g1.new hp) (.lst upd_same (r1.mono (Le.new (g1.freshF hp)))) p1.2⟩⟩⟩
theorem de_lstM (h : DA X F0 es ta) : DE X F0 (.List es pos) (dLstM ta) :=
  ⟨PE.weak (pe_lst h.pa) fun σ H Q ⟨ρ, M, F, P, l0, sl, g, t, k⟩ => ⟨ρ, M, F, _, l0, sl, g, t, fun v d M1 F1 H1 l1 g1 r1 p1 => ⟨by rw [r1.len]; exact p1.1, fun p hp =>
    k _ _ _ F1 _ l1 (g1.newM hp (.lst r1)) (.ref p) (p1.2 p (g1.freshM hp))⟩⟩⟩
/-- a mutable object becomes a value -/
def dFrz (te : DTE) : DTE := fun ρ M Q => te ρ M fun x M1 => match x with
  | .ref a => match M1 a with
    | some (.lst ds) => Q (.lst ds) (delM M1 a)
    | some (.dct kvs) => Q (.dct kvs) (delM M1 a)
    | some (.ins c fs) => Q (.obj c fs) (delM M1 a)
    | none => False
  | x => Q x M1
theorem de_frz (h : DE X F0 e te) : DE X F0 e (dFrz te) := by
  refine ⟨PE.weak h.pe fun σ H Q ⟨ρ, M, F, P, l0, sl, g, t, k⟩ => ⟨ρ, M, F, _, l0, sl, g, t, fun v d M1 F1 H1 l1 g1 r1 p1 => ?_⟩⟩
  split at p1
  · cases r1
    split at p1
    · rename_i e1
      obtain ⟨f, ob, hH, rm⟩ := g1.cel _ _ e1
      cases rm with
      | lst rs => exact k _ _ _ _ H1 (l1.trans (Le.new f)) (g1.freeze e1 hH) (.lst upd_same (rs.mono (Le.new f))) p1
    · rename_i e1
      obtain ⟨f, ob, hH, rm⟩ := g1.cel _ _ e1
      cases rm with
      | dctK rs => exact k _ _ _ _ H1 (l1.trans (Le.new f)) (g1.freeze e1 hH) (.dctK (.inl upd_same) (rs.mono (Le.new f))) p1
    · rename_i e1
      obtain ⟨f, ob, hH, rm⟩ := g1.cel _ _ e1
      cases rm with
      | ins hc rs => exact k _ _ _ _ H1 (l1.trans (Le.new f)) (g1.freeze e1 hH) (.obj upd_same hc (rs.mono (Le.new f))) p1
    · exact p1.elim
  · exact k v _ M1 F1 H1 l1 g1 r1 p1
end

/-! ### what is walked -/
/-- the iterator J yields just ds while L holds of the store -/
def Walks (S : SE) (F0 : Hp) (J : It) (ds : List D) (L : Store → Prop) : Prop := ∀ i H F M, Le F0 F → Good S F M H → L M →
  (i < ds.length → J.go i H ∧ ∀ x H', J.yld i H x H' → ∃ F' d, Le F F' ∧ Good S F' M H' ∧ ds[i]? = some d ∧ Rep S F' x d) ∧ (i = ds.length → J.stop i H)
abbrev DTI := Ro → Store → (List D → (Store → Prop) → Store → Prop) → Prop
def lowI (S : SE) (F0 : Hp) (t : DTI) : TI := fun σ H R => ∃ ρ M F P, Le F0 F ∧ Slots S F σ ρ ∧ Good S F M H ∧ t ρ M P ∧
  ∀ ds L J M' F' H', Le F F' → Good S F' M' H' → Walks S F' J ds L → P ds L M' → R J H'
structure DI (X : Cx) (F0 : Hp) (tg iter : Expr) (t : DTI) : Prop where
  pi : PI X tg iter (lowI (Cx.se X) F0 t)
/-- what keeps a list as it is -/
def Held (d : D) (ds : List D) : Store → Prop := match d with
  | .ref a => fun M => M a = some (.lst ds)
  | _ => fun _ => True
def dItem (te : DTE) : DTI := fun ρ M R => te ρ M fun x M1 => match asS M1 x with
  | some ds => R ds (Held x ds) M1
  | none => False
theorem walks_list {S : SE} {F0 : Hp} {a : Addr} {d : D} {ds : List D} (hr : ∀ H F M, Le F0 F → Good S F M H → Held d ds M → ∃ vs, SqL S.K H a vs ∧ Reps S F vs ds) (inj : True) : Walks S F0 (Itl S.K a) ds (Held d ds) := by
  intro i H F M l g h
  obtain ⟨vs, hq, r⟩ := hr H F M l g h
  refine ⟨fun hi => ⟨?_, fun x H' y => ?_⟩, fun e => ⟨vs, hq, by rw [r.len]; omega⟩⟩
  · obtain ⟨v, hv, _⟩ := r.get (List.getElem?_eq_getElem hi)
    exact ⟨vs, v, hq, hv⟩
  · obtain ⟨rfl, y⟩ := y
    obtain ⟨d, hd, rd⟩ := r.getV (y vs hq)
    exact ⟨F, d, Le.refl F, g, hd, rd⟩
theorem walks_tup {S : SE} {F0 : Hp} {a : Addr} {ds : List D} {L : Store → Prop} (hr : ∀ H F M, Le F0 F → Good S F M H → L M → ∃ vs, SqT S.K H a vs ∧ Reps S F vs ds) : Walks S F0 (Itt S.K a) ds L := by
  intro i H F M l g h
  obtain ⟨vs, hq, r⟩ := hr H F M l g h
  refine ⟨fun hi => ⟨?_, fun x H' y => ?_⟩, fun e => ⟨vs, hq, by rw [r.len]; omega⟩⟩
  · obtain ⟨v, hv, _⟩ := r.get (List.getElem?_eq_getElem hi)
    exact ⟨vs, v, hq, hv⟩
  · obtain ⟨rfl, y⟩ := y
    obtain ⟨d, hd, rd⟩ := r.getV (y vs hq)
    exact ⟨F, d, Le.refl F, g, hd, rd⟩
section
variable {X : Cx} {F0 : Hp} {tg e : Expr} {te : DTE} {pos : Pos}
theorem di_seq (he : DE X F0 e te) : DI X F0 tg e (dItem te) := by
  refine ⟨⟨fun pins s σ H R I ⟨ρ, M, F, P, l0, sl, g, t, k⟩ => ?_⟩⟩
  refine thn (he.pe.run pins s σ H (fun x H1 => ∃ d M1 F1, Le F F1 ∧ Good (Cx.se X) F1 M1 H1 ∧ Rep (Cx.se X) F1 x d ∧ (match asS M1 d with | some ds => P ds (Held d ds) M1 | none => False)) I
    ⟨ρ, M, F, _, l0, sl, g, t, fun v d M1 F1 H1 l1 g1 r1 p1 => ⟨d, M1, F1, l1, g1, r1, p1⟩⟩) fun u s1 ⟨x, H1, I1, ru, d, M1, F1, l1, g1, r1, p1⟩ => ?_
  split at p1
  · rename_i ds ed
    have tuple : ∀ a vs, x = .ref a → SqT X.K H1 a vs → Reps (Cx.se X) F1 vs ds → (∀ H' F' M', Le F1 F' → Good (Cx.se X) F' M' H' → Held d ds M' → ∃ vs, SqT X.K H' a vs ∧ Reps (Cx.se X) F' vs ds) → wpAny (model X.prog X.w) X.A (pyIter u) (PIE X pins σ tg R) X.xe s1 := fun a vs ex hq rs hr => by
      subst ex
      cases ru
      obtain ⟨its, rv, p, hz⟩ := I1.tuple hq
      refine wpAny_pyIter_tuple (show s1.heap.IsTuple a its.toArray from p) ?_
      refine ⟨s1.heap.objs.size, [s1.heap.objs.size], _, _, H1, rfl, I1.kept (t' := s1.toks) fun b o e => Heap.get?_push_of_some _ e, turn_tuple a _, ⟨_, Heap.get?_push_size _ rfl, rfl, rfl⟩, fun b hb => ?_, k ds _ _ M1 F1 H1 l1 g1 (walks_tup hr) p1⟩
      have e : b = s1.heap.objs.size := by simpa using hb
      rw [e]
      exact I1.fpOk (Nat.le_refl _) (I1.hok.fresh (Nat.le_refl _))
    have list : ∀ a vs, x = .ref a → SqL X.K H1 a vs → Reps (Cx.se X) F1 vs ds → (∀ H' F' M', Le F1 F' → Good (Cx.se X) F' M' H' → Held d ds M' → ∃ vs, SqL X.K H' a vs ∧ Reps (Cx.se X) F' vs ds) → wpAny (model X.prog X.w) X.A (pyIter u) (PIE X pins σ tg R) X.xe s1 := fun a vs ex hq rs hr => by
      subst ex
      cases ru
      obtain ⟨its, rv, p, hz⟩ := I1.list hq
      refine wpAny_pyIter_list p.isList ?_
      refine ⟨s1.heap.objs.size, [s1.heap.objs.size], _, _, H1, rfl, I1.kept (t' := s1.toks) fun b o e => Heap.get?_push_of_some _ e, turn_list a _, ⟨_, Heap.get?_push_size _ rfl, rfl, rfl⟩, fun b hb => ?_, k ds _ _ M1 F1 H1 l1 g1 (walks_list hr trivial) p1⟩
      have e : b = s1.heap.objs.size := by simpa using hb
      rw [e]
      exact I1.fpOk (Nat.le_refl _) (I1.hok.fresh (Nat.le_refl _))
    cases d with
    | tup es =>
      cases ed
      cases r1 with
      | tup hq rs => exact tuple _ _ rfl (g1.sqT hq) rs fun H' F' M' l g' _ => ⟨_, g'.sqT (l.sqT hq), rs.mono l⟩
    | lst es =>
      cases ed
      cases r1 with
      | lst hq rs => exact list _ _ rfl (.inl (.inl (g1.sub _ _ hq))) rs fun H' F' M' l g' _ => ⟨_, .inl (.inl (g'.sub _ _ (l.lst _ _ hq))), rs.mono l⟩
    | fro es =>
      cases ed
      cases r1 with
      | fro hq rs => exact list _ _ rfl (g1.sqL hq) rs fun H' F' M' l g' _ => ⟨_, g'.sqL (l.sqL hq), rs.mono l⟩
    | ref a =>
      obtain ⟨b, vs, ex, hq, rs⟩ := asR_at g1 r1 ed
      subst ex
      cases r1
      refine list _ _ rfl hq rs fun H' F' M' l g' hl => ?_
      obtain ⟨_, ob, hH, rm⟩ := g'.cel a (.lst ds) hl
      cases rm with
      | lst rs => exact ⟨_, .inl (.inl hH), rs⟩
    | _ => cases ed
  · exact p1.elim
/-! range -/
def rangeD (lo : Int) (n : Nat) : List D := (List.range n).map fun (i : Nat) => .int (lo + (i : Int))
theorem rangeD_len (lo : Int) (n : Nat) : (rangeD lo n).length = n := by simp [rangeD]
theorem walks_range {S : SE} {lo : Int} {n : Nat} {L : Store → Prop} : Walks S F0 (Itr lo n) (rangeD lo n) L := by
  intro i H F M l g h
  rw [rangeD_len]
  refine ⟨fun hi => ⟨hi, fun x H' y => ?_⟩, fun e => Nat.le_of_eq e.symm⟩
  obtain ⟨rfl, rfl⟩ := y
  exact ⟨F, .int (lo + i), Le.refl F, g, by simp [rangeD, hi], .int _⟩
def dRange1 (ta : DTA) : DTI := fun ρ M R => ta ρ M fun ds M1 => match ds with
  | [.int j] => -(2 ^ 62) ≤ j ∧ j < 2 ^ 62 ∧ R (rangeD 0 j.toNat) (fun _ => True) M1
  | _ => False
def dRange2 (ta : DTA) : DTI := fun ρ M R => ta ρ M fun ds M1 => match ds with
  | [.int i, .int j] => (-(2 ^ 62) ≤ i ∧ i < 2 ^ 62 ∧ -(2 ^ 62) ≤ j ∧ j < 2 ^ 62) ∧ R (rangeD i (j - i).toNat) (fun _ => True) M1
  | _ => False
theorem di_range1 {a : Expr} {ta : DTA} {p : Pos} (hm : X.mg "range" = none) (ha : DA X F0 [a] ta) (hg : Gl X "range" := by rfl) (hs : starEach [a] X.env = [(false, eval a X.env)] := by rfl) : DI X F0 tg (.Call (.Name "range" p) [a] [] pos) (dRange1 ta) := by
  refine ⟨⟨fun pins s σ H R I ⟨ρ, M, F, P, l0, sl, g, t, k⟩ => (pi_range1 hg hm ha.pa hs).run pins s σ H R I ⟨ρ, M, F, _, l0, sl, g, t, fun v d M1 F1 H1 l1 g1 r1 p1 => ?_⟩⟩⟩
  split at p1
  · cases r1 with
    | cons ra rz =>
      cases ra; cases rz
      exact ⟨_, rfl, p1.1, p1.2.1, k _ _ _ M1 F1 H1 l1 g1 walks_range p1.2.2⟩
  · exact p1.elim
theorem di_range2 {a b : Expr} {ta : DTA} {p : Pos} (hm : X.mg "range" = none) (ha : DA X F0 [a, b] ta) (hg : Gl X "range" := by rfl) (hs : starEach [a, b] X.env = [(false, eval a X.env), (false, eval b X.env)] := by rfl) (hs2 : starEach [b] X.env = [(false, eval b X.env)] := by rfl) :
    DI X F0 tg (.Call (.Name "range" p) [a, b] [] pos) (dRange2 ta) := by
  refine ⟨⟨fun pins s σ H R I ⟨ρ, M, F, P, l0, sl, g, t, k⟩ => (pi_range2 hg hm ha.pa hs hs2).run pins s σ H R I ⟨ρ, M, F, _, l0, sl, g, t, fun v d M1 F1 H1 l1 g1 r1 p1 => ?_⟩⟩⟩
  split at p1
  · cases r1 with
    | cons ra rz =>
      cases ra
      cases rz with
      | cons rb rz =>
        cases rb; cases rz
        exact ⟨_, _, rfl, p1.1, k _ _ _ M1 F1 H1 l1 g1 walks_range p1.2⟩
  · exact p1.elim
end

/-! ### for, while -/
def dLoop (L : Store → Prop) (g : DTG) (tb : DTS) : List D → DTS
  | [] => fun D ρ M => L M ∧ D.nx ρ M
  | d :: ds => fun D ρ M => L M ∧ g d ρ M fun ρ1 M1 => tb { D with nx := dLoop L g tb ds D, ct := dLoop L g tb ds D, bk := D.nx } ρ1 M1
def dFor (ti : DTI) (g : DTG) (tb : DTS) : DTS := fun D ρ M => ti ρ M fun ds L M1 => dLoop L g tb ds D ρ M1
section
variable {X : Cx} {F0 : Hp} {tg iter : Expr} {body : List Stmt} {pos : Pos} {ti : DTI} {g : DTG} {tb : DTS}
theorem ds_for (hp : PassesOwn (model X.prog X.w) X.A X.env X.xe) (hc : X.calm = true) (hi : DI X F0 tg iter ti) (hg : DG X F0 [] tg g) (hb : DSs X F0 body tb)
    (hs : ∀ x, foldedSetIterable iter X.env x = pure x := by intro _; rfl) : DS X F0 (.For tg iter body [] pos) (dFor ti g tb) := by
  refine ⟨PS.weak (ps_for hp hc hi.pi hg.pg hb.pss hs) fun E σ H ⟨ρ, M, F, D, l0, sl, gd, t, k1, k2, k3, k4⟩ => ?_⟩
  refine ⟨ρ, M, F, _, l0, sl, gd, t, fun ds L J M1 F1 H1 l1 g1 wk p1 => ?_⟩
  refine ⟨fun i m σ' H' => ∃ ρ' M' F', Le F1 F' ∧ Slots (Cx.se X) F' σ' ρ' ∧ Good (Cx.se X) F' M' H' ∧ dLoop L g tb (ds.drop i) D ρ' M' ∧ i ≤ ds.length ∧ m = ds.length - i,
    ⟨ds.length, ρ, M1, F1, Le.refl F1, sl.mono l1, g1, p1, Nat.zero_le _, rfl⟩, fun i m σ' H' ⟨ρ', M', F', l', s', g', q, hi, hm⟩ => ?_⟩
  by_cases hlt : i < ds.length
  · right
    have hd : ds.drop i = ds[i] :: ds.drop (i + 1) := List.drop_eq_getElem_cons hlt
    rw [hd] at q
    have hL : L M' := q.1
    obtain ⟨w1, w2⟩ := wk i H' F' M' l' g' hL
    obtain ⟨go, yl⟩ := w1 hlt
    refine ⟨go, fun σ2 H2 => ∃ ρ2 M2 F2, Le F1 F2 ∧ Slots (Cx.se X) F2 σ2 ρ2 ∧ Good (Cx.se X) F2 M2 H2 ∧ dLoop L g tb (ds.drop (i + 1)) D ρ2 M2, fun σ2 H2 ⟨ρ2, M2, F2, a1, a2, a3, a4⟩ => ⟨m - 1, by omega, ρ2, M2, F2, a1, a2, a3, a4, hlt, by omega⟩, fun x H2 y => ?_⟩
    obtain ⟨F2, d, l2, g2, ed, rd⟩ := yl x H2 y
    have ed' : d = ds[i] := by rw [List.getElem?_eq_getElem hlt] at ed; exact (Option.some.inj ed).symm
    subst ed'
    refine ⟨_, ρ', M', F2, _, l0.trans (l1.trans (l'.trans l2)), rd, s'.mono l2, g2, q.2, fun σ3 ρ3 M3 F3 H3 _ l3 s3 g3 p3 => ?_⟩
    have L13 : Le F1 F3 := l'.trans (l2.trans l3)
    refine ⟨ρ3, M3, F3, _, l0.trans (l1.trans L13), s3, g3, p3, fun σ4 ρ4 M4 F4 H4 l4 s4 g4 p4 => ⟨ρ4, M4, F4, L13.trans l4, s4, g4, p4⟩, fun a b c d e f => k2 a b c d e ((l1.trans L13).trans f), fun a b c d e f => k1 a b c d e ((l1.trans L13).trans f), fun σ4 ρ4 M4 F4 H4 l4 s4 g4 p4 => ⟨ρ4, M4, F4, L13.trans l4, s4, g4, p4⟩⟩
  · left
    have hi' : i = ds.length := by omega
    have hd : ds.drop i = [] := by rw [hi']; exact List.drop_length
    rw [hd] at q
    exact ⟨(wk i H' F' M' l' g' q.1).2 hi', k1 σ' ρ' M' F' H' (l1.trans l') s' g' q.2⟩
/-- while: W holds ahead of every test, by a measure -/
def dWhile (tc : DTT) (tb : DTS) : DTS := fun D ρ M => ∃ W : Nat → Ro → Store → Prop, (∃ m, W m ρ M) ∧ ∀ m ρ M, W m ρ M → tc ρ M fun b M1 => if b = true then
  tb { D with nx := fun ρ' M' => ∃ m', m' < m ∧ W m' ρ' M', ct := fun ρ' M' => ∃ m', m' < m ∧ W m' ρ' M', bk := D.nx } ρ M1 else D.nx ρ M1
theorem ds_while {c : Expr} {tc : DTT} (hp : PassesOwn (model X.prog X.w) X.A X.env X.xe) (hc : DT X F0 c tc) (hb : DSs X F0 body tb) : DS X F0 (.While c body [] pos) (dWhile tc tb) := by
  refine ⟨PS.weak (ps_while hp hc.pt hb.pss) fun E σ H ⟨ρ, M, F, D, l0, sl, gd, ⟨W, ⟨m0, w0⟩, turn⟩, k1, k2, k3, k4⟩ => ?_⟩
  refine ⟨fun m σ' H' => ∃ ρ' M' F', Le F F' ∧ Slots (Cx.se X) F' σ' ρ' ∧ Good (Cx.se X) F' M' H' ∧ W m ρ' M', ⟨m0, ρ, M, F, Le.refl F, sl, gd, w0⟩, fun m σ' H' ⟨ρ', M', F', l', s', g', w'⟩ => ?_⟩
  refine ⟨ρ', M', F', _, l0.trans l', s', g', turn m ρ' M' w', fun v d M1 F1 H1 l1 g1 r1 p1 => ?_⟩
  cases r1
  cases v with
  | false => exact iteF (k1 σ' ρ' M1 F1 H1 (l'.trans l1) (s'.mono l1) g1 p1)
  | true =>
    refine iteT ⟨fun σ2 H2 => ∃ m' ρ2 M2 F2, m' < m ∧ Le F F2 ∧ Slots (Cx.se X) F2 σ2 ρ2 ∧ Good (Cx.se X) F2 M2 H2 ∧ W m' ρ2 M2, fun σ2 H2 ⟨m', ρ2, M2, F2, h1, h2⟩ => ⟨m', h1, ρ2, M2, F2, h2⟩, ?_⟩
    have l2 := l'.trans l1
    exact ⟨ρ', M1, F1, _, l0.trans l2, s'.mono l1, g1, p1, fun a b c d e f s4 g4 ⟨m', h1, h2⟩ => ⟨m', b, c, d, h1, l2.trans f, s4, g4, h2⟩, fun a b c d e f => k2 a b c d e (l2.trans f), fun a b c d e f => k1 a b c d e (l2.trans f), fun a b c d e f s4 g4 ⟨m', h1, h2⟩ => ⟨m', b, c, d, h1, l2.trans f, s4, g4, h2⟩⟩
end
end DL


set_option Elab.async false
set_option linter.all false
set_option maxRecDepth 100000
namespace DL
open PySem PySem.Spec PyProof.Rows L2

/-! ### room, with nothing being shown -/
structure Rm (k : Nat) (A : Around) : Prop where
  room : Room k A
  gd : A.guards = some []
theorem Rm.mono {j k : Nat} {A : Around} (r : Rm k A) (h : j ≤ k) : Rm j A := ⟨r.room.mono h, r.gd⟩
theorem Rm.deeper {k : Nat} {A : Around} (r : Rm (k + 1) A) (env : Env) : Rm k (A.deeper env) := ⟨r.room.deeper env, r.gd⟩
theorem Rm.in1 {k : Nat} {A : Around} (r : Rm (k + 1) A) : Rm k A.in1 := ⟨r.room.in1, r.gd⟩
theorem make_guards {A : Around} {C : Addr} {us : List Value} {kw : List (Str × Value)} : (A.under (.builtin "type.__call__" ⟨.ref C :: us, kw⟩)).guards = A.guards := by
  simp [Around.under, Code.guards, Code.isGuard, guardIds, pushGuards]
theorem Rm.make {k : Nat} {A : Around} (r : Rm (k + 1) A) (C : Addr) (us : List Value) (kw : List (Str × Value)) : Rm k (A.under (.builtin "type.__call__" ⟨.ref C :: us, kw⟩)) :=
  ⟨r.room.make C us kw, by rw [make_guards]; exact r.gd⟩

/-! ### exceptions over data -/
/-- an exception's class and fields -/
def RepX (S : SE) (F H : Hp) (cls : Value) (dx : Option Addr) (c : Str) (fs : List (Str × D)) : Prop :=
  ∃ C, cls = .ref C ∧ S.mg c = some (.ref C) ∧ (fs = [] ∨ ∃ d vs, dx = some d ∧ H d = some (.xd vs) ∧ RepF S F vs fs)
def lowW (S : SE) (F0 : Hp) (W : DWX) : WX := fun cls d σ H => ∃ c fs ρ M F, Le F0 F ∧ Slots S F σ ρ ∧ Good S F M H ∧ RepX S F H cls d c fs ∧ W c fs ρ M

/-! ### what a def promises over data -/
abbrev DSp := List D → Store → (D → Store → Prop) → DX → Prop
def lowSp (S : SE) (sp : DSp) : Sp := fun vs H Q E => ∃ (ds : List D) (M : Store) (F : Hp) (P : D → Store → Prop) (PE : DX), Reps S F vs ds ∧ Good S F M H ∧ sp ds M P PE ∧
  (∀ v d M' F' H', Le F F' → Good S F' M' H' → Rep S F' v d → P d M' → Q v H') ∧
  (∀ cls dx c fs M' F' H', Le F F' → Good S F' M' H' → RepX S F' H' cls dx c fs → PE c fs M' → E cls dx H')
/-- the end of a body: some cells may be dropped -/
def finP (P : D → Store → Prop) : D → Store → Prop := fun d M' => ∃ M'', SubM M'' M' ∧ P d M''
def finW (PE : DX) : DWX := fun c fs _ M' => ∃ M'', SubM M'' M' ∧ PE c fs M''
structure FnG (P : Program) (w : World) (K : PySem.W.Frag) (mg : Str → Option Value) (base : Heap) (k : Nat) (f : Addr) (fd : FuncData) (ps : List Str) (sp : DSp) : Prop where
  len : ∀ ds M P E, sp ds M P E → ds.length = ps.length
  run : ∀ (A : Around) (outer : List Env) (s : Shared) (H : Hp) (args : Args) (us : List Value) (vs : List V) (Q : VK) (E : XK), Rm k A → Env0 P w K mg base A outer s H → BindsTo s fd args (ps.zip us) → Vals vs us → lowSp ⟨K, mg⟩ sp vs H Q E →
    codeAny (model P w) A (.call (.ref f) args) (CR (L2.CX P w) outer P w H s Q E) s
theorem FnG.mono {P : Program} {w : World} {K : PySem.W.Frag} {mg : Str → Option Value} {base : Heap} {j k : Nat} {f : Addr} {fd : FuncData} {ps : List Str} {sp : DSp} (F : FnG P w K mg base j f fd ps sp) (h : j ≤ k) : FnG P w K mg base k f fd ps sp :=
  ⟨F.len, fun A outer s H args us vs Q E hr => F.run A outer s H args us vs Q E (hr.mono h)⟩
theorem FnG.imp {P : Program} {w : World} {K : PySem.W.Frag} {mg : Str → Option Value} {base : Heap} {k : Nat} {f : Addr} {fd : FuncData} {ps : List Str} {sp sp' : DSp} (F : FnG P w K mg base k f fd ps sp) (h : ∀ ds M P E, sp' ds M P E → sp ds M P E) : FnG P w K mg base k f fd ps sp' :=
  ⟨fun ds M P E q => F.len ds M P E (h _ _ _ _ q), fun A outer s H args us vs Q E hr he hb hv ⟨ds, M, F1, P, PE, h1, h2, h3, h4, h5⟩ => F.run A outer s H args us vs Q E hr he hb hv ⟨ds, M, F1, P, PE, h1, h2, h _ _ _ _ h3, h4, h5⟩⟩

section
variable {P : Program} {w : World} {K : PySem.W.Frag} {mg : Str → Option Value} {base : Heap}
/-- THE RULE for a def: d, the derivation of its body's reading t; q, what the reading says -/
theorem fnG_of {k : Nat} {f : Addr} {name qual : Str} {params : Arguments} {body : List Stmt} {scope : Scope} {dV kV doc pm cdv ct oc : Value} {an od : Option Addr} {osl : Array (Option Value)} {N ps : List Str} {sp : DSp}
    (lk : K.lookup f = some ⟨oc, od, .func (PySem.W.fnOf name qual params body scope dV kV doc pm an cdv ct), osl⟩) (hcd : PySem.W.codeIn K cdv qual = true) (Sc : FnScope N ps scope) (len : ∀ ds M P E, sp ds M P E → ds.length = ps.length)
    (t : DWX → DTS)
    (d : ∀ (A : Around) (outer : List Env) (s : Shared) (H : Hp) (E : XK) (F0 : Hp) (W : DWX), Rm k (A.deeper (envOfC qual scope s.heap.objs.size f cdv)) → Takes (cxOf (L2.CX P w) P w K mg base N qual scope f cdv A outer s H E) (lowW ⟨K, mg⟩ F0 W) →
      DSs (cxOf (L2.CX P w) P w K mg base N qual scope f cdv A outer s H E) F0 body (t W))
    (q : ∀ ds M P PE, sp ds M P PE → t (finW PE) { nx := fun _ M' => finP P .non M', rt := finP P } (startR N ds) M) :
    FnG P w K mg base (k + 1) f (PySem.W.fnOf name qual params body scope dV kV doc pm an cdv ct) ps sp := by
  refine ⟨len, fun A outer s H args us vs Q E hr e0 hb r hsp => ?_⟩
  obtain ⟨ds, M, F, PP, PE, rs, g, hs, hQ, hE⟩ := id hsp
  have lv : vs.length = ps.length := rs.len.trans (len _ _ _ _ hs)
  have KX : K.In s.heap := e0.mod.kin.keeps fun b o e => (e0.bs b o e).1
  have lim : s.heap.NoLimit := e0.mod.nolimit.keeps fun b o e => (e0.bs b o e).1
  have kinds : ∀ y ∈ ps.zip us, scope.names.lookup y.1 = some .local ∨ (scope.names.lookup y.1 = some .cell ∧ ((cellsFrom (s.heap.objs.size + 1) scope.names []).lookup y.1).isSome = true) := fun y hy =>
    (Sc.par y.1 (List.of_mem_zip (a := y.1) (b := y.2) hy).1).imp id fun q => ⟨q, PySem.W.cellsFrom_some _ _ _ (.inl q)⟩
  refine codeAny_call_function hr.room.depth (KX _ _ lk) rfl Sc.co Sc.gen rfl (PySem.W.codeRec_of KX hcd) (hb _ _ _ _ ?_)
  refine wpAny_newFunctionEnv_cells Sc.kind kinds fun env he s1 x => ?_
  subst he
  refine ⟨lim.keeps x.toInCall.keep, codeAny_func ?_⟩
  have tk : Takes (cxOf (L2.CX P w) P w K mg base N qual scope f cdv A outer s H E) (lowW ⟨K, mg⟩ F (finW PE)) :=
    Takes.imp (takes_of rfl rfl rfl rfl) fun cls dx σ' H' ⟨c, fs, ρ, M', F', l, _, g', rx, M'', sub, p⟩ => hE cls dx c fs M'' F' H' l (g'.drop sub) rx p
  have I : Inv (cxOf (L2.CX P w) P w K mg base N qual scope f cdv A outer s H E) [] (L2.start N vs) H s1 := inv_start Sc hr.room.hd e0 lv r x
  have dd := d A outer s H E F (finW PE) (hr.deeper _) tk
  have hq := q ds M PP PE hs
  have fin : ∀ v d M' F' H', Le F F' → Good ⟨K, mg⟩ F' M' H' → Rep ⟨K, mg⟩ F' v d → finP PP d M' → Q v H' := fun v d M' F' H' l g' rv ⟨M'', sub, p⟩ => hQ v d M'' F' H' l (g'.drop sub) rv p
  refine wpAny_mono (dd.pss.run [] s1 (L2.start N vs) H { nx := fun _ H' => Q .non H', rt := Q } I ⟨startR N ds, M, F, _, Le.refl F, Slots.start rs, g, hq,
    fun σ' ρ' M' F' H' l _ g' p => fin .non .non M' F' H' l g' .non p, fun v d M' F' H' l g' rv p => fin v d M' F' H' l g' rv p, fun _ _ _ _ _ _ _ _ z => z.elim, fun _ _ _ _ _ _ _ _ z => z.elim⟩) (fun fl s' hs' => ?_) fun e s' hs' => hs'
  cases fl with
  | ret u =>
    obtain ⟨v, σ', H', J, rv, qv⟩ := hs'
    exact ⟨v, H', J.os, J.bare, J.base, J.hok, rv, qv⟩
  | next =>
    obtain ⟨σ', H', J, qv⟩ := hs'
    exact ⟨V.non, H', J.os, J.bare, J.base, J.hok, rfl, qv⟩
  | brk =>
    obtain ⟨_, _, _, z⟩ := hs'
    exact z.elim
  | cont =>
    obtain ⟨_, _, _, z⟩ := hs'
    exact z.elim

/-- a def that is called by its name: sp, its promise; dfl, the defaults that fill up -/
structure Cal (P : Program) (w : World) (K : PySem.W.Frag) (mg : Str → Option Value) (base : Heap) (k : Nat) (x : Str) (sp : DSp) (dfl : List D) : Prop where
  ex : ∃ f fd ps ds dvs, mg x = some (.ref f) ∧ PySem.W.keepIn K (.ref f) = true ∧ FnG P w K mg base k f fd ps sp ∧ Binds K fd ps ds ∧ Vals dvs ds ∧ ∀ F, Reps ⟨K, mg⟩ F dvs dfl
/-- a method of the class c -/
structure Met (P : Program) (w : World) (K : PySem.W.Frag) (mg : Str → Option Value) (base : Heap) (k : Nat) (c m : Str) (sp : DSp) (dfl : List D) : Prop where
  ex : ∃ C f fd ps ds dvs, mg c = some (.ref C) ∧ Cls K C ∧ Meth K C m f ∧ FnG P w K mg base k f fd ps sp ∧ Binds K fd ps ds ∧ Vals dvs ds ∧ ∀ F, Reps ⟨K, mg⟩ F dvs dfl
/-- a class that is called -/
structure Mak (P : Program) (w : World) (K : PySem.W.Frag) (mg : Str → Option Value) (base : Heap) (k : Nat) (c : Str) (sp : DSp) (dfl : List D) : Prop where
  ex : ∃ C f fd ps ds dvs, ClsAt ⟨K, mg⟩ c C ∧ Mk K C f ∧ FnG P w K mg base k f fd ps sp ∧ Binds K fd ps ds ∧ Vals dvs ds ∧ ∀ F, Reps ⟨K, mg⟩ F dvs dfl
end

section
variable {X : Cx} {F0 : Hp} {W : DWX} {k j : Nat} {x m : Str} {sp : DSp} {dfl : List D} {p pos apos : Pos} {e o : Expr} {es : List Expr} {ta : DTA} {to te : DTE}
/-- the callee runs -/
theorem runG {fd : FuncData} {ps : List Str} {f : Addr} {ds : List Value} {dvs : List V} {pins : List (Addr × Obj)} {σ : L2.St} {H : Hp} {s : Shared} {Q : VK} {us : List Value} {vs : List V} {E : XK} (F : FnG X.prog X.w X.K X.mg X.base k f fd ps sp) (hr : Rm k X.A) (hb : Binds X.K fd ps ds) (hd : Vals dvs ds)
    (hx : PassesAt (L2.CX X.prog X.w) X σ E) (I : Inv X pins σ H s) (r : Vals vs us) (h : lowSp (Cx.se X) sp (vs ++ dvs) H Q E) : wpAny (model X.prog X.w) X.A (call (.ref f) us) (EP X pins σ Q) X.xe s := by
  have r2 : Vals (vs ++ dvs) (us ++ ds) := r.append hd
  have hl : (us ++ ds).length = ps.length := by
    obtain ⟨es, M, F1, P, PE, h1, h2, h3, _⟩ := id h
    rw [← r2.length, h1.len]
    exact F.len _ _ _ _ h3
  refine wpAny_call (codeAny_mono (F.run X.A X.stack s H ⟨us, []⟩ (us ++ ds) (vs ++ dvs) Q E hr I.env0 (hb s us I.kIn hl) r2 h) fun r s' hq => ?_)
  cases r with
  | error e => exact hx pins H s e s' I hq
  | ok fl =>
    cases fl with
    | ret u => exact I.after hq
    | next => exact hq.elim
    | brk => exact hq.elim
    | cont => exact hq.elim
/-- at the slots σ, with the data ρ: what a callee's exception must meet -/
def wE (S : SE) (F0 : Hp) (W : DWX) (σ : L2.St) : XK := fun cls d H => lowW S F0 W cls d σ H
theorem low_sp {ds : List D} {M : Store} {F : Hp} {vs : List V} {σ : L2.St} {ρ : Ro} {H : Hp} {Q : VK} {P : D → Store → Prop} {S : SE} (l0 : Le F0 F) (sl : Slots S F σ ρ) (g : Good S F M H) (r : Reps S F vs ds) (h : sp ds M P fun c fs M2 => W c fs ρ M2)
    (k : ∀ v d M' F' H', Le F F' → Good S F' M' H' → Rep S F' v d → P d M' → Q v H') : lowSp S sp vs H Q (wE S F0 W σ) :=
  ⟨ds, M, F, P, _, r, g, h, k, fun cls dx c fs M' F' H' l g' rx w => ⟨c, fs, ρ, M', F', l0.trans l, sl.mono l, g', rx, w⟩⟩

def dCall (sp : DSp) (W : DWX) (dfl : List D) (ta : DTA) : DTE := fun ρ M Q => ta ρ M fun ds M1 => sp (ds ++ dfl) M1 Q fun c fs M2 => W c fs ρ M2
theorem de_call (c : Cal X.prog X.w X.K X.mg X.base k x sp dfl) (hr : Rm j X.A) (hk : k ≤ j) (tk : Takes X (lowW (Cx.se X) F0 W)) (ha : DA X F0 (e :: es) ta) (hg : Gl X x := by rfl) (hdb : (x == ("__debug__" : Str)) = false := by decide)
    (he : starEach (e :: es) X.env = (false, eval e X.env) :: starEach es X.env := by rfl) (hpl : (backTo pos (starEach es X.env)).any (·.1) = false := by rfl) : DE X F0 (.Call (.Name x p) (e :: es) [] pos) (dCall sp W dfl ta) := by
  obtain ⟨f, fd, ps, ds, dvs, hm, hkp, F, hb, hd, hR⟩ := c.ex
  refine ⟨⟨fun pins s σ H Q I ⟨ρ, M, F1, P, l0, sl, g, t, k⟩ => ?_⟩⟩
  refine wpAny_Call_Name_kw (ld_glob I hg hm ?_ hdb)
  refine PySem.W.callWith_K (h₀ := X.base) I.ok.mod.kin hkp (thn (ha.pa.run pos pins s σ H (fun vs H1 => lowSp (Cx.se X) sp (vs ++ dvs) H1 Q (wE (Cx.se X) F0 W σ)) I
    ⟨ρ, M, F1, _, l0, sl, g, t, fun vs es M2 F2 H2 l2 g2 r2 p2 => low_sp (l0.trans l2) (sl.mono l2) g2 (r2.append (hR F2)) p2 fun v d M' F' H' l3 => k v d M' F' H' (l2.trans l3)⟩) fun us s1 ⟨vs, H1, I1, r, q⟩ => ⟨I1.kIn, ?_⟩) he hpl
  exact runG F (hr.mono hk) hb hd (passAt tk σ) I1 r q
theorem de_call0 (c : Cal X.prog X.w X.K X.mg X.base k x sp dfl) (hr : Rm j X.A) (hk : k ≤ j) (tk : Takes X (lowW (Cx.se X) F0 W)) (hg : Gl X x := by rfl) (hdb : (x == ("__debug__" : Str)) = false := by decide) : DE X F0 (.Call (.Name x p) [] [] pos) (dCall sp W dfl daNil) := by
  obtain ⟨f, fd, ps, ds, dvs, hm, hkp, F, hb, hd, hR⟩ := c.ex
  refine ⟨⟨fun pins s σ H Q I ⟨ρ, M, F1, P, l0, sl, g, t, k⟩ => ?_⟩⟩
  refine wpAny_Call_Name_kw (ld_glob I hg hm ?_ hdb)
  exact PySem.W.callWith_K0 I.kIn hkp (runG (us := []) (vs := []) F (hr.mono hk) hb hd (passAt tk σ) I .nil (low_sp l0 sl g (hR F1) t fun v d M' F' H' l3 => k v d M' F' H' l3))

/-! objects -/
/-- x is an instance of c; its fields -/
def asO (M : Store) (c : Str) : D → Option (List (Str × D))
  | .obj c' fs => if c' = c then some fs else none
  | .ref a => match M a with
    | some (.ins c' fs) => if c' = c then some fs else none
    | _ => none
  | _ => none
theorem asO_at {S : SE} {F H : Hp} {M : Store} {c : Str} {d : D} {v : V} {fs : List (Str × D)} (g : Good S F M H) (r : Rep S F v d) (h : asO M c d = some fs) : ∃ a C dx vs, v = .ref a ∧ H a = some (.ins C dx vs) ∧ ClsAt S c C ∧ RepF S F vs fs := by
  cases d with
  | obj c' gs =>
    have h' : (if c' = c then some gs else none) = some fs := h
    split at h'
    · rename_i e
      subst e
      cases h'
      cases r with
      | obj q hc rf => exact ⟨_, _, _, _, rfl, g.sub _ _ q, hc, rf⟩
    · cases h'
  | ref a =>
    cases r
    have h' : (match M a with | some (.ins c' fs) => if c' = c then some fs else none | _ => none) = some fs := h
    split at h'
    · rename_i e1
      split at h'
      · rename_i e
        subst e
        cases h'
        obtain ⟨_, o, e, q⟩ := g.cel _ _ e1
        cases q with
        | ins hc rf => exact ⟨_, _, _, _, rfl, e, hc, rf⟩
      · cases h'
    · cases h'
  | _ => cases h
theorem repF_look {S : SE} {F : Hp} {f : Str} : ∀ {vs : List (Str × V)} {fs : List (Str × D)}, RepF S F vs fs → (∀ d, fs.lookup f = some d → ∃ v, vs.lookup f = some v ∧ Rep S F v d) ∧ (fs.lookup f = none → vs.lookup f = none)
  | _, _, .nil => ⟨fun d h => by simp at h, fun _ => rfl⟩
  | _, _, .cons (k := k) (vs := vs) (ds := ds) h t => by
    have ih := repF_look (f := f) t
    simp only [List.lookup_cons]
    cases f == k with
    | true => exact ⟨fun d e => by cases e; exact ⟨_, rfl, h⟩, fun e => by cases e⟩
    | false => exact ih
theorem ClsAt.cls {S : SE} {c : Str} {C : Addr} (h : ClsAt S c C) : Cls S.K C := by
  have k := h.ok
  unfold clsOkB at k
  simp only [Bool.and_eq_true, beq_iff_eq] at k
  obtain ⟨⟨⟨⟨⟨⟨⟨⟨⟨⟨k1, k2⟩, k3⟩, k4⟩, k5⟩, k6⟩, k7⟩, k8⟩, k9⟩, k10⟩, k11⟩ := k
  exact ⟨k3, k4, k5, k6⟩
/-- o.f: the class c has no attribute of that name -/
def FldOk (S : SE) (c f : Str) : Prop := ∀ C, S.mg c = some (.ref C) → NoAttr S.K C f
def dFld (c f : Str) (to : DTE) : DTE := fun ρ M Q => to ρ M fun x M1 => match asO M1 c x with
  | some fs => match fs.lookup f with
    | some d => Q d M1
    | none => False
  | none => False
theorem de_fld {c f : Str} (ho : DE X F0 o to) (hf : FldOk (Cx.se X) c f) (hb : attributeBase o f X.env (eval o X.env) = eval o X.env := by rfl) : DE X F0 (.Attribute o f pos) (dFld c f to) := by
  refine ⟨PE.weak (pe_fld ho.pe hb) fun σ H Q ⟨ρ, M, F, P, l0, sl, g, t, k⟩ => ⟨ρ, M, F, _, l0, sl, g, t, fun v d M1 F1 H1 l1 g1 r1 p1 => ?_⟩⟩
  split at p1
  · rename_i fs e
    obtain ⟨a, C, dx, vs, rfl, h1, h2, h3⟩ := asO_at g1 r1 e
    split at p1
    · rename_i d' e'
      obtain ⟨v', e2, r2⟩ := (repF_look h3).1 _ e'
      exact ⟨a, C, dx, vs, v', rfl, h1, h2.cls, hf C h2.mg, e2, k _ _ M1 F1 H1 l1 g1 r2 p1⟩
    · exact p1.elim
  · exact p1.elim
/-- o.m(..) -/
def dMeth (c m : Str) (sp : DSp) (W : DWX) (dfl : List D) (to : DTE) (ta : DTA) : DTE := fun ρ M Q => to ρ M fun x M1 => (match asO M1 c x with
  | some fs => fs.lookup m = none
  | none => False) ∧ ta ρ M1 fun ds M2 => sp (x :: (ds ++ dfl)) M2 Q fun c fs M3 => W c fs ρ M3
theorem de_meth {c : Str} {pl : Sem Bool} (h : Met X.prog X.w X.K X.mg X.base k c m sp dfl) (hr : Rm j X.A) (hk : k ≤ j) (tk : Takes X (lowW (Cx.se X) F0 W)) (ho : DE X F0 o to) (ha : DA X F0 (e :: es) ta)
    (hst : starEach (e :: es) X.env = (false, eval e X.env) :: starEach es X.env := by rfl) (hpl : (backTo pos (starEach es X.env)).any (·.1) = false := by rfl)
    (ht : eval (.Call (.Attribute o m apos) (e :: es) [] pos) X.env = (do
      let ov ← eval o X.env
      standAt apos.atName
      let (f, first) ← holding [ov] (getMethod ov m pl)
      callWith pos f first (backTo pos (starEach (e :: es) X.env)) (backToKw pos (keywordEach [] X.env))) := by rfl) : DE X F0 (.Call (.Attribute o m apos) (e :: es) [] pos) (dMeth c m sp W dfl to ta) := by
  obtain ⟨C, f, fd, ps, ds, dvs, hm, hc, hM, F, hb, hd, hR⟩ := h.ex
  refine ⟨⟨fun pins s σ H Q I ⟨ρ, M, F1, P, l0, sl, g, t, k⟩ => ?_⟩⟩
  refine PySem.W.methodCall_KW (pl := pl) (thn (ho.pe.run pins s σ H (fun x H1 => ∃ d M1 F2, Le F1 F2 ∧ Good (Cx.se X) F2 M1 H1 ∧ Rep (Cx.se X) F2 x d ∧ (match asO M1 c d with | some fs => fs.lookup m = none | none => False) ∧ ta ρ M1 fun ds M2 => sp (d :: (ds ++ dfl)) M2 P fun c fs M3 => W c fs ρ M3) I
    ⟨ρ, M, F1, _, l0, sl, g, t, fun v d M1 F2 H2 l2 g2 r2 p2 => ⟨d, M1, F2, l2, g2, r2, p2⟩⟩) fun u s1 ⟨x, H1, I1, rx, d, M1, F2, l2, g2, r2, p1, p2⟩ => ?_) ht
  split at p1
  · rename_i fs e
    obtain ⟨a, C', dx, vs, rfl, h1, h2, h3⟩ := asO_at g2 r2 e
    have eC : C' = C := by
      have := h2.mg.symm.trans hm
      cases this; rfl
    subst eC
    cases (show u = Value.ref a from rx)
    refine getmeth_ok I1 h1 hc hM ((repF_look h3).2 p1) ?_
    refine PySem.W.callWith_K (first := [.ref a]) (h₀ := X.base) I.ok.mod.kin hM.kp (thn (ha.pa.run pos pins s1 σ H1 (fun ws H2 => lowSp (Cx.se X) sp (.ref a :: (ws ++ dvs)) H2 Q (wE (Cx.se X) F0 W σ)) I1
      ⟨ρ, M1, F2, _, l0.trans l2, sl.mono l2, g2, p2, fun ws es M3 F3 H3 l3 g3 r3 p3 => low_sp (l0.trans (l2.trans l3)) (sl.mono (l2.trans l3)) g3 (.cons (r2.mono l3) (r3.append (hR F3))) p3 fun v d M' F' H' l4 => k v d M' F' H' ((l2.trans l3).trans l4)⟩) fun us s2 ⟨ws, H2, I2, r, q⟩ => ⟨I2.kIn, ?_⟩) hst hpl
    exact runG (us := .ref a :: us) (vs := .ref a :: ws) F (hr.mono hk) hb hd (passAt tk σ) I2 (.cons rfl r) q
  · exact p1.elim
theorem de_meth0 {c : Str} {pl : Sem Bool} (h : Met X.prog X.w X.K X.mg X.base k c m sp dfl) (hr : Rm j X.A) (hk : k ≤ j) (tk : Takes X (lowW (Cx.se X) F0 W)) (ho : DE X F0 o to)
    (ht : eval (.Call (.Attribute o m apos) [] [] pos) X.env = (do
      let ov ← eval o X.env
      standAt apos.atName
      let (f, first) ← holding [ov] (getMethod ov m pl)
      callWith pos f first (backTo pos (starEach [] X.env)) (backToKw pos (keywordEach [] X.env))) := by rfl) : DE X F0 (.Call (.Attribute o m apos) [] [] pos) (dMeth c m sp W dfl to daNil) := by
  obtain ⟨C, f, fd, ps, ds, dvs, hm, hc, hM, F, hb, hd, hR⟩ := h.ex
  refine ⟨⟨fun pins s σ H Q I ⟨ρ, M, F1, P, l0, sl, g, t, k⟩ => ?_⟩⟩
  refine PySem.W.methodCall_KW (pl := pl) (thn (ho.pe.run pins s σ H (fun x H1 => ∃ d M1 F2, Le F1 F2 ∧ Good (Cx.se X) F2 M1 H1 ∧ Rep (Cx.se X) F2 x d ∧ (match asO M1 c d with | some fs => fs.lookup m = none | none => False) ∧ sp (d :: ([] ++ dfl)) M1 P fun c fs M3 => W c fs ρ M3) I
    ⟨ρ, M, F1, _, l0, sl, g, t, fun v d M1 F2 H2 l2 g2 r2 p2 => ⟨d, M1, F2, l2, g2, r2, p2⟩⟩) fun u s1 ⟨x, H1, I1, rx, d, M1, F2, l2, g2, r2, p1, p2⟩ => ?_) ht
  split at p1
  · rename_i fs e
    obtain ⟨a, C', dx, vs, rfl, h1, h2, h3⟩ := asO_at g2 r2 e
    have eC : C' = C := by
      have := h2.mg.symm.trans hm
      cases this; rfl
    subst eC
    cases (show u = Value.ref a from rx)
    refine getmeth_ok I1 h1 hc hM ((repF_look h3).2 p1) ?_
    exact PySem.W.callWith_K0 (first := [.ref a]) I1.kIn hM.kp (runG (us := [.ref a]) (vs := [.ref a]) F (hr.mono hk) hb hd (passAt tk σ) I1 (.cons rfl .nil)
      (low_sp (l0.trans l2) (sl.mono l2) g2 (.cons r2 (hR F2)) p2 fun v d M' F' H' l4 => k v d M' F' H' (l2.trans l4)))
  · exact p1.elim
/-- C(..): an instance, its __init__; then it stands in M -/
def dMakeM (c : Str) (sp : DSp) (W : DWX) (dfl : List D) (ta : DTA) : DTE := fun ρ M Q => ta ρ M fun ds M1 => ∀ p, M1 p = none → sp (.ref p :: (ds ++ dfl)) (updM M1 p (.ins c [])) (fun v M2 => v = .non ∧ Q (.ref p) M2) fun c fs M2 => W c fs ρ M2
theorem Good.over {S : SE} {F H : Hp} {M : Store} {p : Addr} {o : HO} (g : Good S F M H) (h : H p = none) : Good S F M (upd H p o) :=
  ⟨fun a u e => by rw [upd_ne (ne_of_none (g.sub _ _ e) h)]; exact g.sub _ _ e, fun a m e => by
    obtain ⟨f, u, h1, r⟩ := g.cel a m e
    exact ⟨f, u, by rw [upd_ne (ne_of_none h1 h)]; exact h1, r⟩⟩
theorem run_makeG {c : Str} {C f : Addr} {fd : FuncData} {ps : List Str} {ds : List Value} {dvs : List V} {pins : List (Addr × Obj)} {σ : L2.St} {H : Hp} {s : Shared} {Q : VK} {us : List Value} {vs : List V} {E : XK} (Mk' : Mk X.K C f) (F : FnG X.prog X.w X.K X.mg X.base k f fd ps sp) (hr : Rm (k + 1) X.A)
    (hb : Binds X.K fd ps ds) (hd : Vals dvs ds) (hx : PassesAt (L2.CX X.prog X.w) X σ E) (I : Inv X pins σ H s) (r : Vals vs us)
    (h : ∀ x dx, H x = none → H dx = none → dx ≠ x → lowSp (Cx.se X) sp (.ref x :: (vs ++ dvs)) (upd (upd H dx (.own x)) x (.ins C dx [])) (fun v H2 => v = .non ∧ Q (.ref x) H2) E) :
    wpAny (model X.prog X.w) X.A (call (.ref C) us) (EP X pins σ Q) X.xe s := by
  have hq := h (s.heap.objs.size + 1) s.heap.objs.size (I.hok.fresh (Nat.le_succ _)) (I.hok.fresh (Nat.le_refl _)) (Nat.ne_of_lt (Nat.lt_succ_self _))
  have I2 := Inv.made (C := C) I
  have r2 : Vals (V.ref (s.heap.objs.size + 1) :: (vs ++ dvs)) (Value.ref (s.heap.objs.size + 1) :: (us ++ ds)) := .cons rfl (r.append hd)
  have hl : (Value.ref (s.heap.objs.size + 1) :: us ++ ds).length = ps.length := by
    obtain ⟨es, M, F1, P, PE, h1, h2, h3, _⟩ := id hq
    have e := r2.length
    rw [h1.len, F.len _ _ _ _ h3] at e
    exact e.symm
  refine wpAny_call (make_map (f := f) I.kIn Mk'.makes Mk'.init (beq_iff_eq.mp Mk'.fn) (codeAny_mono (F.run _ X.stack _ _ ⟨Value.ref (s.heap.objs.size + 1) :: us, []⟩ (Value.ref (s.heap.objs.size + 1) :: (us ++ ds)) _ _ E (hr.make C us [])
    (I2.env0.make C us []) (hb _ (Value.ref (s.heap.objs.size + 1) :: us) I2.kIn hl) r2 hq) fun r s' hq' => ?_))
  cases r with
  | error e => exact hx pins _ _ e s' I2 hq'
  | ok fl =>
    cases fl with
    | ret u =>
      obtain ⟨v, H', I3, rv, ev, q3⟩ := I2.after hq'
      subst ev
      exact ⟨rv, ⟨V.ref (s.heap.objs.size + 1), H', I3, rfl, q3⟩⟩
    | next => exact hq'.elim
    | brk => exact hq'.elim
    | cont => exact hq'.elim
theorem low_make {c : Str} {C : Addr} {ds : List D} {dvs : List V} {M : Store} {F : Hp} {vs : List V} {σ : L2.St} {ρ : Ro} {H : Hp} {Q : VK} {P : D → Store → Prop} {S : SE} (l0 : Le F0 F) (sl : Slots S F σ ρ) (g : Good S F M H) (r : Reps S F (vs ++ dvs) (ds ++ dfl)) (hc : ClsAt S c C)
    (h : ∀ p, M p = none → sp (.ref p :: (ds ++ dfl)) (updM M p (.ins c [])) (fun v M2 => v = .non ∧ P (.ref p) M2) fun c fs M2 => W c fs ρ M2)
    (k : ∀ v d M' F' H', Le F F' → Good S F' M' H' → Rep S F' v d → P d M' → Q v H') : ∀ x dx, H x = none → H dx = none → dx ≠ x →
    lowSp S sp (.ref x :: (vs ++ dvs)) (upd (upd H dx (.own x)) x (.ins C dx [])) (fun v H2 => v = .non ∧ Q (.ref x) H2) (wE S F0 W σ) := fun x dx hx hdx hne => by
  have hx' : upd H dx (.own x) x = none := by rw [upd_ne (Ne.symm hne)]; exact hx
  refine ⟨.ref x :: (ds ++ dfl), updM M x (.ins c []), F, _, _, .cons (.ref x) r, (g.over hdx).newM hx' (.ins hc .nil), h x (g.freshM hx), fun v d M' F' H' l g' rv ⟨e, p⟩ => ?_, fun cls dx' c' fs M' F' H' l g' rx w => ⟨c', fs, ρ, M', F', l0.trans l, sl.mono l, g', rx, w⟩⟩
  subst e
  cases rv
  exact ⟨rfl, k _ _ M' F' H' l g' (.ref x) p⟩
theorem de_makeM {c : Str} (h : Mak X.prog X.w X.K X.mg X.base k c sp dfl) (hr : Rm j X.A) (hk : k + 1 ≤ j) (tk : Takes X (lowW (Cx.se X) F0 W)) (ha : DA X F0 (e :: es) ta) (hg : Gl X c := by rfl) (hdb : (c == ("__debug__" : Str)) = false := by decide)
    (he : starEach (e :: es) X.env = (false, eval e X.env) :: starEach es X.env := by rfl) (hpl : (backTo pos (starEach es X.env)).any (·.1) = false := by rfl) : DE X F0 (.Call (.Name c p) (e :: es) [] pos) (dMakeM c sp W dfl ta) := by
  obtain ⟨C, f, fd, ps, ds, dvs, hc, hM, F, hb, hd, hR⟩ := h.ex
  refine ⟨⟨fun pins s σ H Q I ⟨ρ, M, F1, P, l0, sl, g, t, k⟩ => ?_⟩⟩
  refine wpAny_Call_Name_kw (ld_glob I hg hc.mg ?_ hdb)
  refine PySem.W.callWith_K (h₀ := X.base) I.ok.mod.kin hM.kp (thn (ha.pa.run pos pins s σ H (fun vs H1 => ∀ x dx, H1 x = none → H1 dx = none → dx ≠ x → lowSp (Cx.se X) sp (.ref x :: (vs ++ dvs)) (upd (upd H1 dx (.own x)) x (.ins C dx [])) (fun v H2 => v = .non ∧ Q (.ref x) H2) (wE (Cx.se X) F0 W σ)) I
    ⟨ρ, M, F1, _, l0, sl, g, t, fun vs es M2 F2 H2 l2 g2 r2 p2 => low_make (l0.trans l2) (sl.mono l2) g2 (r2.append (hR F2)) hc p2 fun v d M' F' H' l3 => k v d M' F' H' (l2.trans l3)⟩) fun us s1 ⟨vs, H1, I1, r, q⟩ => ⟨I1.kIn, ?_⟩) he hpl
  exact run_makeG (c := c) hM F (hr.mono hk) hb hd (passAt tk σ) I1 r q
theorem de_makeM0 {c : Str} (h : Mak X.prog X.w X.K X.mg X.base k c sp dfl) (hr : Rm j X.A) (hk : k + 1 ≤ j) (tk : Takes X (lowW (Cx.se X) F0 W)) (hg : Gl X c := by rfl) (hdb : (c == ("__debug__" : Str)) = false := by decide) : DE X F0 (.Call (.Name c p) [] [] pos) (dMakeM c sp W dfl daNil) := by
  obtain ⟨C, f, fd, ps, ds, dvs, hc, hM, F, hb, hd, hR⟩ := h.ex
  refine ⟨⟨fun pins s σ H Q I ⟨ρ, M, F1, P, l0, sl, g, t, k⟩ => ?_⟩⟩
  refine wpAny_Call_Name_kw (ld_glob I hg hc.mg ?_ hdb)
  exact PySem.W.callWith_K0 I.kIn hM.kp (run_makeG (c := c) (us := []) (vs := []) hM F (hr.mono hk) hb hd (passAt tk σ) I .nil (low_make (vs := []) (ds := []) l0 sl g (hR F1) hc t fun v d M' F' H' l3 => k v d M' F' H' l3))
end
end DL


set_option Elab.async false
set_option linter.all false
set_option maxRecDepth 100000
namespace DL
open PySem PySem.Spec PyProof.Rows L2

/-! ### fields stored, raise -/
def dput (f : Str) (d : D) : List (Str × D) → List (Str × D)
  | [] => [(f, d)]
  | (g, e) :: r => if g = f then (f, d) :: r else (g, e) :: dput f d r
theorem repF_put {S : SE} {F : Hp} {f : Str} {v : V} {d : D} (r : Rep S F v d) : ∀ {vs : List (Str × V)} {fs : List (Str × D)}, RepF S F vs fs → RepF S F (putF f v vs) (dput f d fs)
  | _, _, .nil => .cons r .nil
  | _, _, .cons (k := k) h t => by
    show RepF S F (if k = f then (k, v) :: _ else _) (if k = f then _ else _)
    by_cases e : k = f
    · rw [if_pos e, if_pos e, e]; exact .cons r t
    · rw [if_neg e, if_neg e]; exact .cons h (repF_put r t)
theorem repF_len {S : SE} {F : Hp} : ∀ {vs : List (Str × V)} {fs : List (Str × D)}, RepF S F vs fs → vs.length = fs.length
  | _, _, .nil => rfl
  | _, _, .cons _ t => congrArg Nat.succ (repF_len t)
section
variable {X : Cx} {F0 : Hp} {W : DWX} {k j : Nat} {x m : Str} {sp : DSp} {dfl : List D} {p pos pos' apos : Pos} {e o : Expr} {es : List Expr} {ta : DTA} {to te : DTE}
/-- o.f = e -/
def dSetFld (c f : Str) (to te : DTE) : DTS := fun D ρ M => te ρ M fun d M1 => to ρ M1 fun x M2 => match x with
  | .ref a => match M2 a with
    | some (.ins c' fs) => c' = c ∧ fs.length < 1000 ∧ D.nx ρ (updM M2 a (.ins c (dput f d fs)))
    | _ => False
  | _ => False
theorem ds_fld {c f : Str} (ho : DE X F0 o to) (he : DE X F0 e te) (hf : FldOk (Cx.se X) c f) (hs : swapsWith e (some (.Attribute o f pos')) pos.line X.env = pure false := by rfl) : DS X F0 (.Assign [.Attribute o f pos'] e pos) (dSetFld c f to te) := by
  refine ⟨PS.weak (ps_fld ho.pe he.pe hs) fun E σ H ⟨ρ, M, F, D, l0, sl, g, t, k1, k2, k3, k4⟩ => ?_⟩
  refine ⟨ρ, M, F, _, l0, sl, g, t, fun v d M1 F1 H1 l1 g1 r1 p1 => ⟨ρ, M1, F1, _, l0.trans l1, sl.mono l1, g1, p1, fun w dx M2 F2 H2 l2 g2 r2 p2 => ?_⟩⟩
  split at p2
  · cases r2
    split at p2
    · rename_i c' fs e1
      obtain ⟨rfl, hl, q⟩ := p2
      obtain ⟨_, ob, hH, rm⟩ := g2.cel _ _ e1
      cases rm with
      | ins hc rf =>
        exact ⟨_, _, _, _, rfl, hH, hc.cls, hf _ hc.mg, by rw [repF_len rf]; exact hl, k1 _ _ _ F2 _ (l1.trans l2) (sl.mono (l1.trans l2)) (g2.set e1 (.ins hc (repF_put (r1.mono l2) rf))) q⟩
    · exact p2.elim
  · exact p2.elim
/-- o.f op= e (ints) -/
def dAugFld (c f : Str) (rd : DR2) (to te : DTE) : DTS := fun D ρ M => to ρ M fun x M1 => match x with
  | .ref a => match M1 a with
    | some (.ins c' fs) => c' = c ∧ match fs.lookup f with
      | some d => te ρ M1 fun y M2 => rd d y M2 fun z M3 => match M3 a with
        | some (.ins c'' fs') => c'' = c ∧ fs'.length < 1000 ∧ D.nx ρ (updM M3 a (.ins c (dput f z fs')))
        | _ => False
      | none => False
    | _ => False
  | _ => False
theorem ds_augfld {c f : Str} {op : Operator} {rd : DR2} (ho : DE X F0 o to) (he : DE X F0 e te) (hop : DIp X F0 op rd) (hf : FldOk (Cx.se X) c f) : DS X F0 (.AugAssign (.Attribute o f pos') op e pos) (dAugFld c f rd to te) := by
  have hop' : InOp X op (low2 (Cx.se X) F0 rd) := fun pins s σ H x y u v Q I rx ry q => hop pins s σ H x y u v Q I rx ry q
  refine ⟨PS.weak (ps_fldaug ho.pe he.pe hop') fun E σ H ⟨ρ, M, F, D, l0, sl, g, t, k1, k2, k3, k4⟩ => ?_⟩
  refine ⟨ρ, M, F, _, l0, sl, g, t, fun v d M1 F1 H1 l1 g1 r1 p1 => ?_⟩
  split at p1
  · cases r1
    split at p1
    · rename_i c' fs e1
      obtain ⟨rfl, q⟩ := p1
      obtain ⟨_, ob, hH, rm⟩ := g1.cel _ _ e1
      cases rm with
      | ins hc rf =>
        split at q
        · rename_i d' e'
          obtain ⟨v', e2, r2⟩ := (repF_look rf).1 _ e'
          refine ⟨_, _, _, _, v', rfl, hH, hc.cls, hf _ hc.mg, e2, ρ, M1, F1, _, l0.trans l1, sl.mono l1, g1, q, fun w dw M2 F2 H2 l2 g2 rw p2 => ⟨d', dw, M2, F2, _, l0.trans (l1.trans l2), g2, r2.mono l2, rw, p2, fun z dz M3 F3 H3 l3 g3 rz p3 => ?_⟩⟩
          split at p3
          · rename_i c'' fs' e3
            obtain ⟨rfl, hl, q3⟩ := p3
            obtain ⟨_, ob3, hH3, rm3⟩ := g3.cel _ _ e3
            cases rm3 with
            | ins hc3 rf3 =>
              have eC := hc3.mg.symm.trans hc.mg
              cases eC
              exact ⟨_, _, hH3, by rw [repF_len rf3]; exact hl, k1 _ _ _ F3 _ ((l1.trans l2).trans l3) (sl.mono ((l1.trans l2).trans l3)) (g3.set e3 (.ins hc3 (repF_put rz rf3))) q3⟩
          · exact p3.elim
        · exact q.elim
    · exact p1.elim
  · exact p1.elim
/-- an exception class of the text without own __init__ -/
structure Exc0 (K : PySem.W.Frag) (mg : Str → Option Value) (c : Str) : Prop where
  ex : ∃ C, mg c = some (.ref C) ∧ PySem.W.excIn K C [.type "ValueError", .type "Exception", .type "BaseException", .type "object"] "ValueError.__new__" = true ∧ PySem.W.keepIn K (.ref C) = true ∧
    PySem.W.subIn K (.ref C) (.type "BaseException") = some true ∧ PySem.W.typeIn K (.ref C) = some (.type "type")
theorem pmk0 {C : Addr} {bmB : List Value} {B newId initId : String} (F : ExcBaseFacts B newId initId bmB) (q : PySem.W.excIn X.K C bmB newId = true) (gC : X.mg x = some (.ref C)) (kC : PySem.W.keepIn X.K (.ref C) = true) (r : Raises X (.ref C)) (hg : Gl X x)
    (hdb : (x == ("__debug__" : Str)) = false := by decide) : PMk X (.Call (.Name x p) [] [] pos) (fun _ H Q => Q (.ref C) none H) := by
  intro pins s σ H Q I h
  refine wpAny_Call_Name_kw (ld_glob I hg gC ?_ hdb)
  refine PySem.W.callWith_K0 I.kIn kC ?_
  obtain ⟨bm, N, nm, qn, bs, hdct, sn, sub, ab, col, dd, k0, k1, k2, k3, k5, mN, hC, hN, hni, T⟩ := exc_obj I.kIn q
  refine wpAny_call_exc_subT (rest := []) F T hC hN hni (fun h' e hm => ?_) (Nat.zero_le _)
  exact mk_of I hm r h (I.hok.gone hm.new)
def dRaise0 (W : DWX) (c : Str) : DTS := fun _ ρ M => W c [] ρ M
theorem ds_raise0 {c : Str} (hc : X.calm = true) (tk : Takes X (lowW (Cx.se X) F0 W)) (h : Exc0 X.K X.mg c) (hg : Gl X c := by rfl) (hdb : (c == ("__debug__" : Str)) = false := by decide) : DS X F0 (.Raise (some (.Call (.Name c p) [] [] pos')) none pos) (dRaise0 W c) := by
  obtain ⟨C, h1, h2, h3, h4, h5⟩ := h.ex
  refine ⟨PS.weak (ps_raise hc tk (pmk0 PySem.F.excBase_ValueError h2 h1 h3 (raises_own h4 h5) hg hdb)) fun E σ H ⟨ρ, M, F, D, l0, sl, g, t, k1, k2, k3, k4⟩ => ?_⟩
  exact ⟨c, [], ρ, M, F, l0, sl, g, ⟨C, rfl, h1, .inl rfl⟩, t⟩

/-! ### subscripts, slices -/
/-- x[i] of lists, tuples, texts -/
def rdIx : DR2 := fun x y M Q => match x, y with
  | .str z, .int i => z.length ≤ sizeLine ∧ match atI z.cps.toList i with
    | some c => Q (.str ⟨#[c]⟩) M
    | none => False
  | x, .int i => match asS M x with
    | some ds => match (ixN ds.length i).bind fun j => ds[j]? with
      | some d => Q d M
      | none => False
    | none => False
  | _, _ => False
theorem reps_at {S : SE} {F : Hp} {vs : List V} {ds : List D} {i : Int} {d : D} (r : Reps S F vs ds) (h : ((ixN ds.length i).bind fun j => ds[j]?) = some d) : ∃ v, atI vs i = some v ∧ Rep S F v d := by
  obtain ⟨j, h1, h2⟩ := Option.bind_eq_some_iff.mp h
  obtain ⟨v, h3, h4⟩ := r.get h2
  refine ⟨v, ?_, h4⟩
  unfold atI
  rw [r.len, h1]
  exact h3
def DIx (X : Cx) (F0 : Hp) (rd : DR2) : Prop := IxR X (low2 (Cx.se X) F0 rd)
theorem dx_seq : DIx X F0 rdIx := by
  intro value slice pins s σ H x y v u Q I rx ry ⟨dx, dy, M, F, P, l0, g, hx, hy, t, k⟩ hs
  unfold rdIx at t
  split at t
  · cases hx; cases hy
    obtain ⟨t1, t2⟩ := t
    split at t2
    · rename_i c e
      exact ix_str value slice pins s σ H _ _ v u Q I rx ry ⟨_, _, c, rfl, rfl, t1, e, k _ _ M F H (Le.refl F) g (.str _) t2⟩ hs
    · exact t2.elim
  · cases hy
    split at t
    · rename_i ds e
      obtain ⟨a, vs, rfl, h1, r1⟩ := asS_at g hx e
      split at t
      · rename_i d e'
        obtain ⟨w, h2, r2⟩ := reps_at r1 e'
        rcases h1 with h1 | h1
        · exact ix_list value slice pins s σ H _ _ v u Q I rx ry ⟨a, vs, _, w, rfl, rfl, h1, h2, k _ _ M F H (Le.refl F) g r2 t⟩ hs
        · exact ix_tup value slice pins s σ H _ _ v u Q I rx ry ⟨a, vs, _, w, rfl, rfl, h1, h2, k _ _ M F H (Le.refl F) g r2 t⟩ hs
      · exact t.elim
    · exact t.elim
  · exact t.elim
theorem de_ix {a b : Expr} {tA tB : DTE} {rd : DR2} (h : DIx X F0 rd) (ha : DE X F0 a tA) (hb : DE X F0 b tB) (hs : PlainIx b := by exact fun _ _ => rfl) : DE X F0 (.Subscript a b pos) (dOp rd tA tB) :=
  ⟨PE.weak (pe_ix h ha.pe hb.pe hs) fun _ _ _ q => low_op q⟩
/-! slices -/
abbrev DTO := Ro → Store → (Option Int → Store → Prop) → Prop
structure DO (X : Cx) (F0 : Hp) (e : Option Expr) (t : DTO) : Prop where
  po : PO X e (low (Cx.se X) F0 (fun _ (a b : Option Int) => a = b) t)
def doNone : DTO := fun _ M Q => Q none M
def doSome (te : DTE) : DTO := fun ρ M Q => te ρ M fun x M1 => match x with
  | .int i => Q (some i) M1
  | _ => False
theorem PO.weak {e : Option Expr} {t u : L2.St → Hp → (Option Int → Hp → Prop) → Prop} (h : PO X e t) (k : ∀ σ H Q, u σ H Q → t σ H Q) : PO X e u := ⟨fun pins s σ H Q I q => h.run pins s σ H Q I (k _ _ _ q)⟩
theorem do_none : DO X F0 none doNone := ⟨PO.weak po_none fun σ H Q ⟨ρ, M, F, P, l0, sl, g, t, k⟩ => k none none M F H (Le.refl F) g rfl t⟩
theorem do_some (he : DE X F0 e te) : DO X F0 (some e) (doSome te) :=
  ⟨PO.weak (po_some he.pe) fun σ H Q ⟨ρ, M, F, P, l0, sl, g, t, k⟩ => ⟨ρ, M, F, _, l0, sl, g, t, fun v d M1 F1 H1 l1 g1 r1 p1 => by
    split at p1
    · cases r1; exact ⟨_, rfl, k _ _ M1 F1 H1 l1 g1 rfl p1⟩
    · exact p1.elim⟩⟩
def cutD (ds : List D) (lo hi : Option Int) : List D := (ds.drop (HT.sIx ds.length 0 lo)).take (HT.sIx ds.length ds.length hi - HT.sIx ds.length 0 lo)
theorem reps_cut {S : SE} {F : Hp} {vs : List V} {ds : List D} (r : Reps S F vs ds) (lo hi : Option Int) : Reps S F (cutV vs lo hi) (cutD ds lo hi) := by
  unfold cutV cutD
  rw [r.len]
  exact (r.drop _).take _
def rdSl (x : D) (lo hi : Option Int) (M : Store) (Q : D → Store → Prop) : Prop := match x with
  | .tup ds => Q (.tup (cutD ds lo hi)) M
  | .str z => z.length ≤ sizeLine ∧ Q (.str (cutS z lo hi)) M
  | x => match asR M x with
    | some ds => Q (.lst (cutD ds lo hi)) M
    | none => False
def dSlice (te : DTE) (tl th : DTO) : DTE := fun ρ M Q => te ρ M fun x M1 => tl ρ M1 fun l M2 => th ρ M2 fun h M3 => rdSl x l h M3 Q
def lowSl (S : SE) (F0 : Hp) : V → Option Int → Option Int → Hp → VK → Prop := fun x lo hi H Q => ∃ d M F P, Le F0 F ∧ Good S F M H ∧ Rep S F x d ∧ rdSl d lo hi M P ∧ ∀ v d M' F' H', Le F F' → Good S F' M' H' → Rep S F' v d → P d M' → Q v H'
theorem sl_any : SlR X (lowSl (Cx.se X) F0) := by
  intro pins s σ H x v vl vu lo hi sl Q I rx hs pl pu ⟨d, M, F, P, l0, g, hx, t, k⟩
  unfold rdSl at t
  split at t
  · obtain ⟨a, vs, rfl, h1, r1⟩ := asT_at g hx rfl
    refine sl_tupA pins s σ H _ v vl vu lo hi sl Q I rx hs pl pu ⟨a, vs, rfl, h1, fun hw => ?_, fun hw p hp => ?_⟩
    · rename_i ds
      have e : cutD ds lo hi = ds := by
        unfold cutD
        rw [← r1.len, hw.1, hw.2, Nat.sub_zero, List.drop_zero]
        exact List.take_of_length_le (by rw [r1.len]; exact Nat.le_refl _)
      rw [e] at t
      exact k _ _ M F H (Le.refl F) g hx t
    · have f := g.freshF hp
      exact k _ _ M _ _ (Le.new f) (g.new hp) (.tup (.inl (.inl upd_same)) ((reps_cut r1 lo hi).mono (Le.new f))) t
  · cases hx
    exact sl_str pins s σ H _ v vl vu lo hi sl Q I rx hs pl pu ⟨_, rfl, t.1, k _ _ M F H (Le.refl F) g (.str _) t.2⟩
  · split at t
    · rename_i ds e
      obtain ⟨a, vs, rfl, h1, r1⟩ := asR_at g hx e
      refine sl_list pins s σ H _ v vl vu lo hi sl Q I rx hs pl pu ⟨a, vs, rfl, h1, fun p hp => ?_⟩
      have f := g.freshF hp
      exact k _ _ M _ _ (Le.new f) (g.new hp) (.lst upd_same ((reps_cut r1 lo hi).mono (Le.new f))) t
    · exact t.elim
theorem de_slice {lo hi : Option Expr} {tl th : DTO} {p2 : Pos} (he : DE X F0 e te) (hl : DO X F0 lo tl) (hh : DO X F0 hi th) : DE X F0 (.Subscript e (.Slice lo hi none p2) pos) (dSlice te tl th) :=
  ⟨PE.weak (pe_slice (sl_any (F0 := F0)) he.pe hl.po hh.po) fun σ H Q ⟨ρ, M, F, P, l0, sl, g, t, k⟩ => ⟨ρ, M, F, _, l0, sl, g, t, fun v d M1 F1 H1 l1 g1 r1 p1 => ⟨ρ, M1, F1, _, l0.trans l1, sl.mono l1, g1, p1, fun a b M2 F2 H2 l2 g2 r2 p2 => by
    cases r2
    exact ⟨ρ, M2, F2, _, (l0.trans l1).trans l2, sl.mono (l1.trans l2), g2, p2, fun a' b' M3 F3 H3 l3 g3 r3 p3 => by
      cases r3
      exact ⟨d, M3, F3, P, ((l0.trans l1).trans l2).trans l3, g3, r1.mono (l2.trans l3), p3, fun v d M' F' H' l4 => k v d M' F' H' (((l1.trans l2).trans l3).trans l4)⟩⟩⟩⟩⟩
/-- xs[::-1] -/
def dRev (te : DTE) : DTE := fun ρ M Q => te ρ M fun x M1 => match asR M1 x with
  | some ds => Q (.lst ds.reverse) M1
  | none => False
theorem de_rev {k : Nat} {p1 p2 p3 : Pos} (he : DE X F0 e te) : DE X F0 (.Subscript e (.Slice none none (some (.UnaryOp .USub (.Constant (.int 1) k p1) p2)) p3) pos) (dRev te) :=
  ⟨PE.weak (pe_revL he.pe) fun σ H Q ⟨ρ, M, F, P, l0, sl, g, t, k⟩ => ⟨ρ, M, F, _, l0, sl, g, t, fun v d M1 F1 H1 l1 g1 r1 p1 => by
    split at p1
    · rename_i ds e
      obtain ⟨a, vs, rfl, h1, rs⟩ := asR_at g1 r1 e
      refine ⟨a, vs, rfl, h1, fun p hp => ?_⟩
      have f := g1.freshF hp
      exact k _ _ M1 _ _ (l1.trans (Le.new f)) (g1.new hp) (.lst upd_same (rs.reverse.mono (Le.new f))) p1
    · exact p1.elim⟩⟩

/-! ### calls of built-ins by their names -/
abbrev DCl := List D → Store → (D → Store → Prop) → Prop
def lowC (S : SE) (F0 : Hp) (rd : DCl) : List V → Hp → VK → Prop := fun xs H Q => ∃ ds M F P, Le F0 F ∧ Good S F M H ∧ Reps S F xs ds ∧ rd ds M P ∧ ∀ v d M' F' H', Le F F' → Good S F' M' H' → Rep S F' v d → P d M' → Q v H'
def DCallR (X : Cx) (F0 : Hp) (f : Value) (rd : DCl) : Prop := CallR X f (lowC (Cx.se X) F0 rd)
def dB1 (rd : DCl) (ta : DTA) : DTE := fun ρ M Q => ta ρ M fun ds M1 => rd ds M1 Q
theorem low_cb {rd : DCl} {σ : L2.St} {H : Hp} {Q : VK} (h : low (Cx.se X) F0 (fun F => Rep (Cx.se X) F) (dB1 rd ta) σ H Q) : tCB (lowC (Cx.se X) F0 rd) (low (Cx.se X) F0 (fun F => Reps (Cx.se X) F) ta) σ H Q := by
  obtain ⟨ρ, M, F, P, l0, sl, g, t, k⟩ := h
  exact ⟨ρ, M, F, _, l0, sl, g, t, fun v d M1 F1 H1 l1 g1 r1 p1 => ⟨d, M1, F1, P, l0.trans l1, g1, r1, p1, fun v d M' F' H' l4 => k v d M' F' H' (l1.trans l4)⟩⟩
theorem de_b {rd : DCl} {id : String} (h : DCallR X F0 (.builtin id) rd) (hm : X.mg x = none) (ha : DA X F0 (e :: es) ta) (hv : bootBuiltins x = some (.builtin id) := by decide +kernel) (hg : Gl X x := by rfl) (hn : x ≠ "__name__" := by decide) (hdb : (x == ("__debug__" : Str)) = false := by decide)
    (he : starEach (e :: es) X.env = (false, eval e X.env) :: starEach es X.env := by rfl) (hpl : (backTo pos (starEach es X.env)).any (·.1) = false := by rfl) : DE X F0 (.Call (.Name x p) (e :: es) [] pos) (dB1 rd ta) :=
  ⟨PE.weak (pe_callB h hg hm hv ha.pa hn hdb he hpl) fun _ _ _ q => low_cb q⟩
theorem de_ty {rd : DCl} {T : String} (h : DCallR X F0 (.type T) rd) (hm : X.mg x = none) (ha : DA X F0 (e :: es) ta) (hv : bootBuiltins x = some (.type T) := by decide +kernel) (hg : Gl X x := by rfl) (hn : x ≠ "__name__" := by decide) (hdb : (x == ("__debug__" : Str)) = false := by decide)
    (he : starEach (e :: es) X.env = (false, eval e X.env) :: starEach es X.env := by rfl) (hpl : (backTo pos (starEach es X.env)).any (·.1) = false := by rfl) : DE X F0 (.Call (.Name x p) (e :: es) [] pos) (dB1 rd ta) :=
  ⟨PE.weak (pe_callTy h hg hm hv ha.pa hn hdb he hpl) fun _ _ _ q => low_cb q⟩
/-- a built-in's name, a class's name as a value -/
theorem de_tyname {T : String} (hm : X.mg x = none) (hv : bootBuiltins x = some (.type T) := by decide +kernel) (hg : Gl X x := by rfl) (hn : x ≠ "__name__" := by decide) (hd : (x == ("__debug__" : Str)) = false := by decide) : DE X F0 (.Name x pos) (dC (.ty T)) :=
  de_of_const (v := .ty T) (pe_bltn hg hm hv rfl hn hd) fun _ => .ty T
theorem de_cls {c : Str} (h : ∃ C, ClsAt (Cx.se X) c C) (hg : Gl X c := by rfl) (hd : (c == ("__debug__" : Str)) = false := by decide) : DE X F0 (.Name c pos) (dC (.cls c)) := by
  obtain ⟨C, hc⟩ := h
  exact de_of_const (v := .ref C) (pe_glob hg hc.mg rfl hd) fun _ => .cls hc
end
section
variable {X : Cx} {F0 : Hp}
def rcAbs : DCl := fun ds M Q => match ds with
  | [.int i] => Q (.int (if i < 0 then -i else i)) M
  | _ => False
theorem dc_abs : DCallR X F0 (.builtin "abs") rcAbs := by
  intro pins s σ H xs us Q I r ⟨ds, M, F, P, l0, g, rs, t, k⟩
  unfold rcAbs at t
  split at t
  · cases rs with
    | cons a b =>
      cases a; cases b
      exact call_abs pins s σ H _ us Q I r ⟨_, rfl, k _ _ M F H (Le.refl F) g (.int _) t⟩
  · exact t.elim
/-- the greater of two ints; the greatest of a list of ints -/
def toIs : List D → Option (List Int)
  | [] => some []
  | .int i :: r => (toIs r).map (i :: ·)
  | _ :: _ => none
theorem reps_ints {S : SE} {F : Hp} : ∀ {vs : List V} {ds : List D} {ns : List Int}, Reps S F vs ds → toIs ds = some ns → vs = ns.map V.int
  | _, [], ns, .nil, h => by cases h; rfl
  | _, d :: ds, ns, .cons a r, h => by
    cases d with
    | int i =>
      obtain ⟨ms, h1, rfl⟩ := Option.map_eq_some_iff.mp (show (toIs ds).map (i :: ·) = some ns from h)
      cases a
      rw [reps_ints r h1]; rfl
    | _ => cases h
theorem toIs_map : ∀ ns : List Int, toIs (ns.map D.int) = some ns
  | [] => rfl
  | n :: ns => by show (toIs (ns.map D.int)).map (n :: ·) = _; rw [toIs_map ns]; rfl
def rcMax : DCl := fun ds M Q => match ds with
  | [.int i, .int j] => Q (.int (if j > i then j else i)) M
  | [x] => match asR M x with
    | some es => match toIs es with
      | some ns => 0 < ns.length ∧ ∀ m, m ∈ ns → (∀ y, y ∈ ns → y ≤ m) → Q (.int m) M
      | none => False
    | none => False
  | _ => False
theorem dc_max (hc : X.calm = true) : DCallR X F0 (.builtin "max") rcMax := by
  intro pins s σ H xs us Q I r ⟨ds, M, F, P, l0, g, rs, t, k⟩
  unfold rcMax at t
  split at t
  · cases rs with
    | cons a b =>
      cases a
      cases b with
      | cons a b =>
        cases a; cases b
        exact call_max2 hc pins s σ H _ us Q I r ⟨_, _, rfl, k _ _ M F H (Le.refl F) g (.int _) t⟩
  · split at t
    · rename_i es e
      split at t
      · rename_i ns e2
        cases rs with
        | cons a b =>
          cases b
          obtain ⟨l, vs, rfl, h1, r1⟩ := asR_at g a e
          have ev := reps_ints r1 e2
          subst ev
          exact cr_max hc pins s σ H _ us Q I r ⟨l, ns, rfl, h1, t.1, fun m hm hle => k _ _ M F H (Le.refl F) g (.int _) (t.2 m hm hle)⟩
      · exact t.elim
    · exact t.elim
  · exact t.elim
def rcMin : DCl := fun ds M Q => match ds with
  | [.int i, .int j] => Q (.int (if j < i then j else i)) M
  | [x] => match asR M x with
    | some es => match toIs es with
      | some ns => 0 < ns.length ∧ ∀ m, m ∈ ns → (∀ y, y ∈ ns → m ≤ y) → Q (.int m) M
      | none => False
    | none => False
  | _ => False
theorem dc_min (hc : X.calm = true) : DCallR X F0 (.builtin "min") rcMin := by
  intro pins s σ H xs us Q I r ⟨ds, M, F, P, l0, g, rs, t, k⟩
  unfold rcMin at t
  split at t
  · cases rs with
    | cons a b =>
      cases a
      cases b with
      | cons a b =>
        cases a; cases b
        exact call_min2 hc pins s σ H _ us Q I r ⟨_, _, rfl, k _ _ M F H (Le.refl F) g (.int _) t⟩
  · split at t
    · rename_i es e
      split at t
      · rename_i ns e2
        cases rs with
        | cons a b =>
          cases b
          obtain ⟨l, vs, rfl, h1, r1⟩ := asR_at g a e
          have ev := reps_ints r1 e2
          subst ev
          exact cr_min hc pins s σ H _ us Q I r ⟨l, ns, rfl, h1, t.1, fun m hm hle => k _ _ M F H (Le.refl F) g (.int _) (t.2 m hm hle)⟩
      · exact t.elim
    · exact t.elim
  · exact t.elim
def rcSum : DCl := fun ds M Q => match ds with
  | [x] => match asR M x with
    | some es => match toIs es with
      | some ns => Q (.int ns.sum) M
      | none => False
    | none => False
  | _ => False
theorem dc_sum (hc : X.calm = true) : DCallR X F0 (.builtin "sum") rcSum := by
  intro pins s σ H xs us Q I r ⟨ds, M, F, P, l0, g, rs, t, k⟩
  unfold rcSum at t
  split at t
  · split at t
    · rename_i es e
      split at t
      · rename_i ns e2
        cases rs with
        | cons a b =>
          cases b
          obtain ⟨l, vs, rfl, h1, r1⟩ := asR_at g a e
          have ev := reps_ints r1 e2
          subst ev
          exact cr_sum hc pins s σ H _ us Q I r ⟨l, ns, rfl, h1, k _ _ M F H (Le.refl F) g (.int _) t⟩
      · exact t.elim
    · exact t.elim
  · exact t.elim
def toBs : List D → Option (List Bool)
  | [] => some []
  | .bl i :: r => (toBs r).map (i :: ·)
  | _ :: _ => none
theorem reps_bls {S : SE} {F : Hp} : ∀ {vs : List V} {ds : List D} {ns : List Bool}, Reps S F vs ds → toBs ds = some ns → vs = ns.map V.bl
  | _, [], ns, .nil, h => by cases h; rfl
  | _, d :: ds, ns, .cons a r, h => by
    cases d with
    | bl i =>
      obtain ⟨ms, h1, rfl⟩ := Option.map_eq_some_iff.mp (show (toBs ds).map (i :: ·) = some ns from h)
      cases a
      rw [reps_bls r h1]; rfl
    | _ => cases h
theorem toBs_map : ∀ ns : List Bool, toBs (ns.map D.bl) = some ns
  | [] => rfl
  | n :: ns => by show (toBs (ns.map D.bl)).map (n :: ·) = _; rw [toBs_map ns]; rfl
def rcAll : DCl := fun ds M Q => match ds with
  | [x] => match asR M x with
    | some es => match toBs es with
      | some bs => Q (.bl (bs.all id)) M
      | none => False
    | none => False
  | _ => False
def rcAny : DCl := fun ds M Q => match ds with
  | [x] => match asR M x with
    | some es => match toBs es with
      | some bs => Q (.bl (bs.any id)) M
      | none => False
    | none => False
  | _ => False
theorem dc_all (hc : X.calm = true) : DCallR X F0 (.builtin "all") rcAll := by
  intro pins s σ H xs us Q I r ⟨ds, M, F, P, l0, g, rs, t, k⟩
  unfold rcAll at t
  split at t
  · split at t
    · rename_i es e
      split at t
      · rename_i ns e2
        cases rs with
        | cons a b =>
          cases b
          obtain ⟨l, vs, rfl, h1, r1⟩ := asR_at g a e
          have ev := reps_bls r1 e2
          subst ev
          exact cr_all hc pins s σ H _ us Q I r ⟨l, ns, rfl, h1, k _ _ M F H (Le.refl F) g (.bl _) t⟩
      · exact t.elim
    · exact t.elim
  · exact t.elim
theorem dc_any (hc : X.calm = true) : DCallR X F0 (.builtin "any") rcAny := by
  intro pins s σ H xs us Q I r ⟨ds, M, F, P, l0, g, rs, t, k⟩
  unfold rcAny at t
  split at t
  · split at t
    · rename_i es e
      split at t
      · rename_i ns e2
        cases rs with
        | cons a b =>
          cases b
          obtain ⟨l, vs, rfl, h1, r1⟩ := asR_at g a e
          have ev := reps_bls r1 e2
          subst ev
          exact cr_any hc pins s σ H _ us Q I r ⟨l, ns, rfl, h1, k _ _ M F H (Le.refl F) g (.bl _) t⟩
      · exact t.elim
    · exact t.elim
  · exact t.elim
/-- len of lists, tuples, texts, dicts -/
def rcLen : DCl := fun ds M Q => match ds with
  | [.str z] => z.length ≤ sizeLine ∧ Q (.int z.length) M
  | [x] => match asS M x with
    | some es => Q (.int es.length) M
    | none => False
  | _ => False
theorem dc_len : DCallR X F0 (.builtin "len") rcLen := by
  intro pins s σ H xs us Q I r ⟨ds, M, F, P, l0, g, rs, t, k⟩
  unfold rcLen at t
  split at t
  · cases rs with
    | cons a b =>
      cases a; cases b
      exact call_len_str pins s σ H _ us Q I r ⟨_, rfl, t.1, k _ _ M F H (Le.refl F) g (.int _) t.2⟩
  · split at t
    · rename_i es e
      cases rs with
      | cons a b =>
        cases b
        obtain ⟨l, vs, rfl, h1, r1⟩ := asS_at g a e
        exact call_len_seq pins s σ H _ us Q I r ⟨l, vs, rfl, h1, by rw [r1.len]; exact k _ _ M F H (Le.refl F) g (.int _) t⟩
    · exact t.elim
  · exact t.elim
/-- list(x), tuple(x) of lists, tuples -/
def rcList : DCl := fun ds M Q => match ds with
  | [x] => match asS M x with
    | some es => Q (.lst es) M
    | none => False
  | _ => False
def rcListM : DCl := fun ds M Q => match ds with
  | [x] => match asS M x with
    | some es => ∀ p, M p = none → Q (.ref p) (updM M p (.lst es))
    | none => False
  | _ => False
def rcTuple : DCl := fun ds M Q => match ds with
  | [.tup es] => Q (.tup es) M
  | [x] => match asR M x with
    | some es => Q (.tup es) M
    | none => False
  | _ => False
theorem dc_list : DCallR X F0 (.type "list") rcList := by
  intro pins s σ H xs us Q I r ⟨ds, M, F, P, l0, g, rs, t, k⟩
  unfold rcList at t
  split at t
  · split at t
    · rename_i es e
      cases rs with
      | cons a b =>
        cases b
        obtain ⟨l, vs, rfl, h1, r1⟩ := asS_at g a e
        refine call_list_of pins s σ H _ us Q I r ⟨l, vs, rfl, h1, fun p hp => ?_⟩
        have f := g.freshF hp
        exact k _ _ M _ _ (Le.new f) (g.new hp) (.lst upd_same (r1.mono (Le.new f))) t
    · exact t.elim
  · exact t.elim
theorem dc_listM : DCallR X F0 (.type "list") rcListM := by
  intro pins s σ H xs us Q I r ⟨ds, M, F, P, l0, g, rs, t, k⟩
  unfold rcListM at t
  split at t
  · split at t
    · rename_i es e
      cases rs with
      | cons a b =>
        cases b
        obtain ⟨l, vs, rfl, h1, r1⟩ := asS_at g a e
        exact call_list_of pins s σ H _ us Q I r ⟨l, vs, rfl, h1, fun p hp => k _ _ _ F _ (Le.refl F) (g.newM hp (.lst r1)) (.ref p) (t p (g.freshM hp))⟩
    · exact t.elim
  · exact t.elim
theorem dc_tuple : DCallR X F0 (.type "tuple") rcTuple := by
  intro pins s σ H xs us Q I r ⟨ds, M, F, P, l0, g, rs, t, k⟩
  unfold rcTuple at t
  split at t
  · cases rs with
    | cons a b =>
      cases b
      obtain ⟨l, vs, rfl, h1, r1⟩ := asT_at g a rfl
      exact call_tuple_of pins s σ H _ us Q I r ⟨l, vs, rfl, .inr ⟨h1, k _ _ M F H (Le.refl F) g a t⟩⟩
  · split at t
    · rename_i es e
      cases rs with
      | cons a b =>
        cases b
        obtain ⟨l, vs, rfl, h1, r1⟩ := asR_at g a e
        refine call_tuple_of pins s σ H _ us Q I r ⟨l, vs, rfl, .inl ⟨h1, fun p hp => ?_⟩⟩
        have f := g.freshF hp
        exact k _ _ M _ _ (Le.new f) (g.new hp) (.tup (.inl (.inl upd_same)) (r1.mono (Le.new f))) t
    · exact t.elim
  · exact t.elim
end
end DL


set_option Elab.async false
set_option linter.all false
set_option maxRecDepth 100000
namespace DL
open PySem PySem.Spec PyProof.Rows L2

/-! ### isinstance -/
inductive TyD where
  | b (n : String) | own (c : Str)
def tyD (M : Store) : D → Option TyD
  | .non => some (.b "NoneType")
  | .bl _ => some (.b "bool")
  | .int _ => some (.b "int")
  | .str _ => some (.b "str")
  | .tup _ => some (.b "tuple")
  | .lst _ => some (.b "list")
  | .fro _ => some (.b "list")
  | .obj c _ => some (.own c)
  | .ref a => match M a with
    | some (.lst _) => some (.b "list")
    | some (.dct _) => some (.b "dict")
    | some (.ins c _) => some (.own c)
    | none => none
  | .dct _ => some (.b "dict")
  | .ty _ => none
  | .cls _ => none
def isiB (t : String) (n : String) : Option Bool :=
  if n = "int" ∨ n = "bool" ∨ n = "str" ∨ n = "tuple" ∨ n = "list" ∨ n = "dict" then some (decide (t = n) || (decide (t = "bool") && decide (n = "int"))) else none
def isiD : TyD → D → Option Bool
  | .b t, .ty n => isiB t n
  | .own _, .ty n => if n = "int" ∨ n = "bool" ∨ n = "str" ∨ n = "tuple" ∨ n = "list" ∨ n = "dict" then some false else none
  | .b _, .cls _ => some false
  | .own c, .cls c' => some (decide (c = c'))
  | _, _ => none
def rcIsi : DCl := fun ds M Q => match ds with
  | [x, c] => match tyD M x with
    | some t => match isiD t c with
      | some b => Q (.bl b) M
      | none => False
    | none => False
  | _ => False
def knownT (t : String) : Prop := t = "NoneType" ∨ t = "bool" ∨ t = "int" ∨ t = "str" ∨ t = "tuple" ∨ t = "list" ∨ t = "dict"
theorem isiB_ok {K : PySem.W.Frag} {t n : String} {b : Bool} (ht : knownT t) (h : isiB t n = some b) : PySem.W.kitOne K (.type t) (.type n) = some b := by
  apply kit_ty
  unfold isiB at h
  split at h
  · rename_i hn
    cases h
    rcases ht with rfl | rfl | rfl | rfl | rfl | rfl | rfl <;> rcases hn with rfl | rfl | rfl | rfl | rfl | rfl <;> decide +kernel
  · cases h
theorem mro_known {t : String} (ht : knownT t) : ∃ l, PySem.fastBuiltinMro t = some l ∧ l.all (fun v => match v with | .type _ => true | _ => false) = true := by
  rcases ht with rfl | rfl | rfl | rfl | rfl | rfl | rfl <;> exact ⟨_, rfl, by decide +kernel⟩
theorem cls_parts {S : SE} {c : Str} {C : Addr} (h : ClsAt S c C) : (∃ cd, PySem.W.clsIn S.K C = some cd ∧ cd.mro = [.ref C, .type "object"]) ∧ PySem.W.typeIn S.K (.ref C) = some (.type "type") ∧
    PySem.W.findIn S.K (.ref C) "__class__" = some (some (.builtin "object.__class__")) ∧ PySem.W.specialIn S.K (.builtin "object.__class__") "__get__" = some (some (.builtin "getset_descriptor.__get__")) ∧
    PySem.W.takesIn S.K (.builtin "object.__class__") = some true := by
  have k := h.ok
  unfold clsOkB at k
  simp only [Bool.and_eq_true, beq_iff_eq] at k
  obtain ⟨⟨⟨⟨⟨⟨⟨⟨⟨⟨k1, k2⟩, k3⟩, k4⟩, k5⟩, k6⟩, k7⟩, k8⟩, k9⟩, k10⟩, k11⟩ := k
  refine ⟨?_, k11, k7, k8, k9⟩
  split at k10
  · rename_i cd e
    exact ⟨cd, e, beq_iff_eq.mp k10⟩
  · cases k10
theorem cls_mro {S : SE} {c : Str} {C : Addr} (h : ClsAt S c C) (b : Value) : PySem.W.mroIn S.K C b = some ([Value.ref C, .type "object"].contains b) := by
  obtain ⟨⟨cd, h1, h2⟩, _⟩ := cls_parts h
  unfold PySem.W.mroIn
  rw [h1, Option.bind_some, h2]
  rfl
theorem isi_own {S : SE} {c : Str} {C : Addr} (h : ClsAt S c C) {n : String} (hn : n = "int" ∨ n = "bool" ∨ n = "str" ∨ n = "tuple" ∨ n = "list" ∨ n = "dict") : PySem.W.kitOne S.K (.ref C) (.type n) = some false := by
  unfold PySem.W.kitOne
  rw [if_neg (by simp)]
  unfold PySem.W.kitCls
  have e1 : PySem.W.kitMeta n = true := by rcases hn with rfl | rfl | rfl | rfl | rfl | rfl <;> decide +kernel
  have e2 : PySem.W.subIn S.K (.ref C) (.type n) = some false := by
    show PySem.W.mroIn S.K C (.type n) = _
    rw [cls_mro h]
    rcases hn with rfl | rfl | rfl | rfl | rfl | rfl <;> rfl
  simp only [e1, if_true, e2]
theorem isi_cls {S : SE} {c : Str} {C : Addr} (h : ClsAt S c C) (t : Value) (r : Bool) (hr : PySem.W.subIn S.K t (.ref C) = some r) (hne : t = .ref C → r = true) : PySem.W.kitOne S.K t (.ref C) = some r := by
  obtain ⟨⟨cd, h1, h2⟩, h3, _⟩ := cls_parts h
  unfold PySem.W.kitOne
  by_cases e : t = .ref C
  · rw [if_pos (by rw [e]; exact beq_self_eq_true _), hne e]
  · rw [if_neg (by intro z; exact e (beq_iff_eq.mp z))]
    unfold PySem.W.kitCls
    simp only [h1, h3, Option.isSome_some, beq_self_eq_true, Bool.and_self, if_true]
    exact hr
section
variable {X : Cx} {F0 : Hp} {pos : Pos}
theorem tyD_known {M : Store} {d : D} {t : String} (h : tyD M d = some (.b t)) : knownT t := by
  unfold tyD at h
  unfold knownT
  split at h <;> first
    | (cases h; simp; done)
    | (cases h; done)
    | (split at h <;> first | (cases h; simp; done) | (cases h; done))
theorem tyX_of {S : SE} {F H : Hp} {M : Store} {d : D} {v : V} (g : Good S F M H) (r : Rep S F v d) : ∀ t, tyD M d = some t → match t with
    | .b n => TyX S.K H v (.type n)
    | .own c => ∃ C, ClsAt S c C ∧ TyX S.K H v (.ref C) := by
  intro t h
  have own : ∀ {a C dx vs c}, H a = some (.ins C dx vs) → ClsAt S c C → ∃ C, ClsAt S c C ∧ TyX S.K H (.ref a) (.ref C) := fun {a C dx vs c} e hc => by
    obtain ⟨_, h3, h4, h5, h6⟩ := cls_parts hc
    exact ⟨C, hc, .base (.ins e hc.cls h4 h5 h6 (by rw [cls_mro hc]; simp))⟩
  have dct : ∀ {a kvs}, Rd H a (.dK kvs) → TyX S.K H (.ref a) (.type "dict") := fun {a kvs} e => by
    rcases e with e | ⟨o, e⟩
    · exact .base (.dK e)
    · exact .fDict e
  cases r with
  | non => cases h; exact .base .non
  | bl b => cases h; exact .base (.bl b)
  | int b => cases h; exact .base (.int b)
  | str b => cases h; exact .base (.str b)
  | ty n => cases h
  | cls n => cases h
  | tup q r =>
    cases h
    rcases q with (q | ⟨o, q⟩) | ⟨o, its, n, q, c, _⟩
    · exact .base (.tup (g.sub _ _ q))
    · exact .fTuple (g.sub _ _ q)
    · exact .kTuple q c
  | lst q r => cases h; exact .base (.lst (g.sub _ _ q))
  | fro q r =>
    cases h
    rcases q with (q | ⟨o, q⟩) | ⟨o, its, n, q, c, _⟩
    · exact .base (.lst (g.sub _ _ q))
    · exact .base (.frz (g.sub _ _ q))
    · exact .kList q c
  | dctK q r => cases h; exact dct (g.rd q)
  | obj q hc r => cases h; exact own (g.sub _ _ q) hc
  | ref a =>
    unfold tyD at h
    simp only at h
    split at h
    · rename_i e
      cases h
      obtain ⟨_, o, e, q⟩ := g.cel _ _ e
      cases q with
      | lst r => exact .base (.lst e)
    · rename_i e
      cases h
      obtain ⟨_, o, e, q⟩ := g.cel _ _ e
      cases q with
      | dctK r => exact .base (.dK e)
    · rename_i e
      cases h
      obtain ⟨_, o, e, q⟩ := g.cel _ _ e
      cases q with
      | ins hc r => exact own e hc
    · cases h
theorem cls_inj {S : SE} {c c' : Str} {C : Addr} (h : ClsAt S c C) (h' : ClsAt S c' C) : c = c' := by
  have a := h.nm
  have b := h'.nm
  unfold clsNmB at a b
  split at a
  · rename_i cd e
    rw [e] at b
    exact (beq_iff_eq.mp a).symm.trans (beq_iff_eq.mp b)
  · cases a
theorem isi_sub {K : PySem.W.Frag} {t : String} {C : Addr} {l : List Value} (hl : PySem.fastBuiltinMro t = some l) (ha : l.all (fun v => match v with | .type _ => true | _ => false) = true) : PySem.W.subIn K (.type t) (.ref C) = some false := by
  show (PySem.fastBuiltinMro t).map (·.contains (.ref C)) = _
  rw [hl]
  show some (l.contains (.ref C)) = _
  congr 1
  rw [Bool.eq_false_iff]
  intro z
  have := List.all_eq_true.mp ha _ (List.contains_iff_mem.mp z)
  cases this
theorem clsV_of {S : SE} {F : Hp} {v : V} {d : D} (r : Rep S F v d) : (∀ n, d = .ty n → ClsV v (.type n)) ∧ (∀ c, d = .cls c → ∃ C, ClsAt S c C ∧ ClsV v (.ref C)) := by
  refine ⟨fun n e => ?_, fun c e => ?_⟩
  · subst e; cases r; exact .ty n
  · subst e
    cases r with
    | cls h => exact ⟨_, h, .own _⟩
theorem isi_row {S : SE} {F H : Hp} {M : Store} {d d2 : D} {v v2 : V} {ty : TyD} {b : Bool} (g : Good S F M H) (rx : Rep S F v d) (rc : Rep S F v2 d2) (ety : tyD M d = some ty) (eb : isiD ty d2 = some b) : ∃ t u, ClsV v2 u ∧ TyX S.K H v t ∧ PySem.W.kitOne S.K t u = some b := by
  have TX := tyX_of g rx _ ety
  have CV := clsV_of rc
  cases ty with
  | b n =>
    cases d2 with
    | ty m => exact ⟨_, _, CV.1 m rfl, TX, isiB_ok (tyD_known ety) eb⟩
    | cls c' =>
      cases eb
      obtain ⟨C, hc, cv⟩ := CV.2 _ rfl
      obtain ⟨l, hl, ha⟩ := mro_known (tyD_known ety)
      exact ⟨_, _, cv, TX, isi_cls hc _ _ (isi_sub hl ha) (fun z => nomatch z)⟩
    | _ => cases eb
  | own c =>
    obtain ⟨C, hc, tx⟩ := TX
    cases d2 with
    | ty m =>
      have eb' : (if m = "int" ∨ m = "bool" ∨ m = "str" ∨ m = "tuple" ∨ m = "list" ∨ m = "dict" then some false else none) = some b := eb
      split at eb'
      · rename_i hm
        cases eb'
        exact ⟨_, _, CV.1 m rfl, tx, isi_own hc hm⟩
      · cases eb'
    | cls c' =>
      cases eb
      obtain ⟨C', hc', cv⟩ := CV.2 _ rfl
      refine ⟨_, _, cv, tx, isi_cls hc' _ _ ?_ ?_⟩
      · show PySem.W.mroIn _ C (.ref C') = _
        rw [cls_mro hc]
        by_cases e : c = c'
        · subst e
          have := hc.mg.symm.trans hc'.mg
          cases this
          simp
        · have hne : C' ≠ C := fun z => e (cls_inj (z ▸ hc') hc).symm
          simp [e, hne]
      · intro z
        cases z
        exact decide_eq_true (cls_inj hc hc')
    | _ => cases eb
theorem dc_isi : DCallR X F0 (.builtin "isinstance") rcIsi := by
  intro pins s σ H xs us Q I r ⟨ds, M, F, P, l0, g, rs, t, k⟩
  unfold rcIsi at t
  split at t
  · cases rs with
    | cons rx rt =>
      cases rt with
      | cons rc rz =>
        cases rz
        split at t
        · rename_i ty ety
          split at t
          · rename_i b eb
            obtain ⟨t1, u1, h1, h2, h3⟩ := isi_row g rx rc ety eb
            exact call_isi pins s σ H _ us Q I r ⟨_, _, t1, u1, b, rfl, h1, h2, h3, k _ _ M F H (Le.refl F) g (.bl b) t⟩
          · exact t.elim
        · exact t.elim
  · exact t.elim
end
end DL


set_option Elab.async false
set_option linter.all false
set_option maxRecDepth 100000
namespace DL
open PySem PySem.Spec PyProof.Rows L2

/-! ### methods of lists -/
abbrev DMt := D → List D → Store → (D → Store → Prop) → Prop
def lowMt (S : SE) (F0 : Hp) (rd : DMt) : V → List V → Hp → VK → Prop := fun x xs H Q => ∃ d ds M F P, Le F0 F ∧ Good S F M H ∧ Rep S F x d ∧ Reps S F xs ds ∧ rd d ds M P ∧ ∀ v d M' F' H', Le F F' → Good S F' M' H' → Rep S F' v d → P d M' → Q v H'
def DMtR (X : Cx) (F0 : Hp) (id : String) (rd : DMt) : Prop := MtR X id (lowMt (Cx.se X) F0 rd)
def isLM (M : Store) (d : D) : Prop := match d with
  | .ref a => match M a with
    | some (.lst _) => True
    | _ => False
  | .lst _ => True
  | .fro _ => True
  | _ => False
def dMt (rd : DMt) (to : DTE) (ta : DTA) : DTE := fun ρ M Q => to ρ M fun x M1 => isLM M1 x ∧ ta ρ M1 fun ds M2 => rd x ds M2 Q
def rmAppend : DMt := fun x ds M Q => match x, ds with
  | .ref a, [y] => match M a with
    | some (.lst xs) => xs.length < sizeLine ∧ Q .non (updM M a (.lst (xs ++ [y])))
    | _ => False
  | _, _ => False
def rmReverse : DMt := fun x ds M Q => match x, ds with
  | .ref a, [] => match M a with
    | some (.lst xs) => Q .non (updM M a (.lst xs.reverse))
    | _ => False
  | _, _ => False
def rmPop : DMt := fun x ds M Q => match x, ds with
  | .ref a, [] => match M a with
    | some (.lst xs) => match xs[xs.length - 1]? with
      | some y => Q y (updM M a (.lst xs.dropLast))
      | none => False
    | _ => False
  | _, _ => False
theorem Reps.dropLast {S : SE} {F : Hp} : ∀ {vs : List V} {ds : List D}, Reps S F vs ds → Reps S F vs.dropLast ds.dropLast
  | _, _, .nil => .nil
  | [_], _, .cons _ .nil => .nil
  | _ :: _ :: _, _, .cons r (.cons q t) => .cons r (Reps.dropLast (.cons q t))
section
variable {X : Cx} {F0 : Hp} {pos : Pos} {o e : Expr} {es : List Expr} {to : DTE} {ta : DTA} {name : Str} {apos cpos : Pos} {id : String} {rd : DMt}
theorem isLM_ty {S : SE} {F H : Hp} {M : Store} {v : V} {d : D} (g : Good S F M H) (r : Rep S F v d) (h : isLM M d) : tyV S.K "list" v H := by
  unfold isLM at h
  cases d with
  | ref a =>
    cases r
    simp only at h
    split at h
    · rename_i xs e
      obtain ⟨_, o, e2, q⟩ := g.cel _ _ e
      cases q with
      | lst rs => exact .inl ⟨rfl, _, .inl (.inl e2)⟩
    · exact h.elim
  | lst es =>
    cases r with
    | lst hq rs => exact .inl ⟨rfl, _, .inl (.inl (g.sub _ _ hq))⟩
  | fro es =>
    cases r with
    | fro hq rs => exact .inl ⟨rfl, _, g.sqL hq⟩
  | _ => exact h.elim
theorem de_m (slot : Slot "list" name id) (hty : typeOf (.builtin id) = pure (.type "method_descriptor")) (hm : DMtR X F0 id rd) (ho : DE X F0 o to) (ha : DA X F0 (e :: es) ta)
    (hbase : attributeBase o name X.env (eval o X.env) = eval o X.env := by rfl)
    (hfew : ((backTo cpos (starEach (e :: es) X.env)).all (fun x => !x.1) && (backToKw cpos (keywordEach [] X.env)).all (fun x => x.1.isSome)
      && decide ((e :: es).length + ([] : List Keyword).length + (if ([] : List Keyword).isEmpty then 0 else 1) < 30)) = true := by rfl)
    (hline : (apos.endLine == cpos.line) = true := by rfl) (hs : starEach (e :: es) X.env = (false, eval e X.env) :: starEach es X.env := by rfl) (hplain : (backTo cpos (starEach es X.env)).any (·.1) = false := by rfl) :
    DE X F0 (.Call (.Attribute o name apos) (e :: es) [] cpos) (dMt rd to ta) := by
  refine ⟨PE.weak (pe_bm F.plainAttrs_list slot hty hm ho.pe ha.pa hbase hfew hline hs hplain) fun σ H Q ⟨ρ, M, F, P, l0, sl, g, t, k⟩ => ?_⟩
  exact ⟨ρ, M, F, _, l0, sl, g, t, fun v d M1 F1 H1 l1 g1 r1 p1 => ⟨isLM_ty g1 r1 p1.1, ρ, M1, F1, _, l0.trans l1, sl.mono l1, g1, p1.2, fun vs ds M2 F2 H2 l2 g2 r2 p2 =>
    ⟨d, ds, M2, F2, P, l0.trans (l1.trans l2), g2, r1.mono l2, r2, p2, fun v' d' M' F' H' l' => k v' d' M' F' H' ((l1.trans l2).trans l')⟩⟩⟩
theorem de_m0 (slot : Slot "list" name id) (hty : typeOf (.builtin id) = pure (.type "method_descriptor")) (hm : DMtR X F0 id rd) (ho : DE X F0 o to)
    (hbase : attributeBase o name X.env (eval o X.env) = eval o X.env := by rfl) (hline : (apos.endLine == cpos.line) = true := by rfl) :
    DE X F0 (.Call (.Attribute o name apos) [] [] cpos) (dMt rd to daNil) := by
  refine ⟨PE.weak (pe_bm0 F.plainAttrs_list slot hty hm ho.pe hbase hline) fun σ H Q ⟨ρ, M, F, P, l0, sl, g, t, k⟩ => ?_⟩
  exact ⟨ρ, M, F, _, l0, sl, g, t, fun v d M1 F1 H1 l1 g1 r1 p1 => ⟨isLM_ty g1 r1 p1.1, d, [], M1, F1, P, l0.trans l1, g1, r1, .nil, p1.2, fun v' d' M' F' H' l' => k v' d' M' F' H' (l1.trans l')⟩⟩
theorem dm_append : DMtR X F0 "list.append" rmAppend := by
  intro pins s σ H x xs v us Q I rx rxs ⟨d, ds, M, F, P, l0, g, rd, rs, t, k⟩
  refine mt_append pins s σ H x xs v us Q I rx rxs ?_
  unfold rmAppend at t
  split at t
  · split at t
    · rename_i e
      obtain ⟨_, o, e2, q⟩ := g.cel _ _ e
      cases q with
      | lst r =>
        cases rd
        cases rs with
        | cons ry rz =>
          cases rz
          exact ⟨_, _, _, rfl, rfl, e2, by rw [r.len]; exact t.1, k _ _ _ F _ (Le.refl F) (g.set e (.lst (r.append (.cons ry .nil)))) .non t.2⟩
    · exact t.elim
  · exact t.elim
theorem dm_reverse : DMtR X F0 "list.reverse" rmReverse := by
  intro pins s σ H x xs v us Q I rx rxs ⟨d, ds, M, F, P, l0, g, rd, rs, t, k⟩
  refine mt_reverse pins s σ H x xs v us Q I rx rxs ?_
  unfold rmReverse at t
  split at t
  · split at t
    · rename_i e
      obtain ⟨_, o, e2, q⟩ := g.cel _ _ e
      cases q with
      | lst r =>
        cases rd
        cases rs
        exact ⟨_, _, rfl, rfl, e2, k _ _ _ F _ (Le.refl F) (g.set e (.lst r.reverse)) .non t⟩
    · exact t.elim
  · exact t.elim
theorem dm_pop : DMtR X F0 "list.pop" rmPop := by
  intro pins s σ H x xs v us Q I rx rxs ⟨d, ds, M, F, P, l0, g, rd, rs, t, k⟩
  refine mt_pop pins s σ H x xs v us Q I rx rxs ?_
  unfold rmPop at t
  split at t
  · split at t
    · rename_i e
      obtain ⟨_, o, e2, q⟩ := g.cel _ _ e
      cases q with
      | lst r =>
        cases rd
        cases rs
        split at t
        · rename_i y ey
          obtain ⟨v', ev, rv⟩ := r.get ey
          exact ⟨_, _, v', rfl, rfl, e2, by rw [r.len]; exact ev, k _ _ _ F _ (Le.refl F) (g.set e (.lst r.dropLast)) rv t⟩
        · exact t.elim
    · exact t.elim
  · exact t.elim
theorem de_append (ho : DE X F0 o to) (ha : DA X F0 [e] ta) (hbase : attributeBase o "append" X.env (eval o X.env) = eval o X.env := by rfl)
    (hfew : ((backTo cpos (starEach [e] X.env)).all (fun x => !x.1) && (backToKw cpos (keywordEach [] X.env)).all (fun x => x.1.isSome)
      && decide ([e].length + ([] : List Keyword).length + (if ([] : List Keyword).isEmpty then 0 else 1) < 30)) = true := by rfl)
    (hline : (apos.endLine == cpos.line) = true := by rfl) (hs : starEach [e] X.env = (false, eval e X.env) :: starEach [] X.env := by rfl) (hplain : (backTo cpos (starEach [] X.env)).any (·.1) = false := by rfl) :
    DE X F0 (.Call (.Attribute o "append" apos) [e] [] cpos) (dMt rmAppend to ta) := de_m F.slot_list_append F.type_list_append dm_append ho ha hbase hfew hline hs hplain
theorem de_reverse (ho : DE X F0 o to) (hbase : attributeBase o "reverse" X.env (eval o X.env) = eval o X.env := by rfl) (hline : (apos.endLine == cpos.line) = true := by rfl) :
    DE X F0 (.Call (.Attribute o "reverse" apos) [] [] cpos) (dMt rmReverse to daNil) := de_m0 F.slot_list_reverse F.type_list_reverse dm_reverse ho hbase hline
theorem de_pop (ho : DE X F0 o to) (hbase : attributeBase o "pop" X.env (eval o X.env) = eval o X.env := by rfl) (hline : (apos.endLine == cpos.line) = true := by rfl) :
    DE X F0 (.Call (.Attribute o "pop" apos) [] [] cpos) (dMt rmPop to daNil) := de_m0 F.slot_list_pop F.type_list_pop dm_pop ho hbase hline
end

/-! ### sorted, repr -/
def encD (d : D) : PyData := (toP d).getD .none
def rcSorted : DCl := fun ds M Q => match ds with
  | [x] => match asR M x with
    | some xs => (∃ es, toPs xs = some es ∧ PySem.W.AllAlike es ∧ PySem.W.Sortable es ∧ ∀ e ∈ es, e.depth ≤ 32) ∧ Q (.lst (xs.mergeSort (PySem.W.dataLe false encD))) M
    | none => False
  | _ => False
theorem toPs_cons {x : D} {xs : List D} {es : List PyData} (h : toPs (x :: xs) = some es) : ∃ e fs, toP x = some e ∧ toPs xs = some fs ∧ es = e :: fs := by
  simp only [toPs] at h
  split at h
  · rename_i e fs h1 h2
    exact ⟨e, fs, h1, h2, (Option.some.inj h).symm⟩
  · cases h
theorem toPs_enc : ∀ {xs : List D} {es : List PyData}, toPs xs = some es → es = xs.map encD
  | [], es, h => by cases h; rfl
  | x :: xs, es, h => by
    obtain ⟨e, fs, h1, h3, rfl⟩ := toPs_cons h
    rw [toPs_enc h3, List.map_cons]
    congr 1
    unfold encD
    rw [h1]; rfl
section
variable {X : Cx} {F0 : Hp} {pos : Pos}
theorem each_of {S : SE} {F : Hp} : ∀ {vs : List V} {ds : List D} {us : List Value}, Reps S F vs ds → Vals vs us → PySem.W.EachIs (fun u d => ∃ v, RelV v u ∧ Rep S F v d) us ds
  | _, _, _, .nil, .nil => .nil
  | _, _, _, .cons r t, .cons q u => .cons ⟨_, q, r⟩ (each_of t u)
theorem of_each {S : SE} {F : Hp} : ∀ {us : List Value} {ds : List D}, PySem.W.EachIs (fun u d => ∃ v, RelV v u ∧ Rep S F v d) us ds → ∃ vs, Vals vs us ∧ Reps S F vs ds
  | _, _, .nil => ⟨[], .nil, .nil⟩
  | _, _, .cons ⟨v, a, b⟩ t => by
    obtain ⟨vs, h1, h2⟩ := of_each t
    exact ⟨v :: vs, .cons a h1, .cons b h2⟩
theorem each_reads {pins : List (Addr × Obj)} {σ : L2.St} {H : Hp} {s : Shared} (I : Inv X pins σ H s) {M : Store} {F : Hp} (g : Good (Cx.se X) F M H) : ∀ {vs : List V} {ds : List D} {us : List Value} {es : List PyData}, Reps (Cx.se X) F vs ds → Vals vs us → toPs ds = some es →
    PySem.W.EachIs (fun u d => ∃ as, Reads s.heap u (encD d) as) us ds
  | _, _, _, _, .nil, .nil, _ => .nil
  | _, d :: ds, _, es, .cons r t, .cons q u, h => by
    obtain ⟨e, fs, h1, h3, rfl⟩ := toPs_cons h
    refine .cons ?_ (each_reads I g t u h3)
    have ee : encD d = e := by unfold encD; rw [h1]; rfl
    rw [ee]
    exact Dp.reads I e _ _ (rep_toP g r h1) q
theorem dc_sorted {k : Nat} (hr : Room k X.A) : DCallR X F0 (.builtin "sorted") rcSorted := by
  intro pins s σ H xs us Q I r ⟨ds, M, F, P, l0, g, rs, t, k⟩
  unfold rcSorted at t
  split at t
  · cases rs with
    | cons rx rz =>
      cases rz
      split at t
      · rename_i ys ey
        obtain ⟨⟨es, h1, h2, h3, h4⟩, t⟩ := t
        obtain ⟨a, vs, rfl, hq, ry⟩ := asR_at g rx ey
        obtain ⟨its, rv, p, hz⟩ := I.list hq
        rw [Vals.ref1 r]
        have ee := toPs_enc h1
        subst ee
        refine PySem.W.sorted_data (enc := encD) (R := fun u d => ∃ v, RelV v u ∧ Rep (Cx.se X) F v d) p.isList (each_of ry rv) (each_reads I g ry rv h1) h2 h3 (by rw [← ry.len]; exact hz) (fun b hb => ?_) fun out ho eo => ?_
        · have := h4 _ (List.mem_map.mpr ⟨b, hb, rfl⟩)
          have := hr.units
          omega
        · obtain ⟨ws, w1, w2⟩ := of_each eo
          obtain ⟨ep, he'⟩ := PyProof.Rows.sortedAll_at s.heap its out.toArray
          have hn := I.hok.fresh (Nat.le_succ s.heap.objs.size)
          have hlen : ws.length ≤ sizeLine := by rw [w2.len, List.length_mergeSort, ← ry.len]; exact hz
          refine ⟨.ref _, upd H (s.heap.objs.size + 1) (.lst ws), I.laid (t' := s.toks) (fun _ _ => PyProof.Rows.sortedAll_old) (Nat.le_succ _) ⟨hlen, out, ep, w1, he'⟩, rfl, ?_⟩
          exact k _ _ M _ _ (Le.new (g.freshF hn)) (g.new hn) (.lst upd_same (w2.mono (Le.new (g.freshF hn)))) t
      · exact t.elim
  · exact t.elim
def showD : D → Prop
  | .tup _ | .lst _ | .ref _ | .fro _ | .int _ | .bl _ | .non => True
  | _ => False
def rcRepr : DCl := fun ds M Q => match ds with
  | [x] => match toPM M x with
    | some d => showD x ∧ d.showable = true ∧ d.hasDict = false ∧ d.shown.length ≤ sizeLine ∧ d.depth ≤ 32 ∧ Q (.str d.shown) M
    | none => False
  | _ => False
theorem dc_repr {k : Nat} (hr : Rm k X.A) : DCallR X F0 (.builtin "repr") rcRepr := by
  intro pins s σ H xs us Q I r ⟨ds, M, F, P, l0, g, rs, t, k⟩
  cases rs with
  | nil => exact t.elim
  | @cons v0 x vs0 ds0 rx rz =>
    cases rz with
    | cons _ _ => exact t.elim
    | nil =>
      unfold rcRepr at t
      simp only at t
      split at t
      · rename_i d ed
        obtain ⟨t0, t1, t2, t3, t4, t⟩ := t
        obtain ⟨u, rfl, ru⟩ := r.one
        obtain ⟨as, hR⟩ := Dp.reads I d _ _ (rep_toPM g rx ed) ru
        have byref : ∀ a, u = .ref a → wpAny (model X.prog X.w) X.A (call (.builtin "repr") [u]) (EP X pins σ Q) X.xe s := fun a eu => by
          subst eu
          refine PySem.repr_of_reads' hR t1 (PyData.noDict_hsm t2) hr.gd (by have := hr.room.units; omega) (fun _ _ e => e) (fun h' u' tk hk => ?_) t3
          exact ⟨.str d.shown, H, I.kept hk, ⟨u', rfl⟩, k _ _ M F H (Le.refl F) g (.str _) t⟩
        cases x with
        | tup => cases rx; exact byref _ ru
        | lst => cases rx; exact byref _ ru
        | ref => cases rx; exact byref _ ru
        | fro => cases rx; exact byref _ ru
        | int i =>
          cases rx
          have e : d = .int i := by
            have : some (PyData.int i) = some d := ed
            cases this; rfl
          subst e
          refine SkE.call_repr_int pins s σ H _ _ Q I (.cons ru .nil) ⟨i, rfl, of_decide_eq_true t1, k _ _ M F H (Le.refl F) g (.str _) t⟩
        | bl b =>
          cases rx
          have e : d = .bool b := by
            have : some (PyData.bool b) = some d := ed
            cases this; rfl
          subst e
          have e2 : (PyData.bool b).shown = if b = true then Str.ofString "True" else Str.ofString "False" := by cases b <;> rfl
          cases ru
          rw [e2] at t
          exact PySem.P.repr_of_bool ⟨.str _, H, I.tok _, ⟨_, rfl⟩, k _ _ M F H (Le.refl F) g (.str _) t⟩
        | non =>
          cases rx
          have e : d = .none := by
            have : some PyData.none = some d := ed
            cases this; rfl
          subst e
          cases ru
          exact PySem.P.repr_of_none ⟨.str _, H, I.tok _, ⟨_, rfl⟩, k _ _ M F H (Le.refl F) g (.str _) t⟩
        | _ => exact t0.elim
      · exact t.elim
end
end DL


set_option Elab.async false
set_option linter.all false
set_option maxRecDepth 100000
namespace DL
open PySem PySem.Spec PyProof.Rows L2

/-! ### list comprehensions -/
theorem iteF' {A B : Prop} (h : if false = true then A else B) : B := by simpa using h
theorem iteT' {A B : Prop} (h : if true = true then A else B) : A := by simpa using h
theorem wipe_sub {σ : L2.St} {vs : List Nat} : ∀ {ws : List Nat}, (∀ w ∈ ws, w ∈ vs) → L2.wipe (L2.wipe σ ws) vs = L2.wipe σ vs
  | [], _ => rfl
  | w :: ws, h => by
    show L2.wipe ((L2.wipe σ ws).set w none) vs = _
    rw [wipe_set (h w List.mem_cons_self)]
    exact wipe_sub fun x hx => h x (List.mem_cons_of_mem _ hx)
theorem wipe_wipe (σ : L2.St) (vs : List Nat) : L2.wipe (L2.wipe σ vs) vs = L2.wipe σ vs := wipe_sub fun _ h => h
structure DIfs (X : Cx) (F0 : Hp) (ifs : List Expr) (t : DTT) : Prop where
  pts : PTs X ifs (low (Cx.se X) F0 eqB t)
def dYes : DTT := fun _ M Q => Q true M
theorem PTs.weak {X : Cx} {ifs : List Expr} {t u : TT} (h : PTs X ifs t) (k : ∀ σ H Q, u σ H Q → t σ H Q) : PTs X ifs u := ⟨fun pins s σ H Q I q => h.run pins s σ H Q I (k _ _ _ q)⟩
theorem difs_nil {X : Cx} {F0 : Hp} : DIfs X F0 [] dYes := ⟨PTs.weak pts_nil fun σ H Q ⟨ρ, M, F, P, l0, sl, g, t, k⟩ => k true true M F H (Le.refl F) g rfl t⟩
theorem difs_one {X : Cx} {F0 : Hp} {c : Expr} {t : DTT} (h : DT X F0 c t) : DIfs X F0 [c] t := ⟨pts_one h.pt⟩
def dLcLoop (L : Store → Prop) (g : DTG) (tt : DTT) (te : DTE) (p : Addr) (ρ : Ro) : List D → List D → Store → (List D → Store → Prop) → Prop
  | [], acc => fun M Q => L (updM M p (.lst acc)) ∧ Q acc M
  | d :: ds, acc => fun M Q => L (updM M p (.lst acc)) ∧ g d ρ (updM M p (.lst acc)) fun ρ2 M2 => tt ρ2 M2 fun b M3 =>
    if b = true then te ρ2 M3 fun y M4 => ∃ M5, M4 = updM M5 p (.lst acc) ∧ M5 p = none ∧ acc.length < sizeLine ∧ dLcLoop L g tt te p ρ ds (acc ++ [y]) M5 Q
    else ∃ M5, M3 = updM M5 p (.lst acc) ∧ M5 p = none ∧ dLcLoop L g tt te p ρ ds acc M5 Q
def dLc (ti : DTI) (g : DTG) (tt : DTT) (te : DTE) (vs : List Nat) : DTE := fun ρ M Q => ti ρ M fun ds L M1 => ∀ p, M1 p = none → dLcLoop L g tt te p (wipeR ρ vs) ds [] M1 fun out M2 => Q (.lst out) M2
section
variable {X : Cx} {F0 : Hp} {pos : Pos}
theorem low_lc {own : List (Str × Nat)} {ti : DTI} {g : DTG} {tt : DTT} {te : DTE} (hne : own ≠ []) {σ : L2.St} {H : Hp} {Q : VK} (h : low (Cx.se X) F0 (fun F => Rep (Cx.se X) F) (dLc ti g tt te (own.map (·.2))) σ H Q) :
    tLc (lowI (Cx.se X) F0 ti) (lowG (Cx.se X) F0 (own.map (·.2)) g) (low (Cx.se X) F0 eqB tt) (low (Cx.se X) F0 (fun F => Rep (Cx.se X) F) te) (own.map (·.2)) σ H Q := by
  have hvs : own.map (·.2) ≠ [] := fun z => hne (List.map_eq_nil_iff.mp z)
  obtain ⟨ρ, M, F, P, l0, sl, gd, t, k⟩ := h
  refine ⟨ρ, M, F, _, l0, sl, gd, t, fun ds L J M1 F1 H1 l1 g1 wk p1 D hD => ?_⟩
  have p1' := p1 D (g1.freshM hD)
  refine ⟨fun i m H' => ∃ acc M' F', Le F1 F' ∧ Good (Cx.se X) F' (updM M' D (.lst acc)) H' ∧ M' D = none ∧ dLcLoop L g tt te D (wipeR ρ (own.map (·.2))) (ds.drop i) acc M' (fun out M2 => P (.lst out) M2) ∧ i ≤ ds.length ∧ m = ds.length - i,
    ⟨ds.length, [], M1, F1, Le.refl F1, g1.newM hD (.lst .nil), g1.freshM hD, p1', Nat.zero_le _, rfl⟩, fun i m H' ⟨acc, M', F', l', g', hM', q, hi', hm⟩ => ?_⟩
  by_cases hlt : i < ds.length
  · right
    have hd : ds.drop i = ds[i] :: ds.drop (i + 1) := List.drop_eq_getElem_cons hlt
    rw [hd] at q
    obtain ⟨w1, _⟩ := wk i H' F' _ l' g' q.1
    obtain ⟨go, yl⟩ := w1 hlt
    refine ⟨go, fun H2 => ∃ acc2 M2 F2, Le F1 F2 ∧ Good (Cx.se X) F2 (updM M2 D (.lst acc2)) H2 ∧ M2 D = none ∧ dLcLoop L g tt te D (wipeR ρ (own.map (·.2))) (ds.drop (i + 1)) acc2 M2 (fun out M2 => P (.lst out) M2),
      fun H2 ⟨acc2, M2, F2, a1, a2, a3, a4⟩ => ⟨m - 1, by omega, acc2, M2, F2, a1, a2, a3, a4, hlt, by omega⟩, fun x H2 y => ?_⟩
    obtain ⟨F2, d, l2, g2, ed, rd⟩ := yl x H2 y
    have ed' : d = ds[i] := by rw [List.getElem?_eq_getElem hlt] at ed; exact (Option.some.inj ed).symm
    subst ed'
    have L02 : Le F0 F2 := l0.trans (l1.trans (l'.trans l2))
    refine ⟨_, wipeR ρ (own.map (·.2)), _, F2, _, L02, rd, (sl.mono (l1.trans (l'.trans l2))).wipe _, g2, q.2, fun σ3 ρ3 M3 F3 H3 w3 l3 s3 g3 p3 => ?_⟩
    refine ⟨(w3 hvs).trans (wipe_wipe σ _), ρ3, M3, F3, _, L02.trans l3, s3, g3, p3, fun b b' M4 F4 H4 l4 g4 eb p4 => ?_⟩
    cases eb
    have L14 : Le F1 F4 := (l'.trans l2).trans (l3.trans l4)
    cases b with
    | false =>
      obtain ⟨M5, e5, n5, p5⟩ := iteF' p4
      subst e5
      exact iteF ⟨acc, M5, F4, L14, g4, n5, p5⟩
    | true =>
      refine iteT ⟨ρ3, M4, F4, _, (l0.trans l1).trans L14, s3.mono l4, g4, iteT' p4, fun v d M6 F6 H6 l6 g6 r6 p6 => ?_⟩
      obtain ⟨M5, e5, n5, z5, p5⟩ := p6
      subst e5
      obtain ⟨_, o, eo, ro⟩ := g6.cel D (.lst acc) updM_same
      cases ro with
      | lst rs =>
        refine ⟨_, eo, by rw [rs.len]; exact z5, _, M5, F6, L14.trans l6, ?_, n5, p5⟩
        have := g6.set (m := .lst (acc ++ [d])) updM_same (.lst (rs.append (.cons r6 .nil)))
        rw [updM_updM] at this
        exact this
  · left
    have hi2 : i = ds.length := by omega
    have hd : ds.drop i = [] := by rw [hi2]; exact List.drop_length
    rw [hd] at q
    refine ⟨(wk i H' F' _ l' g' q.1).2 hi2, ?_⟩
    obtain ⟨f, o, eo, ro⟩ := g'.cel D (.lst acc) updM_same
    cases ro with
    | lst rs =>
      have gz := g'.freeze updM_same eo
      rw [delM_updM hM'] at gz
      exact k _ _ M' _ H' ((l1.trans l').trans (Le.new f)) gz (.lst upd_same (rs.mono (Le.new f))) q.2
theorem de_lc {elt tg iter : Expr} {ifs : List Expr} {scope : Scope} {own : List (Str × Nat)} {ti : DTI} {g : DTG} {tt : DTT} {te : DTE} (hc : X.calm = true) (hN : X.N.Nodup) (hne : own ≠ []) (hi : DI X F0 tg iter ti) (ok : BlkOk X.N X.env.scope scope own)
    (hg : ∀ (s : Shared) (H : Hp) (C : Addr) (cl : List (Str × Addr)) (fp : List Addr), DG (X.blk s H scope (compEnvC scope cl C X.env) fp) F0 (own.map (·.2)) tg g)
    (ht : ∀ (s : Shared) (H : Hp) (C : Addr) (cl : List (Str × Addr)) (fp : List Addr), DIfs (X.blk s H scope (compEnvC scope cl C X.env) fp) F0 ifs tt)
    (he : ∀ (s : Shared) (H : Hp) (C : Addr) (cl : List (Str × Addr)) (fp : List Addr), DE (X.blk s H scope (compEnvC scope cl C X.env) fp) F0 elt te)
    (hs : ∀ x, foldedSetIterable iter X.env x = pure x := by intro _; rfl) : DE X F0 (.ListComp elt [⟨tg, iter, ifs, 0⟩] scope pos) (dLc ti g tt te (own.map (·.2))) := by
  exact ⟨PE.weak (pe_lc (g := lowG (Cx.se X) F0 (own.map (·.2)) g) (tt := low (Cx.se X) F0 eqB tt) (te := low (Cx.se X) F0 (fun F => Rep (Cx.se X) F) te) hc hN hi.pi ok (fun s H C cl fp => (hg s H C cl fp).pg) (fun s H C cl fp => (ht s H C cl fp).pts) (fun s H C cl fp => (he s H C cl fp).pe) hs) fun σ H Q q => low_lc hne q⟩
/-- name = [..] on one line, the name a local -/
theorem ds_setLc {i : Nat} {y : Str} {py spos : Pos} {elt tg iter : Expr} {ifs : List Expr} {scope : Scope} {own : List (Str × Nat)} {ti : DTI} {g : DTG} {tt : DTT} {te : DTE} (hc : X.calm = true) (hN : X.N.Nodup) (hy : X.N[i]? = some y) (hyl : X.env.scope.names.lookup y = some .local)
    (hsw : swapsWith (.ListComp elt [⟨tg, iter, ifs, 0⟩] scope pos) (some (.Name y py)) spos.line X.env = pure true) (hne : own ≠ []) (hi : DI X F0 tg iter ti) (ok : BlkOk X.N X.env.scope scope own)
    (hg : ∀ (s : Shared) (H : Hp) (C : Addr) (cl : List (Str × Addr)) (fp : List Addr), DG (X.blk s H scope (compEnvC scope cl C X.env) fp) F0 (own.map (·.2)) tg g)
    (ht : ∀ (s : Shared) (H : Hp) (C : Addr) (cl : List (Str × Addr)) (fp : List Addr), DIfs (X.blk s H scope (compEnvC scope cl C X.env) fp) F0 ifs tt)
    (he : ∀ (s : Shared) (H : Hp) (C : Addr) (cl : List (Str × Addr)) (fp : List Addr), DE (X.blk s H scope (compEnvC scope cl C X.env) fp) F0 elt te)
    (hs : ∀ x, foldedSetIterable iter X.env x = pure x := by intro _; rfl) : DS X F0 (.Assign [.Name y py] (.ListComp elt [⟨tg, iter, ifs, 0⟩] scope pos) spos) (dAsg (dLc ti g tt te (own.map (·.2))) (dgName i)) := by
  refine ⟨PS.weak (ps_setLc (g := lowG (Cx.se X) F0 (own.map (·.2)) g) (tt := low (Cx.se X) F0 eqB tt) (te := low (Cx.se X) F0 (fun F => Rep (Cx.se X) F) te) hc hN hy hyl hsw hi.pi ok (fun s H C cl fp => (hg s H C cl fp).pg) (fun s H C cl fp => (ht s H C cl fp).pts) (fun s H C cl fp => (he s H C cl fp).pe) hs) fun E σ H ⟨ρ, M, F, D, l0, sl, gd, t, k1, k2, k3, k4⟩ => ?_⟩
  exact low_lc hne ⟨ρ, M, F, _, l0, sl, gd, t, fun v d M1 F1 H1 l1 g1 r1 p1 => k1 _ _ M1 F1 H1 l1 ((sl.mono l1).set i r1) g1 p1⟩
end
end DL


set_option Elab.async false
set_option linter.all false
set_option maxRecDepth 100000
namespace DL
open PySem PySem.Spec PyProof.Rows L2

/-! ### an own == and != -/
section
variable {prog : Program} {w : World} {A : Around} {E : Value → Shared → Prop} {s : Shared} {K : PySem.W.Frag} {x C f : Addr} {ox : Obj} {od : Option Obj} {b : Value}
theorem objNe_K (hu : A.units < cLine) (X : K.In s.heap) (I : PySem.W.InstAt s.heap x ox C od) (hs : PySem.W.findIn K (.ref C) "__eq__" = some (some (.ref f))) (hf : PySem.W.isFn K (.ref f) = true) {Q : PySem.Fin → Shared → Prop}
    (h : wpAny (model prog w) A (call (.ref f) [.ref x, b]) (fun v s' => ∃ k, v = .bool k ∧ Q (.done (.ret (.bool (!k)))) s') E s) : wpAny (model prog w) A (Builtin.«object.__ne__» ⟨[.ref x, b], []⟩) Q E s := by
  unfold Builtin.«object.__ne__»
  repeat (first
    | with_reducible refine wpAny_cRoomFor hu ?_
    | (refine wpAny_bind (m := callSpecialIfBound? (.ref x) (Str.ofString "__eq__") [b])
        (PySem.W.ifBound_K X I hs hf (wpAny_mono h (fun v s' hr => by
          obtain ⟨k, rfl, hq⟩ := hr
          repeat (first | exact hq | exact wpAny_pure hq | exact wpAny_truthy_bool hq | (refine wpAny_bind (m := truthy (.bool _)) (wpAny_truthy_bool ?_)) | wp_step)) fun _ _ e => e)))
    | wp_step)
theorem ifBound_objNe {M : Model} {args : List Value} {Q : Option Value → Shared → Prop} (X : K.In s.heap) (I : PySem.W.InstAt s.heap x ox C od) (hs : PySem.W.findIn K (.ref C) "__ne__" = some (some (.builtin "object.__ne__")))
    (h : wpAny M A (call (.builtin "object.__ne__") (.ref x :: args)) (fun v => Q (some v)) E s) : wpAny M A (callSpecialIfBound? (.ref x) "__ne__" args) Q E s := by
  simp only [callSpecialIfBound?, bindSpecialIfBound?]
  refine wpAny_holding (wpAny_bind (wpAny_bind (wpAny_bind (I.type.here ((PySem.W.looks_findIn X hs).here ?_)))))
  refine wpAny_bind (wpAny_askSetting (wpAny_ite ?_))
  have fin : wpAny M A (call (.builtin "object.__ne__") ([.ref x] ++ args) >>= fun v => pure (some v)) Q E s := wpAny_bind (wpAny_mono h (fun v s' h' => wpAny_pure h') fun _ _ h' => h')
  split
  · exact wpAny_bind (wpAny_of_eq (F.cmp_object.ne.bind _) (wpAny_pure (by exact fin)))
  · exact wpAny_tryCatch (wpAny_bind (wpAny_of_eq (F.cmp_object.ne.bind _) (wpAny_pure (by exact fin))))
theorem ne_K {y : Addr} {oy : Obj} {oyd : Option Obj} {Q : Value → Shared → Prop} (hu : A.units + 1 < cLine) (X : K.In s.heap) (I : PySem.W.InstAt s.heap x ox C od) (J : PySem.W.InstAt s.heap y oy C oyd) (hm : PySem.W.mroIn K C (.type "object") = some true)
    (hn : PySem.W.findIn K (.ref C) "__ne__" = some (some (.builtin "object.__ne__"))) (hs : PySem.W.findIn K (.ref C) "__eq__" = some (some (.ref f))) (hf : PySem.W.isFn K (.ref f) = true)
    (h : wpAny (model prog w) A.in1 (call (.ref f) [.ref x, .ref y]) (fun v s' => ∃ k, v = .bool k ∧ Q (.bool (!k)) s') E s) : wpAny (model prog w) A (richCompare .NotEq (.ref x) (.ref y)) Q E s := by
  have one : wpAny (model prog w) A (tryCompare (.ref x) "__ne__" (.ref y)) (fun r s' => ∃ k, r = some (.bool k) ∧ Q (.bool k) s') E s := by
    unfold tryCompare
    refine wpAny_bind (ifBound_objNe X I hn (wpAny_call (codeAny_call_builtin F.cmp_object.ne.plain F.cmpEntry_ne (PySem.W.check_slot F.cmpKind_ne F.cmpSplit_ne (I.type.andThen (PySem.W.looks_mroIn X hm)) (F.cmpArgs_ne _ _)
      (objNe_K (A := A.in1) hu X I hs hf (wpAny_mono h (fun v s' hv => ?_) fun _ _ e => e))))))
    obtain ⟨k, rfl, hq⟩ := hv
    exact ⟨k, rfl, wpAny_pure ⟨_, rfl, hq⟩⟩
  unfold richCompare
  simp only [oneThing_ref]
  refine wpAny_holding (wpAny_bind (wpAny_cRoomFor (Nat.lt_of_succ_lt hu) ?_))
  refine wpAny_bind (I.type.here (wpAny_bind (J.type.here ?_)))
  rw [show (Value.ref C != Value.ref C) = false from by simp]
  simp only [Bool.false_eq_true, if_false]
  refine wpAny_bind (wpAny_pure ?_)
  simp only [Bool.false_eq_true, if_false]
  refine wpAny_bind (wpAny_mono one (fun r s' z => ?_) fun _ _ e => e)
  obtain ⟨k, rfl, hq⟩ := z
  exact wpAny_pure hq
end

/-- a special method of the class c that is found through the type -/
structure Spc (P : Program) (w : World) (K : PySem.W.Frag) (mg : Str → Option Value) (base : Heap) (k : Nat) (c m : Str) (sp : DSp) : Prop where
  ex : ∃ C f fd ps, ClsAt ⟨K, mg⟩ c C ∧ PySem.W.findIn K (.ref C) m = some (some (.ref f)) ∧ PySem.W.isFn K (.ref f) = true ∧ FnG P w K mg base k f fd ps sp ∧ Binds K fd ps []
/-- the class c has object's own != -/
def PlainNe (K : PySem.W.Frag) (mg : Str → Option Value) (c : Str) : Prop := ∀ C, mg c = some (.ref C) → PySem.W.findIn K (.ref C) "__ne__" = some (some (.builtin "object.__ne__"))
section
variable {X : Cx} {F0 : Hp} {k j : Nat} {c : Str} {sp : DSp}
def noX : DX := fun _ _ _ => False
theorem runGA {A' : Around} {fd : FuncData} {ps : List Str} {f : Addr} {pins : List (Addr × Obj)} {σ : L2.St} {H : Hp} {s : Shared} {Q : VK} {us : List Value} {vs : List V} {E : Value → Shared → Prop} (F : FnG X.prog X.w X.K X.mg X.base k f fd ps sp) (hr : Rm k A') (hfr : A'.frames = X.A.frames) (hb : Binds X.K fd ps [])
    (I : Inv X pins σ H s) (r : Vals vs us) (h : lowSp (Cx.se X) sp vs H Q fun _ _ _ => False) : wpAny (model X.prog X.w) A' (call (.ref f) us) (EP X pins σ Q) E s := by
  have hl : us.length = ps.length := by
    obtain ⟨es, M, F1, P, PE, h1, h2, h3, _⟩ := id h
    rw [← r.length, h1.len]
    exact F.len _ _ _ _ h3
  have e0 : Env0 X.prog X.w X.K X.mg X.base A' X.stack s H := by
    have e := I.env0
    exact ⟨by rw [hfr]; exact e.frames, e.mod, e.bs, e.bsz, e.funs, e.frf, e.hok, e.bare⟩
  refine wpAny_call (codeAny_mono (F.run A' X.stack s H ⟨us, []⟩ us vs Q _ hr e0 (by
    have := hb s us I.kIn (by rw [List.append_nil]; exact hl)
    simpa using this) r h) fun r s' hq => ?_)
  cases r with
  | error e =>
    obtain ⟨_, _, _, _, _, _, _, _, _, _, _, _, z⟩ := hq
    exact z.elim
  | ok fl =>
    cases fl with
    | ret u => exact I.after hq
    | next => exact hq.elim
    | brk => exact hq.elim
    | cont => exact hq.elim
/-- x == y, both instances of c -/
def rdOwn (neg : Bool) (c : Str) (sp : DSp) : DR2 := fun x y M Q => (asO M c x).isSome = true ∧ (asO M c y).isSome = true ∧ sp [x, y] M (fun v M' => match v with
  | .bl b => Q (.bl (if neg = true then !b else b)) M'
  | _ => False) noX
theorem inst_at {pins : List (Addr × Obj)} {σ : L2.St} {H : Hp} {s : Shared} (I : Inv X pins σ H s) {a C dx : Addr} {vs : List (Str × V)} (h : H a = some (.ins C dx vs)) : ∃ ob od, PySem.W.InstAt s.heap a ob C od := by
  obtain ⟨mA, J, _⟩ := ins_get I.hok h
  obtain ⟨od, J, _⟩ := J.look
  exact ⟨_, _, J⟩
theorem do_ownEq (h : Spc X.prog X.w X.K X.mg X.base k c "__eq__" sp) (hr : Rm j X.A) (hk : k ≤ j) : DOp X F0 (compareOp .Eq) (rdOwn false c sp) := by
  intro pins s σ H x y v u Q I rx ry ⟨dx, dy, M, F, P, l0, g, r1, r2, t, kk⟩
  obtain ⟨C, f, fd, ps, hc, hs, hf, FG, hb⟩ := h.ex
  obtain ⟨t1, t2, t⟩ := t
  obtain ⟨fs, e1⟩ := Option.isSome_iff_exists.mp t1
  obtain ⟨gs, e2⟩ := Option.isSome_iff_exists.mp t2
  obtain ⟨a, C1, d1, vs1, rfl, h1, hc1, _⟩ := asO_at g r1 e1
  obtain ⟨b, C2, d2, vs2, rfl, h2, hc2, _⟩ := asO_at g r2 e2
  have eC1 : C1 = C := by
    have := hc1.mg.symm.trans hc.mg
    cases this; rfl
  have eC2 : C2 = C := by
    have := hc2.mg.symm.trans hc.mg
    cases this; rfl
  subst eC1
  subst eC2
  cases rx
  cases ry
  obtain ⟨ob, od, J⟩ := inst_at I h1
  obtain ⟨ob', od', J'⟩ := inst_at I h2
  obtain ⟨m, hF⟩ := I.fr
  show wpAny _ _ (richCompare .Eq (.ref a) (.ref b)) _ _ _
  refine PySem.W.cmp_K (op := .Eq) (tb := .ref C2) hr.room.units0 hF I.ok.mod.kin J J'.type (by simp [PySem.W.notFirst]) hs hf ?_
  refine wpAny_mono (runGA (Q := fun v H' => ∃ b, v = .bl b ∧ Q (.bl b) H') FG (hr.mono hk) rfl hb I (vs := [.ref a, .ref b]) (us := [.ref a, .ref b]) (.cons rfl (.cons rfl .nil)) ?_) (fun v s' hv => ?_) fun _ _ e => e
  · refine ⟨_, M, F, _, _, .cons r1 (.cons r2 .nil), g, t, fun v d M' F' H' l g' rv p => ?_, fun _ _ _ _ _ _ _ _ _ _ z => z.elim⟩
    cases d with
    | bl b =>
      cases rv
      exact ⟨b, rfl, kk _ _ M' F' H' l g' (.bl _) p⟩
    | _ => exact p.elim
  · obtain ⟨z, H', I', rz, b, ez, q⟩ := hv
    subst ez
    cases rz
    exact ⟨.bl b, H', I', rfl, q⟩
theorem do_ownNe (h : Spc X.prog X.w X.K X.mg X.base k c "__eq__" sp) (hn : PlainNe X.K X.mg c) (hr : Rm j X.A) (hk : k + 1 ≤ j) : DOp X F0 (compareOp .NotEq) (rdOwn true c sp) := by
  intro pins s σ H x y v u Q I rx ry ⟨dx, dy, M, F, P, l0, g, r1, r2, t, kk⟩
  obtain ⟨C, f, fd, ps, hc, hs, hf, FG, hb⟩ := h.ex
  obtain ⟨t1, t2, t⟩ := t
  obtain ⟨fs, e1⟩ := Option.isSome_iff_exists.mp t1
  obtain ⟨gs, e2⟩ := Option.isSome_iff_exists.mp t2
  obtain ⟨a, C1, d1, vs1, rfl, h1, hc1, _⟩ := asO_at g r1 e1
  obtain ⟨b, C2, d2, vs2, rfl, h2, hc2, _⟩ := asO_at g r2 e2
  have eC1 : C1 = C := by
    have := hc1.mg.symm.trans hc.mg
    cases this; rfl
  have eC2 : C2 = C := by
    have := hc2.mg.symm.trans hc.mg
    cases this; rfl
  subst eC1
  subst eC2
  cases rx
  cases ry
  obtain ⟨ob, od, J⟩ := inst_at I h1
  obtain ⟨ob', od', J'⟩ := inst_at I h2
  have hm : PySem.W.mroIn X.K C2 (.type "object") = some true := by
    have := cls_mro hc (.type "object")
    simpa using this
  show wpAny _ _ (richCompare .NotEq (.ref a) (.ref b)) _ _ _
  have hr1 : Rm k X.A.in1 := (hr.mono hk).in1
  refine ne_K (by have := hr.room.units; omega) I.kIn J J' hm (hn _ hc.mg) hs hf ?_
  refine wpAny_mono (runGA (Q := fun v H' => ∃ b, v = .bl b ∧ Q (.bl (!b)) H') FG hr1 rfl hb I (vs := [.ref a, .ref b]) (us := [.ref a, .ref b]) (.cons rfl (.cons rfl .nil)) ?_) (fun v s' hv => ?_) fun _ _ e => e
  · refine ⟨_, M, F, _, _, .cons r1 (.cons r2 .nil), g, t, fun v d M' F' H' l g' rv p => ?_, fun _ _ _ _ _ _ _ _ _ _ z => z.elim⟩
    cases d with
    | bl b =>
      cases rv
      exact ⟨b, rfl, kk _ _ M' F' H' l g' (.bl _) p⟩
    | _ => exact p.elim
  · obtain ⟨z, H', I', rz, b, ez, q⟩ := hv
    subst ez
    cases rz
    exact ⟨b, rfl, .bl (!b), H', I', rfl, q⟩
end
end DL


set_option Elab.async false
set_option linter.all false
set_option maxRecDepth 100000
namespace DL
open PySem PySem.Spec PyProof.Rows L2

/-! ### the law's end -/
section
variable {P : Program} {w : World} {K : PySem.W.Frag} {mg mb : Str → Option Value} {k : Nat} {fa a : Addr} {fd : FuncData} {x : Str} {sp : DSp} {s₁ : Shared} {vs : List Value} {ns : List Int}
/-- an abstract heap that may hold the script alone -/
structure OneS (K : PySem.W.Frag) (H : Hp) (a : Addr) (h : Heap) : Prop where
  only : ∀ b, H b ≠ none → b = a ∧ K.lookup a = none ∧ ∃ o xs, H b = some (.frz o (.lst xs))
theorem call_law (KX : K.In s₁.heap) (hns : s₁.heap.Ns mainGlobals mg) (hb : s₁.heap.Ns builtinsNs mb) (hbb : ∀ y : Str, y ≠ "__name__" → mb y = bootBuiltins y) (hlim : s₁.heap.NoLimit) (hg : s₁.gens = #[])
    (ha : s₁.heap.get? a = some { cls := .type "list", data := .seq vs.toArray }) (hi : IntsAre vs ns) (hl : ns.length ≤ sizeLine) (hr : Rm k callerA)
    (F : ∀ base : Heap, K.In base → base.Ns mainGlobals mg → FnG P w K mg base k fa fd [x] sp) (hbind : ∀ (s : Shared) (u : Value), BindsTo s fd ⟨[u], []⟩ [(x, u)])
    (hsp : sp [.fro (ns.map .int)] (fun _ => none) (fun d _ => d = .bl true) noX) :
    codeAny (model P w) callerA (.call (.ref fa) ⟨[.ref a], []⟩) (fun r s' => r = .ok (.ret (.bool true)) ∧ OldK s₁.heap s'.heap ∧ s'.os = s₁.os ∧ AllBare s'.gens) s₁ := by
  have rv := vals_ints hi
  have lenV := hi.length
  have go : ∀ H : Hp, OneS K H a s₁.heap → SqL K H a (ns.map V.int) → HOk P w H s₁.heap →
      codeAny (model P w) callerA (.call (.ref fa) ⟨[.ref a], []⟩) (fun r s' => r = .ok (.ret (.bool true)) ∧ OldK s₁.heap s'.heap ∧ s'.os = s₁.os ∧ AllBare s'.gens) s₁ := by
    intro H hO hS hok
    have nA : ∀ {b : Addr} {u : Obj} {es : Array DictEntry} {ep : Nat}, s₁.heap.get? b = some u → u.data = .dict es ep → H b = none := by
      intro b u es ep e d
      by_cases q : H b = none
      · exact q
      · have eb := (hO.only b q).1
        rw [eb, ha] at e
        have e' := Option.some.inj e
        rw [← e'] at d
        cases d
    have nK : ∀ {b : Addr} {m : Str → Option Value}, s₁.heap.Ns b m → (hidT s₁.heap H).Ns b m := by
      intro b m ⟨u, es, ep, e, d, r⟩
      exact ⟨u, es, ep, hidT_get e (nA e d), d, r⟩
    have kb : K.In (hidT s₁.heap H) := by
      intro b u e
      refine hidT_get (KX b u e) ?_
      by_cases q : H b = none
      · exact q
      · obtain ⟨eb, ek, _⟩ := hO.only b q
        rw [eb, ek] at e
        cases e
    obtain ⟨mc, c1, c2⟩ := hlim
    have M0 : Mod K mg (hidT s₁.heap H) := ⟨kb, nK hns, ⟨mb, nK hb, hbb⟩, mc, nK c1, c2⟩
    have E0 : Env0 P w K mg (hidT s₁.heap H) callerA [] s₁ H := ⟨rfl, M0, fun b u e => of_hidT e, Nat.le_of_eq (hidT_size _ _), trivial, fun b z => (List.not_mem_nil z).elim, hok, .of_eq hg⟩
    have RI : ∀ l : List Int, Reps ⟨K, mg⟩ H (l.map V.int) (l.map D.int) := fun l => by
      induction l with
      | nil => exact .nil
      | cons i l ih => exact .cons (.int i) ih
    have low : lowSp ⟨K, mg⟩ sp [.ref a] H (fun v _ => v = .bl true) fun _ _ _ => False :=
      ⟨[.fro (ns.map .int)], fun _ => none, H, fun d _ => d = .bl true, noX, .cons (.fro hS (RI ns)) .nil, ⟨fun _ _ e => e, fun _ _ e => nomatch e⟩, hsp,
        fun v d M' F' H' _ _ r e => by subst e; cases r; rfl, fun _ _ _ _ _ _ _ _ _ _ z => z⟩
    refine codeAny_mono ((F _ kb (nK hns)).run callerA [] s₁ H ⟨[.ref a], []⟩ [.ref a] [.ref a] _ _ hr E0 (hbind s₁ (.ref a)) (.cons rfl .nil) low) fun r s' h => ?_
    cases r with
    | error e =>
      obtain ⟨_, _, _, _, _, _, _, _, _, _, _, _, z⟩ := h
      exact z.elim
    | ok fl =>
      cases fl with
      | ret u =>
        obtain ⟨v, H', os, bare, un, hok', r', q⟩ := h
        have q' : v = .bl true := q
        subst q'
        cases r'
        refine ⟨rfl, OldK.of_keep fun b o e => ?_, os, bare⟩
        by_cases q2 : H b = none
        · exact un.keep b o e q2 (fun z => (List.not_mem_nil z).elim) (fun z => (List.not_mem_nil z).elim)
        · obtain ⟨_, _, ob, xs, z⟩ := hO.only b q2
          have k1 := (hok b _ z).1
          have k2 := (hok' b _ (un.frzs b ob _ z)).1
          rw [e] at k1
          cases k1
          exact k2
      | next => exact h.elim
      | brk => exact h.elim
      | cont => exact h.elim
  cases hk : K.lookup a with
  | some o =>
    have e := KX a o hk
    rw [ha] at e
    cases e
    exact go (fun _ => none) ⟨fun b z => absurd rfl z⟩ (.inr ⟨_, vs.toArray, _, hk, rfl, rfl, rfl, by rw [List.size_toArray, lenV]; exact hl, by simpa using rv⟩) fun b u z => nomatch z
  | none =>
    refine go (upd (fun _ => none) a (.frz { cls := .type "list", data := .seq vs.toArray } (.lst (ns.map V.int)))) ⟨fun b z => ?_⟩ (.inl (.inr ⟨_, upd_same⟩)) fun b u z => ?_
    · by_cases eb : b = a
      · subst eb
        exact ⟨rfl, hk, _, _, upd_same⟩
      · rw [upd_ne eb] at z
        exact absurd rfl z
    · by_cases eb : b = a
      · subst eb
        rw [upd_same] at z
        cases z
        exact ⟨ha, by rw [List.length_map]; exact hl, vs, _, rv, ha⟩
      · rw [upd_ne eb] at z
        cases z
end
theorem rm_caller {k : Nat} (h : Room k callerA) : Rm k callerA := ⟨h, rfl⟩
theorem walk_G {l : PySem.W.OpenLaw} {n k : Nat} {q : Program} {loose : List Str} {XP : (Str → Option Value) → Heap → Prop} {YP : World → Heap → Prop} {d : DefRec} {x : Str}
    (hn : l.most = some n) (hn2 : n ≤ sizeLine) (hdf : d.params.defaults = []) (hr : Room k callerA)
    (F : ∀ (w : World) (mg : Str → Option Value) (fa : Addr) (h : Heap), YP w h → h.Ns mainGlobals mg → mg d.name = some (.ref fa) →
      ∃ (K : PySem.W.Frag) (fd : FuncData) (sp : DSp), K.In h ∧ (∀ (s : Shared) (u : Value), BindsTo s fd ⟨[u], []⟩ [(x, u)]) ∧
        (∀ ns : List Int, ns.length ≤ n → (∀ z ∈ ns, Builtin.Int.intBits z ≤ 1048576) → sp [.fro (ns.map .int)] (fun _ => none) (fun d _ => d = .bl true) noX) ∧
        ∀ base : Heap, K.In base → base.Ns mainGlobals mg → FnG l.prog w K mg base k fa fd [x] sp) :
    PySem.W.WalkO q loose XP YP l.row.toRowW d [] (fun f vs => PySem.call f vs) := by
  refine Att.attach_callB hn hdf fun w s₀ s₁ mg mb fa o pm cd doc a vs ns G Y ho hd hcd hmg hobj hints hlen hbits hg => ?_
  obtain ⟨K, fd, sp, KX, hb, hsp, hF⟩ := F w mg fa _ Y G.T.g hmg
  exact call_law KX G.T.g G.T.b G.T.builtins G.T.nolimit hg hobj hints (Nat.le_trans hlen hn2) (rm_caller hr) hF hb (hsp ns hlen hbits)
end DL


set_option Elab.async false
set_option linter.all false
set_option maxRecDepth 100000
namespace DL
open PySem PySem.Spec PyProof.Rows L2

/-! ### facts of the head -/
inductive Fc where
  | glo (x : Str) | free (x : Str) | cls (c : Str) | noat (c f : Str) | meth (c m : Str) | mkr (c : Str) | ne (c : Str) | exc (c : Str) | keep (x : Str) | lack (c i : Str) | gint (x : Str) (i : Int) | gstr (x z : Str) | exm (x y : Str) (b : Bool) | gtup (x : Str) (zs : List Str)
/-- the items of a tuple of texts -/
def tupS : List Value → List Str → Bool
  | [], [] => true
  | .str y _ :: r, z :: zs => decide (y = z) && tupS r zs
  | _, _ => false
def tupAt (K : PySem.W.Frag) (a : Addr) (zs : List Str) : Bool := match K.lookup a with
  | some o => decide (o.cls = .type "tuple") && (match o.data with
    | .seq its _ => decide (its.size ≤ sizeLine) && tupS its.toList zs
    | _ => false)
  | none => false
def Fc.ok (K : PySem.W.Frag) : Fc → Bool
  | .glo x => (He.Fa.glo x).ok K
  | .free x => (He.Fa.free x).ok K
  | .cls c => (He.Fa.glo c).ok K && (clsOkB K (He.ga K c) && clsNmB K (He.ga K c) c)
  | .noat c f => (He.Fa.noat c f).ok K
  | .meth c m => (He.Fa.meth c m).ok K
  | .mkr c => (He.Fa.mkr c).ok K
  | .ne c => He.eqO (PySem.W.findIn K (.ref (He.ga K c)) "__ne__") (some (some (.builtin "object.__ne__")))
  | .exc c => (He.Fa.glo c).ok K && (He.Fa.exc c).ok K
  | .keep x => (He.Fa.keep x).ok K
  | .gint x i => (He.Fa.int x i).ok K
  | .gstr x z => (He.Fa.str x z).ok K
  | .exm x y b => (He.Fa.glo x).ok K && (He.Fa.exm x y b).ok K
  | .gtup x zs => (He.Fa.glo x).ok K && tupAt K (He.ga K x) zs
  | .lack c i => He.eqO (PySem.W.findIn K (.ref (He.ga K c)) i) (some none)
theorem memi {α : Type} {l : List α} {a : α} (i : Nat) (h : l[i]? = some a := by rfl) : a ∈ l := List.mem_of_getElem? h
theorem tkF {X : Cx} {S : SE} {F0 : Hp} : Takes X (lowW S F0 fun _ _ _ _ => False) := fun u s' ⟨_, _, _, _, _, _, _, _, _, _, _, _, _, _, _, _, w⟩ => by
  obtain ⟨_, _, _, _, _, _, _, _, _, z⟩ := w
  exact z.elim
abbrev noW : DWX := fun _ _ _ _ => False
def factsB (fs : List Fc) (K : PySem.W.Frag) : Bool := fs.all fun f => f.ok K
/-- the module, as the head leaves it -/
structure Md (fs : List Fc) (fn : List He.DefD) (K : PySem.W.Frag) (mg : Str → Option Value) : Prop where
  h : ∃ h : Heap, K.In h ∧ h.Ns mainGlobals mg
  fs : factsB fs K = true
  fn : He.SaysD [] fn K
section
variable {fs : List Fc} {fn : List He.DefD} {K : PySem.W.Frag} {mg : Str → Option Value}
theorem Md.f (m : Md fs fn K mg) (f : Fc) (h : f ∈ fs) : f.ok K = true := List.all_eq_true.mp m.fs f h
theorem Md.glo (m : Md fs fn K mg) (x : Str) (h : Fc.glo x ∈ fs) : mg x = some (.ref (He.ga K x)) := by
  obtain ⟨hp, X, G⟩ := m.h
  exact He.glo_ok X G (m.f _ h)
theorem Md.free (m : Md fs fn K mg) (x : Str) (h : Fc.free x ∈ fs) : mg x = none := by
  obtain ⟨hp, X, G⟩ := m.h
  exact He.free_ok X G (m.f _ h)
theorem Md.cls (m : Md fs fn K mg) (c : Str) (h : Fc.cls c ∈ fs) : ClsAt ⟨K, mg⟩ c (He.ga K c) := by
  obtain ⟨hp, X, G⟩ := m.h
  obtain ⟨a, b⟩ := He.ba (m.f _ h)
  obtain ⟨b, d⟩ := He.ba b
  exact ⟨He.glo_ok X G a, b, d⟩
theorem Md.noat (m : Md fs fn K mg) (c f : Str) (h : Fc.noat c f ∈ fs) (hc : Fc.cls c ∈ fs) : FldOk ⟨K, mg⟩ c f := fun C e => by
  have := (m.cls c hc).mg.symm.trans e
  cases this
  exact He.noat_ok (m.f _ h)
theorem Md.exc (m : Md fs fn K mg) (c : Str) (h : Fc.exc c ∈ fs) : Exc0 K mg c := by
  obtain ⟨hp, X, G⟩ := m.h
  obtain ⟨a, b⟩ := He.ba (m.f _ h)
  obtain ⟨c1, c2, c3, c4⟩ := He.exc_ok b
  exact ⟨⟨_, He.glo_ok X G a, c1, c2, c3, c4⟩⟩
theorem Md.ne (m : Md fs fn K mg) (c : Str) (h : Fc.ne c ∈ fs) (hc : Fc.cls c ∈ fs) : PlainNe K mg c := fun C e => by
  have := (m.cls c hc).mg.symm.trans e
  cases this
  exact He.eqO_ok (m.f _ h)
theorem Md.gint (m : Md fs fn K mg) (x : Str) (i : Int) (h : Fc.gint x i ∈ fs) : ∃ t, mg x = some (.int i t) := by
  obtain ⟨hp, X, G⟩ := m.h
  exact He.int_ok X G (m.f _ h)
theorem Md.gstr (m : Md fs fn K mg) (x z : Str) (h : Fc.gstr x z ∈ fs) : ∃ t, mg x = some (.str z t) := by
  obtain ⟨hp, X, G⟩ := m.h
  exact He.str_ok X G (m.f _ h)
theorem Md.exm (m : Md fs fn K mg) (x y : Str) (b : Bool) (h : Fc.exm x y b ∈ fs) : ∀ C : Addr, mg x = some (.ref C) → PySem.W.exmOne K (.ref C) (.ref (He.ga K y)) = some b := fun C e => by
  obtain ⟨hp, X, G⟩ := m.h
  obtain ⟨a, c⟩ := He.ba (m.f _ h)
  have := (He.glo_ok X G a).symm.trans e
  cases this
  exact He.exm_ok c
theorem Md.gtup (m : Md fs fn K mg) (x : Str) (zs : List Str) (h : Fc.gtup x zs ∈ fs) : ∃ a : Addr, mg x = some (.ref a) ∧ tupAt K a zs = true := by
  obtain ⟨hp, X, G⟩ := m.h
  obtain ⟨a, b⟩ := He.ba (m.f _ h)
  exact ⟨_, He.glo_ok X G a, b⟩
theorem Md.lack (m : Md fs fn K mg) (c i : Str) (h : Fc.lack c i ∈ fs) (hc : Fc.cls c ∈ fs) : ∀ C : Addr, mg c = some (.ref C) → PySem.W.findIn K (.ref C) i = some none := fun C e => by
  have := (m.cls c hc).mg.symm.trans e
  cases this
  exact He.eqO_ok (m.f _ h)
theorem Md.def_ (m : Md fs fn K mg) {d : He.DefD} (h : d ∈ fn) : ∃ fd, FunD K d.name d.qual d.params d.body d.scope (d.dvs K) (d.kws K) (He.fAd K d.at_) fd := He.SaysD.defs m.fn h
end

section
variable {P : Program} {w : World} {K : PySem.W.Frag} {mg : Str → Option Value} {base : Heap} {fs : List Fc} {fn : List He.DefD} {k : Nat} {sp : DSp}
/-- a def that keeps its promise: what its body's derivation and its reading give -/
structure Fn (P : Program) (w : World) (K : PySem.W.Frag) (mg : Str → Option Value) (base : Heap) (k : Nat) (d : He.DefD) (ps : List Str) (sp : DSp) : Prop where
  ex : ∃ fd, FunD K d.name d.qual d.params d.body d.scope (d.dvs K) (d.kws K) (He.fAd K d.at_) fd ∧ FnG P w K mg base k (He.fAd K d.at_) fd ps sp
/-- the walk of a def's body, at a place of a call -/
def WalkD (P : Program) (w : World) (K : PySem.W.Frag) (mg : Str → Option Value) (base : Heap) (k : Nat) (d : He.DefD) (N : List Str) (t : DWX → DTS) : Prop :=
  ∀ (cdv : Value) (A : Around) (outer : List Env) (s : Shared) (H : Hp) (E : XK) (F0 : Hp) (W : DWX), Rm k (A.deeper (envOfC d.qual d.scope s.heap.objs.size (He.fAd K d.at_) cdv)) →
    Takes (cxOf (L2.CX P w) P w K mg base N d.qual d.scope (He.fAd K d.at_) cdv A outer s H E) (lowW ⟨K, mg⟩ F0 W) →
    DSs (cxOf (L2.CX P w) P w K mg base N d.qual d.scope (He.fAd K d.at_) cdv A outer s H E) F0 d.body (t W)
theorem fn_mk {d : He.DefD} {N ps : List Str} {t : DWX → DTS} (m : Md fs fn K mg) (hd : d ∈ fn) (Sc : FnScope N ps d.scope) (wk : WalkD P w K mg base k d N t) (len : ∀ ds M P E, sp ds M P E → ds.length = ps.length)
    (q : ∀ ds M P PE, sp ds M P PE → t (finW PE) { nx := fun _ M' => finP P .non M', rt := finP P } (startR N ds) M) : Fn P w K mg base (k + 1) d ps sp := by
  obtain ⟨fd, F⟩ := m.def_ hd
  refine ⟨fd, F, ?_⟩
  obtain ⟨oc, od, dV, kV, doc, pm, an, cdv, ct, osl, rfl, lk, hcd, _, _⟩ := F.ex
  exact fnG_of lk hcd Sc len t (fun A outer s H E F0 W hr tk => wk cdv A outer s H E F0 W hr tk) q
/-- every parameter is given -/
abbrev AllB (d : He.DefD) (ps : List Str) : Prop := ∀ (kV doc pm : Value) (an : Option Addr) (cdv ct : Value) (us : List Value), us.length = ps.length → bindArgs (PySem.W.fnOf d.name d.qual d.params d.body d.scope .none kV doc pm an cdv ct) ⟨us, []⟩ = pure (ps.zip us)
theorem cal_mk {d : He.DefD} {ps : List Str} {x : Str} (m : Md fs fn K mg) (F : Fn P w K mg base k d ps sp) (hx : d.at_ = (x, none)) (hg : Fc.glo x ∈ fs) (hd : d.dfl = []) (hb : AllB d ps) : Cal P w K mg base k x sp [] := by
  obtain ⟨fd, FD, FG⟩ := F.ex
  have e : d.dvs K = [] := by unfold He.DefD.dvs; rw [hd]; rfl
  rw [e] at FD
  have ea : He.fAd K d.at_ = He.ga K x := by rw [hx]; rfl
  refine ⟨⟨_, fd, ps, [], [], m.glo x hg, ?_, ea ▸ FG, FD.bindsN hb, .nil, fun _ => .nil⟩⟩
  rw [← ea]
  exact FD.kp
theorem met_mk {d : He.DefD} {ps : List Str} {c mt : Str} (m : Md fs fn K mg) (F : Fn P w K mg base k d ps sp) (hx : d.at_ = (c, some mt)) (hc : Fc.cls c ∈ fs) (hm : Fc.meth c mt ∈ fs) (hd : d.dfl = []) (hb : AllB d ps) : Met P w K mg base k c mt sp [] := by
  obtain ⟨fd, FD, FG⟩ := F.ex
  have e : d.dvs K = [] := by unfold He.DefD.dvs; rw [hd]; rfl
  rw [e] at FD
  have ea : He.fAd K d.at_ = He.ma K (He.ga K c) mt := by rw [hx]; rfl
  exact ⟨⟨_, _, fd, ps, [], [], (m.cls c hc).mg, (m.cls c hc).cls, He.meth_ok (m.f _ hm), ea ▸ FG, FD.bindsN hb, .nil, fun _ => .nil⟩⟩
theorem spc_mk {d : He.DefD} {ps : List Str} {c mt : Str} (m : Md fs fn K mg) (F : Fn P w K mg base k d ps sp) (hx : d.at_ = (c, some mt)) (hc : Fc.cls c ∈ fs) (hm : Fc.meth c mt ∈ fs) (hd : d.dfl = []) (hb : AllB d ps) : Spc P w K mg base k c mt sp := by
  obtain ⟨fd, FD, FG⟩ := F.ex
  have e : d.dvs K = [] := by unfold He.DefD.dvs; rw [hd]; rfl
  rw [e] at FD
  have ea : He.fAd K d.at_ = He.ma K (He.ga K c) mt := by rw [hx]; rfl
  have hM := He.meth_ok (m.f _ hm)
  exact ⟨⟨_, _, fd, ps, m.cls c hc, hM.at_, hM.fn, ea ▸ FG, FD.bindsN hb⟩⟩
theorem mak_mk {d : He.DefD} {ps : List Str} {c : Str} (m : Md fs fn K mg) (F : Fn P w K mg base k d ps sp) (hx : d.at_ = (c, some ("__init__" : Str))) (hc : Fc.cls c ∈ fs) (hm : Fc.mkr c ∈ fs) (hd : d.dfl = []) (hb : AllB d ps) : Mak P w K mg base k c sp [] := by
  obtain ⟨fd, FD, FG⟩ := F.ex
  have e : d.dvs K = [] := by unfold He.DefD.dvs; rw [hd]; rfl
  rw [e] at FD
  have ea : He.fAd K d.at_ = He.ma K (He.ga K c) "__init__" := by rw [hx]; rfl
  exact ⟨⟨_, _, fd, ps, [], [], m.cls c hc, He.mkr_ok (m.f _ hm), ea ▸ FG, FD.bindsN hb, .nil, fun _ => .nil⟩⟩
/-- a default's value as data -/
def dvD : He.Dv → Option D
  | .non => some .non
  | .bl b => some (.bl b)
  | .int i => some (.int i)
  | .str x => some (.str x)
  | _ => none
def dvDs : List He.Dv → Option (List D)
  | [] => some []
  | v :: vs => (dvD v).bind fun d => (dvDs vs).map (d :: ·)
theorem dvD_rep {S : SE} {F : Hp} {v : He.Dv} {d : D} (h : dvD v = some d) : Rep S F (v.v K) d := by
  cases v <;> cases h
  · exact .non
  · exact .bl _
  · exact .int _
  · exact .str _
theorem dvDs_rep {S : SE} {F : Hp} : ∀ {vs : List He.Dv} {ds : List D}, dvDs vs = some ds → Reps S F (vs.map (He.Dv.v K)) ds
  | [], _, h => by cases h; exact .nil
  | v :: vs, ds, h => by
    obtain ⟨d, h1, h2⟩ := Option.bind_eq_some_iff.mp h
    obtain ⟨es, h3, rfl⟩ := Option.map_eq_some_iff.mp h2
    exact .cons (dvD_rep h1) (dvDs_rep h3)
/-- some are given (n of them), the defaults behind the first j fill up -/
abbrev DflB (d : He.DefD) (ps : List Str) (n j : Nat) : Prop := ∀ (T : Addr) (kV doc pm : Value) (an : Option Addr) (cdv ct : Value) (us its : List Value), us.length = n → its.length = d.dfl.length →
  ∃ k, bindArgs (PySem.W.fnOf d.name d.qual d.params d.body d.scope (.ref T) kV doc pm an cdv ct) ⟨us, []⟩ = seqItems? (.ref T) >>= k ∧ k (some its.toArray) = pure (ps.zip (us ++ its.drop j))
theorem cal_dfl {d : He.DefD} {ps : List Str} {x : Str} {n j : Nat} {ds : List D} (m : Md fs fn K mg) (F : Fn P w K mg base k d ps sp) (hx : d.at_ = (x, none)) (hg : Fc.glo x ∈ fs) (hd : d.dfl ≠ []) (hn : n + (d.dfl.length - j) = ps.length) (hb : DflB d ps n j) (hds : dvDs (d.dfl.drop j) = some ds) :
    Cal P w K mg base k x sp ds := by
  obtain ⟨fd, FD, FG⟩ := F.ex
  have ea : He.fAd K d.at_ = He.ga K x := by rw [hx]; rfl
  have el : (d.dvs K).length = d.dfl.length := by unfold He.DefD.dvs; rw [List.length_map]
  obtain ⟨us, h1, h2⟩ := FD.binds1 n j (fun z => hd (List.map_eq_nil_iff.mp z)) (by rw [el]; exact hn) (fun T kV doc pm an cdv ct us its hu hi => hb T kV doc pm an cdv ct us its hu (by rw [hi, el]))
  refine ⟨⟨_, fd, ps, us, (d.dvs K).drop j, m.glo x hg, ?_, ea ▸ FG, h2, h1, fun F => ?_⟩⟩
  · rw [← ea]
    exact FD.kp
  · have e : (d.dvs K).drop j = (d.dfl.drop j).map (He.Dv.v K) := by unfold He.DefD.dvs; rw [List.map_drop]
    rw [e]
    exact dvDs_rep hds
end
end DL


set_option Elab.async false
set_option linter.all false
set_option maxRecDepth 100000
namespace DL
open PySem PySem.Spec PyProof.Rows L2

/-! ### own operators, in, truth -/
structure OwnAt (P : Program) (w : World) (K : PySem.W.Frag) (mg : Str → Option Value) (base : Heap) (k : Nat) (c m : Str) (sp : DSp) (C f : Addr) (fd : FuncData) (ps : List Str) : Prop where
  hc : ClsAt ⟨K, mg⟩ c C
  hs : PySem.W.findIn K (.ref C) m = some (some (.ref f))
  hf : PySem.W.isFn K (.ref f) = true
  FG : FnG P w K mg base k f fd ps sp
  hb : Binds K fd ps []
theorem Spc.at {P : Program} {w : World} {K : PySem.W.Frag} {mg : Str → Option Value} {base : Heap} {k : Nat} {c m : Str} {sp : DSp} (h : Spc P w K mg base k c m sp) : ∃ C f fd ps, OwnAt P w K mg base k c m sp C f fd ps := by
  obtain ⟨C, f, fd, ps, h1, h2, h3, h4, h5⟩ := h.ex
  exact ⟨C, f, fd, ps, h1, h2, h3, h4, h5⟩
section
variable {X : Cx} {F0 : Hp} {k j : Nat} {c m : Str} {sp : DSp}
/-- an instance of the class c, as an own operator meets it -/
theorem own_inst {pins : List (Addr × Obj)} {σ : L2.St} {H : Hp} {s : Shared} {M : Store} {F : Hp} {x : V} {d : D} {C : Addr} (I : Inv X pins σ H s) (g : Good (Cx.se X) F M H) (r : Rep (Cx.se X) F x d) (hc : ClsAt (Cx.se X) c C) (h : (asO M c d).isSome = true) :
    ∃ a ob od, x = .ref a ∧ PySem.W.InstAt s.heap a ob C od := by
  obtain ⟨fs, e⟩ := Option.isSome_iff_exists.mp h
  obtain ⟨a, C1, d1, vs1, rfl, h1, hc1, _⟩ := asO_at g r e
  have eC : C1 = C := by
    have := hc1.mg.symm.trans hc.mg
    cases this; rfl
  subst eC
  obtain ⟨ob, od, J⟩ := inst_at I h1
  exact ⟨a, ob, od, rfl, J⟩
def rdOwnB (c : Str) (sp : DSp) : DR2 := fun x y M Q => (asO M c x).isSome = true ∧ (asO M c y).isSome = true ∧ sp [x, y] M Q noX
/-- what comes back from an own operator: no NotImplemented -/
theorem cmp_back {pins : List (Addr × Obj)} {σ : L2.St} {Q : VK} {v : Value} {s' : Shared} (h : EP X pins σ Q v s') : PySem.W.CmpBack (EP X pins σ Q) v s' := by
  obtain ⟨z, H', I', rz, q⟩ := h
  cases v with
  | notImplemented => cases z <;> first | exact (nomatch rz) | (obtain ⟨_, e⟩ := rz; exact (nomatch e))
  | _ => exact ⟨z, H', I', rz, q⟩
theorem do_ownB {op : Operator} (h : Spc X.prog X.w X.K X.mg X.base k c m sp) (hm : PySem.dunder op.info.2 = m) (hr : Rm j X.A) (hk : k ≤ j) : DOp X F0 (binaryOp op) (rdOwnB c sp) := by
  intro pins s σ H x y v u Q I rx ry ⟨dx, dy, M, F, P, l0, g, r1, r2, t, kk⟩
  obtain ⟨C, f, fd, ps, o⟩ := h.at
  obtain ⟨t1, t2, t⟩ := t
  obtain ⟨a, ob, od, rfl, J⟩ := own_inst I g r1 o.hc t1
  obtain ⟨b, ob', od', rfl, J'⟩ := own_inst I g r2 o.hc t2
  cases rx
  cases ry
  obtain ⟨mm, hF⟩ := I.fr
  have sf : PySem.W.selfFirst X.K C = true := by
    obtain ⟨⟨cd, h1, h2⟩, _⟩ := cls_parts o.hc
    unfold PySem.W.selfFirst
    rw [h1]
    simp [h2]
  refine PySem.W.binop_K hF I.ok.mod.kin J J'.type sf (by rw [hm]; exact o.hs) o.hf (wpAny_mono (runGA (Q := Q) o.FG (hr.mono hk) rfl o.hb I (vs := [.ref a, .ref b]) (us := [.ref a, .ref b]) (.cons rfl (.cons rfl .nil)) ?_) (fun v s' hv => cmp_back hv) fun _ _ e => e)
  exact ⟨_, M, F, _, _, .cons r1 (.cons r2 .nil), g, t, fun v d M' F' H' l g' rv p => kk _ _ M' F' H' l g' rv p, fun _ _ _ _ _ _ _ _ _ _ z => z.elim⟩
/-- x in y, y an instance -/
def rdOwnIn (neg : Bool) (c : Str) (sp : DSp) : DR2 := fun x y M Q => (asO M c y).isSome = true ∧ sp [y, x] M (fun v M' => match v with
  | .bl b => Q (.bl (if neg = true then !b else b)) M'
  | _ => False) noX
theorem own_in {pins : List (Addr × Obj)} {σ : L2.St} {H : Hp} {s : Shared} {M : Store} {F : Hp} {x : V} {u : Value} {dx dy : D} {a : Addr} {P : D → Store → Prop} {neg : Bool} {Q : VK} {C f : Addr} {fd : FuncData} {ps : List Str} (I : Inv X pins σ H s) (g : Good (Cx.se X) F M H) (r1 : Rep (Cx.se X) F x dx) (r2 : Rep (Cx.se X) F (.ref a) dy) (rx : RelV x u)
    (o : OwnAt X.prog X.w X.K X.mg X.base k c m sp C f fd ps) (hr : Rm j X.A) (hk : k ≤ j) (t : sp [dy, dx] M (fun v M' => match v with
      | .bl b => P (.bl (if neg = true then !b else b)) M'
      | _ => False) noX) (kk : ∀ v d M' F' H', Le F F' → Good (Cx.se X) F' M' H' → Rep (Cx.se X) F' v d → P d M' → Q v H') :
    wpAny (model X.prog X.w) X.A (call (.ref f) [.ref a, u]) (fun r s' => wpAny (model X.prog X.w) X.A (truthy r) (fun b => EP X pins σ Q (.bool (if neg = true then !b else b))) X.xe s') X.xe s := by
  refine wpAny_mono (runGA (Q := fun v H' => ∃ b, v = .bl b ∧ Q (.bl (if neg = true then !b else b)) H') o.FG (hr.mono hk) rfl o.hb I (vs := [.ref a, x]) (us := [.ref a, u]) (.cons rfl (.cons rx .nil)) ?_) (fun v s' hv => ?_) fun _ _ e => e
  · refine ⟨_, M, F, _, _, .cons r2 (.cons r1 .nil), g, t, fun v d M' F' H' l g' rv p => ?_, fun _ _ _ _ _ _ _ _ _ _ z => z.elim⟩
    cases d with
    | bl b =>
      cases rv
      exact ⟨b, rfl, kk _ _ M' F' H' l g' (.bl _) p⟩
    | _ => exact p.elim
  · obtain ⟨z, H', I', rz, b, ez, q⟩ := hv
    subst ez
    cases rz
    exact wpAny_truthy_bool ⟨.bl _, H', I', rfl, q⟩
theorem do_ownIn (h : Spc X.prog X.w X.K X.mg X.base k c "__contains__" sp) (hr : Rm j X.A) (hk : k ≤ j) : DOp X F0 (compareOp .In) (rdOwnIn false c sp) := by
  intro pins s σ H x y v u Q I rx ry ⟨dx, dy, M, F, P, l0, g, r1, r2, t, kk⟩
  obtain ⟨C, f, fd, ps, o⟩ := h.at
  obtain ⟨a, ob, od, rfl, J⟩ := own_inst I g r2 o.hc t.1
  cases ry
  obtain ⟨mm, hF⟩ := I.fr
  exact PySem.W.in_K hF I.ok.mod.kin J o.hs o.hf (own_in (neg := false) I g r1 r2 rx o hr hk t.2 kk)
theorem do_ownNotIn (h : Spc X.prog X.w X.K X.mg X.base k c "__contains__" sp) (hr : Rm j X.A) (hk : k ≤ j) : DOp X F0 (compareOp .NotIn) (rdOwnIn true c sp) := by
  intro pins s σ H x y v u Q I rx ry ⟨dx, dy, M, F, P, l0, g, r1, r2, t, kk⟩
  obtain ⟨C, f, fd, ps, o⟩ := h.at
  obtain ⟨a, ob, od, rfl, J⟩ := own_inst I g r2 o.hc t.1
  cases ry
  obtain ⟨mm, hF⟩ := I.fr
  exact PySem.W.notIn_K hF I.ok.mod.kin J o.hs o.hf (own_in (neg := true) I g r1 r2 rx o hr hk t.2 kk)
/-- an instance's truth by its own __bool__ -/
def trOwn (c : Str) (sp : DSp) : DTr := fun d M Q => (asO M c d).isSome = true ∧ sp [d] M (fun v M' => match v with
  | .bl b => Q b M'
  | _ => False) noX
theorem own_truth {A' : Around} {E : Value → Shared → Prop} {pins : List (Addr × Obj)} {σ : L2.St} {H : Hp} {s : Shared} {M : Store} {F : Hp} {x : V} {v : Value} {d : D} {P : Bool → Store → Prop} {Q : Bool → Hp → Prop} (h : Spc X.prog X.w X.K X.mg X.base k c "__bool__" sp) (hr : Rm k A') (hfr : A'.frames = X.A.frames) (I : Inv X pins σ H s) (g : Good (Cx.se X) F M H) (rx : RelV x v) (r : Rep (Cx.se X) F x d) (t : trOwn c sp d M P)
    (kk : ∀ b M' F' H', Le F F' → Good (Cx.se X) F' M' H' → P b M' → Q b H') : wpAny (model X.prog X.w) A' (truthy v) (fun b s' => ∃ H', Inv X pins σ H' s' ∧ Q b H') E s := by
  obtain ⟨C, f, fd, ps, o⟩ := h.at
  obtain ⟨a, ob, od, rfl, J⟩ := own_inst I g r o.hc t.1
  cases rx
  obtain ⟨mm, hF⟩ := I.fr
  refine PySem.W.truthy_K hF I.ok.mod.kin J o.hs o.hf (wpAny_mono (runGA (Q := fun v H' => ∃ b, v = .bl b ∧ Q b H') o.FG hr hfr o.hb I (vs := [.ref a]) (us := [.ref a]) (.cons rfl .nil) ?_) (fun v s' hv => ?_) fun _ _ e => e)
  · refine ⟨_, M, F, _, _, .cons r .nil, g, t.2, fun v d M' F' H' l g' rv p => ?_, fun _ _ _ _ _ _ _ _ _ _ z => z.elim⟩
    cases d with
    | bl b =>
      cases rv
      exact ⟨b, rfl, kk _ M' F' H' l g' p⟩
    | _ => exact p.elim
  · obtain ⟨z, H', I', rz, b, ez, q⟩ := hv
    subst ez
    cases rz
    exact ⟨H', I', q⟩
theorem tru_own (h : Spc X.prog X.w X.K X.mg X.base k c "__bool__" sp) (hr : Rm j X.A) (hk : k ≤ j) : DTru X F0 (trOwn c sp) := by
  intro pins s σ H x v Q I rx ⟨d, M, F, P, l0, g, r, t, kk⟩
  refine wpAny_mono (own_truth h (hr.mono hk) rfl I g rx r t kk) (fun b s' hb => ?_) fun _ _ e => e
  obtain ⟨H', I', q⟩ := hb
  exact ⟨H', I', q⟩
end

/-! ### bool(x) -/
section
variable {prog : Program} {w : World} {A : Around} {E : Value → Shared → Prop} {s : Shared}
theorem new_bool {x : Value} {R : Result → Shared → Prop} (h : wpAny (model prog w) A.in1 (truthy x) (fun b s' => R (.ok (.ret (.bool b))) s') (fun e s' => R (.error e) s') s) :
    wpAny (model prog w) A.in1 (Builtin.«bool.__new__» ⟨[.type "bool", x], []⟩) (fun fin s' => match fin with
      | .done f => R (.ok f) s'
      | .again c' => c'.quiet = true ∧ codeAny (model prog w) A c' R s') (fun e s' => R (.error e) s') s := by
  have f1 := F.conv_sub_bool
  obtain ⟨hp, g, d, tk, os⟩ := s
  unfold Builtin.«bool.__new__»
  repeat (any_goals (first | (refine wpAny_bind (m := truthy x) (wpAny_mono h (fun b s' hb => ?_) fun _ _ e => e)) | assumption | wp_step))
  all_goals first | exact hb | skip
def RBool (Q E : Value → Shared → Prop) : Result → Shared → Prop := fun r s' => (∃ b, r = .ok (.ret (.bool b)) ∧ Q (.bool b) s') ∨ ∃ e, r = .error e ∧ E e s'
def RInit (s1 : Shared) : Result → Shared → Prop := fun r s' => r = .ok (.ret .none) ∧ s' = s1
/-- bool(x): x's truth, two calls deeper -/
theorem call_bool_any {x : Value} {Q : Value → Shared → Prop} (h : wpAny (model prog w) A.in1.in1 (truthy x) (fun b s' => Q (.bool b) s') E s) : wpAny (model prog w) A (call (.type "bool") [x]) Q E s := by
  have ft := F.called_bool
  obtain ⟨c0, tl0, hmro⟩ := ft.mro
  have hmade := ft.made
  have hsub := ft.sub
  have hct := F.typeCall_bool_1 x
  have hno := ft.notType
  have hcan := ft.canCreate
  refine wpAny_call (codeAny_of_tree (?_ : wpAny _ _ (callAny (.type "bool") _) _ _ _))
  refine wpAny_pure ⟨Code.quiet_builtin _ (by decide +kernel), ?_⟩
  refine codeAny_builtin F.entry_type_call ?_
  rw [Around.under_plain (weight_type_call_type "bool" [x] []) (units_type_call_type "bool" [x] [])]
  repeat (any_goals (first | assumption | wp_step))
  refine codeAny_mono (codeAny_call_builtin (R := RBool Q E) ft.plain F.entry_bool_new (wpAny_of_eq (F.newCall_bool_1 x) (new_bool (R := RBool Q E) (A := A.in1) (wpAny_mono h (fun b s' hb => ?_) fun e s' he => ?_)))) fun r s1 hr => ?_
  · exact .inl ⟨b, rfl, hb⟩
  · exact .inr ⟨e, rfl, he⟩
  · rcases hr with ⟨b, rfl, hq⟩ | ⟨e, hr, he⟩
    · skip
      have hli := ft.init.lookup
      have hbi := ft.init.bind (.bool b)
      have hty : s1.TypeIs (.bool b) "bool" := rfl
      repeat (any_goals (first | assumption | wp_step))
      refine codeAny_mono (codeAny_call_builtin (R := RInit s1) ft.init.plain F.entry_object_init (ft.init.check _ _ _ _ _ _ _ _ hty (F.args_object_init_2 (.bool b) x) (object_init_meets (self := .bool b) (rest := [x]) ft.init.lookup ft.made F.newNe_bool prog w A.in1 (RInit s1) s1 ⟨hty, rfl, rfl⟩))) fun r2 s2 hr2 => ?_
      obtain ⟨rfl, rfl⟩ := hr2
      repeat (any_goals (first | assumption | wp_step))
      try exact hq
    · subst hr
      exact he
end
section
variable {X : Cx} {F0 : Hp} {k j : Nat} {c : Str} {sp : DSp}
/-- bool of plain values -/
def rcBool : DCl := fun ds M Q => match ds with
  | [.tup es] => Q (.bl (!es.isEmpty)) M
  | [.bl b] => Q (.bl b) M
  | [.int i] => Q (.bl (i != 0)) M
  | [x] => match asR M x with
    | some es => Q (.bl (!es.isEmpty)) M
    | none => False
  | _ => False
/-- bool of an instance with an own __bool__ -/
def rcBoolO (c : Str) (sp : DSp) : DCl := fun ds M Q => match ds with
  | [x] => trOwn c sp x M fun b M' => Q (.bl b) M'
  | _ => False
theorem dc_boolO (h : Spc X.prog X.w X.K X.mg X.base k c "__bool__" sp) (hr : Rm j X.A) (hk : k + 2 ≤ j) : DCallR X F0 (.type "bool") (rcBoolO c sp) := by
  intro pins s σ H xs us Q I r ⟨ds, M, F, P, l0, g, rs, t, kk⟩
  cases rs with
  | nil => exact t.elim
  | cons rx rz =>
    cases rz with
    | cons _ _ => exact t.elim
    | nil =>
      obtain ⟨u, rfl, ru⟩ := r.one
      have r2 : Rm k X.A.in1.in1 := ((hr.mono hk).in1).in1
      refine call_bool_any (wpAny_mono (own_truth h r2 rfl I g ru rx t fun b M' F' H' l g' p => kk (.bl b) (.bl b) M' F' H' l g' (.bl b) p) (fun b s' hb => ?_) fun _ _ e => e)
      obtain ⟨H', I', q⟩ := hb
      exact ⟨.bl b, H', I', rfl, q⟩
theorem dc_bool : DCallR X F0 (.type "bool") rcBool := by
  intro pins s σ H xs us Q I r ⟨ds, M, F, P, l0, g, rs, t, kk⟩
  unfold rcBool at t
  have fin : ∀ b, P (.bl b) M → Q (.bl b) H := fun b p => kk (.bl b) (.bl b) M F H (Le.refl F) g (.bl b) p
  split at t
  · cases rs with
    | cons rx rz =>
      cases rz
      obtain ⟨a, vs, rfl, hq, r1⟩ := asT_at g rx rfl
      obtain ⟨u, rfl, ru⟩ := r.one
      cases ru
      obtain ⟨its, rv, p, hz⟩ := I.tuple hq
      refine call_bool_any (PyProof.Rows.truthy_tuple p ?_ ?_)
      · have := rv.length
        rw [List.size_toArray]
        have e := sizeLine_eq
        omega
      · refine ⟨_, H, I.tok _, ?_, fin _ t⟩
        have e1 := reps_empty r1
        have e2 : (!its.toArray.isEmpty) = !vs.isEmpty := by
          cases rv <;> rfl
        rw [e2, e1]
        rfl
  · cases rs with
    | cons rx rz =>
      cases rx; cases rz
      exact call_bool1 pins s σ H _ us Q I r (.inr ⟨_, rfl, fin _ t⟩)
  · cases rs with
    | cons rx rz =>
      cases rx; cases rz
      exact call_bool1 pins s σ H _ us Q I r (.inl ⟨_, rfl, fin _ t⟩)
  · split at t
    · rename_i es e
      cases rs with
      | cons rx rz =>
        cases rz
        obtain ⟨a, vs, rfl, hq, r1⟩ := asR_at g rx e
        refine call_boolL pins s σ H _ us Q I r ⟨a, vs, rfl, hq, ?_⟩
        rw [reps_empty r1]
        exact fin _ t
    · exact t.elim
  · exact t.elim
end

/-! ### comprehensions with two clauses -/
def dLc2Loop (L : Store → Prop) (g : DTG) (tt : DTT) (ti1 : DTI) (g1 : DTG) (tt1 : DTT) (te : DTE) (vs1 : List Nat) (p : Addr) (ρ : Ro) : List D → List D → Store → (List D → Store → Prop) → Prop
  | [], acc => fun M Q => L (updM M p (.lst acc)) ∧ Q acc M
  | d :: ds, acc => fun M Q => L (updM M p (.lst acc)) ∧ g d ρ (updM M p (.lst acc)) fun ρ2 M2 => tt ρ2 M2 fun b M3 =>
    if b = true then ti1 ρ2 M3 fun ds1 L1 M4 => ∃ M5, M4 = updM M5 p (.lst acc) ∧ M5 p = none ∧ dLcLoop L1 g1 tt1 te p (wipeR ρ2 vs1) ds1 acc M5 fun acc2 M6 => dLc2Loop L g tt ti1 g1 tt1 te vs1 p ρ ds acc2 M6 Q
    else ∃ M5, M3 = updM M5 p (.lst acc) ∧ M5 p = none ∧ dLc2Loop L g tt ti1 g1 tt1 te vs1 p ρ ds acc M5 Q
def dLc2 (ti : DTI) (g : DTG) (tt : DTT) (ti1 : DTI) (g1 : DTG) (tt1 : DTT) (te : DTE) (vs vs1 : List Nat) : DTE := fun ρ M Q => ti ρ M fun ds L M1 => ∀ p, M1 p = none → dLc2Loop L g tt ti1 g1 tt1 te vs1 p (wipeR ρ vs) ds [] M1 fun out M2 => Q (.lst out) M2
section
variable {X : Cx} {F0 : Hp} {pos : Pos}
theorem de_lc2 {elt tg iter tg1 iter1 : Expr} {ifs ifs1 : List Expr} {scope : Scope} {own : List (Str × Nat)} {vs1 : List Nat} {ti ti1 : DTI} {g g1 : DTG} {tt tt1 : DTT} {te : DTE} (hc : X.calm = true) (hN : X.N.Nodup) (hne : own ≠ []) (hne1 : vs1 ≠ []) (hi : DI X F0 tg iter ti) (ok : BlkOk X.N X.env.scope scope own) (hv : ∀ i ∈ vs1, i ∈ own.map (·.2))
    (hg : ∀ (s : Shared) (H : Hp) (C : Addr) (cl : List (Str × Addr)) (fp : List Addr), DG (X.blk s H scope (compEnvC scope cl C X.env) fp) F0 (own.map (·.2)) tg g)
    (ht : ∀ (s : Shared) (H : Hp) (C : Addr) (cl : List (Str × Addr)) (fp : List Addr), DIfs (X.blk s H scope (compEnvC scope cl C X.env) fp) F0 ifs tt)
    (hi1 : ∀ (s : Shared) (H : Hp) (C : Addr) (cl : List (Str × Addr)) (fp : List Addr), DI (X.blk s H scope (compEnvC scope cl C X.env) fp) F0 tg1 iter1 ti1)
    (hg1 : ∀ (s : Shared) (H : Hp) (C : Addr) (cl : List (Str × Addr)) (fp : List Addr), DG (X.blk s H scope (compEnvC scope cl C X.env) fp) F0 vs1 tg1 g1)
    (ht1 : ∀ (s : Shared) (H : Hp) (C : Addr) (cl : List (Str × Addr)) (fp : List Addr), DIfs (X.blk s H scope (compEnvC scope cl C X.env) fp) F0 ifs1 tt1)
    (he : ∀ (s : Shared) (H : Hp) (C : Addr) (cl : List (Str × Addr)) (fp : List Addr), DE (X.blk s H scope (compEnvC scope cl C X.env) fp) F0 elt te)
    (hs : ∀ x, foldedSetIterable iter X.env x = pure x := by intro _; rfl) (hs1 : ∀ env x, foldedSetIterable iter1 env x = pure x := by intro _ _; rfl) :
    DE X F0 (.ListComp elt [⟨tg, iter, ifs, 0⟩, ⟨tg1, iter1, ifs1, 0⟩] scope pos) (dLc2 ti g tt ti1 g1 tt1 te (own.map (·.2)) vs1) := by
  have hvs : own.map (·.2) ≠ [] := fun z => hne (List.map_eq_nil_iff.mp z)
  refine ⟨PE.weak (pe_lc2 (wi1 := lowI (Cx.se X) F0 ti1) (g := lowG (Cx.se X) F0 (own.map (·.2)) g) (tt := low (Cx.se X) F0 eqB tt) (g1 := lowG (Cx.se X) F0 vs1 g1) (tt1 := low (Cx.se X) F0 eqB tt1) (te := low (Cx.se X) F0 (fun F => Rep (Cx.se X) F) te) hc hN hi.pi ok hv
    (fun s H C cl fp => (hg s H C cl fp).pg) (fun s H C cl fp => (ht s H C cl fp).pts) (fun s H C cl fp => (hi1 s H C cl fp).pi) (fun s H C cl fp => (hg1 s H C cl fp).pg) (fun s H C cl fp => (ht1 s H C cl fp).pts) (fun s H C cl fp => (he s H C cl fp).pe) hs hs1) fun σ H Q ⟨ρ, M, F, P, l0, sl, gd, t, k⟩ => ?_⟩
  refine ⟨ρ, M, F, _, l0, sl, gd, t, fun ds L J M1 F1 H1 l1 g1' wk p1 D hD => ?_⟩
  have p1' := p1 D (g1'.freshM hD)
  refine ⟨fun i m H' => ∃ acc M' F', Le F1 F' ∧ Good (Cx.se X) F' (updM M' D (.lst acc)) H' ∧ M' D = none ∧ dLc2Loop L g tt ti1 g1 tt1 te vs1 D (wipeR ρ (own.map (·.2))) (ds.drop i) acc M' (fun out M2 => P (.lst out) M2) ∧ i ≤ ds.length ∧ m = ds.length - i,
    ⟨ds.length, [], M1, F1, Le.refl F1, g1'.newM hD (.lst .nil), g1'.freshM hD, p1', Nat.zero_le _, rfl⟩, fun i m H' ⟨acc, M', F', l', g', hM', q, hi', hm⟩ => ?_⟩
  by_cases hlt : i < ds.length
  · right
    have hd : ds.drop i = ds[i] :: ds.drop (i + 1) := List.drop_eq_getElem_cons hlt
    rw [hd] at q
    obtain ⟨w1, _⟩ := wk i H' F' _ l' g' q.1
    obtain ⟨go, yl⟩ := w1 hlt
    refine ⟨go, fun H2 => ∃ acc2 M2 F2, Le F1 F2 ∧ Good (Cx.se X) F2 (updM M2 D (.lst acc2)) H2 ∧ M2 D = none ∧ dLc2Loop L g tt ti1 g1 tt1 te vs1 D (wipeR ρ (own.map (·.2))) (ds.drop (i + 1)) acc2 M2 (fun out M2 => P (.lst out) M2),
      fun H2 ⟨acc2, M2, F2, a1, a2, a3, a4⟩ => ⟨m - 1, by omega, acc2, M2, F2, a1, a2, a3, a4, hlt, by omega⟩, fun x H2 y => ?_⟩
    obtain ⟨F2, d, l2, g2, ed, rd⟩ := yl x H2 y
    have ed' : d = ds[i] := by rw [List.getElem?_eq_getElem hlt] at ed; exact (Option.some.inj ed).symm
    subst ed'
    have L02 : Le F0 F2 := l0.trans (l1.trans (l'.trans l2))
    refine ⟨_, wipeR ρ (own.map (·.2)), _, F2, _, L02, rd, (sl.mono (l1.trans (l'.trans l2))).wipe _, g2, q.2, fun σ3 ρ3 M3 F3 H3 w3 l3 s3 g3 p3 => ?_⟩
    refine ⟨(w3 hvs).trans (wipe_wipe σ _), ρ3, M3, F3, _, L02.trans l3, s3, g3, p3, fun b b' M4 F4 H4 l4 g4 eb p4 => ?_⟩
    cases eb
    have L14 : Le F1 F4 := (l'.trans l2).trans (l3.trans l4)
    cases b with
    | false =>
      obtain ⟨M5, e5, n5, p5⟩ := iteF' p4
      subst e5
      exact iteF ⟨acc, M5, F4, L14, g4, n5, p5⟩
    | true =>
      refine iteT ⟨ρ3, M4, F4, _, (l0.trans l1).trans L14, s3.mono l4, g4, iteT' p4, fun ds1 L1 J1 Ma Fa Ha la ga wka pa => ?_⟩
      obtain ⟨Mb, eb, nb, pb⟩ := pa
      subst eb
      have L1a : Le F1 Fa := L14.trans la
      refine ⟨fun j k H => ∃ acc M' F', Le Fa F' ∧ Good (Cx.se X) F' (updM M' D (.lst acc)) H ∧ M' D = none ∧ dLcLoop L1 g1 tt1 te D (wipeR ρ3 vs1) (ds1.drop j) acc M' (fun acc2 M6 => dLc2Loop L g tt ti1 g1 tt1 te vs1 D (wipeR ρ (own.map (·.2))) (ds.drop (i + 1)) acc2 M6 (fun out M2 => P (.lst out) M2)) ∧ j ≤ ds1.length ∧ k = ds1.length - j,
        ⟨ds1.length, acc, Mb, Fa, Le.refl Fa, ga, nb, pb, Nat.zero_le _, rfl⟩, fun j k H' ⟨acc, M', F', l', g', hM', q, hi', hm⟩ => ?_⟩
      by_cases hlt1 : j < ds1.length
      · right
        have hd : ds1.drop j = ds1[j] :: ds1.drop (j + 1) := List.drop_eq_getElem_cons hlt1
        rw [hd] at q
        obtain ⟨w1, _⟩ := wka j H' F' _ l' g' q.1
        obtain ⟨go, yl⟩ := w1 hlt1
        refine ⟨go, fun H2 => ∃ acc2 M2 F2, Le Fa F2 ∧ Good (Cx.se X) F2 (updM M2 D (.lst acc2)) H2 ∧ M2 D = none ∧ dLcLoop L1 g1 tt1 te D (wipeR ρ3 vs1) (ds1.drop (j + 1)) acc2 M2 (fun acc2 M6 => dLc2Loop L g tt ti1 g1 tt1 te vs1 D (wipeR ρ (own.map (·.2))) (ds.drop (i + 1)) acc2 M6 (fun out M2 => P (.lst out) M2)),
          fun H2 ⟨acc2, M2, F2, a1, a2, a3, a4⟩ => ⟨k - 1, by omega, acc2, M2, F2, a1, a2, a3, a4, hlt1, by omega⟩, fun x H2 y => ?_⟩
        obtain ⟨Fb, d, lb, gb, ed, rd⟩ := yl x H2 y
        have ed' : d = ds1[j] := by rw [List.getElem?_eq_getElem hlt1] at ed; exact (Option.some.inj ed).symm
        subst ed'
        have L0b : Le F0 Fb := (l0.trans l1).trans (L1a.trans (l'.trans lb))
        refine ⟨_, wipeR ρ3 vs1, _, Fb, _, L0b, rd, (s3.mono (l4.trans (la.trans (l'.trans lb)))).wipe _, gb, q.2, fun σ5 ρ5 M5 F5 H5 w5 l5 s5 g5 p5 => ?_⟩
        refine ⟨(w5 hne1).trans (wipe_wipe σ3 _), ρ5, M5, F5, _, L0b.trans l5, s5, g5, p5, fun b b' M6 F6 H6 l6 g6 eb p6 => ?_⟩
        cases eb
        have Lz : Le Fa F6 := (l'.trans lb).trans (l5.trans l6)
        cases b with
        | false =>
          obtain ⟨M7, e7, n7, p7⟩ := iteF' p6
          subst e7
          exact iteF ⟨acc, M7, F6, Lz, g6, n7, p7⟩
        | true =>
          refine iteT ⟨ρ5, M6, F6, _, L0b.trans (l5.trans l6), s5.mono l6, g6, iteT' p6, fun v d M7 F7 H7 l7 g7 r7 p7 => ?_⟩
          obtain ⟨M8, e8, n8, z8, p8⟩ := p7
          subst e8
          obtain ⟨_, o, eo, ro⟩ := g7.cel D (.lst acc) updM_same
          cases ro with
          | lst rs =>
            refine ⟨_, eo, by rw [rs.len]; exact z8, _, M8, F7, Lz.trans l7, ?_, n8, p8⟩
            have := g7.set (m := .lst (acc ++ [d])) updM_same (.lst (rs.append (.cons r7 .nil)))
            rw [updM_updM] at this
            exact this
      · left
        have hj2 : j = ds1.length := by omega
        have hd : ds1.drop j = [] := by rw [hj2]; exact List.drop_length
        rw [hd] at q
        refine ⟨(wka j H' F' _ l' g' q.1).2 hj2, acc, M', F', L1a.trans l', g', hM', q.2⟩
  · left
    have hi2 : i = ds.length := by omega
    have hd : ds.drop i = [] := by rw [hi2]; exact List.drop_length
    rw [hd] at q
    refine ⟨(wk i H' F' _ l' g' q.1).2 hi2, ?_⟩
    obtain ⟨f, o, eo, ro⟩ := g'.cel D (.lst acc) updM_same
    cases ro with
    | lst rs =>
      have gz := g'.freeze updM_same eo
      rw [delM_updM hM'] at gz
      exact k _ _ M' _ H' ((l1.trans l').trans (Le.new f)) gz (.lst upd_same (rs.mono (Le.new f))) q.2
end
end DL


set_option Elab.async false
set_option linter.all false
set_option maxRecDepth 100000
set_option maxHeartbeats 3200000
namespace DL
open PySem PySem.Spec PyProof.Rows L2

/-! ### set(xs), xs a list of ints; sorted(set(xs)) -/
/-- the empty set as it is made -/
def setO0 (w : World) : Obj := { cls := .type "set", dict := none, data := .set #[] 0 (.fresh 0 0 (!w.params.followText "set-order")) }
section
variable {P : Program} {w : World} {A : Around} {E : Value → Shared → Prop} {s : Shared}
def SetMade (w : World) (s : Shared) (ns : List Int) (r : Value) (s2 : Shared) : Prop := r = .none ∧ ∃ h' tk c, s2 = { s with heap := h', toks := tk } ∧ SetR w h' s.heap.objs.size (fun j => decide (j ∈ ns)) c ∧ c ≤ ns.length ∧ ∀ b o, s.heap.get? b = some o → h'.get? b = some o
theorem val_at {items : Array Value} {ns : List Int} (hit : IntsAre items.toList ns) (i : Nat) (v : Value) (hv : items[i]? = some v) : ∃ k t, ns[i]? = some k ∧ v = .int k t := by
  have hi : i < ns.length := by
    have e := hit.length
    have := (Array.getElem?_eq_some_iff.mp hv).1
    rw [Array.length_toList] at e
    omega
  obtain ⟨t, e⟩ := PyProof.Rows.IntsAre.int_at hit i v ((Array.getElem?_toList).trans hv)
  have z : ns[i]? = some ns[i] := List.getElem?_eq_getElem hi
  refine ⟨_, t, z, e.trans ?_⟩
  rw [List.getD_eq_getElem?_getD, z]
  rfl
theorem call_setL {l : Addr} {items : Array Value} (ns : List Int) {Q : Value → Shared → Prop} (hh : A.handled = none) (hl : s.heap.IsList l items) (hit : IntsAre items.toList ns) (hb : ns.length + 1 < scanBound)
    (h : ∀ (h' : Heap) (tk c : Nat), SetR w h' s.heap.objs.size (fun j => decide (j ∈ ns)) c → c ≤ ns.length → (∀ b o, s.heap.get? b = some o → h'.get? b = some o) → Q (.ref s.heap.objs.size) { s with heap := h', toks := tk }) :
    wpAny (model P w) A (call (.type "set") [.ref l]) Q E s := by
  have sz : items.size = ns.length := by
    have e := hit.length
    rwa [Array.length_toList] at e
  have ft := F.called_set
  obtain ⟨c0, tl0, hmro⟩ := ft.mro
  have hmade := ft.made
  have hsub := ft.sub
  have hct := F.typeCall_set_1 (.ref l)
  have hno := ft.notType
  have hcan := ft.canCreate
  refine wpAny_call (codeAny_of_tree (?_ : wpAny _ _ (callAny (.type "set") _) _ _ _))
  refine wpAny_pure ⟨Code.quiet_builtin _ (by decide +kernel), ?_⟩
  refine codeAny_builtin F.entry_type_call ?_
  rw [Around.under_plain (weight_type_call_type "set" [.ref l] []) rfl]
  repeat (any_goals (first | assumption | wp_step))
  refine codeAny_mono (code_set_led1 (.ref l) (E := E) (Q₁ := fun obj s₁ => obj = .ref s.heap.objs.size ∧ s₁ = { s with heap := s.heap.push (setO0 w) }) ⟨rfl, rfl⟩) fun r s1 hr => ?_
  cases r with
  | error e => exact hr
  | ok fl =>
    cases fl with
    | ret obj =>
      obtain ⟨rfl, rfl⟩ := hr
      have hS : (s.heap.push (setO0 w)).get? s.heap.objs.size = some (setO0 w) := Heap.get?_push_size _ rfl
      have hT : Shared.TypeIs { s with heap := s.heap.push (setO0 w) } (.ref s.heap.objs.size) "set" := ⟨_, hS, rfl⟩
      have hli := ft.init.lookup
      have hbi := ft.init.bind (.ref s.heap.objs.size)
      repeat (any_goals (first | assumption | wp_step))
      refine codeAny_mono (codeAny_call_builtin (R := wants (SetMade w s ns) E) ft.init.plain F.entry_set_init (check_set_init_1 hT ?_)) fun r2 s2 hr2 => ?_
      · obtain ⟨⟨ocl, odi, oda, osl⟩, hol, hcl, nl, hdl⟩ := hl
        simp only at hcl hdl
        subst hcl hdl
        have hol2 : (s.heap.push (setO0 w)).get? l = some { cls := .type "list", dict := odi, data := .seq items nl, slots := osl } := Heap.get?_push_of_some _ hol
        have f1 := F.sub_list_set
        have f2 := F.sub_list_frozenset
        have f3 : (Value.type "list" == Value.type "dict") = false := by decide
        have hl1 : (s.heap.push (setO0 w)).IsList l items := ⟨_, hol2, rfl, nl, rfl⟩
        have lt := Heap.lt_size hol
        have zz : (s.heap.push (setO0 w)).objs.size = s.heap.objs.size + 1 := Heap.size_push ..
        unfold Builtin.«set.__init__» noKeywords Builtin.Frozenset.updateFrom
        generalize hPI : pyIter = PI
        wp_walk
        subst hPI
        refine wpAny_pyIter_list hl1 (wpAny_bind (wpAny_runValue ?_))
        have h3 : A.in1.in1.in1.handled = none := by simp [hh]
        have n1 : l ≠ (s.heap.push (setO0 w)).objs.size := by rw [zz]; exact Nat.ne_of_lt (Nat.lt_succ_of_lt lt)
        have n2 : s.heap.objs.size ∉ [(s.heap.push (setO0 w)).objs.size, l] := by
          rw [zz]
          simp only [List.mem_cons, List.not_mem_nil, or_false, not_or]
          exact ⟨Nat.ne_of_lt (Nat.lt_succ_self _), Nat.ne_of_gt lt⟩
        have W := (Walks.list (prog := P) (w := w) h3 _ l n1 items).toS
        refine set_update_ints W s.heap.objs.size n2 ns sz hb (val_at hit) items.size 0 _ (Nat.sub_zero _) (Nat.zero_le _) ⟨⟨_, Heap.get?_push_size _ rfl, rfl, rfl⟩, hl1.push _⟩ ⟨0, Nat.le_refl _, setR_new_at (Heap.get?_push_of_some _ hS)⟩ fun s3 c3 hm hc3 hS3 => ?_
        obtain ⟨h4, g4, d4, tk4, os4⟩ := s3
        have e1 : g4 = s.gens := hm.gens
        have e2 : d4 = s.drawn := hm.drawn
        have e3 : os4 = s.os := hm.os
        subst e1 e2 e3
        refine wpAny_pure (wpAny_pure ⟨rfl, h4, tk4, c3, rfl, hS3, by omega, fun b o e => ?_⟩)
        have lb := Heap.lt_size e
        refine hm.heap b o ?_ (Heap.get?_push_of_some _ (Heap.get?_push_of_some _ e))
        rw [zz]
        simp only [List.mem_cons, List.not_mem_nil, or_false, not_or]
        exact ⟨Nat.ne_of_lt lb, Nat.ne_of_lt (Nat.lt_succ_of_lt lb)⟩
      · cases r2 with
        | error e => exact hr2
        | ok fl2 =>
          cases fl2 with
          | ret r =>
            obtain ⟨rfl, h4, tk4, c4, rfl, q1, q2, q3⟩ := hr2
            repeat (any_goals (first | assumption | wp_step))
            exact h _ _ _ q1 q2 q3
          | _ => exact hr2.elim
    | _ => exact hr.elim
end
end DL


set_option Elab.async false
set_option linter.all false
set_option maxRecDepth 100000
set_option maxHeartbeats 3200000
namespace DL
open PySem PySem.Spec PyProof.Rows L2
section
variable {P : Program} {w : World} {A : Around} {E : Value → Shared → Prop} {s : Shared}
/-- sorted of a set of ints, any number of them -/
theorem sorted_setA {a : Addr} {S : Int → Bool} {n : Nat} {Q : Value → Shared → Prop} (R : SetR w s.heap a S n) (hh : A.handled = none) (hn : n ≤ sizeLine)
    (hQ : ∀ s' p (out : List Value) (c : Nat) (ns : List Int), (∀ b o, s.heap.get? b = some o → s'.heap.get? b = some o) → s'.gens = s.gens → s'.os = s.os → s.heap.objs.size ≤ p →
      s'.heap.get? p = some (seqObj "list" out.toArray c) → IntsAre out ns → ns.Pairwise (· < ·) → (∀ k, k ∈ ns ↔ S k = true) → ns.length = n → Q (.ref p) s') :
    wpAny (model P w) A (call (.builtin "sorted") [.ref a]) Q E s := by
  obtain ⟨o, es, ep, t, ho, hex, hd, g, nd, hm, hb, hf, hc, hr, hl⟩ := R
  refine Calls.call_function_entry kind_sorted plain_sorted entry_sorted (args_sorted1 _) ?_
  unfold Builtin.«sorted»
  refine wpAny_bind (m := checkCount "sorted" 1 1 _) (wpAny_pure (wpAny_bind (collect_set (A := A.in1) hh ⟨o, ho, hex.1, hd⟩ hf hb hr hl fun s1 vs k1 hz g1 o1 pm => ?_)))
  have lv : vs.length = n := by rw [pm.length_eq, List.length_map, Array.length_toList, hc]
  have hI : IntsAre vs (vs.map Builtin.Re.reRawOf) := ints_of vs fun v hv => by
    obtain ⟨e, he, q⟩ := List.mem_map.mp (pm.mem_iff.mp hv)
    obtain ⟨k, tk, h1, _⟩ := g e he
    exact ⟨k, tk, q.symm.trans h1⟩
  have pk : (vs.map Builtin.Re.reRawOf).Perm (es.toList.map keyOf) := by
    have q := pm.map Builtin.Re.reRawOf
    rwa [List.map_map] at q
  refine wpAny_bind (wpAny_newList ?_ (by rw [lv]; exact hn))
  have hL : (s1.heap.push (seqObj "list" vs.toArray 0)).get? s1.heap.objs.size = some (seqObj "list" vs.toArray 0) := Heap.get?_push_size _ rfl
  refine wpAny_bind (wpAny_holding (wpAny_call_entry slot_list_sort ⟨_, hL, rfl⟩ entry_list_sort (SrtO.list_sort_ord SrtO.swo_int hL (by rw [lv]; exact hn) (fun h2 => SrtO.ints_sortable hI h2) fun out hs hb2 => ⟨_, rfl, ?_⟩) (args_list_sort _)))
  obtain ⟨i1, i2, i3⟩ := SrtO.ints_out hI hs hb2
  obtain ⟨c, hc2⟩ := sortedHeap_at (vs := vs) (out := out.toArray) hL
  have pn := i2.trans pk
  refine wpAny_pure ⟨_, rfl, hQ _ s1.heap.objs.size out c _ (fun b u e => ?_) g1 o1 hz hc2 i1 (lt_of_le_nodup _ i3 (pn.nodup_iff.mpr nd)) (fun k => by rw [pn.mem_iff, ← hm k]) ?_⟩
  · have q := k1 b u e
    have hlt := Heap.lt_size q
    refine (?_ : (sortedHeap (s1.heap.push (seqObj "list" vs.toArray 0)) s1.heap.objs.size vs out.toArray).get? b = some u)
    exact (sortedHeap_old (Nat.ne_of_lt hlt) (Nat.lt_of_lt_of_eq (Nat.lt_succ_of_lt hlt) (size_push' _ _).symm)).trans (Heap.get?_push_of_some _ q)
  · rw [pn.length_eq, List.length_map, Array.length_toList, hc]
end
section
variable {X : Cx} {F0 : Hp} {a : Expr} {te : DTE} {p p2 q pos : Pos}
/-- sorted(set(x)), x a list of ints -/
def rcSortSet (x : D) (M : Store) (Q : D → Store → Prop) : Prop := match asR M x with
  | some ds => match toIs ds with
    | some ns => ns.length ≤ 4000 ∧ ∀ out : List Int, out.Pairwise (· < ·) → (∀ k, k ∈ out ↔ k ∈ ns) → out.length ≤ ns.length → Q (.lst (out.map .int)) M
    | none => False
  | none => False
def dSortSet (te : DTE) : DTE := fun ρ M Q => te ρ M fun x M1 => rcSortSet x M1 Q
theorem reps_int {S : SE} {F : Hp} : ∀ l : List Int, Reps S F (l.map V.int) (l.map D.int)
  | [] => .nil
  | i :: l => .cons (.int i) (reps_int l)
theorem de_sortSet (hm : X.mg "sorted" = none) (hm2 : X.mg "set" = none) (ha : DE X F0 a te) (hc : X.calm = true := by rfl) (hg : Gl X "sorted" := by rfl) (hg2 : Gl X "set" := by rfl)
    (na : starEach [a] X.env = (false, eval a X.env) :: starEach [] X.env := by rfl) : DE X F0 (.Call (.Name "sorted" p) [.Call (.Name "set" p2) [a] [] q] [] pos) (dSortSet te) := by
  refine ⟨⟨fun pins s σ H Q I ⟨ρ, M, F, P, l0, sl, g, t, k⟩ => ?_⟩⟩
  refine wpAny_Call_Name_kw (ld_blt I hg hm (u := .builtin "sorted") (by decide +kernel) ?_)
  refine PyProof.Rows.callWith_builtin1 (PyProof.Rows.args_cons ?_ rfl) rfl rfl
  refine wpAny_Call_Name_kw (ld_blt I hg2 hm2 (u := .type "set") (by decide +kernel) ?_)
  refine PyProof.Rows.callWith_type1 (PyProof.Rows.args_cons (thn (ha.pe.run pins s σ H (fun x H1 => ∃ d M1 F1, Le F F1 ∧ Good (Cx.se X) F1 M1 H1 ∧ Rep (Cx.se X) F1 x d ∧ rcSortSet d M1 P) I ⟨ρ, M, F, _, l0, sl, g, t, fun v d M1 F1 H1 l1 g1 r1 p1 => ⟨d, M1, F1, l1, g1, r1, p1⟩⟩) fun v s1 ⟨x, H1, I1, r1, d, M1, F1, l1, g1, rd, p1⟩ => PyProof.Rows.args_nil ?_) na) na rfl
  unfold rcSortSet at p1
  split at p1
  · rename_i ds e1
    split at p1
    · rename_i ns e2
      obtain ⟨hn, p1⟩ := p1
      obtain ⟨l, vs, rfl, hq, ry⟩ := asR_at g1 rd e1
      have ev := reps_ints ry e2
      subst ev
      obtain ⟨its, rv, pl, hz⟩ := I1.list hq
      cases r1
      refine call_setL ns (I1.ok.hd hc) pl.isList (by simpa using rv.ints) (by have : scanBound = 4096 := rfl; omega) fun h' tk c hS hcn hk => ?_
      refine PyProof.Rows.args_nil ?_
      have I2 : Inv X pins σ H1 { s1 with heap := h', toks := tk } := I1.kept hk
      refine sorted_setA hS (I2.ok.hd hc) (by rw [sizeLine_eq]; omega) fun s' p out cc ms kk gg oo hp hg' hi hs hm' hl => ?_
      have hlen : (ms.map V.int).length ≤ sizeLine := by rw [List.length_map, hl, sizeLine_eq]; omega
      have hn' : H1 p = none := I2.hok.fresh hp
      have J : Inv X pins σ (upd H1 p (.lst (ms.map V.int))) s' := I2.call' (ch := []) oo (Un.laid kk hp hn') (I2.hok.laid kk hp ⟨hlen, out, cc, vals_of_ints hi, hg'⟩) (by rw [gg]; exact I2.bare) (fun _ z => nomatch z)
      have fr := g1.freshF hn'
      exact ⟨.ref p, _, J, rfl, k _ _ M1 _ _ (l1.trans (Le.new fr)) (g1.new hn') (.lst upd_same (reps_int ms)) (p1 ms hs (fun j => by simpa using hm' j) (by rw [hl]; exact hcn))⟩
    · exact p1.elim
  · exact p1.elim
end
end DL


set_option Elab.async false
set_option linter.all false
set_option maxRecDepth 100000
set_option maxHeartbeats 1600000
namespace DL
open PySem PySem.Spec PyProof.Rows L2

/-! ### list.clear -/
def rmClear : DMt := fun x ds M Q => match x, ds with
  | .ref a, [] => match M a with
    | some (.lst _) => Q .non (updM M a (.lst []))
    | _ => False
  | _, _ => False
section
variable {X : Cx} {F0 : Hp} {o : Expr} {to : DTE} {apos cpos : Pos}
theorem dm_clear : DMtR X F0 "list.clear" rmClear := by
  intro pins s σ H x xs v us Q I rx rxs ⟨d, ds, M, F, P, l0, g, rd, rs, t, k⟩
  refine mt_clear pins s σ H x xs v us Q I rx rxs ?_
  unfold rmClear at t
  split at t
  · split at t
    · rename_i e
      obtain ⟨_, o, e2, q⟩ := g.cel _ _ e
      cases q with
      | lst r =>
        cases rd
        cases rs
        exact ⟨_, _, rfl, rfl, e2, k _ _ _ F _ (Le.refl F) (g.set e (.lst .nil)) .non t⟩
    · exact t.elim
  · exact t.elim
theorem de_clear (ho : DE X F0 o to) (hbase : attributeBase o "clear" X.env (eval o X.env) = eval o X.env := by rfl) (hline : (apos.endLine == cpos.line) = true := by rfl) :
    DE X F0 (.Call (.Attribute o "clear" apos) [] [] cpos) (dMt rmClear to daNil) := de_m0 F.slot_list_clear F.type_list_clear dm_clear ho hbase hline
end

/-! ### name op= value, of an own class without an operator of this name in place -/
section
variable {A : Around} {E : Value → Shared → Prop} {s : Shared} {K : PySem.W.Frag} {x C L f : Addr} {h₀ : Heap} {m : Str → Option Value} {ox : Obj} {od : Option Obj}
theorem anyM_lack {M : Model} {h : Heap} {g : Value → Sem Bool} : ∀ {l : List Value}, (∀ c ∈ l, PySem.W.Looks M h (g c) false) → PySem.W.Looks M h (l.anyM g) false
  | [], _ => .now
  | c :: r, e => (e c List.mem_cons_self).andThen (anyM_lack fun d hd => e d (List.mem_cons_of_mem _ hd))
theorem inplace_lack {M : Model} {h : Heap} {nm : String} {add : Bool} {cd : ClassData} (X : K.In h) (hc : PySem.W.clsIn K C = some cd) (hl : ∀ c ∈ cd.mro, PySem.W.findIn K c (PySem.dunderI nm) = some none) : PySem.W.Looks M h (fillsInplaceSlot (.ref C) nm add) false := by
  intro A Q E s k q
  unfold fillsInplaceSlot
  refine wpAny_bind ((PySem.W.looks_clsIn X hc).andThen (f := fun cd => pure cd.mro) .now A _ E s k ?_)
  refine anyM_lack (fun c hc => ?_) A _ E s k q
  exact (PySem.W.looks_findIn X (hl c hc)).andThen .now
theorem binop1_own {prog : Program} {w : World} {nm : String} {b : Value} {Q : Value → Shared → Prop} (F : Fr h₀ L s.heap m) (X₀ : K.In h₀) (I : PySem.W.InstAt s.heap x ox C od) (hb : PySem.W.Looks (model prog w) s.heap (typeOf b) (.ref C)) (hc : PySem.W.selfFirst K C = true)
    (hs : PySem.W.findIn K (.ref C) (PySem.dunder nm) = some (some (.ref f))) (hf : PySem.W.isFn K (.ref f) = true)
    (h : wpAny (model prog w) A (call (.ref f) [.ref x, b]) (PySem.W.CmpBack Q) E s) : wpAny (model prog w) A (binaryOp1 nm (.ref x) b) (fun r s' => ∃ v, r = some v ∧ Q v s') E s := by
  have X := X₀.keeps F.keep
  obtain ⟨cd, hcd, hm⟩ := PySem.W.any_some hc
  obtain ⟨rest, hm⟩ : ∃ rest, cd.mro = .ref C :: rest := by
    cases q : cd.mro with
    | nil => rw [q] at hm; cases hm
    | cons a r => rw [q] at hm; exact ⟨r, by rw [List.head?_cons] at hm; cases (beq_iff_eq.mp hm); rfl⟩
  have one : wpAny (model prog w) A (tryMethod (.ref x) (PySem.dunder nm) b) (fun r s' => ∃ v, r = some v ∧ Q v s') E s := by
    unfold tryMethod
    refine wpAny_bind (PySem.W.special_fn X I hs (beq_iff_eq.mp hf) (wpAny_mono h (fun v s' hv => ?_) fun _ _ e => e))
    cases v <;> first | exact hv.elim | exact wpAny_pure ⟨_, rfl, hv⟩
  unfold binaryOp1
  refine wpAny_bind (I.type.here (wpAny_bind (hb.here (wpAny_bind ((PySem.W.fills_K X hcd hm hs).here ?_)))))
  simp only [beq_self_eq_true, if_true]
  refine wpAny_bind (wpAny_pure ?_)
  simp only [Bool.and_false, Bool.false_eq_true, if_false, Bool.false_and]
  refine wpAny_bind (wpAny_pure ?_)
  simp only [Bool.false_eq_true, if_false]
  refine wpAny_bind (wpAny_mono one (fun r s' hr' => ?_) fun _ _ e => e)
  obtain ⟨v, rfl, hq⟩ := hr'
  exact wpAny_pure ⟨_, rfl, hq⟩
theorem inplace_own {prog : Program} {w : World} {op : Operator} {b : Value} {Q : Value → Shared → Prop} {cd : ClassData} (F : Fr h₀ L s.heap m) (X₀ : K.In h₀) (I : PySem.W.InstAt s.heap x ox C od) (hb : PySem.W.Looks (model prog w) s.heap (typeOf b) (.ref C)) (hc : PySem.W.selfFirst K C = true)
    (hcd : PySem.W.clsIn K C = some cd) (hl : ∀ c ∈ cd.mro, PySem.W.findIn K c (PySem.dunderI op.info.2) = some none)
    (hs : PySem.W.findIn K (.ref C) (PySem.dunder op.info.2) = some (some (.ref f))) (hf : PySem.W.isFn K (.ref f) = true)
    (h : wpAny (model prog w) A (call (.ref f) [.ref x, b]) (PySem.W.CmpBack Q) E s) : wpAny (model prog w) A (inplaceOp op (.ref x) b) Q E s := by
  have X := X₀.keeps F.keep
  have one := binop1_own F X₀ I hb hc hs hf h
  unfold inplaceOp
  refine wpAny_holding (wpAny_bind (I.type.here (wpAny_bind ((inplace_lack X hcd hl).here ?_))))
  simp only [Bool.false_eq_true, if_false]
  refine wpAny_bind (wpAny_mono one (fun r s' hr' => ?_) fun _ _ e => e)
  obtain ⟨v, rfl, hq⟩ := hr'
  exact wpAny_pure hq
end
section
variable {X : Cx} {F0 : Hp} {k j : Nat} {c m : Str} {sp : DSp}
theorem dip_own {op : Operator} {i : Str} (h : Spc X.prog X.w X.K X.mg X.base k c m sp) (hm : PySem.dunder op.info.2 = m) (hl : ∀ C : Addr, X.mg c = some (.ref C) → PySem.W.findIn X.K (.ref C) i = some none) (hi : PySem.dunderI op.info.2 = i) (hr : Rm j X.A) (hk : k ≤ j)
    (ho : PySem.fastLookup "object" i = some none := by decide +kernel) : DIp X F0 op (rdOwnB c sp) := by
  intro pins s σ H x y v u Q I rx ry ⟨dx, dy, M, F, P, l0, g, r1, r2, t, kk⟩
  obtain ⟨C, f, fd, ps, o⟩ := h.at
  obtain ⟨t1, t2, t⟩ := t
  obtain ⟨a, ob, od, rfl, J⟩ := own_inst I g r1 o.hc t1
  obtain ⟨b, ob', od', rfl, J'⟩ := own_inst I g r2 o.hc t2
  cases rx
  cases ry
  obtain ⟨mm, hF⟩ := I.fr
  obtain ⟨⟨cd, h1, h2⟩, _⟩ := cls_parts o.hc
  have sf : PySem.W.selfFirst X.K C = true := by
    unfold PySem.W.selfFirst
    rw [h1]
    simp [h2]
  refine inplace_own hF I.ok.mod.kin J J'.type sf h1 (fun c hc => ?_) (by rw [hm]; exact o.hs) o.hf (wpAny_mono (runGA (Q := Q) o.FG (hr.mono hk) rfl o.hb I (vs := [.ref a, .ref b]) (us := [.ref a, .ref b]) (.cons rfl (.cons rfl .nil)) ?_) (fun v s' hv => cmp_back hv) fun _ _ e => e)
  · rw [hi]
    rw [h2] at hc
    rcases List.mem_cons.mp hc with rfl | hc
    · exact hl C o.hc.mg
    · rw [List.mem_singleton.mp hc]
      exact ho
  · exact ⟨_, M, F, _, _, .cons r1 (.cons r2 .nil), g, t, fun v d M' F' H' l g' rv p => kk _ _ M' F' H' l g' rv p, fun _ _ _ _ _ _ _ _ _ _ z => z.elim⟩
end
end DL


set_option Elab.async false
set_option linter.all false
set_option maxRecDepth 100000
set_option maxHeartbeats 1600000
namespace DL
open PySem PySem.Spec PyProof.Rows L2

/-! ### dicts whose keys are whole numbers or texts -/
def keyK : D → Option Key
  | .int i => some (.inl i)
  | .str x => some (.inr x)
  | _ => none
theorem keyK_D (k : Key) : keyK (keyD k) = some k := by cases k <;> rfl
def dval (ds : List (D × D)) (k : Key) : Option D := (ds.find? fun kv => decide (keyK kv.1 = some k)).map (·.2)
def dputK (ds : List (D × D)) (k : Key) (d : D) : List (D × D) :=
  if (ds.any fun kv => decide (keyK kv.1 = some k)) = true then ds.map (fun kv => if keyK kv.1 = some k then (kv.1, d) else kv) else ds ++ [(keyD k, d)]
def asD (M : Store) (x : D) : Option (List (D × D)) := match x with
  | .ref a => match M a with
    | some (.dct kvs) => some kvs
    | _ => none
  | .dct kvs => some kvs
  | _ => none
theorem asD_at {S : SE} {F H : Hp} {M : Store} {x : V} {d : D} {ds : List (D × D)} (g : Good S F M H) (r : Rep S F x d) (h : asD M d = some ds) : ∃ a vs, x = .ref a ∧ Rd H a (.dK vs) ∧ RepK S F vs ds := by
  cases d with
  | ref a =>
    cases r
    unfold asD at h
    simp only at h
    split at h
    · rename_i kvs e
      cases h
      obtain ⟨_, o, e2, q⟩ := g.cel _ _ e
      cases q with
      | dctK rs => exact ⟨a, _, rfl, .inl e2, rs⟩
    · cases h
  | dct kvs =>
    cases h
    cases r with
    | dctK hq rs => exact ⟨_, _, rfl, g.rd hq, rs⟩
  | _ => cases h
theorem keyK_at {S : SE} {F : Hp} {x : V} {d : D} {k : Key} (r : Rep S F x d) (h : keyK d = some k) : x = kV k := by
  cases d with
  | int i => cases h; cases r; rfl
  | str i => cases h; cases r; rfl
  | _ => cases h
theorem repK_val {S : SE} {F : Hp} (k : Key) : ∀ {vs : List (Key × V)} {ds : List (D × D)}, RepK S F vs ds → (valV vs k = none ∧ dval ds k = none) ∨ ∃ v d, valV vs k = some v ∧ dval ds k = some d ∧ Rep S F v d
  | _, _, .nil => .inl ⟨rfl, rfl⟩
  | _, _, .cons (k := j) (v := v) (d := d) (vs := vs) (ds := ds) h t => by
    by_cases e : j = k
    · subst e
      exact .inr ⟨v, d, by simp [valV], by simp [dval, keyK_D], h⟩
    · have ne : ¬ keyK (keyD j) = some k := by rw [keyK_D]; intro z; cases z; exact e rfl
      have e1 : valV ((j, v) :: vs) k = valV vs k := valV_neg e
      have e2 : dval ((keyD j, d) :: ds) k = dval ds k := by simp [dval, List.find?_cons, ne]
      rw [e1, e2]
      exact repK_val k t
theorem repK_any {S : SE} {F : Hp} (k : Key) : ∀ {vs : List (Key × V)} {ds : List (D × D)}, RepK S F vs ds → (vs.any fun kv => decide (kv.1 = k)) = ds.any fun kv => decide (keyK kv.1 = some k)
  | _, _, .nil => rfl
  | _, _, .cons (k := j) h t => by
    rw [List.any_cons, List.any_cons, repK_any k t, keyK_D]
    simp
theorem repK_repl {S : SE} {F : Hp} (k : Key) {v : V} {d : D} (r : Rep S F v d) : ∀ {vs : List (Key × V)} {ds : List (D × D)}, RepK S F vs ds → RepK S F (vs.map fun kv => if kv.1 = k then (kv.1, v) else kv) (ds.map fun kv => if keyK kv.1 = some k then (kv.1, d) else kv)
  | _, _, .nil => .nil
  | _, _, .cons (k := j) (v := v') (d := d') h t => by
    rw [List.map_cons, List.map_cons, keyK_D]
    by_cases e : j = k
    · subst e
      simp only [if_true]
      exact .cons r (repK_repl j r t)
    · have ne : ¬ some j = some k := fun z => e (Option.some.inj z)
      simp only [if_neg e, if_neg ne]
      exact .cons h (repK_repl k r t)
theorem repK_app {S : SE} {F : Hp} {vs' : List (Key × V)} {ds' : List (D × D)} (r : RepK S F vs' ds') : ∀ {vs : List (Key × V)} {ds : List (D × D)}, RepK S F vs ds → RepK S F (vs ++ vs') (ds ++ ds')
  | _, _, .nil => r
  | _, _, .cons h t => .cons h (repK_app r t)
theorem repK_put {S : SE} {F : Hp} (k : Key) {v : V} {d : D} (r : Rep S F v d) {vs : List (Key × V)} {ds : List (D × D)} (h : RepK S F vs ds) : RepK S F (putK vs k v) (dputK ds k d) := by
  unfold putK dputK
  rw [repK_any k h]
  split
  · exact repK_repl k r h
  · exact repK_app (.cons r .nil) h
theorem repK_len {S : SE} {F : Hp} : ∀ {vs : List (Key × V)} {ds : List (D × D)}, RepK S F vs ds → vs.length = ds.length
  | _, _, .nil => rfl
  | _, _, .cons _ t => congrArg Nat.succ (repK_len t)
section
variable {X : Cx} {F0 : Hp} {k : Nat} {pos : Pos}
/-- key in dict -/
def rdInD (neg : Bool) : DR2 := fun x y M Q => match keyK x, asD M y with
  | some j, some ds => Q (.bl (neg != (dval ds j).isSome)) M
  | _, _ => False
theorem do_inD (hr : Room k X.A) : DOp X F0 (compareOp .In) (rdInD false) := by
  intro pins s σ H x y v u Q I rx ry ⟨dx, dy, M, F, P, l0, g, hx, hy, t, kk⟩
  unfold rdInD at t
  split at t
  · rename_i j ds e1 e2
    obtain ⟨a, vs, rfl, hR, rs⟩ := asD_at g hy e2
    have ex := keyK_at hx e1
    cases ry
    refine d_in (by have := hr.units; omega) I (y := x) (o := valV vs j) (.inl ⟨vs, j, hR, ex, rfl⟩) rx fun s' I' => ⟨.bl (valV vs j).isSome, H, I', rfl, kk _ _ M F H (Le.refl F) g (.bl _) ?_⟩
    rcases repK_val j rs with ⟨h1, h2⟩ | ⟨v, d, h1, h2, h3⟩
    · rw [h2] at t
      rw [h1]
      exact t
    · rw [h2] at t
      rw [h1]
      exact t
  · exact t.elim
theorem do_notInD (hr : Room k X.A) : DOp X F0 (compareOp .NotIn) (rdInD true) := by
  intro pins s σ H x y v u Q I rx ry ⟨dx, dy, M, F, P, l0, g, hx, hy, t, kk⟩
  unfold rdInD at t
  split at t
  · rename_i j ds e1 e2
    obtain ⟨a, vs, rfl, hR, rs⟩ := asD_at g hy e2
    have ex := keyK_at hx e1
    cases ry
    refine d_notIn (by have := hr.units; omega) I (y := x) (o := valV vs j) (.inl ⟨vs, j, hR, ex, rfl⟩) rx fun s' I' => ⟨.bl (!(valV vs j).isSome), H, I', rfl, kk _ _ M F H (Le.refl F) g (.bl _) ?_⟩
    rcases repK_val j rs with ⟨h1, h2⟩ | ⟨v, d, h1, h2, h3⟩
    · rw [h2] at t
      rw [h1]
      exact t
    · rw [h2] at t
      rw [h1]
      exact t
  · exact t.elim
/-- d[k] = v -/
def rdSetD : DSet := fun o i v M Q => match o, keyK i with
  | .ref a, some j => match M a with
    | some (.dct ds) => ds.length < sizeLine ∧ Q (updM M a (.dct (dputK ds j v)))
    | _ => False
  | _, _ => False
theorem ds_dict (hr : Room k X.A) : DSetR X F0 rdSetD := by
  intro pins s σ H o i v ov iv u Q I ro ri rv ⟨d1, d2, d3, M, F, P, l0, h1, h2, h3, g, t, kk⟩
  unfold rdSetD at t
  split at t
  · rename_i a j e1
    cases h1
    have ex := keyK_at h2 e1
    subst ex
    cases ro
    split at t
    · rename_i ds e
      obtain ⟨f, ob, hH, rm⟩ := g.cel _ _ e
      cases rm with
      | dctK rs =>
        refine d_setItem (by have := hr.units; omega) I (DPut.k hH (by rw [repK_len rs]; exact t.1)) ri rv fun s' I' => ?_
        exact ⟨_, I', kk _ F _ (Le.refl F) (g.set e (.dctK (repK_put j h3 rs))) t.2⟩
    · exact t.elim
  · exact t.elim
/-- {} -/
def dNewD : DTE := fun _ M Q => ∀ p, M p = none → Q (.ref p) (updM M p (.dct []))
theorem de_newD : DE X F0 (.Dict [] [] pos) dNewD :=
  ⟨PE.weak pe_dnewK fun σ H Q ⟨ρ, M, F, P, l0, sl, g, t, kk⟩ => fun p hp => kk _ _ _ F _ (Le.refl F) (g.newM hp (.dctK .nil)) (.ref p) (t p (g.freshM hp))⟩
/-- d[k] -/
def rdIxD : DR2 := fun x y M Q => match asD M x, keyK y with
  | some ds, some j => match dval ds j with
    | some d => Q d M
    | none => False
  | _, _ => False
end
end DL


set_option Elab.async false
set_option linter.all false
set_option maxRecDepth 100000
set_option maxHeartbeats 1600000
namespace DL
open PySem PySem.Spec PyProof.Rows L2

/-! ### zip of two lists of one length -/
theorem asR_held {S : SE} {F H : Hp} {M : Store} {v : V} {d : D} {ds : List D} (g : Good S F M H) (r : Rep S F v d) (e : asR M d = some ds) :
    ∃ a, v = .ref a ∧ ∀ H' F' M', Le F F' → Good S F' M' H' → Held d ds M' → ∃ vs, SqL S.K H' a vs ∧ Reps S F' vs ds := by
  cases d with
  | lst es =>
    cases e
    cases r with
    | lst hq rs => exact ⟨_, rfl, fun H' F' M' l g' _ => ⟨_, .inl (.inl (g'.sub _ _ (l.lst _ _ hq))), rs.mono l⟩⟩
  | fro es =>
    cases e
    cases r with
    | fro hq rs => exact ⟨_, rfl, fun H' F' M' l g' _ => ⟨_, g'.sqL (l.sqL hq), rs.mono l⟩⟩
  | ref a =>
    cases r
    refine ⟨a, rfl, fun H' F' M' l g' hl => ?_⟩
    obtain ⟨_, ob, hH, rm⟩ := g'.cel a (.lst ds) hl
    cases rm with
    | lst rs => exact ⟨_, .inl (.inl hH), rs⟩
  | _ => cases e
def zipD (xs ys : List D) : List D := List.zipWith (fun x y => .tup [x, y]) xs ys
def dZip (ta : DTA) : DTI := fun ρ M R => ta ρ M fun ds M1 => match ds with
  | [x, y] => match asR M1 x, asR M1 y with
    | some xs, some ys => xs.length = ys.length ∧ R (zipD xs ys) (fun M => Held x xs M ∧ Held y ys M) M1
    | _, _ => False
  | _ => False
theorem walks_zip {S : SE} {F0 : Hp} {a b : Addr} {xs ys : List D} {L : Store → Prop} (hl : xs.length = ys.length)
    (hx : ∀ H F M, Le F0 F → Good S F M H → L M → ∃ vs, SqL S.K H a vs ∧ Reps S F vs xs) (hy : ∀ H F M, Le F0 F → Good S F M H → L M → ∃ vs, SqL S.K H b vs ∧ Reps S F vs ys) : Walks S F0 (Itz S.K a b) (zipD xs ys) L := by
  intro i H F M l g h
  obtain ⟨vs, hq, r⟩ := hx H F M l g h
  obtain ⟨ws, hq2, r2⟩ := hy H F M l g h
  have hz : (zipD xs ys).length = xs.length := by unfold zipD; rw [List.length_zipWith, ← hl, Nat.min_self]
  rw [hz]
  refine ⟨fun hi => ⟨?_, fun x H' y => ?_⟩, fun e => ⟨vs, ws, hq, hq2, .inl (by rw [r.len]; omega)⟩⟩
  · obtain ⟨v, hv, _⟩ := r.get (List.getElem?_eq_getElem hi)
    obtain ⟨w, hw, _⟩ := r2.get (List.getElem?_eq_getElem (show i < ys.length by omega))
    exact ⟨vs, ws, v, w, hq, hq2, hv, hw⟩
  · obtain ⟨T, v, w, rfl, hT, rfl, f1, f2⟩ := y
    obtain ⟨d, hd, rd⟩ := r.getV (f1 vs hq)
    obtain ⟨e, he, re⟩ := r2.getV (f2 ws hq2)
    have fr := g.freshF hT
    refine ⟨upd F T (.tup [v, w]), .tup [d, e], Le.new fr, g.new hT, ?_, .tup (.inl (.inl upd_same)) (.cons (rd.mono (Le.new fr)) (.cons (re.mono (Le.new fr)) .nil))⟩
    unfold zipD
    rw [List.getElem?_zipWith, hd, he]
section
variable {X : Cx} {F0 : Hp} {pos tpos p : Pos} {elts : List Expr} {kk : Nat} {a b : Expr} {ta : DTA}
theorem di_zip (hm : X.mg "zip" = none) (ha : DA X F0 [a, b] ta) (hg : Gl X "zip" := by rfl) (hs : starEach [a, b] X.env = (false, eval a X.env) :: starEach [b] X.env := by rfl) (hpl : (backTo pos (starEach [b] X.env)).any (·.1) = false := by rfl) :
    DI X F0 (.Tuple elts kk tpos) (.Call (.Name "zip" p) [a, b] [] pos) (dZip ta) := by
  refine ⟨⟨fun pins s σ H R I ⟨ρ, M, F, P, l0, sl, g, t, k⟩ => (RZ.pi_zipA hg hm ha.pa hs hpl).run pins s σ H R I ⟨ρ, M, F, _, l0, sl, g, t, fun v d M1 F1 H1 l1 g1 r1 p1 => ?_⟩⟩⟩
  split at p1
  · rename_i x y
    split at p1
    · rename_i xs ys e1 e2
      cases r1 with
      | cons ra rr =>
        cases rr with
        | cons rb rz =>
          cases rz
          obtain ⟨u, vs, rfl, hq, _⟩ := asR_at g1 ra e1
          obtain ⟨w, ws, rfl, hq2, _⟩ := asR_at g1 rb e2
          obtain ⟨u', eu, hx⟩ := asR_held g1 ra e1
          cases eu
          obtain ⟨w', ew, hy⟩ := asR_held g1 rb e2
          cases ew
          exact ⟨u, w, vs, ws, rfl, .inl ⟨hq, hq2, k _ _ _ M1 F1 H1 l1 g1 (walks_zip p1.1 (fun H' F' M' l g' h => hx H' F' M' l g' h.1) fun H' F' M' l g' h => hy H' F' M' l g' h.2) p1.2⟩⟩
    · exact p1.elim
  · exact p1.elim
end
end DL


set_option Elab.async false
set_option linter.all false
set_option maxRecDepth 100000
set_option maxHeartbeats 1600000
namespace DL
open PySem PySem.Spec PyProof.Rows L2

/-! ### own == and != with a value of a builtin type at the right -/
section
variable {prog : Program} {w : World} {A : Around} {E : Value → Shared → Prop} {s : Shared} {K : PySem.W.Frag} {x C f : Addr} {ox : Obj} {od : Option Obj} {b tb : Value}
theorem rich_one {op : CmpOp} {Q : Value → Shared → Prop} (hu : A.units < cLine) (X : K.In s.heap) (I : PySem.W.InstAt s.heap x ox C od) (hb : PySem.W.Looks (model prog w) s.heap (typeOf b) tb) (hn : PySem.W.subIn K tb (.ref C) = some false) (ht : (tb != Value.ref C) = true)
    (one : wpAny (model prog w) A (tryCompare (.ref x) (cmpInfo op).2.1 b) (fun r s' => ∃ v, r = some v ∧ Q v s') E s) : wpAny (model prog w) A (richCompare op (.ref x) b) Q E s := by
  unfold richCompare
  simp only [oneThing_ref]
  refine wpAny_holding (wpAny_bind (wpAny_cRoomFor hu ?_))
  refine wpAny_bind (I.type.here (wpAny_bind (hb.here ?_)))
  split
  · refine wpAny_bind ((PySem.W.looks_subIn X hn).here ?_)
    simp only [Bool.false_eq_true, if_false]
    refine wpAny_bind (wpAny_mono one (fun r s' z => ?_) fun _ _ e => e)
    obtain ⟨v, rfl, hq⟩ := z
    exact wpAny_pure hq
  · refine wpAny_bind (wpAny_pure ?_)
    simp only [Bool.false_eq_true, if_false]
    refine wpAny_bind (wpAny_mono one (fun r s' z => ?_) fun _ _ e => e)
    obtain ⟨v, rfl, hq⟩ := z
    exact wpAny_pure hq
theorem ne_KX {Q : Value → Shared → Prop} (hu : A.units + 1 < cLine) (X : K.In s.heap) (I : PySem.W.InstAt s.heap x ox C od) (hb : PySem.W.Looks (model prog w) s.heap (typeOf b) tb) (hnf : PySem.W.subIn K tb (.ref C) = some false) (ht : (tb != Value.ref C) = true) (hm : PySem.W.mroIn K C (.type "object") = some true)
    (hn : PySem.W.findIn K (.ref C) "__ne__" = some (some (.builtin "object.__ne__"))) (hs : PySem.W.findIn K (.ref C) "__eq__" = some (some (.ref f))) (hf : PySem.W.isFn K (.ref f) = true)
    (h : wpAny (model prog w) A.in1 (call (.ref f) [.ref x, b]) (fun v s' => ∃ k, v = .bool k ∧ Q (.bool (!k)) s') E s) : wpAny (model prog w) A (richCompare .NotEq (.ref x) b) Q E s := by
  have one : wpAny (model prog w) A (tryCompare (.ref x) "__ne__" b) (fun r s' => ∃ v, r = some v ∧ Q v s') E s := by
    unfold tryCompare
    refine wpAny_bind (ifBound_objNe X I hn (wpAny_call (codeAny_call_builtin F.cmp_object.ne.plain F.cmpEntry_ne (PySem.W.check_slot F.cmpKind_ne F.cmpSplit_ne (I.type.andThen (PySem.W.looks_mroIn X hm)) (F.cmpArgs_ne _ _)
      (objNe_K (A := A.in1) hu X I hs hf (wpAny_mono h (fun v s' hv => ?_) fun _ _ e => e))))))
    obtain ⟨k, rfl, hq⟩ := hv
    exact ⟨k, rfl, wpAny_pure ⟨_, rfl, hq⟩⟩
  exact rich_one (op := .NotEq) (Nat.lt_of_succ_lt hu) X I hb hnf ht one
end
section
variable {X : Cx} {F0 : Hp} {k j : Nat} {c : Str} {sp : DSp}
/-- x == y, x an instance of c, y of a builtin type -/
def rdOwnX (neg : Bool) (c : Str) (sp : DSp) : DR2 := fun x y M Q => (asO M c x).isSome = true ∧ (∃ n, tyD M y = some (.b n)) ∧ sp [x, y] M (fun v M' => match v with
  | .bl b => Q (.bl (if neg = true then !b else b)) M'
  | _ => False) noX
/-- the type of a value of a builtin type, as a comparison asks it -/
theorem ty_look {pins : List (Addr × Obj)} {σ : L2.St} {H : Hp} {s : Shared} {M : Store} {F : Hp} {v : V} {d : D} {u : Value} {n : String} {C : Addr} {Md : Model} (I : Inv X pins σ H s) (g : Good (Cx.se X) F M H) (r : Rep (Cx.se X) F v d) (ru : RelV v u) (h : tyD M d = some (.b n)) :
    PySem.W.Looks Md s.heap (typeOf u) (.type n) ∧ PySem.W.subIn X.K (.type n) (.ref C) = some false := by
  have ty := tyX_of g r _ h
  obtain ⟨P, Z, p, _⟩ := kit_of I ru ty
  refine ⟨Z.ty Md s.heap I.kIn p, ?_⟩
  obtain ⟨l, e1, e2⟩ := mro_known (tyD_known h)
  show (PySem.fastBuiltinMro n).map (·.contains (.ref C)) = some false
  rw [e1, Option.map_some]
  congr 1
  cases e : l.contains (Value.ref C) with
  | false => rfl
  | true =>
    have hm := List.contains_iff_mem.mp e
    have := List.all_eq_true.mp e2 _ hm
    cases this
theorem do_ownEqX (h : Spc X.prog X.w X.K X.mg X.base k c "__eq__" sp) (hr : Rm j X.A) (hk : k ≤ j) : DOp X F0 (compareOp .Eq) (rdOwnX false c sp) := by
  intro pins s σ H x y v u Q I rx ry ⟨dx, dy, M, F, P, l0, g, r1, r2, t, kk⟩
  obtain ⟨C, f, fd, ps, o⟩ := h.at
  obtain ⟨t1, ⟨n, t2⟩, t⟩ := t
  obtain ⟨a, ob, od, rfl, J⟩ := own_inst I g r1 o.hc t1
  obtain ⟨hb, hn⟩ := ty_look (C := C) (Md := model X.prog X.w) I g r2 ry t2
  cases rx
  obtain ⟨mm, hF⟩ := I.fr
  show wpAny _ _ (richCompare .Eq (.ref a) u) _ _ _
  refine PySem.W.cmp_K (op := .Eq) (tb := .type n) hr.room.units0 hF I.ok.mod.kin J hb (by unfold PySem.W.notFirst; rw [hn]; simp) o.hs o.hf ?_
  refine wpAny_mono (runGA (Q := fun v H' => ∃ b, v = .bl b ∧ Q (.bl b) H') o.FG (hr.mono hk) rfl o.hb I (vs := [.ref a, y]) (us := [.ref a, u]) (.cons rfl (.cons ry .nil)) ?_) (fun v s' hv => ?_) fun _ _ e => e
  · refine ⟨_, M, F, _, _, .cons r1 (.cons r2 .nil), g, t, fun v d M' F' H' l g' rv p => ?_, fun _ _ _ _ _ _ _ _ _ _ z => z.elim⟩
    cases d with
    | bl b =>
      cases rv
      exact ⟨b, rfl, kk _ _ M' F' H' l g' (.bl _) p⟩
    | _ => exact p.elim
  · obtain ⟨z, H', I', rz, b, ez, q⟩ := hv
    subst ez
    cases rz
    exact ⟨.bl b, H', I', rfl, q⟩
theorem do_ownNeX (h : Spc X.prog X.w X.K X.mg X.base k c "__eq__" sp) (hn : PlainNe X.K X.mg c) (hr : Rm j X.A) (hk : k + 1 ≤ j) : DOp X F0 (compareOp .NotEq) (rdOwnX true c sp) := by
  intro pins s σ H x y v u Q I rx ry ⟨dx, dy, M, F, P, l0, g, r1, r2, t, kk⟩
  obtain ⟨C, f, fd, ps, o⟩ := h.at
  obtain ⟨t1, ⟨n, t2⟩, t⟩ := t
  obtain ⟨a, ob, od, rfl, J⟩ := own_inst I g r1 o.hc t1
  obtain ⟨hb, hnf⟩ := ty_look (C := C) (Md := model X.prog X.w) I g r2 ry t2
  cases rx
  have hm : PySem.W.mroIn X.K C (.type "object") = some true := by
    have := cls_mro o.hc (.type "object")
    simpa using this
  show wpAny _ _ (richCompare .NotEq (.ref a) u) _ _ _
  have hr1 : Rm k X.A.in1 := (hr.mono hk).in1
  refine ne_KX (by have := hr.room.units; omega) I.kIn J hb hnf (by simp) hm (hn _ o.hc.mg) o.hs o.hf ?_
  refine wpAny_mono (runGA (Q := fun v H' => ∃ b, v = .bl b ∧ Q (.bl (!b)) H') o.FG hr1 rfl o.hb I (vs := [.ref a, y]) (us := [.ref a, u]) (.cons rfl (.cons ry .nil)) ?_) (fun v s' hv => ?_) fun _ _ e => e
  · refine ⟨_, M, F, _, _, .cons r1 (.cons r2 .nil), g, t, fun v d M' F' H' l g' rv p => ?_, fun _ _ _ _ _ _ _ _ _ _ z => z.elim⟩
    cases d with
    | bl b =>
      cases rv
      exact ⟨b, rfl, kk _ _ M' F' H' l g' (.bl _) p⟩
    | _ => exact p.elim
  · obtain ⟨z, H', I', rz, b, ez, q⟩ := hv
    subst ez
    cases rz
    exact ⟨b, rfl, .bl (!b), H', I', rfl, q⟩
end
end DL


set_option Elab.async false
set_option linter.all false
set_option maxRecDepth 100000
set_option maxHeartbeats 1600000
namespace DL
open PySem PySem.Spec PyProof.Rows L2

/-! ### x.split(sep), int(x) -/
theorem reps_strs {S : SE} {F : Hp} : ∀ l : List Str, Reps S F (l.map V.str) (l.map D.str)
  | [] => .nil
  | x :: l => .cons (.str x) (reps_strs l)
section
variable {X : Cx} {F0 : Hp} {o e : Expr} {to te : DTE} {apos pos : Pos}
def rmSplit (x y : D) (M : Store) (Q : D → Store → Prop) : Prop := match x, y with
  | .str a, .str b => (b.length == 0) = false ∧ a.length + 2 ≤ sizeLine ∧ Q (.lst ((Txt.split a b).map .str)) M
  | _, _ => False
def dSplit (to te : DTE) : DTE := fun ρ M Q => to ρ M fun x M1 => (∃ a, x = .str a) ∧ te ρ M1 fun y M2 => rmSplit x y M2 Q
theorem de_split (ho : DE X F0 o to) (he : DE X F0 e te) (hs : starEach [e] X.env = [(false, eval e X.env)] := by rfl) (hbase : attributeBase o "split" X.env (eval o X.env) = eval o X.env := by rfl) (hline : (apos.endLine == pos.line) = true := by rfl) :
    DE X F0 (.Call (.Attribute o "split" apos) [e] [] pos) (dSplit to te) := by
  refine ⟨PE.weak (pe_split ho.pe he.pe hs hbase hline) fun σ H Q ⟨ρ, M, F, P, l0, sl, g, t, k⟩ => ?_⟩
  refine ⟨ρ, M, F, _, l0, sl, g, t, fun v d M1 F1 H1 l1 g1 r1 p1 => ?_⟩
  obtain ⟨⟨a, rfl⟩, p1⟩ := p1
  cases r1
  refine ⟨⟨a, rfl⟩, ρ, M1, F1, _, l0.trans l1, sl.mono l1, g1, p1, fun w e M2 F2 H2 l2 g2 r2 p2 => ?_⟩
  unfold rmSplit at p2
  split at p2
  · rename_i a' b ea
    cases ea
    cases r2
    refine ⟨a, b, rfl, rfl, p2.1, p2.2.1, fun p hp => ?_⟩
    have fr := g2.freshF hp
    exact k _ _ M2 _ _ ((l1.trans l2).trans (Le.new fr)) (g2.new hp) (.lst upd_same (reps_strs _)) p2.2.2
  · exact p2.elim
/-- int of whole numbers, of texts -/
def rcInt : DCl := fun ds M Q => match ds with
  | [.int i] => Q (.int i) M
  | [.str a] => match PySem.intText? a with
    | some n => a.length ≤ 640 ∧ Q (.int n) M
    | none => False
  | _ => False
theorem dc_int : DCallR X F0 (.type "int") rcInt := by
  intro pins s σ H xs us Q I r ⟨ds, M, F, P, l0, g, rs, t, k⟩
  unfold rcInt at t
  split at t
  · cases rs with
    | cons rx rz =>
      cases rz
      cases rx
      exact call_int1 pins s σ H _ _ Q I r (.inl ⟨_, rfl, k _ _ M F H (Le.refl F) g (.int _) t⟩)
  · cases rs with
    | cons rx rz =>
      cases rz
      cases rx
      split at t
      · rename_i n en
        exact call_int_str pins s σ H _ _ Q I r ⟨_, n, rfl, en, t.1, k _ _ M F H (Le.refl F) g (.int _) t.2⟩
      · exact t.elim
  · exact t.elim
end
end DL


set_option Elab.async false
set_option linter.all false
set_option maxRecDepth 100000
set_option maxHeartbeats 1600000
namespace DL
open PySem PySem.Spec PyProof.Rows L2

/-! ### a name of the top that is a whole number or a text -/
section
variable {X : Cx} {F0 : Hp} {x : Str} {pos : Pos}
theorem de_gint {i : Int} (hm : ∃ t, X.mg x = some (.int i t)) (hg : Gl X x := by rfl) (hd : (x == ("__debug__" : Str)) = false := by decide) : DE X F0 (.Name x pos) (dC (.int i)) := by
  obtain ⟨t, hm⟩ := hm
  exact ⟨PE.weak (pe_glob (v := .int i) hg hm ⟨t, rfl⟩ hd) fun σ H Q ⟨ρ, M, F, P, l0, sl, g, t, k⟩ => k _ _ M F H (Le.refl F) g (.int i) t⟩
theorem de_gstr {z : Str} (hm : ∃ t, X.mg x = some (.str z t)) (hg : Gl X x := by rfl) (hd : (x == ("__debug__" : Str)) = false := by decide) : DE X F0 (.Name x pos) (dC (.str z)) := by
  obtain ⟨t, hm⟩ := hm
  exact ⟨PE.weak (pe_glob (v := .str z) hg hm ⟨t, rfl⟩ hd) fun σ H Q ⟨ρ, M, F, P, l0, sl, g, t, k⟩ => k _ _ M F H (Le.refl F) g (.str z) t⟩
end

/-! ### C(k = v, ..), all parameters by keyword -/
/-- what each parameter takes: a keyword's value, or the default of one that lacks -/
abbrev Plan : Type := List (Nat ⊕ Nat)
def fillP {α : Type} (plan : Plan) (ms zs : List α) : List α := plan.filterMap fun q => match q with
  | .inl i => zs[i]?
  | .inr j => ms[j]?
theorem vals_at {vs : List V} {us : List Value} (r : Vals vs us) (i : Nat) : (vs[i]? = none ∧ us[i]? = none) ∨ ∃ v u, vs[i]? = some v ∧ us[i]? = some u ∧ RelV v u := by
  cases e : vs[i]? with
  | none =>
    refine .inl ⟨rfl, ?_⟩
    rw [List.getElem?_eq_none_iff] at e ⊢
    rw [← r.length]
    exact e
  | some v =>
    obtain ⟨u, h1, h2⟩ := r.get e
    exact .inr ⟨v, u, rfl, h1, h2⟩
theorem fill_vals {ms zs : List V} {us ws : List Value} (r1 : Vals ms us) (r2 : Vals zs ws) : ∀ plan : Plan, Vals (fillP plan ms zs) (fillP plan us ws)
  | [] => .nil
  | .inl i :: plan => by
    unfold fillP
    rw [List.filterMap_cons, List.filterMap_cons]
    rcases vals_at r2 i with ⟨h1, h2⟩ | ⟨v, u, h1, h2, h3⟩
    · simp only [h1, h2]
      exact fill_vals r1 r2 plan
    · simp only [h1, h2]
      exact .cons h3 (fill_vals r1 r2 plan)
  | .inr i :: plan => by
    unfold fillP
    rw [List.filterMap_cons, List.filterMap_cons]
    rcases vals_at r1 i with ⟨h1, h2⟩ | ⟨v, u, h1, h2, h3⟩
    · simp only [h1, h2]
      exact fill_vals r1 r2 plan
    · simp only [h1, h2]
      exact .cons h3 (fill_vals r1 r2 plan)
theorem reps_nth {S : SE} {F : Hp} {vs : List V} {ds : List D} (r : Reps S F vs ds) (i : Nat) : (vs[i]? = none ∧ ds[i]? = none) ∨ ∃ v d, vs[i]? = some v ∧ ds[i]? = some d ∧ Rep S F v d := by
  cases e : vs[i]? with
  | none =>
    refine .inl ⟨rfl, ?_⟩
    rw [List.getElem?_eq_none_iff] at e ⊢
    rw [← r.len]
    exact e
  | some v =>
    obtain ⟨d, h1, h2⟩ := r.getV e
    exact .inr ⟨v, d, rfl, h1, h2⟩
theorem fill_reps {S : SE} {F : Hp} {ms zs : List V} {us ws : List D} (r1 : Reps S F ms us) (r2 : Reps S F zs ws) : ∀ plan : Plan, Reps S F (fillP plan ms zs) (fillP plan us ws)
  | [] => .nil
  | .inl i :: plan => by
    unfold fillP
    rw [List.filterMap_cons, List.filterMap_cons]
    rcases reps_nth r2 i with ⟨h1, h2⟩ | ⟨v, u, h1, h2, h3⟩
    · simp only [h1, h2]
      exact fill_reps r1 r2 plan
    · simp only [h1, h2]
      exact .cons h3 (fill_reps r1 r2 plan)
  | .inr i :: plan => by
    unfold fillP
    rw [List.filterMap_cons, List.filterMap_cons]
    rcases reps_nth r1 i with ⟨h1, h2⟩ | ⟨v, u, h1, h2, h3⟩
    · simp only [h1, h2]
      exact fill_reps r1 r2 plan
    · simp only [h1, h2]
      exact .cons h3 (fill_reps r1 r2 plan)
structure MakK (P : Program) (w : World) (K : PySem.W.Frag) (mg : Str → Option Value) (base : Heap) (k : Nat) (c : Str) (ks : List Str) (sp : DSp) (gD : List D → List D) : Prop where
  ex : ∃ C f fd ps g gV, ClsAt ⟨K, mg⟩ c C ∧ Mk K C f ∧ FnG P w K mg base k f fd ps sp ∧ KBn K fd ps 1 ks g gV ∧ ∀ (F : Hp) (x : V) (zs : List V) (es : List D), Reps ⟨K, mg⟩ F zs es → ∃ ws, gV [x] zs = x :: ws ∧ Reps ⟨K, mg⟩ F ws (gD es)
structure DK (X : Cx) (F0 : Hp) (kws : List Keyword) (t : DTA) : Prop where
  pk : PK X kws (low (Cx.se X) F0 (fun F => Reps (Cx.se X) F) t)
section
variable {X : Cx} {F0 : Hp} {W : DWX} {k j : Nat} {sp : DSp} {p pos kpos : Pos} {e : Expr} {kws : List Keyword} {ta : DTA} {te : DTE} {nm : Option Str} {ks : List Str} {gD : List D → List D}
theorem PK.weak {t u : L2.St → Hp → (List V → Hp → Prop) → Prop} (h : PK X kws t) (k : ∀ σ H Q, u σ H Q → t σ H Q) : PK X kws u := ⟨fun pos pins s σ H Q I q => h.run pos pins s σ H Q I (k _ _ _ q)⟩
theorem dk_nil : DK X F0 [] daNil := ⟨PK.weak pk_nil fun σ H Q ⟨ρ, M, F, P, l0, sl, g, t, k⟩ => k _ _ M F H (Le.refl F) g .nil t⟩
theorem dk_cons (ha : DE X F0 e te) (hr : DK X F0 kws ta) : DK X F0 (⟨nm, e, kpos⟩ :: kws) (daCons te ta) :=
  ⟨PK.weak (pk_cons ha.pe hr.pk) fun σ H Q ⟨ρ, M, F, P, l0, sl, g, t, k⟩ => ⟨ρ, M, F, _, l0, sl, g, t, fun v d M1 F1 H1 l1 g1 r1 p1 => ⟨ρ, M1, F1, _, l0.trans l1, sl.mono l1, g1, p1, fun vs ds M2 F2 H2 l2 g2 r2 p2 =>
    k _ _ M2 F2 H2 (l1.trans l2) g2 (.cons (r1.mono l2) r2) p2⟩⟩⟩
theorem run_makeGK {c : Str} {C f : Addr} {fd : FuncData} {ps : List Str} {g : List Value → List Value → List Value} {gV : List V → List V → List V} {pins : List (Addr × Obj)} {σ : L2.St} {H : Hp} {s : Shared} {Q : VK} {ws : List Value} {zs : List V} {E : XK} (Mk' : Mk X.K C f) (F : FnG X.prog X.w X.K X.mg X.base k f fd ps sp) (hr : Rm (k + 1) X.A)
    (hb : KBn X.K fd ps 1 ks g gV) (hx : PassesAt (L2.CX X.prog X.w) X σ E) (I : Inv X pins σ H s) (rz : Vals zs ws) (l2 : zs.length = ks.length)
    (h : ∀ x dx, H x = none → H dx = none → dx ≠ x → lowSp (Cx.se X) sp (gV [.ref x] zs) (upd (upd H dx (.own x)) x (.ins C dx [])) (fun v H2 => v = .non ∧ Q (.ref x) H2) E) :
    wpAny (model X.prog X.w) X.A (call (.ref C) [] (ks.zip ws)) (EP X pins σ Q) X.xe s := by
  have hq := h (s.heap.objs.size + 1) s.heap.objs.size (I.hok.fresh (Nat.le_succ _)) (I.hok.fresh (Nat.le_refl _)) (Nat.ne_of_lt (Nat.lt_succ_self _))
  have I2 := Inv.made (C := C) I
  have r1 : Vals [V.ref (s.heap.objs.size + 1)] [Value.ref (s.heap.objs.size + 1)] := .cons rfl .nil
  have r2 := hb.rel r1 rz
  refine wpAny_call (make_map (f := f) I.kIn Mk'.makes Mk'.init (beq_iff_eq.mp Mk'.fn) (codeAny_mono (F.run _ X.stack _ _ ⟨[Value.ref (s.heap.objs.size + 1)], ks.zip ws⟩ (g [Value.ref (s.heap.objs.size + 1)] ws) _ _ E (hr.make C [] (ks.zip ws))
    (I2.env0.make C [] (ks.zip ws)) (hb.to _ [Value.ref (s.heap.objs.size + 1)] ws I2.kIn rfl (rz.length.symm.trans l2)) r2 hq) fun r s' hq' => ?_))
  cases r with
  | error e => exact hx pins _ _ e s' I2 hq'
  | ok fl =>
    cases fl with
    | ret u =>
      obtain ⟨v, H', I3, rv, ev, q3⟩ := I2.after hq'
      subst ev
      exact ⟨rv, ⟨V.ref (s.heap.objs.size + 1), H', I3, rfl, q3⟩⟩
    | next => exact hq'.elim
    | brk => exact hq'.elim
    | cont => exact hq'.elim
def dMakeK (c : Str) (sp : DSp) (W : DWX) (gD : List D → List D) (n : Nat) (ta : DTA) : DTE := fun ρ M Q => ta ρ M fun ds M1 => ds.length = n ∧ ∀ p, M1 p = none → sp (.ref p :: gD ds) (updM M1 p (.ins c [])) (fun v M2 => v = .non ∧ Q (.ref p) M2) fun c fs M2 => W c fs ρ M2
theorem low_makeK {c : Str} {C : Addr} {es : List D} {M : Store} {F : Hp} {zs : List V} {σ : L2.St} {ρ : Ro} {H : Hp} {Q : VK} {P : D → Store → Prop} {S : SE} {gV : List V → List V → List V} (l0 : Le F0 F) (sl : Slots S F σ ρ) (g : Good S F M H) (hc : ClsAt S c C) (hG : ∀ x, ∃ ws, gV [x] zs = x :: ws ∧ Reps S F ws (gD es))
    (h : ∀ p, M p = none → sp (.ref p :: gD es) (updM M p (.ins c [])) (fun v M2 => v = .non ∧ P (.ref p) M2) fun c fs M2 => W c fs ρ M2)
    (k : ∀ v d M' F' H', Le F F' → Good S F' M' H' → Rep S F' v d → P d M' → Q v H') : ∀ x dx, H x = none → H dx = none → dx ≠ x →
    lowSp S sp (gV [.ref x] zs) (upd (upd H dx (.own x)) x (.ins C dx [])) (fun v H2 => v = .non ∧ Q (.ref x) H2) (wE S F0 W σ) := fun x dx hx hdx hne => by
  have hx' : upd H dx (.own x) x = none := by rw [upd_ne (Ne.symm hne)]; exact hx
  obtain ⟨ws, e1, r⟩ := hG (.ref x)
  rw [e1]
  refine ⟨.ref x :: gD es, updM M x (.ins c []), F, _, _, .cons (.ref x) r, (g.over hdx).newM hx' (.ins hc .nil), h x (g.freshM hx), fun v d M' F' H' l g' rv ⟨e, p⟩ => ?_, fun cls dx' c' fs M' F' H' l g' rx w => ⟨c', fs, ρ, M', F', l0.trans l, sl.mono l, g', rx, w⟩⟩
  subst e
  cases rv
  exact ⟨rfl, k _ _ M' F' H' l g' (.ref x) p⟩
theorem kw_map (pos : Pos) (env : Env) : ∀ kws : List Keyword, (backToKw pos (keywordEach kws env)).map (·.1) = kws.map fun q => match q with | ⟨n, _, _⟩ => n
  | [] => rfl
  | ⟨n, e, p⟩ :: r => by
    have ih := kw_map pos env r
    show n :: (backToKw pos (keywordEach r env)).map (·.1) = n :: _
    rw [ih]
def kwNames (kws : List Keyword) : List (Option Str) := kws.map fun q => match q with | ⟨n, _, _⟩ => n
theorem kw_all {pos : Pos} {env : Env} {kws : List Keyword} (h : (kwNames kws).all (·.isSome) = true) : (backToKw pos (keywordEach kws env)).all (·.1.isSome) = true := by
  have e := kw_map pos env kws
  have q : (backToKw pos (keywordEach kws env)).all (·.1.isSome) = ((backToKw pos (keywordEach kws env)).map (·.1)).all (·.isSome) := by rw [List.all_map]; rfl
  rw [q, e]
  exact h
theorem kw_names {pos : Pos} {env : Env} {kws : List Keyword} {ks : List Str} (h : (kwNames kws).filterMap id = ks) : (backToKw pos (keywordEach kws env)).filterMap (·.1) = ks := by
  have e := kw_map pos env kws
  have q : (backToKw pos (keywordEach kws env)).filterMap (·.1) = ((backToKw pos (keywordEach kws env)).map (·.1)).filterMap id := by rw [List.filterMap_map]; rfl
  rw [q, e]
  exact h
theorem kw_any {pos : Pos} {env : Env} {kws : List Keyword} (h : (kwNames kws).any (·.isNone) = false) : ((backTo pos (starEach [] env)).any (·.1) || (backToKw pos (keywordEach kws env)).any (·.1.isNone)) = false := by
  have e := kw_map pos env kws
  have q : (backToKw pos (keywordEach kws env)).any (·.1.isNone) = ((backToKw pos (keywordEach kws env)).map (·.1)).any (·.isNone) := by rw [List.any_map]; rfl
  have z : (backTo pos (starEach [] env)).any (·.1) = false := rfl
  rw [z, Bool.false_or, q, e]
  exact h
theorem de_makeK {c : Str} (h : MakK X.prog X.w X.K X.mg X.base k c ks sp gD) (hr : Rm j X.A) (hk : k + 1 ≤ j) (tk : Takes X (lowW (Cx.se X) F0 W)) (hkw : DK X F0 kws ta) (hg : Gl X c := by rfl) (hdb : (c == ("__debug__" : Str)) = false := by decide)
    (hall : (kwNames kws).all (·.isSome) = true := by rfl) (hks : (kwNames kws).filterMap id = ks := by rfl) (hpl : (kwNames kws).any (·.isNone) = false := by rfl) : DE X F0 (.Call (.Name c p) [] kws pos) (dMakeK c sp W gD ks.length ta) := by
  obtain ⟨C, f, fd, ps, g', gV, hc, hM, F, hb, hG⟩ := h.ex
  refine ⟨⟨fun pins s σ H Q I ⟨ρ, M, F1, P, l0, sl, g, t, k⟩ => ?_⟩⟩
  refine wpAny_Call_Name_kw (ld_glob I hg hc.mg ?_ hdb)
  refine PySem.W.callWith_KW0 (h₀ := X.base) I.ok.mod.kin hM.kp (kw_all hall) ?_ (kw_any hpl)
  refine thn (hkw.pk.run pos pins s σ H (fun zs H2 => zs.length = ks.length ∧ ∀ x dx, H2 x = none → H2 dx = none → dx ≠ x → lowSp (Cx.se X) sp (gV [.ref x] zs) (upd (upd H2 dx (.own x)) x (.ins C dx [])) (fun v H3 => v = .non ∧ Q (.ref x) H3) (wE (Cx.se X) F0 W σ)) I
    ⟨ρ, M, F1, _, l0, sl, g, t, fun zs es M2 F2 H2 l2 g2 r2 p2 => ⟨r2.len.trans p2.1, low_makeK (l0.trans l2) (sl.mono l2) g2 hc (fun x => hG F2 x zs es r2) p2.2 fun v d M' F' H' l3 => k v d M' F' H' (l2.trans l3)⟩⟩) fun ws s2 ⟨zs, H2, I2, rz, l2, q2⟩ => ⟨I2.kIn, ?_⟩
  rw [kw_names hks]
  exact run_makeGK (c := c) hM F (hr.mono hk) hb (passAt tk σ) I2 rz l2 q2
end
section
variable {P : Program} {w : World} {K : PySem.W.Frag} {mg : Str → Option Value} {base : Heap} {fs : List Fc} {fn : List He.DefD} {k : Nat} {sp : DSp}
theorem makk_mk {d : He.DefD} {ps ks : List Str} {c : Str} {plan : Plan} {ms : List (Str × He.Dv)} {dm : List D} (m : Md fs fn K mg) (F : Fn P w K mg base k d ps sp) (hx : d.at_ = (c, some ("__init__" : Str))) (hc : Fc.cls c ∈ fs) (hm : Fc.mkr c ∈ fs) (hd : d.dfl = []) (hk : d.kwd ≠ []) (hms : ∀ q ∈ ms, q ∈ d.kwd)
    (hdm : dvDs (ms.map (·.2)) = some dm) (hb : ∀ (D : Addr) (doc pm : Value) (an : Option Addr) (cdv ct : Value) (us mv ws : List Value), us.length = 1 → mv.length = ms.length → ws.length = ks.length →
      KwChain D ((ms.map (·.1)).zip mv) (bindArgs (PySem.W.fnOf d.name d.qual d.params d.body d.scope .none (.ref D) doc pm an cdv ct) ⟨us, ks.zip ws⟩) (ps.zip (us ++ fillP plan mv ws))) :
    MakK P w K mg base k c ks sp (fun es => fillP plan dm es) := by
  obtain ⟨fd, FD, FG⟩ := F.ex
  have e : d.dvs K = [] := by unfold He.DefD.dvs; rw [hd]; rfl
  rw [e] at FD
  have ea : He.fAd K d.at_ = He.ma K (He.ga K c) "__init__" := by rw [hx]; rfl
  have en : (ms.map fun q => (q.1, q.2.v K)).map (·.1) = ms.map (·.1) := by rw [List.map_map]; rfl
  obtain ⟨mv, hB⟩ := FD.kbinds0 (ps := ps) 1 ks (ms.map fun q => (q.1, q.2.v K)) (fun us mv ws => us ++ fillP plan mv ws) (fun z => hk (List.map_eq_nil_iff.mp z)) (fun q hq => by
      obtain ⟨z, hz, rfl⟩ := List.mem_map.mp hq
      exact List.mem_map.mpr ⟨z, hms z hz, rfl⟩) (fun r1 r2 r3 => r1.append (fill_vals r2 r3 plan)) (fun D doc pm an cdv ct us mv ws h1 h2 h3 => by
      rw [en]
      exact hb D doc pm an cdv ct us mv ws h1 (by rw [h2, List.length_map]) h3)
  refine ⟨⟨_, _, fd, ps, _, _, m.cls c hc, He.mkr_ok (m.f _ hm), ea ▸ FG, hB, fun F x zs es r => ⟨_, rfl, fill_reps ?_ r plan⟩⟩⟩
  have e2 : (ms.map fun q => (q.1, q.2.v K)).map (·.2) = (ms.map (·.2)).map (He.Dv.v K) := by rw [List.map_map, List.map_map]; rfl
  rw [e2]
  exact dvDs_rep hdm
end
end DL


set_option Elab.async false
set_option linter.all false
set_option maxRecDepth 100000
set_option maxHeartbeats 1600000
namespace DL
open PySem PySem.Spec PyProof.Rows L2

/-! ### try: .. except C as n: .. -/
section
variable {S : SE} {F : Hp}
theorem Slots.off {σ : L2.St} {ρ : Ro} (sl : Slots S F σ ρ) (i : Nat) : Slots S F (σ.set i none) (ρ.set i none) := by
  exact sl.setN i
end
section
variable {X : Cx} {F0 : Hp} {W : DWX} {x n : Str} {c : Value} {i : Nat} {body suite : List Stmt} {b₀ : Stmt} {np pos pos' : Pos} {t : DWX → DTS} {u : DTS} {mt : Str → Option Bool}
/-- behind a suite whose name goes -/
def offE (i : Nat) (E : DEnds) : DEnds := { nx := fun ρ M => E.nx (ρ.set i none) M, rt := E.rt, bk := fun ρ M => E.bk (ρ.set i none) M, ct := fun ρ M => E.ct (ρ.set i none) M }
def dTryAs (t : DWX → DTS) (i : Nat) (mt : Str → Option Bool) (u : DTS) (W : DWX) : DTS := fun E ρ M =>
  t (fun c fs ρ' M' => ∃ b, mt c = some b ∧ (b = true → ∀ a, u (offE i E) (ρ'.set i (some (.ref a))) M') ∧ (b = false → W c fs ρ' M')) E ρ M
theorem ds_tryAs (hN : X.N.Nodup) (hi : X.N[i]? = some n) (hc : Names X x c) (tk : Takes X (lowW (Cx.se X) F0 W)) (hm : ∀ y b C, mt y = some b → X.mg y = some (.ref C) → PySem.W.exmOne X.K (.ref C) c = some b)
    (hb : ∀ (F1 : Hp) (W' : DWX) (pn : List (Addr × Obj)) (xe : Value → Shared → Prop), Takes (X.tr pn xe) (lowW (Cx.se X) F1 W') → PassesOwn (model X.prog X.w) X.A X.env xe → DSs (X.tr pn xe) F1 body (t W'))
    (hsu : ∀ (F1 : Hp) (a : Addr) (pn : List (Addr × Obj)), DSs (X.suite a pn) F1 (b₀ :: suite) u) (hs : X.stack = X.env :: X.outer := by rfl) (hf : X.env.frame = some X.env.locals := by rfl) (hln : X.env.kindOf n = some .local := by rfl) :
    DS X F0 (.Try body [.ExceptHandler (some (.Name x np)) (some n) (b₀ :: suite) pos'] [] [] pos) (dTryAs t i mt u W) := by
  refine ⟨PS.weak (ps_try_as (tb := fun Wx E σ H => ∃ (F1 : Hp) (W' : DWX), (∀ cls d σ H, lowW (Cx.se X) F1 W' cls d σ H → Wx cls d σ H) ∧ lowS (Cx.se X) F1 (t W') E σ H)
    (ts := fun a cls d E σ H => ∃ F1 : Hp, lowS (Cx.se X) F1 u E σ H) hs hf hN hi hln hc tk (fun Wx pn xe tk' po => ⟨fun pins s σ H E I ⟨F1, W', imp, h⟩ => (hb F1 W' pn xe (tk'.imp imp) po).pss.run pins s σ H E I h⟩)
    (fun a oe cls d pn _ _ => ⟨fun pins s σ H E I ⟨F1, h⟩ => (hsu F1 a _).pss.run pins s σ H E I h⟩)) fun E σ H ⟨ρ, M, F, D, l0, sl, g, q, k1, k2, k3, k4⟩ => ?_⟩
  refine ⟨F, _, fun cls d σ' H' hw => ?_, ρ, M, F, D, Le.refl F, sl, g, q, k1, k2, k3, k4⟩
  obtain ⟨c', fs, ρ', M', F', l', sl', g', ⟨C, rfl, hmg, hx⟩, b, hb1, hy, hno⟩ := hw
  refine ⟨b, hm c' b C hb1 hmg, fun e a ha => ⟨F', ρ'.set i (some (.ref a)), M', F', offE i D, Le.refl F', sl'.set i (.ref a), g', hy e a, ?_, ?_, ?_, ?_⟩, fun e => ⟨c', fs, ρ', M', F', l0.trans l', sl', g', ⟨C, rfl, hmg, hx⟩, hno e⟩⟩
  · exact fun σ2 ρ2 M2 F2 H2 l2 s2 g2 p2 => k1 _ _ M2 F2 H2 (l'.trans l2) (s2.off i) g2 p2
  · exact fun v d M2 F2 H2 l2 g2 r2 p2 => k2 v d M2 F2 H2 (l'.trans l2) g2 r2 p2
  · exact fun σ2 ρ2 M2 F2 H2 l2 s2 g2 p2 => k3 _ _ M2 F2 H2 (l'.trans l2) (s2.off i) g2 p2
  · exact fun σ2 ρ2 M2 F2 H2 l2 s2 g2 p2 => k4 _ _ M2 F2 H2 (l'.trans l2) (s2.off i) g2 p2
end
end DL


set_option Elab.async false
set_option linter.all false
set_option maxRecDepth 100000
set_option maxHeartbeats 1600000
namespace DL
open PySem PySem.Spec PyProof.Rows L2

/-! ### which classes an except clause takes -/
def mtL (l : List (Str × Bool)) : Str → Option Bool := fun y => l.lookup y
theorem lookup_mem {l : List (Str × Bool)} {y : Str} {b : Bool} (h : l.lookup y = some b) : (y, b) ∈ l := by
  induction l with
  | nil => cases h
  | cons q l ih =>
    obtain ⟨z, c⟩ := q
    rw [List.lookup_cons] at h
    split at h
    · rename_i e
      cases h
      have := beq_iff_eq.mp e
      subst this
      exact List.mem_cons_self
    · exact List.mem_cons_of_mem _ (ih h)
theorem hm_of {fs : List Fc} {fn : List He.DefD} {K : PySem.W.Frag} {mg : Str → Option Value} {x : Str} {l : List (Str × Bool)} (m : Md fs fn K mg) (h : ∀ q ∈ l, Fc.exm q.1 x q.2 ∈ fs) : ∀ y b C, mtL l y = some b → mg y = some (.ref C) → PySem.W.exmOne K (.ref C) (.ref (He.ga K x)) = some b :=
  fun y b C e e2 => m.exm y x b (h (y, b) (lookup_mem e)) C e2

/-! ### a op b op c op d -/
section
variable {X : Cx} {F0 : Hp} {pos : Pos} {a b c d : Expr} {op1 op2 op3 : CmpOp}
def tChain3 (r1 r2 r3 : R2) (ta tb tc td : TE) : TE := fun σ H Q => ta σ H fun x H1 => tb σ H1 fun y H2 => r1 x y H2 fun z H3 => ∃ k, z = .bl k ∧
  (if k = true then tc σ H3 fun u H4 => r2 y u H4 fun z2 H5 => ∃ k2, z2 = .bl k2 ∧ (if k2 = true then td σ H5 fun w H6 => r3 u w H6 Q else Q (.bl false) H5) else Q (.bl false) H3)
theorem pe_chain3 {r1 r2 r3 : R2} {ta tb tc td : TE} (h1 : OpR X (compareOp op1) r1) (h2 : OpR X (compareOp op2) r2) (h3 : OpR X (compareOp op3) r3) (ha : PE X a ta) (hb : PE X b tb) (hc : PE X c tc) (hd : PE X d td)
    (hm : lastMarks [op1, op2, op3] [b, c, d] = false := by with_unfolding_all rfl) : PE X (.Compare a [op1, op2, op3] [b, c, d] pos) (tChain3 r1 r2 r3 ta tb tc td) := by
  refine ⟨fun pins s σ H Q I h => ?_⟩
  refine Compare_chain (thn (ha.run pins s σ H _ I h) fun v s1 ⟨x, H1, I1, rx, q1⟩ => chain_link (thn (hb.run pins s1 σ H1 _ I1 q1) fun u s2 ⟨y, H2, I2, ry, q2⟩ =>
    thn (h1 pins s2 σ H2 x y v u _ I2 rx ry q2) fun e s3 ⟨z, H3, I3, rz, k, ek, q3⟩ => ?_)) hm
  subst ek
  cases rz
  refine wpAny_truthy_bool ?_
  cases k with
  | false => exact ite_ff ⟨.bl false, H3, I3, rfl, q3⟩
  | true =>
    refine ite_tt (chain_link (thn (hc.run pins s3 σ H3 _ I3 q3) fun u2 s4 ⟨y2, H4, I4, ry2, q4⟩ => thn (h2 pins s4 σ H4 y y2 u u2 _ I4 ry ry2 q4) fun e2 s5 ⟨z2, H5, I5, rz2, k2, ek2, q5⟩ => ?_))
    subst ek2
    cases rz2
    refine wpAny_truthy_bool ?_
    cases k2 with
    | false => exact ite_ff ⟨.bl false, H5, I5, rfl, q5⟩
    | true => exact ite_tt (chain_last (thn (hd.run pins s5 σ H5 _ I5 q5) fun w' s6 ⟨z', H6, I6, r6, q6⟩ => h3 pins s6 σ H6 y2 z' u2 w' Q I6 ry2 r6 q6))
def dChain3 (r1 r2 r3 : DR2) (ta tb tc td : DTE) : DTE := fun ρ M Q => ta ρ M fun x M1 => tb ρ M1 fun y M2 => r1 x y M2 fun z M3 => match z with
  | .bl true => tc ρ M3 fun u M4 => r2 y u M4 fun z2 M5 => match z2 with
    | .bl true => td ρ M5 fun w M6 => r3 u w M6 Q
    | .bl false => Q (.bl false) M5
    | _ => False
  | .bl false => Q (.bl false) M3
  | _ => False
theorem de_chain3 {r1 r2 r3 : DR2} {ta tb tc td : DTE} (h1 : DOp X F0 (compareOp op1) r1) (h2 : DOp X F0 (compareOp op2) r2) (h3 : DOp X F0 (compareOp op3) r3) (ha : DE X F0 a ta) (hb : DE X F0 b tb) (hc : DE X F0 c tc) (hd : DE X F0 d td)
    (hm : lastMarks [op1, op2, op3] [b, c, d] = false := by with_unfolding_all rfl) : DE X F0 (.Compare a [op1, op2, op3] [b, c, d] pos) (dChain3 r1 r2 r3 ta tb tc td) := by
  refine ⟨PE.weak (pe_chain3 h1 h2 h3 ha.pe hb.pe hc.pe hd.pe hm) fun σ H Q ⟨ρ, M, F, P, l0, sl, g, t, k⟩ => ?_⟩
  refine ⟨ρ, M, F, _, l0, sl, g, t, fun x dx M1 F1 H1 l1 g1 r1 t1 => ⟨ρ, M1, F1, _, l0.trans l1, sl.mono l1, g1, t1, fun y dy M2 F2 H2 l2 g2 r2 t2 => ?_⟩⟩
  have L2 := l1.trans l2
  refine ⟨dx, dy, M2, F2, _, l0.trans L2, g2, r1.mono l2, r2, t2, fun z dz M3 F3 H3 l3 g3 r3 t3 => ?_⟩
  have L3 := L2.trans l3
  split at t3
  · cases r3
    refine ⟨true, rfl, iteT ⟨ρ, M3, F3, _, l0.trans L3, sl.mono L3, g3, t3, fun u du M4 F4 H4 l4 g4 r4 t4 => ?_⟩⟩
    have L4 := L3.trans l4
    refine ⟨dy, du, M4, F4, _, l0.trans L4, g4, (r2.mono l3).mono l4, r4, t4, fun z2 dz2 M5 F5 H5 l5 g5 r5 t5 => ?_⟩
    have L5 := L4.trans l5
    split at t5
    · cases r5
      refine ⟨true, rfl, iteT ⟨ρ, M5, F5, _, l0.trans L5, sl.mono L5, g5, t5, fun w dw M6 F6 H6 l6 g6 r6 t6 => ?_⟩⟩
      exact ⟨du, dw, M6, F6, P, l0.trans (L5.trans l6), g6, (r4.mono l5).mono l6, r6, t6, fun v d M' F' H' l7 g7 r7 p => k v d M' F' H' ((L5.trans l6).trans l7) g7 r7 p⟩
    · cases r5
      exact ⟨false, rfl, iteF (k _ _ M5 F5 H5 L5 g5 (.bl _) t5)⟩
    · exact t5.elim
  · cases r3
    exact ⟨false, rfl, iteF (k _ _ M3 F3 H3 L3 g3 (.bl _) t3)⟩
  · exact t3.elim
end

/-! ### {k: v, ..} of whole numbers -/
def putsI (l : List (Int × Int)) : List (D × D) := l.foldl (fun acc q => dputK acc (.inl q.1) (.int q.2)) []
def dDctI (l : List (Int × Int)) : DTE := fun _ M Q => Q (.dct (putsI l)) M
theorem repK_fold {S : SE} {F : Hp} : ∀ (l : List (Int × Int)) {vs : List (Key × V)} {ds : List (D × D)}, RepK S F vs ds → RepK S F (mergeK vs (l.map fun q => (.inl q.1, .int q.2))) (l.foldl (fun acc q => dputK acc (.inl q.1) (.int q.2)) ds)
  | [], _, _, h => h
  | q :: l, _, _, h => repK_fold l (repK_put (.inl q.1) (.int q.2) h)
theorem pairs_const {σ : L2.St} : ∀ (l : List (Int × Int)) {H : Hp} {Q : List (V × V) → Hp → Prop}, Q (l.map fun q => (V.int q.1, V.int q.2)) H → tPairs (l.map fun q => (tC (V.int q.1), tC (V.int q.2))) σ H Q
  | [], _, _, q => q
  | p :: l, H, Q, q => pairs_const l (Q := fun ps H3 => Q ((V.int p.1, V.int p.2) :: ps) H3) q
section
variable {X : Cx} {F0 : Hp} {pos : Pos} {keys : List (Option Expr)} {values : List Expr}
theorem de_dctI (l : List (Int × Int)) (h : PPs X pos keys values (l.map fun q => (tC (V.int q.1), tC (V.int q.2)))) (hall : keys.all (·.isSome) = true := by rfl) (hl : keys.length = values.length := by rfl) (h0 : keys ≠ [] := by exact List.cons_ne_nil _ _) (h15 : keys.length ≤ 15 := by decide) (hn : l.length ≤ 15 := by decide) :
    DE X F0 (.Dict keys values pos) (dDctI l) := by
  refine ⟨PE.weak (pe_disp h hall hl h0 h15) fun σ H Q ⟨ρ, M, F, P, l0, sl, g, t, k⟩ => fun p hp => pairs_const l ⟨upd_same, l.map fun q => (.inl q.1, .int q.2), ?_, by rw [List.length_map]; exact hn, ?_⟩⟩
  · rw [List.map_map]
    rfl
  · have fr := g.freshF hp
    have e : upd (upd H p (.dK [])) p (.dK (mergeK [] (l.map fun q => (.inl q.1, .int q.2)))) = upd H p (.dK (mergeK [] (l.map fun q => (.inl q.1, .int q.2)))) := by
      funext b
      unfold upd
      split <;> rfl
    rw [e]
    exact k _ _ M _ _ (Le.new fr) (g.new hp) (.dctK (.inl upd_same) (repK_fold l .nil)) t
end
end DL


set_option Elab.async false
set_option linter.all false
set_option maxRecDepth 100000
set_option maxHeartbeats 1600000
namespace DL
open PySem PySem.Spec PyProof.Rows L2

/-! ### a name of the top that is a tuple of texts -/
theorem tupS_vals : ∀ {us : List Value} {zs : List Str}, tupS us zs = true → Vals (zs.map V.str) us
  | [], [], _ => .nil
  | .str y t :: r, z :: zs, h => by
    unfold tupS at h
    obtain ⟨a, b⟩ := Bool.and_eq_true_iff.mp h
    have e := of_decide_eq_true a
    subst e
    exact .cons ⟨t, rfl⟩ (tupS_vals b)
section
variable {X : Cx} {F0 : Hp} {x : Str} {pos : Pos}
theorem de_gtup {zs : List Str} (hm : ∃ a : Addr, X.mg x = some (.ref a) ∧ tupAt X.K a zs = true) (hg : Gl X x := by rfl) (hd : (x == ("__debug__" : Str)) = false := by decide) : DE X F0 (.Name x pos) (dC (.tup (zs.map .str))) := by
  obtain ⟨a, hm, ha⟩ := hm
  refine ⟨PE.weak (pe_glob (v := .ref a) hg hm rfl hd) fun σ H Q ⟨ρ, M, F, P, l0, sl, g, t, k⟩ => k _ _ M F H (Le.refl F) g ?_ t⟩
  have q : SqT X.K F a (zs.map V.str) := by
    unfold tupAt at ha
    split at ha
    · rename_i o e
      obtain ⟨h1, h2⟩ := Bool.and_eq_true_iff.mp ha
      split at h2
      · rename_i its n e2
        obtain ⟨h3, h4⟩ := Bool.and_eq_true_iff.mp h2
        exact .inr ⟨o, its, n, e, of_decide_eq_true h1, e2, of_decide_eq_true h3, tupS_vals h4⟩
      · cases h2
    · cases ha
  exact .tup q (reps_strs zs)
end

/-! ### list(range(a, b)) -/
theorem reps_rg {S : SE} {F : Hp} (a : Int) : ∀ l : List Nat, Reps S F (l.map fun i => V.int (a + (i : Nat))) (l.map fun (i : Nat) => D.int (a + (i : Int)))
  | [] => .nil
  | i :: l => .cons (.int _) (reps_rg a l)
section
variable {X : Cx} {F0 : Hp} {a b : Expr} {ta tb : DTE} {p p2 pos pos2 : Pos}
def dListRg (ta tb : DTE) : DTE := fun ρ M Q => ta ρ M fun x M1 => tb ρ M1 fun y M2 => match x, y with
  | .int i, .int j => RgOk i j ∧ Q (.lst (rangeD i (j - i).toNat)) M2
  | _, _ => False
theorem de_listRg (hm : X.mg "list" = none) (hm2 : X.mg "range" = none) (ha : DE X F0 a ta) (hb : DE X F0 b tb) (hc : X.calm = true := by rfl) (hg : Gl X "list" := by rfl) (hg2 : Gl X "range" := by rfl)
    (na : starEach [a, b] X.env = (false, eval a X.env) :: starEach [b] X.env := by rfl) (nb : starEach [b] X.env = (false, eval b X.env) :: starEach [] X.env := by rfl) (hp : (backTo pos2 (starEach [b] X.env)).any (·.1) = false := by rfl)
    (ne : starEach [.Call (.Name "range" p2) [a, b] [] pos2] X.env = (false, eval (.Call (.Name "range" p2) [a, b] [] pos2) X.env) :: starEach [] X.env := by rfl) :
    DE X F0 (.Call (.Name "list" p) [.Call (.Name "range" p2) [a, b] [] pos2] [] pos) (dListRg ta tb) := by
  refine ⟨PE.weak (pe_listRg hc hg hm (prg_2 hg2 hm2 ha.pe hb.pe na nb hp) ne) fun σ H Q ⟨ρ, M, F, P, l0, sl, g, t, k⟩ => ?_⟩
  refine ⟨ρ, M, F, _, l0, sl, g, t, fun x dx M1 F1 H1 l1 g1 r1 t1 => ⟨ρ, M1, F1, _, l0.trans l1, sl.mono l1, g1, t1, fun y dy M2 F2 H2 l2 g2 r2 t2 => ?_⟩⟩
  split at t2
  · rename_i i j
    cases r1
    cases r2
    refine ⟨_, _, rfl, rfl, t2.1, fun q hq => ?_⟩
    have fr := g2.freshF hq
    exact k _ _ M2 _ _ ((l1.trans l2).trans (Le.new fr)) (g2.new hq) (.lst upd_same (reps_rg i _)) t2.2
  · exact t2.elim
end

/-! ### int(b), b a bool -/
section
variable {X : Cx} {F0 : Hp}
def rcIntB : DCl := fun ds M Q => match ds with
  | [.bl b] => Q (.int (if b then 1 else 0)) M
  | _ => False
theorem dc_intB : DCallR X F0 (.type "int") rcIntB := by
  intro pins s σ H xs us Q I r ⟨ds, M, F, P, l0, g, rs, t, k⟩
  unfold rcIntB at t
  split at t
  · cases rs with
    | cons rx rz =>
      cases rz
      cases rx
      exact call_int1 pins s σ H _ _ Q I r (.inr ⟨_, rfl, k _ _ M F H (Le.refl F) g (.int _) t⟩)
  · exact t.elim
end
end DL


set_option Elab.async false
set_option linter.all false
set_option maxRecDepth 100000
set_option maxHeartbeats 1000000
namespace DL
open PySem PySem.Spec PyProof.Rows L2

/-! ### loops -/
theorem dLoop_ind {L : Store → Prop} {g : DTG} {tb : DTS} {E : DEnds} (Inv : List D → Ro → Store → Prop)
    (step : ∀ d r ρ M K, (∀ ρ M, Inv r ρ M → K ρ M) → Inv (d :: r) ρ M → L M ∧ g d ρ M fun ρ1 M1 => tb { E with nx := K, ct := K, bk := E.nx } ρ1 M1)
    (fin : ∀ ρ M, Inv [] ρ M → L M ∧ E.nx ρ M) : ∀ ds ρ M, Inv ds ρ M → dLoop L g tb ds E ρ M
  | [], ρ, M, h => fin ρ M h
  | d :: r, ρ, M, h => step d r ρ M _ (fun ρ M h => dLoop_ind Inv step fin r ρ M h) h
theorem dLc_ind {L : Store → Prop} {g : DTG} {tt : DTT} {te : DTE} {p : Addr} {ρ : Ro} (Inv : List D → List D → Store → Prop) {Q : List D → Store → Prop}
    (step : ∀ d r acc M (K : List D → Store → Prop), (∀ acc M, Inv r acc M → K acc M) → Inv (d :: r) acc M → L (updM M p (.lst acc)) ∧ g d ρ (updM M p (.lst acc)) fun ρ2 M2 => tt ρ2 M2 fun b M3 =>
      if b = true then te ρ2 M3 fun y M4 => ∃ M5, M4 = updM M5 p (.lst acc) ∧ M5 p = none ∧ acc.length < sizeLine ∧ K (acc ++ [y]) M5
      else ∃ M5, M3 = updM M5 p (.lst acc) ∧ M5 p = none ∧ K acc M5)
    (fin : ∀ acc M, Inv [] acc M → L (updM M p (.lst acc)) ∧ Q acc M) : ∀ ds acc M, Inv ds acc M → dLcLoop L g tt te p ρ ds acc M Q
  | [], acc, M, h => fin acc M h
  | d :: r, acc, M, h => step d r acc M (fun acc M => dLcLoop L g tt te p ρ r acc M Q) (fun acc M h => dLc_ind Inv step fin r acc M h) h
/-- a comprehension whose test is none and whose item is one value, with nothing changed -/
theorem dLc_map {L : Store → Prop} {g : DTG} {te : DTE} {p : Addr} {ρ : Ro} {f : D → D} {M : Store} {Q : List D → Store → Prop} (hp : M p = none)
    (ds : List D) (hL : ∀ acc, L (updM M p (.lst acc))) (h : ∀ d ∈ ds, ∀ acc Q, Q (f d) (updM M p (.lst acc)) → g d ρ (updM M p (.lst acc)) fun ρ2 M2 => te ρ2 M2 Q) (hl : ds.length ≤ sizeLine) (q : Q (ds.map f) M) :
    dLcLoop L g dYes te p ρ ds [] M Q := by
  have key : ∀ (ds acc : List D), (∀ d ∈ ds, ∀ acc Q, Q (f d) (updM M p (.lst acc)) → g d ρ (updM M p (.lst acc)) fun ρ2 M2 => te ρ2 M2 Q) → acc.length + ds.length ≤ sizeLine → Q (acc ++ ds.map f) M → dLcLoop L g dYes te p ρ ds acc M Q := by
    intro ds
    induction ds with
    | nil =>
      intro acc _ _ q
      refine ⟨hL acc, ?_⟩
      simpa using q
    | cons d ds ih =>
      intro acc h hl q
      refine ⟨hL acc, ?_⟩
      simp only [dYes, if_true]
      refine h d List.mem_cons_self acc _ ⟨M, rfl, hp, ?_, ih (acc ++ [f d]) (fun d hd => h d (List.mem_cons_of_mem _ hd)) ?_ ?_⟩
      · rw [List.length_cons] at hl; omega
      · rw [List.length_append, List.length_singleton]
        rw [List.length_cons] at hl
        omega
      · rw [List.append_assoc]
        simpa using q
  exact key ds [] h (by simpa using hl) (by simpa using q)

/-! ### pairs of whole numbers -/
abbrev PrL : Type := List (Int × Int)
def rngD (x : Int × Int) : D := .tup [.int x.1, .int x.2]
def encP (x : Int × Int) : PyData := .tuple [.int x.1, .int x.2]
theorem toP_pair (x : Int × Int) : toP (rngD x) = some (encP x) := by
  simp [rngD, encP, toP, toPs]
theorem toPs_pairs : ∀ L : PrL, toPs (L.map rngD) = some (L.map encP)
  | [] => by simp [toPs]
  | x :: L => by
    rw [List.map_cons, List.map_cons, toPs, toP_pair, toPs_pairs L]
theorem encD_pair (x : Int × Int) : encD (rngD x) = encP x := by unfold encD; rw [toP_pair]; rfl
theorem lay_pairs : ∀ L : PrL, PyData.canLayAll0 (L.map encP) = true
  | [] => by simp [PyData.canLayAll0]
  | x :: L => by
    rw [List.map_cons, PyData.canLayAll0, lay_pairs L]
    simp [encP, PyData.canLay0, PyData.canLayAll0]
theorem depth_pairs : ∀ L : PrL, PyData.depthAll (L.map encP) ≤ 1
  | [] => by simp [PyData.depthAll]
  | x :: L => by
    rw [List.map_cons, PyData.depthAll]
    have := depth_pairs L
    have e : PyData.depth (encP x) = 1 := by simp [encP, PyData.depth, PyData.depthAll]
    omega
theorem okP_list (L : PrL) : okP (.list (L.map encP)) := by
  unfold okP SeqAt.shaped
  rw [PyData.canLay0, lay_pairs, PyData.depth]
  have := depth_pairs L
  simp
  omega
theorem okP_tuple (L : PrL) : okP (.tuple (L.map encP)) := by
  unfold okP SeqAt.shaped
  rw [PyData.canLay0, lay_pairs, PyData.depth]
  have := depth_pairs L
  simp
  omega
theorem eqv_pair (x y : Int × Int) : PyData.eqv (encP x) (encP y) = decide (x = y) := by
  obtain ⟨a, b⟩ := x
  obtain ⟨c, d⟩ := y
  simp only [encP, PyData.eqv, PyData.eqvAll, Bool.and_true]
  rw [Bool.eq_iff_iff]
  simp
theorem eqv_pairs : ∀ L L' : PrL, PyData.eqvAll (L.map encP) (L'.map encP) = decide (L = L')
  | [], [] => by simp [PyData.eqvAll]
  | [], _ :: _ => by simp [PyData.eqvAll]
  | _ :: _, [] => by simp [PyData.eqvAll]
  | x :: L, y :: L' => by
    rw [List.map_cons, List.map_cons, PyData.eqvAll, eqv_pair, eqv_pairs L L']
    rw [Bool.eq_iff_iff]
    simp
/-- comparing lists of pairs -/
def leP (x y : Int × Int) : Bool := decide (x.1 < y.1 ∨ (x.1 = y.1 ∧ x.2 ≤ y.2))
def sortP (L : PrL) : PrL := L.mergeSort leP
theorem sorted_pairs (L : PrL) : (L.map rngD).mergeSort (PySem.W.dataLe false encD) = (sortP L).map rngD := by
  symm
  apply List.map_mergeSort
  intro a _ b _
  have e := congrFun (congrFun (PySem.W.dataLe_ii (β := Int × Int) (fun z => z.1) (fun z => z.2)) a) b
  have e2 : PySem.W.dataLe false encD (rngD a) (rngD b) = PySem.W.dataLe false (fun z : Int × Int => PyData.tuple [.int z.1, .int z.2]) a b := by
    rw [PySem.W.dataLe_eq, PySem.W.dataLe_eq]
    show (!PySem.W.dataLt (encD (rngD b)) (encD (rngD a))) = _
    rw [encD_pair, encD_pair]
    rfl
  rw [e2, e]
  rfl
theorem alike_pairs (L : PrL) : PySem.W.AllAlike (L.map encP) ∧ PySem.W.Sortable (L.map encP) ∧ ∀ e ∈ L.map encP, e.depth ≤ 32 := by
  refine ⟨PySem.W.AllAlike.of fun b b' => ?_, PySem.W.Sortable.tuples fun b => ⟨_, _, rfl⟩, fun e he => ?_⟩
  · simp [encP, PySem.W.alike, PySem.W.alikeAll]
  · obtain ⟨x, _, rfl⟩ := List.mem_map.mp he
    simp [encP, PyData.depth, PyData.depthAll]
theorem rcSorted_pairs {M : Store} {d : D} {L : PrL} {Q : D → Store → Prop} (h : asR M d = some (L.map rngD)) (q : Q (.lst ((sortP L).map rngD)) M) : rcSorted [d] M Q := by
  unfold rcSorted
  simp only [h]
  obtain ⟨h1, h2, h3⟩ := alike_pairs L
  refine ⟨⟨_, toPs_pairs L, h1, h2, h3⟩, ?_⟩
  rw [sorted_pairs]
  exact q
theorem sortP_perm (L : PrL) : (sortP L).Perm L := List.mergeSort_perm L leP
theorem leP_trans (a b c : Int × Int) (h1 : leP a b = true) (h2 : leP b c = true) : leP a c = true := by
  simp only [leP, decide_eq_true_eq] at *
  omega
theorem leP_total (a b : Int × Int) : (leP a b || leP b a) = true := by
  simp only [leP, Bool.or_eq_true, decide_eq_true_eq]
  omega
theorem sortP_sorted (L : PrL) : (sortP L).Pairwise fun a b => leP a b = true := List.pairwise_mergeSort leP_trans leP_total L
/-- repr of a tuple of pairs -/
theorem weight_int {i : Int} (h : i.natAbs < 10 ^ 12) : PyData.weight (.int i) ≤ 41 := by
  simp only [PyData.weight]
  split
  · omega
  · rename_i h0
    have hne : i.natAbs ≠ 0 := by
      intro z
      apply h0
      have : i = 0 := by omega
      simp [this]
    have : i.natAbs.log2 < 40 := (Nat.log2_lt hne).mpr (Nat.lt_of_lt_of_le h (by decide))
    omega
theorem pairs_show : ∀ L : PrL, (∀ x ∈ L, x.1.natAbs < 10 ^ 12 ∧ x.2.natAbs < 10 ^ 12) → PyData.showableAll (L.map encP) = true ∧ PyData.hasDictAll (L.map encP) = false ∧ PyData.intsShortAll 13 (L.map encP) = true ∧ PyData.weightAll (L.map encP) ≤ 100 * L.length
  | [], _ => by simp [PyData.showableAll, PyData.hasDictAll, PyData.intsShortAll, PyData.weightAll]
  | x :: L, h => by
    obtain ⟨h1, h2, h3, h4⟩ := pairs_show L fun y hy => h y (List.mem_cons_of_mem _ hy)
    obtain ⟨b1, b2⟩ := h x List.mem_cons_self
    have w1 := weight_int b1
    have w2 := weight_int b2
    have sh : ∀ i : Int, i.natAbs < 10 ^ 12 → PyData.showable (.int i) = true := fun i hi => by
      simp only [PyData.showable, decide_eq_true_eq]
      by_cases hz : i.natAbs = 0
      · rw [hz]; decide
      · have : i.natAbs.log2 < 40 := (Nat.log2_lt hz).mpr (Nat.lt_of_lt_of_le hi (by decide))
        omega
    rw [List.map_cons]
    refine ⟨?_, ?_, ?_, ?_⟩
    · rw [PyData.showableAll, h1]
      simp only [encP, PyData.showable, PyData.showableAll, Bool.and_true]
      have a := sh _ b1
      have b := sh _ b2
      simp only [PyData.showable] at a b
      rw [a, b]; rfl
    · rw [PyData.hasDictAll, h2]
      simp [encP, PyData.hasDict, PyData.hasDictAll]
    · rw [PyData.intsShortAll, h3]
      have := PyData.intsShortAll_ints [x.1, x.2] (fun n hn => by
        simp only [List.mem_cons, List.not_mem_nil, or_false] at hn
        rcases hn with rfl | rfl
        · exact b1
        · exact b2)
      simp only [encP, PyData.intsShort, Bool.and_true]
      exact this
    · rw [PyData.weightAll, List.length_cons]
      simp only [encP]
      have e : PyData.weight (.tuple [.int x.1, .int x.2]) = PyData.weight (.int x.1) + 1 + (PyData.weight (.int x.2) + 1 + 0) := by
        rw [PyData.weight, PyData.weightAll, PyData.weightAll, PyData.weightAll]
      rw [e]
      omega
def textP (L : PrL) : Str := (PyData.tuple (L.map encP)).shown
theorem rcRepr_pairs {L : PrL} {M : Store} {Q : D → Store → Prop} (hl : L.length ≤ 10000) (hb : ∀ x ∈ L, x.1.natAbs < 10 ^ 12 ∧ x.2.natAbs < 10 ^ 12) (q : Q (.str (textP L)) M) : rcRepr [.tup (L.map rngD)] M Q := by
  obtain ⟨h1, h2, h3, h4⟩ := pairs_show L hb
  unfold rcRepr
  have e : toPM M (.tup (L.map rngD)) = some (.tuple (L.map encP)) := by
    show (toP (.tup (L.map rngD))) = _
    rw [toP, toPs_pairs]
    rfl
  simp only [e]
  have dp := depth_pairs L
  refine ⟨trivial, by rw [PyData.showable]; exact h1, by rw [PyData.hasDict]; exact h2, ?_, by rw [PyData.depth]; omega, q⟩
  have lay : PyData.layable0 (.tuple (L.map encP)) = true := by
    unfold PyData.layable0
    rw [PyData.canLay0, lay_pairs, PyData.depth, PyData.weight]
    simp only [Bool.true_and, Bool.and_eq_true, decide_eq_true_eq]
    have e : (2 : Nat) ^ 20 = 1048576 := by decide
    omega
  have := shown_le13 lay (by rw [PyData.intsShort]; exact h3)
  rw [sizeLine_eq]
  omega

/-! ### lists by their last -/
theorem ixN_last (n : Nat) : ixN (n + 1) (-1) = some n := by
  unfold ixN
  rw [if_neg (by omega), if_pos (by omega)]
  congr 1
  omega
theorem set_last {α : Type} (l : List α) (y z : α) : (l ++ [y]).set l.length z = l ++ [z] := by
  induction l with
  | nil => rfl
  | cons a l ih => simp [ih]
theorem last_cases {α : Type} (l : List α) : l = [] ∨ ∃ i y, l = i ++ [y] := by
  rcases List.eq_nil_or_concat l with h | ⟨i, y, h⟩
  · exact .inl h
  · exact .inr ⟨i, y, by rw [h, List.concat_eq_append]⟩

/-! ### ranges joined -/
def joinS (acc : PrL) (x : Int × Int) : PrL := match acc.getLast? with
  | some y => if x.1 ≤ y.2 + 1 then acc.dropLast ++ [(y.1, max y.2 x.2)] else acc ++ [x]
  | none => acc ++ [x]
theorem joinS_nil (x : Int × Int) : joinS [] x = [x] := rfl
theorem joinS_in {i : PrL} {y x : Int × Int} (h : x.1 ≤ y.2 + 1) : joinS (i ++ [y]) x = i ++ [(y.1, max y.2 x.2)] := by
  unfold joinS
  simp [h]
theorem joinS_out {i : PrL} {y x : Int × Int} (h : ¬ x.1 ≤ y.2 + 1) : joinS (i ++ [y]) x = i ++ [y] ++ [x] := by
  unfold joinS
  simp [h]
def norm (L : PrL) : PrL := (sortP L).foldl joinS []
def inRng (L : PrL) (t : Int) : Prop := ∃ x ∈ L, x.1 ≤ t ∧ t ≤ x.2
theorem inRng_nil (t : Int) : inRng [] t ↔ False := by simp [inRng]
theorem inRng_cons (x : Int × Int) (L : PrL) (t : Int) : inRng (x :: L) t ↔ (x.1 ≤ t ∧ t ≤ x.2) ∨ inRng L t := by simp [inRng]
theorem inRng_append (L L' : PrL) (t : Int) : inRng (L ++ L') t ↔ inRng L t ∨ inRng L' t := by
  simp only [inRng, List.mem_append]
  constructor
  · rintro ⟨x, h1 | h1, h2⟩
    · exact .inl ⟨x, h1, h2⟩
    · exact .inr ⟨x, h1, h2⟩
  · rintro (⟨x, h1, h2⟩ | ⟨x, h1, h2⟩)
    · exact ⟨x, .inl h1, h2⟩
    · exact ⟨x, .inr h1, h2⟩
theorem inRng_perm {L L' : PrL} (h : L.Perm L') (t : Int) : inRng L t ↔ inRng L' t := by
  simp only [inRng, h.mem_iff]
/-- as few ranges as possible, ascending -/
structure Canon (L : PrL) : Prop where
  gap : L.Pairwise fun x y => x.2 + 1 < y.1
  ok : ∀ x ∈ L, x.1 ≤ x.2
theorem canon_uniq : ∀ {L L' : PrL}, Canon L → Canon L' → (∀ t, inRng L t ↔ inRng L' t) → L = L'
  | [], [], _, _, _ => rfl
  | [], y :: L', _, c', h => by
    have := (h y.1).mpr ⟨y, List.mem_cons_self, Int.le_refl _, c'.ok y List.mem_cons_self⟩
    exact ((inRng_nil _).mp this).elim
  | x :: L, [], c, _, h => by
    have := (h x.1).mp ⟨x, List.mem_cons_self, Int.le_refl _, c.ok x List.mem_cons_self⟩
    exact ((inRng_nil _).mp this).elim
  | x :: L, y :: L', c, c', h => by
    have gx := (List.pairwise_cons.mp c.gap).1
    have gy := (List.pairwise_cons.mp c'.gap).1
    have ox := c.ok x List.mem_cons_self
    have oy := c'.ok y List.mem_cons_self
    have low : ∀ {z : Int × Int} {Z : PrL}, Canon (z :: Z) → ∀ t, inRng (z :: Z) t → z.1 ≤ t := fun {z Z} cz t ⟨w, hw, h1, h2⟩ => by
      rcases List.mem_cons.mp hw with e | hw
      · rw [← e]; exact h1
      · have := (List.pairwise_cons.mp cz.gap).1 w hw
        have := cz.ok z List.mem_cons_self
        omega
    have e1 : x.1 = y.1 := by
      have a := low c' x.1 ((h x.1).mp ⟨x, List.mem_cons_self, Int.le_refl _, ox⟩)
      have b := low c y.1 ((h y.1).mpr ⟨y, List.mem_cons_self, Int.le_refl _, oy⟩)
      omega
    have top : ∀ {z w : Int × Int} {Z W : PrL}, Canon (z :: Z) → Canon (w :: W) → z.1 = w.1 → (∀ t, inRng (w :: W) t → inRng (z :: Z) t) → w.2 ≤ z.2 := fun {z w Z W} cz cw e hh => by
      apply Decidable.byContradiction
      intro hn
      have oz := cz.ok z List.mem_cons_self
      obtain ⟨v, hv, h1, h2⟩ := hh (z.2 + 1) ⟨w, List.mem_cons_self, by omega, by omega⟩
      rcases List.mem_cons.mp hv with e | hv
      · rw [e] at h2; omega
      · have := (List.pairwise_cons.mp cz.gap).1 v hv
        omega
    have e2 : x.2 = y.2 := by
      have a := top c c' e1 fun t => (h t).mpr
      have b := top c' c e1.symm fun t => (h t).mp
      omega
    have exy : x = y := Prod.ext e1 e2
    subst exy
    congr 1
    have ct : ∀ {z : Int × Int} {Z : PrL}, Canon (z :: Z) → Canon Z := fun {z Z} cz => ⟨(List.pairwise_cons.mp cz.gap).2, fun w hw => cz.ok w (List.mem_cons_of_mem _ hw)⟩
    have sub : ∀ {Z W : PrL}, Canon (x :: Z) → (∀ t, inRng (x :: Z) t → inRng (x :: W) t) → ∀ t, inRng Z t → inRng W t := fun {Z W} cz hh t ht => by
      rcases (inRng_cons _ _ _).mp (hh t ((inRng_cons _ _ _).mpr (.inr ht))) with q | q
      · obtain ⟨v, hv, h1, h2⟩ := ht
        have := (List.pairwise_cons.mp cz.gap).1 v hv
        omega
      · exact q
    exact canon_uniq (ct c) (ct c') fun t => ⟨sub c (fun t => (h t).mp) t, sub c' (fun t => (h t).mpr) t⟩
theorem canon_concat {i : PrL} {y : Int × Int} : Canon (i ++ [y]) ↔ Canon i ∧ (∀ x ∈ i, x.2 + 1 < y.1) ∧ y.1 ≤ y.2 := by
  constructor
  · intro c
    have g := List.pairwise_append.mp c.gap
    exact ⟨⟨g.1, fun x hx => c.ok x (List.mem_append_left _ hx)⟩, fun x hx => g.2.2 x hx y (by simp), c.ok y (by simp)⟩
  · rintro ⟨c, h1, h2⟩
    refine ⟨List.pairwise_append.mpr ⟨c.gap, by simp, fun x hx z hz => ?_⟩, fun x hx => ?_⟩
    · simp only [List.mem_singleton] at hz
      subst hz
      exact h1 x hx
    · rcases List.mem_append.mp hx with hx | hx
      · exact c.ok x hx
      · simp only [List.mem_singleton] at hx
        subst hx
        exact h2
theorem joinS_ok {acc : PrL} {x : Int × Int} (c : Canon acc) (hx : x.1 ≤ x.2) (hl : ∀ y ∈ acc, y.1 ≤ x.1) : Canon (joinS acc x) ∧ (∀ t, inRng (joinS acc x) t ↔ inRng acc t ∨ (x.1 ≤ t ∧ t ≤ x.2)) ∧ ∀ y ∈ joinS acc x, y.1 ≤ x.1 := by
  rcases last_cases acc with e | ⟨i, y, e⟩
  · subst e
    rw [joinS_nil]
    refine ⟨⟨by simp, by simpa using hx⟩, fun t => ?_, by simp⟩
    simp [inRng]
  · subst e
    obtain ⟨ci, h1, h2⟩ := canon_concat.mp c
    have hy : y.1 ≤ x.1 := hl y (by simp)
    by_cases h : x.1 ≤ y.2 + 1
    · rw [joinS_in h]
      refine ⟨canon_concat.mpr ⟨ci, h1, by simp only; omega⟩, fun t => ?_, fun z hz => ?_⟩
      · rw [inRng_append, inRng_append, inRng_cons, inRng_cons, inRng_nil]
        simp only [or_false]
        constructor
        · rintro (q | q)
          · exact .inl (.inl q)
          · by_cases ht : t ≤ y.2
            · exact .inl (.inr ⟨q.1, ht⟩)
            · exact .inr ⟨by omega, by omega⟩
        · rintro ((q | q) | q)
          · exact .inl q
          · exact .inr ⟨q.1, by omega⟩
          · exact .inr ⟨by omega, by omega⟩
      · rcases List.mem_append.mp hz with hz | hz
        · exact hl z (List.mem_append_left _ hz)
        · simp only [List.mem_singleton] at hz
          subst hz
          exact hy
    · rw [joinS_out h]
      refine ⟨canon_concat.mpr ⟨c, fun z hz => ?_, hx⟩, fun t => ?_, fun z hz => ?_⟩
      · rcases List.mem_append.mp hz with hz | hz
        · have := h1 z hz
          omega
        · simp only [List.mem_singleton] at hz
          subst hz
          omega
      · rw [inRng_append, inRng_cons, inRng_nil]
        simp
      · rcases List.mem_append.mp hz with hz | hz
        · exact hl z hz
        · simp only [List.mem_singleton] at hz
          subst hz
          exact Int.le_refl _
theorem fold_ok : ∀ {S acc : PrL}, Canon acc → (∀ x ∈ S, x.1 ≤ x.2) → S.Pairwise (fun a b => leP a b = true) → (∀ y ∈ acc, ∀ x ∈ S, y.1 ≤ x.1) → Canon (S.foldl joinS acc) ∧ ∀ t, inRng (S.foldl joinS acc) t ↔ inRng acc t ∨ inRng S t
  | [], acc, c, _, _, _ => ⟨c, fun t => by rw [inRng_nil]; simp⟩
  | x :: S, acc, c, ho, hs, hl => by
    obtain ⟨h1, h2, h3⟩ := joinS_ok c (ho x List.mem_cons_self) fun y hy => hl y hy x List.mem_cons_self
    obtain ⟨p1, p2⟩ := List.pairwise_cons.mp hs
    obtain ⟨k1, k2⟩ := fold_ok (S := S) h1 (fun z hz => ho z (List.mem_cons_of_mem _ hz)) p2 fun y hy z hz => by
      have a := h3 y hy
      have b := p1 z hz
      simp only [leP, decide_eq_true_eq] at b
      omega
    refine ⟨k1, fun t => ?_⟩
    rw [List.foldl_cons, k2, h2, inRng_cons, or_assoc]
def okR (L : PrL) : Prop := ∀ x ∈ L, 0 ≤ x.1 ∧ x.1 ≤ x.2
theorem norm_canon {L : PrL} (h : ∀ x ∈ L, x.1 ≤ x.2) : Canon (norm L) ∧ ∀ t, inRng (norm L) t ↔ inRng L t := by
  obtain ⟨a, b⟩ := fold_ok (S := sortP L) (acc := []) ⟨by simp, by simp⟩ (fun x hx => h x ((sortP_perm L).mem_iff.mp hx)) (sortP_sorted L) (by simp)
  refine ⟨a, fun t => (b t).trans ?_⟩
  rw [inRng_nil, inRng_perm (sortP_perm L)]
  simp
theorem norm_same {L L' : PrL} (h : ∀ x ∈ L, x.1 ≤ x.2) (h' : ∀ x ∈ L', x.1 ≤ x.2) (e : ∀ t, inRng L t ↔ inRng L' t) : norm L = norm L' :=
  canon_uniq (norm_canon h).1 (norm_canon h').1 fun t => (((norm_canon h).2 t).trans (e t)).trans ((norm_canon h').2 t).symm
theorem norm_idem {L : PrL} (h : Canon L) : norm L = L := canon_uniq (norm_canon h.ok).1 h (norm_canon h.ok).2
/-- each end of a joined range is an end of the old ones -/
theorem joinS_ends {acc : PrL} {x : Int × Int} (P1 P2 : Int → Prop) (ha : ∀ y ∈ acc, P1 y.1 ∧ P2 y.2) (hx : P1 x.1 ∧ P2 x.2) : ∀ y ∈ joinS acc x, P1 y.1 ∧ P2 y.2 := by
  intro y hy
  rcases last_cases acc with e | ⟨i, z, e⟩
  · subst e
    rw [joinS_nil] at hy
    simp only [List.mem_singleton] at hy
    subst hy
    exact hx
  · subst e
    have hz := ha z (by simp)
    by_cases h : x.1 ≤ z.2 + 1
    · rw [joinS_in h] at hy
      rcases List.mem_append.mp hy with hy | hy
      · exact ha y (List.mem_append_left _ hy)
      · simp only [List.mem_singleton] at hy
        subst hy
        refine ⟨hz.1, ?_⟩
        show P2 (max z.2 x.2)
        rcases Int.le_total z.2 x.2 with q | q
        · rw [Int.max_eq_right q]; exact hx.2
        · rw [Int.max_eq_left q]; exact hz.2
    · rw [joinS_out h] at hy
      rcases List.mem_append.mp hy with hy | hy
      · exact ha y hy
      · simp only [List.mem_singleton] at hy
        subst hy
        exact hx
theorem fold_ends (P1 P2 : Int → Prop) : ∀ {S acc : PrL}, (∀ y ∈ acc, P1 y.1 ∧ P2 y.2) → (∀ y ∈ S, P1 y.1 ∧ P2 y.2) → ∀ y ∈ S.foldl joinS acc, P1 y.1 ∧ P2 y.2
  | [], acc, ha, _ => ha
  | x :: S, acc, ha, hs => fold_ends P1 P2 (S := S) (joinS_ends P1 P2 ha (hs x List.mem_cons_self)) fun y hy => hs y (List.mem_cons_of_mem _ hy)
theorem norm_ends {L : PrL} (P1 P2 : Int → Prop) (h : ∀ y ∈ L, P1 y.1 ∧ P2 y.2) : ∀ y ∈ norm L, P1 y.1 ∧ P2 y.2 :=
  fold_ends P1 P2 (by simp) fun y hy => h y ((sortP_perm L).mem_iff.mp hy)
theorem joinS_len (acc : PrL) (x : Int × Int) : (joinS acc x).length ≤ acc.length + 1 := by
  rcases last_cases acc with e | ⟨i, z, e⟩
  · subst e; simp [joinS_nil]
  · subst e
    by_cases h : x.1 ≤ z.2 + 1
    · rw [joinS_in h]; simp
    · rw [joinS_out h]; simp
theorem fold_len : ∀ (S acc : PrL), (S.foldl joinS acc).length ≤ acc.length + S.length
  | [], acc => by simp
  | x :: S, acc => by
    have := fold_len S (joinS acc x)
    have := joinS_len acc x
    rw [List.foldl_cons, List.length_cons]
    omega
theorem norm_len (L : PrL) : (norm L).length ≤ L.length := by
  have := fold_len (sortP L) []
  have e := (sortP_perm L).length_eq
  unfold norm
  simp at this
  omega
/-! ### cells that hold lists -/
theorem asR_upd {M : Store} {r : D} {ds : List D} {q : Addr} {m : MO} (h : asR M r = some ds) (hq : M q = none) : asR (updM M q m) r = some ds := by
  cases r with
  | ref a =>
    have h' : (match M a with
      | some (.lst ds) => some ds
      | _ => none) = some ds := h
    show (match updM M q m a with
      | some (.lst ds) => some ds
      | _ => none) = some ds
    have hne : a ≠ q := by
      rintro rfl
      rw [hq] at h'
      cases h'
    rw [updM_ne hne]
    exact h'
  | _ => exact h
theorem asS_ref {M : Store} {q : Addr} {ds : List D} (h : M q = some (.lst ds)) : asS M (.ref q) = some ds := by
  simp [asS, asR, asL, h]
theorem asR_ref {M : Store} {q : Addr} {ds : List D} (h : M q = some (.lst ds)) : asR M (.ref q) = some ds := by
  simp [asR, asL, h]
theorem rdIx_last {M : Store} {q : Addr} {l : List D} {d : D} {Q : D → Store → Prop} (h : M q = some (.lst (l ++ [d]))) : rdIx (.ref q) (.int (-1)) M Q = Q d M := by
  simp only [rdIx, asS_ref h, List.length_append, List.length_singleton, ixN_last, Option.bind_some, List.getElem?_concat_length]
theorem rdSetL_last {M : Store} {q : Addr} {l : List D} {d v : D} {Q : Store → Prop} (h : M q = some (.lst (l ++ [d]))) : rdSetL (.ref q) (.int (-1)) v M Q = Q (updM M q (.lst (l ++ [v]))) := by
  simp only [rdSetL, h, List.length_append, List.length_singleton, ixN_last, set_last]
theorem rmAppend_ref {M : Store} {q : Addr} {l : List D} {d : D} {Q : D → Store → Prop} (h : M q = some (.lst l)) : rmAppend (.ref q) [d] M Q = (l.length < sizeLine ∧ Q .non (updM M q (.lst (l ++ [d])))) := by
  simp only [rmAppend, h]
theorem isLM_ref {M : Store} {q : Addr} {l : List D} (h : M q = some (.lst l)) : isLM M (.ref q) = True := by
  simp only [isLM, h]
theorem toPM_ref {M : Store} {q : Addr} {L : PrL} (h : M q = some (.lst (L.map rngD))) : toPM M (.ref q) = some (.list (L.map encP)) := by
  simp only [toPM, asL, h, toPs_pairs, Option.map_some]
theorem toPM_lst {M : Store} {L : PrL} : toPM M (.lst (L.map rngD)) = some (.list (L.map encP)) := by
  simp only [toPM, asL, toPs_pairs, Option.map_some]
theorem toPM_tup {M : Store} {L : PrL} : toPM M (.tup (L.map rngD)) = some (.tuple (L.map encP)) := by
  show toP (.tup (L.map rngD)) = _
  rw [toP, toPs_pairs]
  rfl
theorem rdEq_ref {M : Store} {q : Addr} {L L' : PrL} {neg : Bool} {Q : D → Store → Prop} (h : M q = some (.lst (L.map rngD))) : rdEq neg (.ref q) (.lst (L'.map rngD)) M Q = Q (.bl (neg != decide (L = L'))) M := by
  simp only [rdEq, toPM_ref h, toPM_lst, PyData.eqv, eqv_pairs, okP_list, true_and]
theorem rdEq_refN {M : Store} {q : Addr} {L : PrL} {neg : Bool} {Q : D → Store → Prop} (h : M q = some (.lst (L.map rngD))) : rdEq neg (.ref q) (.lst []) M Q = Q (.bl (neg != decide (L = []))) M := rdEq_ref (L' := []) h
theorem rdEq_tup {M : Store} {L L' : PrL} {neg : Bool} {Q : D → Store → Prop} : rdEq neg (.tup (L.map rngD)) (.tup (L'.map rngD)) M Q = Q (.bl (neg != decide (L = L'))) M := by
  simp only [rdEq, toPM_tup, PyData.eqv, eqv_pairs, okP_tuple, true_and]
theorem subM_upd {M : Store} {p q : Addr} {m n : MO} (hq : M q = none) (hpq : p ≠ q) : SubM (updM M p m) (updM (updM M q n) p m) := fun a k e => by
  by_cases ha : a = p
  · subst ha
    rw [updM_same] at e ⊢
    exact e
  · rw [updM_ne ha] at e ⊢
    have : a ≠ q := by
      rintro rfl
      rw [hq] at e
      cases e
    rw [updM_ne this]
    exact e
theorem rdIx_rng0 {M : Store} {x : Int × Int} {Q : D → Store → Prop} : rdIx (rngD x) (.int 0) M Q = Q (.int x.1) M := by
  simp [rdIx, rngD, asS, ixN]
theorem rdIx_rng1 {M : Store} {x : Int × Int} {Q : D → Store → Prop} : rdIx (rngD x) (.int 1) M Q = Q (.int x.2) M := by
  simp [rdIx, rngD, asS, ixN]
theorem le_line {n : Nat} (h : n ≤ 1000000) : (n ≤ sizeLine) = True := by
  rw [sizeLine_eq]
  exact eq_true (by omega)
theorem lt_line {n : Nat} (h : n ≤ 1000000) : (n < sizeLine) = True := by
  rw [sizeLine_eq]
  exact eq_true (by omega)
/-! ### whole numbers -/
section
variable {M : Store} {Q : D → Store → Prop} {i j : Int}
theorem rdAdd_int : rdAdd (.int i) (.int j) M Q = Q (.int (i + j)) M := rfl
theorem rdSub_int : rdSub (.int i) (.int j) M Q = Q (.int (i - j)) M := by simp [rdSub, rdI]
theorem rdMul_int : rdMul (.int i) (.int j) M Q = ((CMul i j ∨ CMulW i j) ∧ Q (.int (i * j)) M) := rfl
theorem rdMod_int : rdMod (.int i) (.int j) M Q = (0 < j ∧ Q (.int (i % j)) M) := rfl
theorem rdDiv_int : rdDiv (.int i) (.int j) M Q = (CDivW i j ∧ Q (.int (i / j)) M) := rfl
theorem rdPow_int : rdPow (.int i) (.int j) M Q = (CPow i j ∧ Q (.int (i ^ j.toNat)) M) := rfl
theorem rdCmp_int {p : Int → Int → Bool} : rdCmp p (.int i) (.int j) M Q = Q (.bl (p i j)) M := by simp [rdCmp, rdI]
theorem rdEq_int {neg : Bool} : rdEq neg (.int i) (.int j) M Q = Q (.bl (neg != decide (i = j))) M := rfl
theorem rcMax_int : rcMax [.int i, .int j] M Q = Q (.int (max i j)) M := by
  show Q (.int (if j > i then j else i)) M = _
  have : (if j > i then j else i) = max i j := by split <;> omega
  rw [this]
theorem rcMin_int : rcMin [.int i, .int j] M Q = Q (.int (min i j)) M := by
  show Q (.int (if j < i then j else i)) M = _
  have : (if j < i then j else i) = min i j := by split <;> omega
  rw [this]
end
/-! ### comprehensions, their results -/
theorem dLc_mapA {L : Store → Prop} {g : DTG} {te : DTE} {p : Addr} {ρ : Ro} {f : D → D} {M : Store} {Q : List D → Store → Prop} (hp : M p = none) (hL : ∀ acc, L (updM M p (.lst acc))) :
    ∀ (ds acc : List D), (∀ d ∈ ds, ∀ acc Q, Q (f d) (updM M p (.lst acc)) → g d ρ (updM M p (.lst acc)) fun ρ2 M2 => te ρ2 M2 Q) → acc.length + ds.length ≤ sizeLine → Q (acc ++ ds.map f) M → dLcLoop L g dYes te p ρ ds acc M Q
  | [], acc, _, _, q => ⟨hL acc, by simpa using q⟩
  | d :: ds, acc, h, hl, q => by
    refine ⟨hL acc, ?_⟩
    simp only [dYes, if_true]
    rw [List.length_cons] at hl
    refine h d List.mem_cons_self acc _ ⟨M, rfl, hp, by omega, dLc_mapA hp hL ds (acc ++ [f d]) (fun d hd => h d (List.mem_cons_of_mem _ hd)) ?_ ?_⟩
    · rw [List.length_append, List.length_singleton]
      omega
    · rw [List.append_assoc]
      simpa using q
theorem dLc_filt {L : Store → Prop} {g : DTG} {tt : DTT} {te : DTE} {p : Addr} {ρ : Ro} {c : D → Bool} {f : D → D} {M : Store} {Q : List D → Store → Prop} (hp : M p = none) (hL : ∀ acc, L (updM M p (.lst acc))) :
    ∀ (ds acc : List D), (∀ d ∈ ds, ∀ acc (Kt : D → Store → Prop) (Kf : Store → Prop), (c d = true → Kt (f d) (updM M p (.lst acc))) → (c d = false → Kf (updM M p (.lst acc))) → g d ρ (updM M p (.lst acc)) fun ρ2 M2 => tt ρ2 M2 fun b M3 => if b = true then te ρ2 M3 Kt else Kf M3) →
      acc.length + ds.length ≤ sizeLine → Q (acc ++ (ds.filter c).map f) M → dLcLoop L g tt te p ρ ds acc M Q
  | [], acc, _, _, q => ⟨hL acc, by simpa using q⟩
  | d :: ds, acc, h, hl, q => by
    refine ⟨hL acc, ?_⟩
    rw [List.length_cons] at hl
    refine h d List.mem_cons_self acc _ _ (fun hc => ⟨M, rfl, hp, by omega, dLc_filt hp hL ds (acc ++ [f d]) (fun d hd => h d (List.mem_cons_of_mem _ hd)) ?_ ?_⟩) (fun hc => ⟨M, rfl, hp, dLc_filt hp hL ds acc (fun d hd => h d (List.mem_cons_of_mem _ hd)) (by omega) ?_⟩)
    · rw [List.length_append, List.length_singleton]
      omega
    · rw [List.append_assoc]
      simpa [List.filter_cons, hc] using q
    · simpa [List.filter_cons, hc] using q
theorem dLc2_map {L : Store → Prop} {g : DTG} {ti1 : DTI} {g1 : DTG} {te : DTE} {vs1 : List Nat} {p : Addr} {ρ : Ro} {ρf : D → Ro} {f : D → D → D} {ds1 : List D} {M : Store} {Q : List D → Store → Prop} (hp : M p = none) (hL : ∀ acc, L (updM M p (.lst acc))) :
    ∀ (ds acc : List D), (∀ d ∈ ds, ∀ acc (R : Ro → List D → (Store → Prop) → Store → Prop), (∀ L1 : Store → Prop, (∀ acc, L1 (updM M p (.lst acc))) → R (ρf d) ds1 L1 (updM M p (.lst acc))) → g d ρ (updM M p (.lst acc)) fun ρ2 M2 => ti1 ρ2 M2 (R ρ2)) →
      (∀ d ∈ ds, ∀ e ∈ ds1, ∀ acc Q, Q (f d e) (updM M p (.lst acc)) → g1 e (wipeR (ρf d) vs1) (updM M p (.lst acc)) fun ρ2 M2 => te ρ2 M2 Q) → acc.length + ds.length * ds1.length ≤ sizeLine → Q (acc ++ ds.flatMap fun d => ds1.map (f d)) M → dLc2Loop L g dYes ti1 g1 dYes te vs1 p ρ ds acc M Q
  | [], acc, _, _, _, q => ⟨hL acc, by simpa using q⟩
  | d :: ds, acc, h, hi, hl, q => by
    refine ⟨hL acc, ?_⟩
    simp only [dYes, if_true]
    rw [List.length_cons, Nat.add_mul, Nat.one_mul] at hl
    refine h d List.mem_cons_self acc _ fun L1 hL1 => ⟨M, rfl, hp, ?_⟩
    refine dLc_mapA (f := f d) hp hL1 ds1 acc (hi d List.mem_cons_self) (by omega) ?_
    refine dLc2_map hp hL ds _ (fun d hd => h d (List.mem_cons_of_mem _ hd)) (fun d hd => hi d (List.mem_cons_of_mem _ hd)) ?_ ?_
    · rw [List.length_append, List.length_map]
      omega
    · rw [List.append_assoc]
      simpa using q
theorem toBs_map' {α : Type} (f : α → D) (b : α → Bool) (h : ∀ x, f x = .bl (b x)) {l : List α} : toBs (l.map f) = some (l.map b) := by
  induction l with
  | nil => rfl
  | cons x l ih => simp only [List.map_cons, h, toBs, ih, Option.map_some]
/-! ### readings, step by step -/
def mB (x : D) (M : Store) (Qb : Bool → Store → Prop) : Prop := match x with
  | .bl b => Qb b M
  | _ => False
def mOk (c f : Str) (x : D) (M : Store) : Prop := match asO M c x with
  | some fs => fs.lookup f = none
  | none => False
section
variable {E : DEnds} {ρ : Ro} {M : Store} {Q : D → Store → Prop} {Qb : Bool → Store → Prop} {Qa : List D → Store → Prop} {t u : DTS} {te ta tb : DTE} {tt tu : DTT} {tas : DTA} {g : DTG} {ti : DTI} {x d : D} {i j : Nat} {rd : DR2} {tr : DTr} {rc : DCl} {gs : DTGs} {Qr : Ro → Store → Prop} {R : List D → (Store → Prop) → Store → Prop} {tgs : DTGs}
theorem s_seq (h : t { E with nx := u E } ρ M) : dSeq t u E ρ M := h
theorem s_asg (h : te ρ M fun x M1 => g x ρ M1 E.nx) : dAsg te g E ρ M := h
theorem s_name (h : Qr (ρ.set i (some x)) M) : dgName i x ρ M Qr := h
theorem s_next (h : E.nx ρ M) : dNext E ρ M := h
theorem s_ret (h : te ρ M E.rt) : dRet te E ρ M := h
theorem s_retN (h : E.rt .non M) : dRetN E ρ M := h
theorem s_drop (h : te ρ M fun _ M1 => E.nx ρ M1) : dDrop te E ρ M := h
theorem s_if (h : tt ρ M fun b M1 => if b = true then t E ρ M1 else u E ρ M1) : dIf tt t u E ρ M := h
theorem s_for (h : ti ρ M fun ds L M1 => dLoop L g t ds E ρ M1) : dFor ti g t E ρ M := h
theorem s_and (h : tt ρ M fun b M1 => if b = true then tu ρ M1 Qb else Qb false M1) : dAnd tt tu ρ M Qb := h
theorem s_or (h : tt ρ M fun b M1 => if b = true then Qb true M1 else tu ρ M1 Qb) : dOr tt tu ρ M Qb := h
theorem s_not (h : tt ρ M fun b M1 => Qb (!b) M1) : dNot tt ρ M Qb := h
theorem s_B (h : te ρ M fun x M1 => mB x M1 Qb) : dB te ρ M Qb := h
theorem s_mB {b : Bool} (h : Qb b M) : mB (.bl b) M Qb := h
theorem s_meth {c f : Str} {sp : DSp} {W : DWX} {dfl : List D} (h : te ρ M fun x M1 => mOk c f x M1 ∧ tas ρ M1 fun ds M2 => sp (x :: (ds ++ dfl)) M2 Q fun c fs M3 => W c fs ρ M3) : dMeth c f sp W dfl te tas ρ M Q := h
theorem s_ite {c : Bool} {A B : Prop} (h1 : c = true → A) (h2 : c = false → B) : if c = true then A else B := by
  cases c
  · exact iteF (h2 rfl)
  · exact iteT (h1 rfl)
theorem s_iteT {c : Bool} {A B : Prop} (hc : c = true) (h : A) : if c = true then A else B := s_ite (fun _ => h) fun e => by rw [hc] at e; cases e
theorem s_iteF {c : Bool} {A B : Prop} (hc : c = false) (h : B) : if c = true then A else B := s_ite (fun e => by rw [hc] at e; cases e) fun _ => h
theorem s_Tr (h : te ρ M fun x M1 => tr x M1 Qb) : dTr tr te ρ M Qb := h
theorem s_op (h : ta ρ M fun x M1 => tb ρ M1 fun y M2 => rd x y M2 Q) : dOp rd ta tb ρ M Q := h
theorem s_var (h : ρ[i]? = some (some d)) (q : Q d M) : dVar i ρ M Q := by
  show (match ρ[i]? with
    | some (some d) => Q d M
    | _ => False)
  rw [h]
  exact q
theorem s_c (q : Q x M) : dC x ρ M Q := q
theorem s_ifE (h : tt ρ M fun b M1 => if b = true then ta ρ M1 Q else tb ρ M1 Q) : dIfE tt ta tb ρ M Q := h
theorem s_andV (h : ta ρ M fun x M1 => tr x M1 fun b M2 => if b = true then tb ρ M2 Q else Q x M2) : dAndV tr ta tb ρ M Q := h
theorem s_orV (h : ta ρ M fun x M1 => tr x M1 fun b M2 => if b = true then Q x M2 else tb ρ M2 Q) : dOrV tr ta tb ρ M Q := h
theorem s_notV (h : ta ρ M fun x M1 => tr x M1 fun b M2 => Q (.bl (!b)) M2) : dNotV tr ta ρ M Q := h
theorem s_b1 (h : tas ρ M fun ds M1 => rc ds M1 Q) : dB1 rc tas ρ M Q := h
theorem s_cons (h : ta ρ M fun x M1 => tas ρ M1 fun xs M2 => Qa (x :: xs) M2) : daCons ta tas ρ M Qa := h
theorem s_nil (h : Qa [] M) : daNil ρ M Qa := h
theorem s_tup (h : tas ρ M fun ds M1 => ds.length ≤ sizeLine ∧ Q (.tup ds) M1) : dTup tas ρ M Q := h
theorem s_lst (h : tas ρ M fun ds M1 => ds.length ≤ sizeLine ∧ Q (.lst ds) M1) : dLst tas ρ M Q := h
theorem s_lstM (h : tas ρ M fun ds M1 => ds.length ≤ sizeLine ∧ ∀ p, M1 p = none → Q (.ref p) (updM M1 p (.lst ds))) : dLstM tas ρ M Q := h
theorem s_call {sp : DSp} {W : DWX} {dfl : List D} (h : tas ρ M fun ds M1 => sp (ds ++ dfl) M1 Q fun c fs M2 => W c fs ρ M2) : dCall sp W dfl tas ρ M Q := h
theorem s_par (h : ta ρ M fun x M1 => tb ρ M1 fun y M2 => E.nx ((ρ.set i (some x)).set j (some y)) M2) : dPar i j (daCons ta (daCons tb daNil)) E ρ M := h
theorem s_item {ds : List D} (h : te ρ M fun x M1 => match asS M1 x with
  | some ds => R ds (Held x ds) M1
  | none => False) : dItem te ρ M R := h
theorem s_neg {n : Int} (h : te ρ M fun x M1 => match x with
  | .int n => Q (.int (-n)) M1
  | _ => False) : dNeg te ρ M Q := h
theorem s_trB {b : Bool} (h : Qb b M) : trP (.bl b) M Qb := h
end
theorem s_absS {E : DEnds} {ρ : Ro} {M : Store} {t u : DTS} (h : ∀ ρ', ρ' = ρ → dSeq t u E ρ' M) : dSeq t u E ρ M := h ρ rfl
theorem s_seqN {E : DEnds} {ρ ρ' : Ro} {M : Store} {t u : DTS} (e : ρ = ρ') (h : t { E with nx := u E } ρ' M) : dSeq t u E ρ M := by rw [e]; exact h
theorem s_re {E : DEnds} {ρ ρ' : Ro} {M : Store} {t : DTS} (e : ρ = ρ') (h : t E ρ' M) : t E ρ M := by rw [e]; exact h
theorem s_absT {E : DEnds} {ρ : Ro} {M : Store} {t : DTS} (h : ∀ ρ', ρ' = ρ → t E ρ' M) : t E ρ M := h ρ rfl
theorem s_abs {E : DEnds} {ρ : Ro} {M : Store} {t : DTS} {k : Nat} {v : D} (hk : k < ρ.length) (h : ∀ ρ' : Ro, ρ'.length = ρ.length → (∀ i, i ≠ k → ρ'[i]? = ρ[i]?) → ρ'[k]? = some (some v) → t E ρ' M) : t E (ρ.set k (some v)) M :=
  h _ (by rw [List.length_set]) (fun i hi => List.getElem?_set_ne (Ne.symm hi)) (List.getElem?_set_self hk)
/-- a local that holds a list: what is known of it -/
theorem s_absL {E : DEnds} {ρ : Ro} {M : Store} {t : DTS} {k : Nat} {xs : List D} (Pp : List D → Prop) (hk : k < ρ.length) (hp : Pp xs) (h : ∀ (ρ' : Ro) (ys : List D), Pp ys → ρ'.length = ρ.length → (∀ i, i ≠ k → ρ'[i]? = ρ[i]?) → ρ'[k]? = some (some (.lst ys)) → t E ρ' M) : t E (ρ.set k (some (.lst xs))) M :=
  s_abs hk fun ρ' a b c => h ρ' xs hp a b c
theorem s_addL {M : Store} {xs ys : List D} {Q : D → Store → Prop} (h1 : xs.length + ys.length ≤ sizeLine) (h2 : Q (.lst (xs ++ ys)) M) : rdAdd (.lst xs) (.lst ys) M Q := ⟨h1, h2⟩
theorem s_absLS {E : DEnds} {ρ : Ro} {M : Store} {t u : DTS} {k : Nat} {xs : List D} (Pp : List D → Prop) (hk : k < ρ.length) (hp : Pp xs) (h : ∀ (ρ' : Ro) (ys : List D), Pp ys → ρ'.length = ρ.length → (∀ i, i ≠ k → ρ'[i]? = ρ[i]?) → ρ'[k]? = some (some (.lst ys)) → dSeq t u E ρ' M) : dSeq t u E (ρ.set k (some (.lst xs))) M :=
  s_absL (t := dSeq t u) Pp hk hp h
theorem s_absLR {E : DEnds} {ρ : Ro} {M : Store} {t : DTE} {k : Nat} {xs : List D} (Pp : List D → Prop) (hk : k < ρ.length) (hp : Pp xs) (h : ∀ (ρ' : Ro) (ys : List D), Pp ys → ρ'.length = ρ.length → (∀ i, i ≠ k → ρ'[i]? = ρ[i]?) → ρ'[k]? = some (some (.lst ys)) → dRet t E ρ' M) : dRet t E (ρ.set k (some (.lst xs))) M :=
  s_absL (t := dRet t) Pp hk hp h
theorem s_lc {ti : DTI} {g : DTG} {tt : DTT} {te : DTE} {vs : List Nat} {ρ : Ro} {M : Store} {Q : D → Store → Prop} (h : ti ρ M fun ds L M1 => ∀ p, M1 p = none → dLcLoop L g tt te p (wipeR ρ vs) ds [] M1 fun out M2 => Q (.lst out) M2) : dLc ti g tt te vs ρ M Q := h
theorem s_itemL {i : Nat} {ρ : Ro} {M : Store} {ds : List D} {R : List D → (Store → Prop) → Store → Prop} (h : ρ[i]? = some (some (.lst ds))) (k : R ds (fun _ => True) M) : dItem (dVar i) ρ M R := by
  simp only [dItem, dVar, h, asS, asR, asL]
  exact k
theorem s_ix0 {x y : D} {M : Store} {Q : D → Store → Prop} (q : Q x M) : rdIx (.tup [x, y]) (.int 0) M Q := by
  simp [rdIx, asS, ixN]
  exact q
theorem s_ix1 {x y : D} {M : Store} {Q : D → Store → Prop} (q : Q y M) : rdIx (.tup [x, y]) (.int 1) M Q := by
  simp [rdIx, asS, ixN]
  exact q
theorem s_eqNil {neg : Bool} {M : Store} {Q : D → Store → Prop} (q : Q (.bl (neg != true)) M) : rdEq neg (.lst []) (.lst []) M Q := by
  have ok : okP (.list []) := okP_list []
  simp only [rdEq, toPM, asL, toPs, Option.map_some, PyData.eqv, PyData.eqvAll]
  exact ⟨ok, ok, q⟩
theorem s_eqB {neg x y : Bool} {M : Store} {Q : D → Store → Prop} (q : Q (.bl (neg != (x == y))) M) : rdEq neg (.bl x) (.bl y) M Q := by
  have ok : ∀ b, okP (.bool b) := fun b => by simp [okP, SeqAt.shaped, PyData.canLay0, PyData.depth]
  show (match toPM M (.bl x), toPM M (.bl y) with
    | some d, some e => okP d ∧ okP e ∧ Q (.bl (neg != PyData.eqv d e)) M
    | _, _ => False)
  simp only [toPM, asL, toP, PyData.eqv]
  exact ⟨ok x, ok y, q⟩
theorem s_addI {i j : Int} {M : Store} {Q : D → Store → Prop} (q : Q (.int (i + j)) M) : rdAdd (.int i) (.int j) M Q := q
theorem s_subI {i j : Int} {M : Store} {Q : D → Store → Prop} (q : Q (.int (i - j)) M) : rdSub (.int i) (.int j) M Q := by rw [rdSub_int]; exact q
theorem s_cmpI {p : Int → Int → Bool} {i j : Int} {M : Store} {Q : D → Store → Prop} (q : Q (.bl (p i j)) M) : rdCmp p (.int i) (.int j) M Q := by rw [rdCmp_int]; exact q
theorem s_eqI {neg : Bool} {i j : Int} {M : Store} {Q : D → Store → Prop} (q : Q (.bl (neg != decide (i = j))) M) : rdEq neg (.int i) (.int j) M Q := q
theorem s_minI {i j : Int} {M : Store} {Q : D → Store → Prop} (q : Q (.int (min i j)) M) : rcMin [.int i, .int j] M Q := by rw [rcMin_int]; exact q
theorem s_maxI {i j : Int} {M : Store} {Q : D → Store → Prop} (q : Q (.int (max i j)) M) : rcMax [.int i, .int j] M Q := by rw [rcMax_int]; exact q
end DL


set_option Elab.async false
set_option linter.all false
set_option maxRecDepth 100000
set_option maxHeartbeats 400000
namespace K
open PySem PySem.Spec PyProof.Rows L2 DL
def isIntD (v : D) (l : Int) (mo : D) : Bool := match v with
  | .int i => decide (l ≤ i) && (match mo with
    | .int m => decide (i ≤ m)
    | _ => true)
  | _ => false
def isMost (d : D) : Prop := d = .non ∨ ∃ m, d = .int m
def sp_is_integer : DSp := fun ds M P E => ∃ v l mo, ds = [v, .int l, mo] ∧ (tyD M v).isSome = true ∧ isMost mo ∧ P (.bl (isIntD v l mo)) M
def isRangeD (v : D) (l : Int) (mo : D) : Bool := match v with
  | .tup [.int a, b] => isIntD (.int a) l mo && isIntD b (if l < a then a else l) mo
  | _ => false
/-- a range's place has a known kind, and so have its two ends -/
def kindR (M : Store) (v : D) : Prop := (tyD M v).isSome = true ∧ match v with
  | .tup [a, b] => (tyD M a).isSome = true ∧ (tyD M b).isSome = true
  | _ => True
def sp_is_range : DSp := fun ds M P E => ∃ v l mo, ds = [v, .int l, mo] ∧ kindR M v ∧ isMost mo ∧ P (.bl (isRangeD v l mo)) M
def timesO (L : PrL) : List (Str × D) := [("ranges", .tup (L.map rngD))]
def objT (L : PrL) : D := .obj "Times" (timesO L)
def sp_Times_init : DSp := fun ds M P E => ∃ (p : Addr) (r : D) (L : PrL), ds = [.ref p, r] ∧ M p = some (.ins "Times" []) ∧ asR M r = some (L.map rngD) ∧ okR L ∧ L.length ≤ 100000 ∧ P .non (updM M p (.ins "Times" (timesO (norm L))))
def sp_Times_eq : DSp := fun ds M P E => ∃ (a : PrL) (d : D), ds = [objT a, d] ∧ ((∃ b : PrL, d = objT b ∧ P (.bl (decide (a = b))) M) ∨ ((∃ n, tyD M d = some (.b n)) ∧ P (.bl false) M))
abbrev Feed : Type := Int × Int
def feedL (f : Feed) : MO := .lst [.int f.1, .int f.2]
def sp_law_feed : DSp := fun ds M P E => ∃ (ns : List Int) (k : Int), ds = [.fro (ns.map .int), .int k] ∧ 0 ≤ k ∧ k < 2 ^ 62 ∧ ∀ p f, M p = none → P (.ref p) (updM M p (feedL f))
def sp_law_take : DSp := fun ds M P E => ∃ (p : Addr) (f : Feed) (n : Int), ds = [.ref p, .int n] ∧ M p = some (feedL f) ∧ 0 < n ∧ n < 2 ^ 64 ∧ ∀ r f', 0 ≤ r → r < n → P (.int r) (updM M p (feedL f'))
def sp_law_pick : DSp := fun ds M P E => ∃ (p : Addr) (f : Feed) (xs : List D), ds = [.ref p, .lst xs] ∧ M p = some (feedL f) ∧ xs ≠ [] ∧ xs.length < 2 ^ 62 ∧ ∀ x f', x ∈ xs → P x (updM M p (feedL f'))
def okL (n : Nat) (L : PrL) : Prop := L.length ≤ n ∧ ∀ x ∈ L, 0 ≤ x.1 ∧ x.1 ≤ x.2 ∧ x.2 ≤ 2 ^ 38
def sp_law_pairs : DSp := fun ds M P E => ∃ (p : Addr) (f : Feed) (m : Int) (n : Nat), ds = [.ref p, .int m, .int n] ∧ n ≤ 8 ∧ M p = some (feedL f) ∧ 0 ≤ m ∧ m ≤ 10 ^ 9 ∧ ∀ L f', okL n L → P (.lst (L.map rngD)) (updM M p (feedL f'))
def sp_law_joined : DSp := fun ds M P E => ∃ L : PrL, ds = [.lst (L.map rngD)] ∧ okR L ∧ L.length ≤ 100000 ∧ P (.tup ((norm L).map rngD)) M
def okT (L : PrL) : Prop := Canon L ∧ ∀ x ∈ L, 0 ≤ x.1
def sp_Times_bool : DSp := fun ds M P E => ∃ a : PrL, ds = [objT a] ∧ P (.bl (!a.isEmpty)) M
def sp_Times_contains : DSp := fun ds M P E => ∃ (a : PrL) (t : Int), ds = [objT a, .int t] ∧ a.length ≤ 100000 ∧ ∀ b : Bool, (b = true ↔ inRng a t) → P (.bl b) M
def sp_Times_or : DSp := fun ds M P E => ∃ a b : PrL, ds = [objT a, objT b] ∧ okT a ∧ okT b ∧ a.length + b.length ≤ 100000 ∧ ∀ L : PrL, okT L → L.length ≤ a.length + b.length → (∀ t, inRng L t ↔ inRng a t ∨ inRng b t) → P (objT L) M
def sp_Times_and : DSp := fun ds M P E => ∃ a b : PrL, ds = [objT a, objT b] ∧ okT a ∧ okT b ∧ a.length * b.length ≤ 100000 ∧ ∀ L : PrL, okT L → L.length ≤ a.length * b.length → (∀ t, inRng L t ↔ inRng a t ∧ inRng b t) → P (objT L) M
def inSum (a b : PrL) (t : Int) : Prop := ∃ x y, inRng a x ∧ inRng b y ∧ t = x + y
def sp_Times_add : DSp := fun ds M P E => ∃ a b : PrL, ds = [objT a, objT b] ∧ okT a ∧ okT b ∧ a.length * b.length ≤ 100000 ∧ ∀ L : PrL, okT L → L.length ≤ a.length * b.length → (∀ t, inRng L t ↔ inSum a b t) → P (objT L) M
def leastD : PrL → D
  | [] => .non
  | x :: _ => .int x.1
def greatD (L : PrL) : D := match L.getLast? with
  | some x => .int x.2
  | none => .non
def sp_Times_least : DSp := fun ds M P E => ∃ a : PrL, ds = [objT a] ∧ P (leastD a) M
def sp_Times_greatest : DSp := fun ds M P E => ∃ a : PrL, ds = [objT a] ∧ P (greatD a) M
def sp_Times_up_to : DSp := fun ds M P E => ∃ (a : PrL) (u : Int), ds = [objT a, .int u] ∧ okT a ∧ a.length ≤ 100000 ∧ ∀ L : PrL, okT L → L.length ≤ a.length → (∀ t, inRng L t ↔ inRng a t ∧ t ≤ u) → P (objT L) M
def sp_Times_since : DSp := fun ds M P E => ∃ (a : PrL) (u : Int), ds = [objT a, .int u] ∧ okT a ∧ a.length ≤ 100000 ∧ ∀ L : PrL, okT L → L.length ≤ a.length → (∀ t, inRng L t ↔ inRng a t ∧ u ≤ t) → P (objT L) M
def sp_Times_is_within : DSp := fun ds M P E => ∃ a b : PrL, ds = [objT a, objT b] ∧ okT a ∧ okT b ∧ a.length * b.length ≤ 100000 ∧ ∀ r : Bool, (r = true ↔ ∀ t, inRng a t → inRng b t) → P (.bl r) M
def sp_law_has : DSp := fun ds M P E => ∃ (d : D) (L : PrL) (t : Int), ds = [d, .int t] ∧ (d = .lst (L.map rngD) ∨ d = .tup (L.map rngD)) ∧ L.length ≤ 100000 ∧ ∀ b : Bool, (b = true ↔ inRng L t) → P (.bl b) M
def endsX (L : PrL) (k : Int) : Prop := ∃ x ∈ L, k = x.1 - 1 ∨ k = x.1 ∨ k = x.1 + 1 ∨ k = x.2 - 1 ∨ k = x.2 ∨ k = x.2 + 1
def endsAt (L : PrL) (k : Int) : Prop := k = 0 ∨ k = 1 ∨ endsX L k
def sp_law_ends : DSp := fun ds M P E => ∃ L : PrL, ds = [.lst (L.map rngD)] ∧ L.length ≤ 600 ∧ ∀ out : List Int, out.Pairwise (· < ·) → (∀ k, k ∈ out ↔ endsAt L k) → out.length ≤ 2 + 6 * L.length → P (.lst (out.map .int)) M
def sp_law_set : DSp := fun ds M P E => ∃ (p : Addr) (f : Feed) (L : PrL), ds = [.ref p, .lst (L.map rngD)] ∧ M p = some (feedL f) ∧ okR L ∧ L.length ≤ 1000 ∧ ∀ f', P (objT (norm L)) (updM M p (feedL f'))

/-- sets of outcomes as a law lists them -/
structure Pt where
  a : PrL
  b : PrL
  n : Bool
def okS (L : PrL) : Prop := L.length ≤ 50 ∧ ∀ x ∈ L, 0 ≤ x.1 ∧ x.1 ≤ x.2 ∧ x.2 ≤ 40
structure okPt (x : Pt) : Prop where
  a : okS x.a
  b : okS x.b
def ptL (x : Pt) : List D := [.lst (x.a.map rngD), .lst (x.b.map rngD), .bl x.n]
def isPt (d : D) (x : Pt) : Prop := d = .tup (ptL x) ∨ d = .lst (ptL x)
/-- outcomes: none for never, else whether ok, and when -/
abbrev Rp : Type := Option (Bool × Int)
def wordS (b : Bool) : Str := if b = true then "ok" else "fail"
def repD : Rp → D
  | none => .tup [.str "never"]
  | some (b, t) => .tup [.str (wordS b), .int t]
structure Oc where
  a : PrL
  b : PrL
  n : Bool
deriving DecidableEq
def ocP (o : Oc) : D := .tup [.tup (o.a.map rngD), .tup (o.b.map rngD), .bl o.n]
def ocO (o : Oc) : List (Str × D) := [("ok", objT o.a), ("fail", objT o.b), ("never", .bl o.n), ("parts", ocP o)]
def objO (o : Oc) : D := .obj "Outcomes" (ocO o)
def memO (o : Oc) : Rp → Prop
  | none => o.n = true
  | some (true, t) => inRng o.a t
  | some (false, t) => inRng o.b t
structure okO (o : Oc) : Prop where
  a : okT o.a
  b : okT o.b
  la : o.a.length ≤ 50
  lb : o.b.length ≤ 50
def nO (x : Pt) : Oc := ⟨norm x.a, norm x.b, x.n⟩
def inB (L : PrL) (t : Int) : Bool := L.any fun x => decide (x.1 ≤ t) && decide (t ≤ x.2)
def timesOf (L : PrL) : List Int := ((List.range 41).map fun (n : Nat) => (n : Int)).filter (inB L)
def allR (x : Pt) : List Rp := ((timesOf x.a).map fun t => some (true, t)) ++ ((timesOf x.b).map fun t => some (false, t)) ++ (if x.n = true then [none] else [])
/-- the latest of some times, 0 if there is none -/
def lateOf (p : Int → Prop) (m : Int) : Prop := 0 ≤ m ∧ (∀ t, p t → t ≤ m) ∧ (m = 0 ∨ p m)
def sp_Outcomes_init : DSp := fun ds M P E => ∃ (p : Addr) (o : Oc), ds = [.ref p, objT o.a, objT o.b, .bl o.n] ∧ M p = some (.ins "Outcomes" []) ∧ P .non (updM M p (.ins "Outcomes" (ocO o)))
def sp_Outcomes_eq : DSp := fun ds M P E => ∃ (a : Oc) (d : D), ds = [objO a, d] ∧ ((∃ b : Oc, d = objO b ∧ P (.bl (decide (a = b))) M) ∨ ((∃ n, tyD M d = some (.b n)) ∧ P (.bl false) M))
def sp_Outcomes_contains : DSp := fun ds M P E => ∃ (o : Oc) (r : Rp), ds = [objO o, repD r] ∧ okO o ∧ ∀ b : Bool, (b = true ↔ memO o r) → P (.bl b) M
def sp_Outcomes_is_within : DSp := fun ds M P E => ∃ o o' : Oc, ds = [objO o, objO o'] ∧ okO o ∧ okO o' ∧ ∀ b : Bool, (b = true ↔ ∀ r, memO o r → memO o' r) → P (.bl b) M
def sp_Outcomes_worst : DSp := fun ds M P E => ∃ o : Oc, ds = [objO o] ∧ okO o ∧ (o.n = true → P .non M) ∧ (o.n = false → ∀ m, lateOf (fun t => inRng o.a t ∨ inRng o.b t) m → P (.int m) M)
def sp_law_ranges : DSp := fun ds M P E => ∃ (p : Addr) (f : Feed), ds = [.ref p] ∧ M p = some (feedL f) ∧ ∀ (L : PrL) (f' : Feed), L.length ≤ 3 → (∀ x ∈ L, 0 ≤ x.1 ∧ x.1 ≤ x.2 ∧ x.2 ≤ 25) → P (.lst (L.map rngD)) (updM M p (feedL f'))
def sp_law_listed : DSp := fun ds M P E => ∃ L : PrL, ds = [.lst (L.map rngD)] ∧ okS L ∧ P (.lst ((timesOf L).map .int)) M
def sp_law_single : DSp := fun ds M P E => ∃ L : PrL, ds = [.lst (L.map rngD)] ∧ okS L ∧ ∀ L' : PrL, okS L' → (∀ t, inRng L' t ↔ inRng L t) → P (.lst (L'.map rngD)) M
def sp_law_parts : DSp := fun ds M P E => ∃ (p : Addr) (f : Feed), ds = [.ref p] ∧ M p = some (feedL f) ∧ ∀ (x : Pt) (f' : Feed), okPt x → P (.tup (ptL x)) (updM M p (feedL f'))
def sp_law_all : DSp := fun ds M P E => ∃ (d : D) (x : Pt), ds = [d] ∧ isPt d x ∧ okPt x ∧ P (.lst ((allR x).map repD)) M
def sp_law_worst : DSp := fun ds M P E => ∃ (d : D) (x : Pt), ds = [d] ∧ isPt d x ∧ okPt x ∧ (x.n = true → P .non M) ∧ (x.n = false → ∀ m, lateOf (fun t => inRng x.a t ∨ inRng x.b t) m → P (.int m) M)
def sp_law_are_right : DSp := fun ds M P E => ∃ (d e : D) (x y : Pt), ds = [objO (nO x), objO (nO y), d, e] ∧ isPt d x ∧ isPt e y ∧ okPt x ∧ okPt y ∧ P (.bl true) M
def sp_law_asked_on : DSp := fun ds M P E => ∃ (d : D) (x : Pt) (es : List D), ds = [objO (nO x), d, .lst es] ∧ isPt d x ∧ okPt x ∧ es.length ≤ 10 ∧ (∀ e ∈ es, ∃ y, isPt e y ∧ okPt y) ∧ P (.bl true) M
def sp_law : DSp := fun ds M P E => ∃ ns : List Int, ds = [.fro (ns.map .int)] ∧ ns.length ≤ 63 ∧ ∀ M', P (.bl true) M'
/-- slots: 0=value 1=least 2=most -/
def t_is_integer (W : DWX) : DTS := dSeq (dIf (dOr (dNot (dB (dB1 rcIsi (daCons (dVar 0) (daCons (dC (.ty "int")) (daNil)))))) (dOr (dB (dB1 rcIsi (daCons (dVar 0) (daCons (dC (.ty "bool")) (daNil))))) (dB (dOp (rdCmp fun i j => decide (i < j)) (dVar 0) (dVar 1))))) (dRet (dC (.bl false))) (dNext)) (dRet (dOrV trP (dOp (rdIs false) (dVar 2) (dC .non)) (dOp (rdCmp fun i j => decide (i ≤ j)) (dVar 0) (dVar 2))))
/-- slots: 0=value 1=least 2=most -/
def t_is_range (W : DWX) : DTS := dSeq (dIf (dOr (dNot (dB (dB1 rcIsi (daCons (dVar 0) (daCons (dC (.ty "tuple")) (daNil)))))) (dB (dOp (rdEq true) (dB1 rcLen (daCons (dVar 0) (daNil))) (dC (.int 2))))) (dRet (dC (.bl false))) (dNext)) (dRet (dAndV trP (dCall sp_is_integer W [] (daCons (dOp rdIx (dVar 0) (dC (.int 0))) (daCons (dVar 1) (daCons (dVar 2) (daNil))))) (dCall sp_is_integer W [] (daCons (dOp rdIx (dVar 0) (dC (.int 1))) (daCons (dIfE (dB (dOp (rdCmp fun i j => decide (j < i)) (dOp rdIx (dVar 0) (dC (.int 0))) (dVar 1))) (dOp rdIx (dVar 0) (dC (.int 0))) (dVar 1)) (daCons (dVar 2) (daNil)))))))
/-- slots: 0=self 1=ranges 2=one 3=found 4=low 5=high -/
def t_Times_init (W : DWX) : DTS := dSeq (dIf (dOr (dNot (dB (dB1 rcIsi (daCons (dVar 1) (daCons (dC (.ty "list")) (daNil)))))) (dNot (dB (dB1 rcAll (daCons (dLc (dItem (dVar 1)) (dgName 2) (dYes) (dCall sp_is_range noW [.int 0, .non] (daCons (dVar 2) (daNil))) [2]) (daNil)))))) (dRaise0 W "BadRange") (dNext)) (dSeq (dAsg (dLstM (daNil)) (dgName 3)) (dSeq (dFor (dItem (dB1 rcSorted (daCons (dVar 1) (daNil)))) (dgTup 2 (dgCons (dgName 4) (dgCons (dgName 5) (dgNil)))) (dIf (dAnd (dB (dOp (rdEq true) (dVar 3) (dLst (daNil)))) (dB (dOp (rdCmp fun i j => decide (i ≤ j)) (dVar 4) (dOp rdAdd (dOp rdIx (dOp rdIx (dVar 3) (dNeg (dC (.int 1)))) (dC (.int 1))) (dC (.int 1)))))) (dAsg (dTup (daCons (dOp rdIx (dOp rdIx (dVar 3) (dNeg (dC (.int 1)))) (dC (.int 0))) (daCons (dB1 rcMax (daCons (dOp rdIx (dOp rdIx (dVar 3) (dNeg (dC (.int 1)))) (dC (.int 1))) (daCons (dVar 5) (daNil)))) (daNil)))) (dgSub (dVar 3) (dNeg (dC (.int 1))) rdSetL)) (dDrop (dMt rmAppend (dVar 3) (daCons (dTup (daCons (dVar 4) (daCons (dVar 5) (daNil)))) (daNil)))))) (dSetFld "Times" "ranges" (dVar 0) (dB1 rcTuple (daCons (dVar 3) (daNil))))))
/-- slots: 0=self 1=other -/
def t_Times_eq (W : DWX) : DTS := dRet (dAndV trP (dB1 rcIsi (daCons (dVar 1) (daCons (dC (.cls "Times")) (daNil)))) (dOp (rdEq false) (dFld "Times" "ranges" (dVar 0)) (dFld "Times" "ranges" (dVar 1))))
/-- slots: 0=self 1=time 2=low 3=high -/
def t_Times_contains (W : DWX) : DTS := dRet (dB1 rcAny (daCons (dLc (dItem (dFld "Times" "ranges" (dVar 0))) (dgTup 2 (dgCons (dgName 2) (dgCons (dgName 3) (dgNil)))) (dYes) (dChain (rdCmp fun i j => decide (i ≤ j)) (rdCmp fun i j => decide (i ≤ j)) (dVar 2) (dVar 1) (dVar 3)) [2, 3]) (daNil)))
/-- slots: 0=self 1=other 2=found 3=low 4=high 5=least 6=most -/
def t_Times_and (W : DWX) : DTS := dSeq (dAsg (dLstM (daNil)) (dgName 2)) (dSeq (dFor (dItem (dFld "Times" "ranges" (dVar 0))) (dgTup 2 (dgCons (dgName 3) (dgCons (dgName 4) (dgNil)))) (dFor (dItem (dFld "Times" "ranges" (dVar 1))) (dgTup 2 (dgCons (dgName 5) (dgCons (dgName 6) (dgNil)))) (dIf (dB (dOp (rdCmp fun i j => decide (i ≤ j)) (dB1 rcMax (daCons (dVar 3) (daCons (dVar 5) (daNil)))) (dB1 rcMin (daCons (dVar 4) (daCons (dVar 6) (daNil)))))) (dDrop (dMt rmAppend (dVar 2) (daCons (dTup (daCons (dB1 rcMax (daCons (dVar 3) (daCons (dVar 5) (daNil)))) (daCons (dB1 rcMin (daCons (dVar 4) (daCons (dVar 6) (daNil)))) (daNil)))) (daNil)))) (dNext)))) (dRet (dFrz (dMakeM "Times" sp_Times_init W [] (daCons (dVar 2) (daNil))))))
/-- slots: 0=self 1=other -/
def t_Times_is_within (W : DWX) : DTS := dRet (dOp (rdOwn false "Times" sp_Times_eq) (dOp (rdOwnB "Times" sp_Times_and) (dVar 0) (dVar 1)) (dVar 0))
/-- slots: 0=self 1=ok 2=fail 3=never -/
def t_Outcomes_init (W : DWX) : DTS := dSeq (dSetFld "Outcomes" "ok" (dVar 0) (dVar 1)) (dSeq (dSetFld "Outcomes" "fail" (dVar 0) (dVar 2)) (dSeq (dSetFld "Outcomes" "never" (dVar 0) (dVar 3)) (dSetFld "Outcomes" "parts" (dVar 0) (dTup (daCons (dFld "Times" "ranges" (dVar 1)) (daCons (dFld "Times" "ranges" (dVar 2)) (daCons (dVar 3) (daNil))))))))
/-- slots: 0=self 1=other -/
def t_Outcomes_eq (W : DWX) : DTS := dRet (dAndV trP (dB1 rcIsi (daCons (dVar 1) (daCons (dC (.cls "Outcomes")) (daNil)))) (dOp (rdEq false) (dFld "Outcomes" "parts" (dVar 0)) (dFld "Outcomes" "parts" (dVar 1))))
/-- slots: 0=self 1=outcome -/
def t_Outcomes_contains (W : DWX) : DTS := dSeq (dIf (dB (dOp (rdEq false) (dVar 1) (dC (.tup [.str "never"])))) (dRet (dFld "Outcomes" "never" (dVar 0))) (dNext)) (dRet (dOp (rdOwnIn false "Times" sp_Times_contains) (dOp rdIx (dVar 1) (dC (.int 1))) (dIfE (dB (dOp (rdEq false) (dOp rdIx (dVar 1) (dC (.int 0))) (dC (.str "ok")))) (dFld "Outcomes" "ok" (dVar 0)) (dFld "Outcomes" "fail" (dVar 0)))))
/-- slots: 0=self 1=other -/
def t_Outcomes_is_within (W : DWX) : DTS := dSeq (dIf (dAnd (dTr trP (dFld "Outcomes" "never" (dVar 0))) (dNot (dTr trP (dFld "Outcomes" "never" (dVar 1))))) (dRet (dC (.bl false))) (dNext)) (dRet (dAndV trP (dMeth "Times" "is_within" sp_Times_is_within W [] (dFld "Outcomes" "ok" (dVar 0)) (daCons (dFld "Outcomes" "ok" (dVar 1)) (daNil))) (dMeth "Times" "is_within" sp_Times_is_within W [] (dFld "Outcomes" "fail" (dVar 0)) (daCons (dFld "Outcomes" "fail" (dVar 1)) (daNil)))))
/-- slots: 0=self 1=low 2=high -/
def t_Outcomes_worst (W : DWX) : DTS := dSeq (dIf (dTr trP (dFld "Outcomes" "never" (dVar 0))) (dRet (dC .non)) (dNext)) (dRet (dB1 rcMax (daCons (dOp rdAdd (dLc (dItem (dOp rdAdd (dFld "Times" "ranges" (dFld "Outcomes" "ok" (dVar 0))) (dFld "Times" "ranges" (dFld "Outcomes" "fail" (dVar 0))))) (dgTup 2 (dgCons (dgName 1) (dgCons (dgName 2) (dgNil)))) (dYes) (dVar 2) [1, 2]) (dLst (daCons (dC (.int 0)) (daNil)))) (daNil))))
/-- slots: 0=script 1=k 2=seed 3=digits -/
def t_law_feed (W : DWX) : DTS := dSeq (dAsg (dOp rdIx (dOp rdAdd (dB1 rcList (daCons (dSlice (dVar 0) (doSome (dVar 1)) (doSome (dOp rdAdd (dVar 1) (dC (.int 1))))) (daNil))) (dLst (daCons (dOp rdAdd (dOp rdMul (dC (.int 71)) (dVar 1)) (dC (.int 23))) (daNil)))) (dC (.int 0))) (dgName 2)) (dSeq (dAsg (dB1 rcMax (daCons (dC (.int 0)) (daCons (dOp rdSub (dB1 rcAbs (daCons (dVar 2) (daNil))) (dOp rdPow (dC (.int 10)) (dC (.int 18)))) (daNil)))) (dgName 3)) (dRet (dLstM (daCons (dVar 3) (daCons (dOp rdMod (dOp rdAdd (dOp rdAdd (dOp rdMul (dOp rdMod (dB1 rcAbs (daCons (dVar 2) (daNil))) (dC (.int 1000003))) (dC (.int 7919))) (dOp rdMul (dC (.int 31)) (dVar 1))) (dC (.int 17))) (dC (.int 1000033))) (daNil))))))
/-- slots: 0=feed 1=size 2=digit -/
def t_law_take (W : DWX) : DTS := dSeq (dIf (dB (dOp (rdCmp fun i j => decide (j < i)) (dOp rdIx (dVar 0) (dC (.int 0))) (dC (.int 0)))) (dSeq (dAsg (dOp rdMod (dOp rdIx (dVar 0) (dC (.int 0))) (dVar 1)) (dgName 2)) (dSeq (dAsg (dOp rdDiv (dOp rdIx (dVar 0) (dC (.int 0))) (dVar 1)) (dgSub (dVar 0) (dC (.int 0)) rdSetL)) (dRet (dVar 2)))) (dNext)) (dSeq (dAsg (dOp rdMod (dOp rdAdd (dOp rdMul (dOp rdIx (dVar 0) (dC (.int 1))) (dC (.int 69069))) (dC (.int 12345))) (dC (.int 4294967311))) (dgSub (dVar 0) (dC (.int 1)) rdSetL)) (dRet (dOp rdMod (dOp rdDiv (dOp rdIx (dVar 0) (dC (.int 1))) (dC (.int 65536))) (dVar 1))))
/-- slots: 0=feed 1=choices -/
def t_law_pick (W : DWX) : DTS := dRet (dOp rdIx (dVar 1) (dCall sp_law_take W [] (daCons (dVar 0) (daCons (dB1 rcLen (daCons (dVar 1) (daNil))) (daNil)))))
/-- slots: 0=feed 1=found 2=turn 3=low -/
def t_law_ranges (W : DWX) : DTS := dSeq (dAsg (dLstM (daNil)) (dgName 1)) (dSeq (dFor (dRange1 (daCons (dCall sp_law_take W [] (daCons (dVar 0) (daCons (dC (.int 4)) (daNil)))) (daNil))) (dgName 2) (dSeq (dAsg (dCall sp_law_pick W [] (daCons (dVar 0) (daCons (dLst (daCons (dC (.int 0)) (daCons (dC (.int 1)) (daCons (dC (.int 2)) (daCons (dC (.int 3)) (daCons (dC (.int 5)) (daCons (dC (.int 8)) (daCons (dC (.int 12)) (daCons (dC (.int 20)) (daNil)))))))))) (daNil)))) (dgName 3)) (dDrop (dMt rmAppend (dVar 1) (daCons (dTup (daCons (dVar 3) (daCons (dOp rdAdd (dVar 3) (dCall sp_law_pick W [] (daCons (dVar 0) (daCons (dLst (daCons (dC (.int 0)) (daCons (dC (.int 0)) (daCons (dC (.int 1)) (daCons (dC (.int 2)) (daCons (dC (.int 5)) (daNil))))))) (daNil))))) (daNil)))) (daNil)))))) (dRet (dFrz (dVar 1))))
/-- slots: 0=ranges 1=found 2=low 3=high -/
def t_law_listed (W : DWX) : DTS := dSeq (dAsg (dLst (daNil)) (dgName 1)) (dSeq (dFor (dItem (dVar 0)) (dgTup 2 (dgCons (dgName 2) (dgCons (dgName 3) (dgNil)))) (dAsg (dOp rdAdd (dVar 1) (dListRg (dVar 2) (dOp rdAdd (dVar 3) (dC (.int 1))))) (dgName 1))) (dRet (dSortSet (dVar 1))))
/-- slots: 0=ranges 1=time -/
def t_law_single (W : DWX) : DTS := dRet (dRev (dLc (dItem (dCall sp_law_listed W [] (daCons (dVar 0) (daNil)))) (dgName 1) (dYes) (dTup (daCons (dVar 1) (daCons (dVar 1) (daNil)))) [1]))
/-- slots: 0=feed -/
def t_law_parts (W : DWX) : DTS := dRet (dTup (daCons (dCall sp_law_ranges W [] (daCons (dVar 0) (daNil))) (daCons (dCall sp_law_ranges W [] (daCons (dVar 0) (daNil))) (daCons (dOp (rdEq false) (dCall sp_law_take W [] (daCons (dVar 0) (daCons (dC (.int 2)) (daNil)))) (dC (.int 0))) (daNil)))))
/-- slots: 0=parts 1=found 2=time -/
def t_law_all (W : DWX) : DTS := dSeq (dAsg (dOp rdAdd (dLc (dItem (dCall sp_law_listed W [] (daCons (dOp rdIx (dVar 0) (dC (.int 0))) (daNil)))) (dgName 2) (dYes) (dTup (daCons (dC (.str "ok")) (daCons (dVar 2) (daNil)))) [2]) (dLc (dItem (dCall sp_law_listed W [] (daCons (dOp rdIx (dVar 0) (dC (.int 1))) (daNil)))) (dgName 2) (dYes) (dTup (daCons (dC (.str "fail")) (daCons (dVar 2) (daNil)))) [2])) (dgName 1)) (dRet (dOp rdAdd (dVar 1) (dOp rdMul (dLst (daCons (dTup (daCons (dC (.str "never")) (daNil))) (daNil))) (dB1 rcIntB (daCons (dOp rdIx (dVar 0) (dC (.int 2))) (daNil))))))
/-- slots: 0=parts -/
def t_law_worst (W : DWX) : DTS := dRet (dIfE (dTr trP (dOp rdIx (dVar 0) (dC (.int 2)))) (dC .non) (dB1 rcMax (daCons (dOp rdAdd (dOp rdAdd (dLst (daCons (dC (.int 0)) (daNil))) (dCall sp_law_listed W [] (daCons (dOp rdIx (dVar 0) (dC (.int 0))) (daNil)))) (dCall sp_law_listed W [] (daCons (dOp rdIx (dVar 0) (dC (.int 1))) (daNil)))) (daNil))))
/-- slots: 0=first 1=second 2=one 3=other 4=mine 5=yours 6=due 7=outcome -/
def t_law_are_right (W : DWX) : DTS := dSeq (dAsg (dTup (daCons (dCall sp_law_all W [] (daCons (dVar 2) (daNil))) (daCons (dCall sp_law_all W [] (daCons (dVar 3) (daNil))) (daNil)))) (dgTup 2 (dgCons (dgName 4) (dgCons (dgName 5) (dgNil))))) (dSeq (dIf (dOr (dB (dOp (rdEq true) (dOp (rdOwn false "Outcomes" sp_Outcomes_eq) (dVar 0) (dVar 1)) (dOp (rdEq false) (dVar 4) (dVar 5)))) (dB (dOp (rdEq false) (dOp (rdOwn true "Outcomes" sp_Outcomes_eq) (dVar 0) (dVar 1)) (dOp (rdEq false) (dVar 4) (dVar 5))))) (dRet (dC (.bl false))) (dNext)) (dSeq (dAsg (dOp (rdEq false) (dLc (dItem (dVar 4)) (dgName 7) (dB (dOp (rdIn true) (dVar 7) (dVar 5))) (dVar 7) [7]) (dLst (daNil))) (dgName 6)) (dRet (dOp (rdEq false) (dB1 rcRepr (daCons (dMeth "Outcomes" "is_within" sp_Outcomes_is_within W [] (dVar 0) (daCons (dVar 1) (daNil))) (daNil))) (dB1 rcRepr (daCons (dVar 6) (daNil)))))))
/-- slots: 0=first 1=one 2=others 3=other 4=second 5=due 6=outcome -/
def t_law_asked_on (W : DWX) : DTS := dSeq (dFor (dItem (dOp rdAdd (dVar 2) (dSlice (dVar 2) (doNone) (doSome (dC (.int 1)))))) (dgName 3) (dSeq (dAsg (dFrz (dMakeM "Outcomes" sp_Outcomes_init W [] (daCons (dFrz (dMakeM "Times" sp_Times_init W [] (daCons (dOp rdIx (dVar 3) (dC (.int 0))) (daNil)))) (daCons (dFrz (dMakeM "Times" sp_Times_init W [] (daCons (dOp rdIx (dVar 3) (dC (.int 1))) (daNil)))) (daCons (dOp rdIx (dVar 3) (dC (.int 2))) (daNil)))))) (dgName 4)) (dSeq (dAsg (dOp (rdEq false) (dLc (dItem (dCall sp_law_all W [] (daCons (dVar 1) (daNil)))) (dgName 6) (dB (dOp (rdIn true) (dVar 6) (dCall sp_law_all noW [] (daCons (dVar 3) (daNil))))) (dVar 6) [6]) (dLst (daNil))) (dgName 5)) (dIf (dB (dOp (rdEq true) (dB1 rcRepr (daCons (dMeth "Outcomes" "is_within" sp_Outcomes_is_within W [] (dVar 0) (daCons (dVar 4) (daNil))) (daNil))) (dB1 rcRepr (daCons (dVar 5) (daNil))))) (dRet (dC (.bl false))) (dNext))))) (dRet (dC (.bl true)))
/-- slots: 0=script 1=k 2=feed 3=one 4=near 5=whole 6=other 7=first 8=second 9=time 10=turn 11=word -/
def t_law (W : DWX) : DTS := dSeq (dFor (dRange1 (daCons (dB1 rcMax (daCons (dC (.int 2)) (daCons (dB1 rcMin (daCons (dC (.int 6)) (daCons (dB1 rcLen (daCons (dVar 0) (daNil))) (daNil)))) (daNil)))) (daNil))) (dgName 1) (dSeq (dAsg (dCall sp_law_feed W [] (daCons (dVar 0) (daCons (dVar 1) (daNil)))) (dgName 2)) (dSeq (dAsg (dCall sp_law_parts W [] (daCons (dVar 2) (daNil))) (dgName 3)) (dSeq (dAsg (dLst (daCons (dSlice (dOp rdIx (dVar 3) (dC (.int 0))) (doSome (dC (.int 1))) (doNone)) (daCons (dOp rdIx (dVar 3) (dC (.int 1))) (daCons (dAndV trP (dOp rdIx (dVar 3) (dC (.int 2))) (dOp (rdEq false) (dCall sp_law_take W [] (daCons (dVar 2) (daCons (dC (.int 2)) (daNil)))) (dC (.int 0)))) (daNil))))) (dgName 4)) (dSeq (dAsg (dFrz (dMakeM "Outcomes" sp_Outcomes_init W [] (daCons (dFrz (dMakeM "Times" sp_Times_init W [] (daCons (dOp rdIx (dVar 3) (dC (.int 0))) (daNil)))) (daCons (dFrz (dMakeM "Times" sp_Times_init W [] (daCons (dOp rdIx (dVar 3) (dC (.int 1))) (daNil)))) (daCons (dOp rdIx (dVar 3) (dC (.int 2))) (daNil)))))) (dgName 5)) (dSeq (dIf (dNot (dB (dCall sp_law_asked_on W [] (daCons (dVar 5) (daCons (dVar 3) (daCons (dLst (daCons (dVar 3) (daCons (dVar 4) (daCons (dCall sp_law_parts W [] (daCons (dVar 2) (daNil))) (daCons (dTup (daCons (dLst (daNil)) (daCons (dLst (daNil)) (daCons (dC (.bl false)) (daNil))))) (daCons (dTup (daCons (dOp rdIx (dVar 3) (dC (.int 0))) (daCons (dLst (daCons (dTup (daCons (dC (.int 0)) (daCons (dC (.int 40)) (daNil)))) (daNil))) (daCons (dC (.bl true)) (daNil))))) (daNil))))))) (daNil))))))) (dRet (dC (.bl false))) (dNext)) (dFor (dItem (dLst (daCons (dCall sp_law_parts W [] (daCons (dVar 2) (daNil))) (daCons (dVar 4) (daCons (dTup (daCons (dCall sp_law_single W [] (daCons (dOp rdIx (dVar 3) (dC (.int 0))) (daNil))) (daCons (dCall sp_law_single W [] (daCons (dOp rdIx (dVar 3) (dC (.int 1))) (daNil))) (daCons (dOp rdIx (dVar 3) (dC (.int 2))) (daNil))))) (daCons (dTup (daCons (dLst (daNil)) (daCons (dLst (daNil)) (daCons (dC (.bl false)) (daNil))))) (daNil))))))) (dgName 6) (dSeq (dAsg (dFrz (dMakeM "Outcomes" sp_Outcomes_init W [] (daCons (dFrz (dMakeM "Times" sp_Times_init W [] (daCons (dOp rdIx (dVar 3) (dC (.int 0))) (daNil)))) (daCons (dFrz (dMakeM "Times" sp_Times_init W [] (daCons (dOp rdIx (dVar 3) (dC (.int 1))) (daNil)))) (daCons (dOp rdIx (dVar 3) (dC (.int 2))) (daNil)))))) (dgName 7)) (dSeq (dAsg (dFrz (dMakeM "Outcomes" sp_Outcomes_init W [] (daCons (dFrz (dMakeM "Times" sp_Times_init W [] (daCons (dOp rdIx (dVar 6) (dC (.int 0))) (daNil)))) (daCons (dFrz (dMakeM "Times" sp_Times_init W [] (daCons (dOp rdIx (dVar 6) (dC (.int 1))) (daNil)))) (daCons (dOp rdIx (dVar 6) (dC (.int 2))) (daNil)))))) (dgName 8)) (dSeq (dIf (dOr (dNot (dB (dCall sp_law_are_right W [] (daCons (dVar 7) (daCons (dVar 8) (daCons (dVar 3) (daCons (dVar 6) (daNil)))))))) (dNot (dB (dCall sp_law_are_right W [] (daCons (dVar 8) (daCons (dVar 7) (daCons (dVar 6) (daCons (dVar 3) (daNil))))))))) (dRet (dC (.bl false))) (dNext)) (dSeq (dIf (dOr (dB (dOp (rdOwn true "Times" sp_Times_eq) (dFld "Outcomes" "ok" (dVar 7)) (dFrz (dMakeM "Times" sp_Times_init W [] (daCons (dOp rdIx (dVar 3) (dC (.int 0))) (daNil)))))) (dOr (dB (dOp (rdOwn true "Times" sp_Times_eq) (dFld "Outcomes" "fail" (dVar 7)) (dFrz (dMakeM "Times" sp_Times_init W [] (daCons (dOp rdIx (dVar 3) (dC (.int 1))) (daNil)))))) (dB (dOp (rdEq true) (dB1 rcRepr (daCons (dFld "Outcomes" "never" (dVar 7)) (daNil))) (dB1 rcRepr (daCons (dOp rdIx (dVar 3) (dC (.int 2))) (daNil))))))) (dRet (dC (.bl false))) (dNext)) (dSeq (dIf (dB (dOp (rdEq true) (dB1 rcRepr (daCons (dMeth "Outcomes" "worst" sp_Outcomes_worst W [] (dVar 8) (daNil)) (daNil))) (dB1 rcRepr (daCons (dCall sp_law_worst W [] (daCons (dVar 6) (daNil))) (daNil))))) (dRet (dC (.bl false))) (dNext)) (dSeq (dFor (dItem (dLc (dRange1 (daCons (dC (.int 6)) (daNil))) (dgName 10) (dYes) (dCall sp_law_take noW [] (daCons (dVar 2) (daCons (dC (.int 26)) (daNil)))) [10])) (dgName 9) (dFor (dItem (dLst (daCons (dC (.str "ok")) (daCons (dC (.str "fail")) (daNil))))) (dgName 11) (dIf (dB (dOp (rdEq true) (dOp (rdOwnIn false "Outcomes" sp_Outcomes_contains) (dTup (daCons (dVar 11) (daCons (dVar 9) (daNil)))) (dVar 7)) (dOp (rdIn false) (dTup (daCons (dVar 11) (daCons (dVar 9) (daNil)))) (dCall sp_law_all W [] (daCons (dVar 3) (daNil)))))) (dRet (dC (.bl false))) (dNext)))) (dIf (dOr (dB (dOp (rdEq true) (dOp (rdOwnIn false "Outcomes" sp_Outcomes_contains) (dTup (daCons (dC (.str "never")) (daNil))) (dVar 7)) (dOp rdIx (dVar 3) (dC (.int 2))))) (dOr (dB (dOp (rdOwnX false "Outcomes" sp_Outcomes_eq) (dVar 7) (dC (.str "set")))) (dOr (dB (dOp (rdOwnX false "Outcomes" sp_Outcomes_eq) (dVar 7) (dVar 3))) (dNot (dB (dOp (rdOwnX true "Outcomes" sp_Outcomes_eq) (dVar 7) (dVar 3))))))) (dRet (dC (.bl false))) (dNext))))))))))))))) (dRet (dC (.bl true)))
end K


set_option Elab.async false
set_option linter.all false
set_option maxRecDepth 100000
set_option maxHeartbeats 0
namespace K
open PySem PySem.Spec PyProof.Rows L2 DL
abbrev Pw : Program := PySem.Challenge.pw_callplans_k33_sets_of_outcomes
def top (i : Nat) : Stmt := Pw.main.body.getD i (.Pass ⟨0, 0, 0, 0⟩)
def mkD (at_ : Str × Option Str) (name qual : Str) (s : Stmt) (dfl : List He.Dv) (kwd : List (Str × He.Dv) := []) : He.DefD := ⟨at_, name, qual, defArgs s, defBody s, defScope s, dfl, kwd⟩
def fcs : List Fc := [.free "int", .free "isinstance", .free "bool", .glo "is_integer", .free "tuple", .free "len", .glo "is_range", .free "list", .free "all", .exc "BadRange", .free "sorted", .free "max", .noat "Times" "ranges", .cls "Times", .mkr "Times", .meth "Times" "__eq__", .free "any", .meth "Times" "__contains__", .free "min", .meth "Times" "__and__", .meth "Times" "is_within", .noat "Outcomes" "ok", .cls "Outcomes", .noat "Outcomes" "fail", .noat "Outcomes" "never", .noat "Outcomes" "parts", .mkr "Outcomes", .meth "Outcomes" "__eq__", .gtup "NEVER" ["never"], .meth "Outcomes" "__contains__", .meth "Outcomes" "is_within", .meth "Outcomes" "worst", .free "abs", .glo "_law_feed", .glo "_law_take", .glo "_law_pick", .free "range", .glo "_law_ranges", .free "set", .glo "_law_listed", .glo "_law_single", .glo "_law_parts", .glo "_law_all", .glo "_law_worst", .ne "Outcomes", .free "repr", .glo "_law_are_right", .glo "_law_asked_on", .ne "Times", .glo "law"]
abbrev dd0 : He.DefD := mkD ("is_integer", none) "is_integer" "is_integer" (top 5) [.non] []
abbrev dd1 : He.DefD := mkD ("is_range", none) "is_range" "is_range" (top 6) [.int 0, .non] []
abbrev dd2 : He.DefD := mkD ("Times", some "__init__") "__init__" "Times.__init__" (inClass (top 7) 0) [] []
abbrev dd3 : He.DefD := mkD ("Times", some "__eq__") "__eq__" "Times.__eq__" (inClass (top 7) 1) [] []
abbrev dd4 : He.DefD := mkD ("Times", some "__contains__") "__contains__" "Times.__contains__" (inClass (top 7) 3) [] []
abbrev dd5 : He.DefD := mkD ("Times", some "__and__") "__and__" "Times.__and__" (inClass (top 7) 5) [] []
abbrev dd6 : He.DefD := mkD ("Times", some "is_within") "is_within" "Times.is_within" (inClass (top 7) 11) [] []
abbrev dd7 : He.DefD := mkD ("Outcomes", some "__init__") "__init__" "Outcomes.__init__" (inClass (top 10) 0) [] []
abbrev dd8 : He.DefD := mkD ("Outcomes", some "__eq__") "__eq__" "Outcomes.__eq__" (inClass (top 10) 1) [] []
abbrev dd9 : He.DefD := mkD ("Outcomes", some "__contains__") "__contains__" "Outcomes.__contains__" (inClass (top 10) 2) [] []
abbrev dd10 : He.DefD := mkD ("Outcomes", some "is_within") "is_within" "Outcomes.is_within" (inClass (top 10) 3) [] []
abbrev dd11 : He.DefD := mkD ("Outcomes", some "worst") "worst" "Outcomes.worst" (inClass (top 10) 4) [] []
abbrev dd12 : He.DefD := mkD ("_law_feed", none) "_law_feed" "_law_feed" (top 12) [] []
abbrev dd13 : He.DefD := mkD ("_law_take", none) "_law_take" "_law_take" (top 13) [] []
abbrev dd14 : He.DefD := mkD ("_law_pick", none) "_law_pick" "_law_pick" (top 14) [] []
abbrev dd15 : He.DefD := mkD ("_law_ranges", none) "_law_ranges" "_law_ranges" (top 15) [] []
abbrev dd16 : He.DefD := mkD ("_law_listed", none) "_law_listed" "_law_listed" (top 16) [] []
abbrev dd17 : He.DefD := mkD ("_law_single", none) "_law_single" "_law_single" (top 17) [] []
abbrev dd18 : He.DefD := mkD ("_law_parts", none) "_law_parts" "_law_parts" (top 18) [] []
abbrev dd19 : He.DefD := mkD ("_law_all", none) "_law_all" "_law_all" (top 19) [] []
abbrev dd20 : He.DefD := mkD ("_law_worst", none) "_law_worst" "_law_worst" (top 20) [] []
abbrev dd21 : He.DefD := mkD ("_law_are_right", none) "_law_are_right" "_law_are_right" (top 21) [] []
abbrev dd22 : He.DefD := mkD ("_law_asked_on", none) "_law_asked_on" "_law_asked_on" (top 22) [] []
abbrev dd23 : He.DefD := mkD ("law", none) "law" "law" (top 23) [] []
def fn : List He.DefD := [dd0, dd1, dd2, dd3, dd4, dd5, dd6, dd7, dd8, dd9, dd10, dd11, dd12, dd13, dd14, dd15, dd16, dd17, dd18, dd19, dd20, dd21, dd22, dd23]
section
variable {P : Program} {w : World} {K : PySem.W.Frag} {mg : Str → Option Value} {base : Heap}
theorem sc_is_integer : FnScope ["value", "least", "most"] ["value", "least", "most"] dd0.scope := ⟨rfl, rfl, rfl, by decide +kernel, rfl, by decide +kernel, by decide +kernel⟩
theorem w_is_integer (m : Md fcs fn K mg)  : WalkD P w K mg base 0 dd0 ["value", "least", "most"] t_is_integer := by
  have Sc := sc_is_integer
  intro cdv A outer s H E F0 W hr tk
  exact dss_cons (ds_if (dt_w (dw_or (dt_not (dt_val (de_b (dc_isi) (m.free "isinstance" (memi 1)) (da_cons (dv 0) (da_cons (de_tyname (m.free "int" (memi 0))) (da_nil)))))) (dw_or (dt_val (de_b (dc_isi) (m.free "isinstance" (memi 1)) (da_cons (dv 0) (da_cons (de_tyname (m.free "bool" (memi 2))) (da_nil))))) (dw_or1 (dt_cmp (do_lt) (dv 0) (dv 1)))))) (dss_one (ds_ret (de_bl))) (dss_nil)) (dss_one (ds_ret (de_or tru_plain (de_cmp (do_is) (dv 2) (de_non)) (de_one (de_cmp (do_le) (dv 0) (dv 2))))))
theorem sc_is_range : FnScope ["value", "least", "most"] ["value", "least", "most"] dd1.scope := ⟨rfl, rfl, rfl, by decide +kernel, rfl, by decide +kernel, by decide +kernel⟩
theorem w_is_range (m : Md fcs fn K mg) (c_is_integer : Cal P w K mg base 1 "is_integer" sp_is_integer []) : WalkD P w K mg base 1 dd1 ["value", "least", "most"] t_is_range := by
  have Sc := sc_is_range
  intro cdv A outer s H E F0 W hr tk
  exact dss_cons (ds_if (dt_w (dw_or (dt_not (dt_val (de_b (dc_isi) (m.free "isinstance" (memi 1)) (da_cons (dv 0) (da_cons (de_tyname (m.free "tuple" (memi 4))) (da_nil)))))) (dw_or1 (dt_cmp (do_ne hr.room) (de_b (dc_len) (m.free "len" (memi 5)) (da_cons (dv 0) (da_nil))) (de_int))))) (dss_one (ds_ret (de_bl))) (dss_nil)) (dss_one (ds_ret (de_and tru_plain (de_call c_is_integer hr (by decide) tk (da_cons (de_ix dx_seq (dv 0) (de_int)) (da_cons (dv 1) (da_cons (dv 2) (da_nil))))) (de_one (de_call c_is_integer hr (by decide) tk (da_cons (de_ix dx_seq (dv 0) (de_int)) (da_cons (de_if (dt_cmp (do_gt) (de_ix dx_seq (dv 0) (de_int)) (dv 1)) (de_ix dx_seq (dv 0) (de_int)) (dv 1)) (da_cons (dv 2) (da_nil)))))))))
theorem sc_Times_init : FnScope ["self", "ranges", "one", "found", "low", "high"] ["self", "ranges"] dd2.scope := ⟨rfl, rfl, rfl, by decide +kernel, rfl, by decide +kernel, by decide +kernel⟩
theorem w_Times_init (m : Md fcs fn K mg) (c_is_range_2 : Cal P w K mg base 2 "is_range" sp_is_range [.int 0, .non]) : WalkD P w K mg base 2 dd2 ["self", "ranges", "one", "found", "low", "high"] t_Times_init := by
  have Sc := sc_Times_init
  intro cdv A outer s H E F0 W hr tk
  exact dss_cons (ds_if (dt_w (dw_or (dt_not (dt_val (de_b (dc_isi) (m.free "isinstance" (memi 1)) (da_cons (dv 1) (da_cons (de_tyname (m.free "list" (memi 7))) (da_nil)))))) (dw_or1 (dt_not (dt_val (de_b (dc_all rfl) (m.free "all" (memi 8)) (da_cons (de_lc (own := [("one", 2)]) rfl Sc.nd (by simp) (di_seq (dv 1)) (blkOk_by (N := ["self", "ranges", "one", "found", "low", "high"]) (sc := dd2.scope) (by decide +kernel)) (fun _ _ _ _ _ => dg_name Sc.nd rfl (by first | exact Or.inl rfl | exact Or.inr rfl) (fun _ => by decide)) (fun _ _ _ _ _ => difs_nil) (fun _ _ _ _ _ => de_call c_is_range_2 hr (by decide) tkF (da_cons (dv 2) (da_nil)))) (da_nil)))))))) (dss_one (ds_raise0 rfl tk (m.exc "BadRange" (memi 9)))) (dss_nil)) (dss_cons (ds_set Sc.nd (i := 3) rfl (by first | exact Or.inl rfl | exact Or.inr rfl) (de_lstM (da_nil))) (dss_cons (ds_for (passes_of rfl) rfl (di_seq (de_b (dc_sorted hr.room) (m.free "sorted" (memi 10)) (da_cons (dv 1) (da_nil)))) (dg_tup rfl (dgs_cons (dg_name Sc.nd rfl (by first | exact Or.inl rfl | exact Or.inr rfl) (fun h => absurd rfl h)) (dgs_cons (dg_name Sc.nd rfl (by first | exact Or.inl rfl | exact Or.inr rfl) (fun h => absurd rfl h)) (dgs_nil)))) (dss_one (ds_if (dt_w (dw_and (dt_cmp (do_ne hr.room) (dv 3) (de_lst (da_nil))) (dw_and1 (dt_cmp (do_le) (dv 4) (de_op do_add (de_ix dx_seq (de_ix dx_seq (dv 3) (de_neg (de_int))) (de_int)) (de_int)))))) (dss_one (ds_asg (de_tup (da_cons (de_ix dx_seq (de_ix dx_seq (dv 3) (de_neg (de_int))) (de_int)) (da_cons (de_b (dc_max rfl) (m.free "max" (memi 11)) (da_cons (de_ix dx_seq (de_ix dx_seq (dv 3) (de_neg (de_int))) (de_int)) (da_cons (dv 5) (da_nil)))) (da_nil)))) (dg_sub (dv 3) (de_neg (de_int)) ds_list))) (dss_one (ds_expr (de_append (dv 3) (da_cons (de_tup (da_cons (dv 4) (da_cons (dv 5) (da_nil)))) (da_nil)))))))) (dss_one (ds_fld (dv 0) (de_ty (dc_tuple) (m.free "tuple" (memi 4)) (da_cons (dv 3) (da_nil))) (m.noat "Times" "ranges" (memi 12) (memi 13))))))
theorem b_Times_init : AllB dd2 ["self", "ranges"] := fun _ _ _ _ _ _ us hl => match us, hl with
  | [_, _], _ => rfl
theorem sc_Times_eq : FnScope ["self", "other"] ["self", "other"] dd3.scope := ⟨rfl, rfl, rfl, by decide +kernel, rfl, by decide +kernel, by decide +kernel⟩
theorem w_Times_eq (m : Md fcs fn K mg)  : WalkD P w K mg base 0 dd3 ["self", "other"] t_Times_eq := by
  have Sc := sc_Times_eq
  intro cdv A outer s H E F0 W hr tk
  exact dss_one (ds_ret (de_and tru_plain (de_b (dc_isi) (m.free "isinstance" (memi 1)) (da_cons (dv 1) (da_cons (de_cls ⟨_, m.cls "Times" (memi 13)⟩) (da_nil)))) (de_one (de_cmp (do_eq hr.room) (de_fld (dv 0) (m.noat "Times" "ranges" (memi 12) (memi 13))) (de_fld (dv 1) (m.noat "Times" "ranges" (memi 12) (memi 13)))))))
theorem b_Times_eq : AllB dd3 ["self", "other"] := fun _ _ _ _ _ _ us hl => match us, hl with
  | [_, _], _ => rfl
theorem sc_Times_contains : FnScope ["self", "time", "low", "high"] ["self", "time"] dd4.scope := ⟨rfl, rfl, rfl, by decide +kernel, rfl, by decide +kernel, by decide +kernel⟩
theorem w_Times_contains (m : Md fcs fn K mg)  : WalkD P w K mg base 0 dd4 ["self", "time", "low", "high"] t_Times_contains := by
  have Sc := sc_Times_contains
  intro cdv A outer s H E F0 W hr tk
  exact dss_one (ds_ret (de_b (dc_any rfl) (m.free "any" (memi 16)) (da_cons (de_lc (own := [("low", 2), ("high", 3)]) rfl Sc.nd (by simp) (di_seq (de_fld (dv 0) (m.noat "Times" "ranges" (memi 12) (memi 13)))) (blkOk_by (N := ["self", "time", "low", "high"]) (sc := dd4.scope) (by decide +kernel)) (fun _ _ _ _ _ => dg_tup rfl (dgs_cons (dg_name Sc.nd rfl (by first | exact Or.inl rfl | exact Or.inr rfl) (fun _ => by decide)) (dgs_cons (dg_name Sc.nd rfl (by first | exact Or.inl rfl | exact Or.inr rfl) (fun _ => by decide)) (dgs_nil)))) (fun _ _ _ _ _ => difs_nil) (fun _ _ _ _ _ => de_chain (do_le) (do_le) (dv 2) (dv 1) (dv 3))) (da_nil))))
theorem b_Times_contains : AllB dd4 ["self", "time"] := fun _ _ _ _ _ _ us hl => match us, hl with
  | [_, _], _ => rfl
theorem sc_Times_and : FnScope ["self", "other", "found", "low", "high", "least", "most"] ["self", "other"] dd5.scope := ⟨rfl, rfl, rfl, by decide +kernel, rfl, by decide +kernel, by decide +kernel⟩
theorem w_Times_and (m : Md fcs fn K mg) (c_Times : Mak P w K mg base 3 "Times" sp_Times_init []) : WalkD P w K mg base 4 dd5 ["self", "other", "found", "low", "high", "least", "most"] t_Times_and := by
  have Sc := sc_Times_and
  intro cdv A outer s H E F0 W hr tk
  exact dss_cons (ds_set Sc.nd (i := 2) rfl (by first | exact Or.inl rfl | exact Or.inr rfl) (de_lstM (da_nil))) (dss_cons (ds_for (passes_of rfl) rfl (di_seq (de_fld (dv 0) (m.noat "Times" "ranges" (memi 12) (memi 13)))) (dg_tup rfl (dgs_cons (dg_name Sc.nd rfl (by first | exact Or.inl rfl | exact Or.inr rfl) (fun h => absurd rfl h)) (dgs_cons (dg_name Sc.nd rfl (by first | exact Or.inl rfl | exact Or.inr rfl) (fun h => absurd rfl h)) (dgs_nil)))) (dss_one (ds_for (passes_of rfl) rfl (di_seq (de_fld (dv 1) (m.noat "Times" "ranges" (memi 12) (memi 13)))) (dg_tup rfl (dgs_cons (dg_name Sc.nd rfl (by first | exact Or.inl rfl | exact Or.inr rfl) (fun h => absurd rfl h)) (dgs_cons (dg_name Sc.nd rfl (by first | exact Or.inl rfl | exact Or.inr rfl) (fun h => absurd rfl h)) (dgs_nil)))) (dss_one (ds_if (dt_cmp (do_le) (de_b (dc_max rfl) (m.free "max" (memi 11)) (da_cons (dv 3) (da_cons (dv 5) (da_nil)))) (de_b (dc_min rfl) (m.free "min" (memi 18)) (da_cons (dv 4) (da_cons (dv 6) (da_nil))))) (dss_one (ds_expr (de_append (dv 2) (da_cons (de_tup (da_cons (de_b (dc_max rfl) (m.free "max" (memi 11)) (da_cons (dv 3) (da_cons (dv 5) (da_nil)))) (da_cons (de_b (dc_min rfl) (m.free "min" (memi 18)) (da_cons (dv 4) (da_cons (dv 6) (da_nil)))) (da_nil)))) (da_nil))))) (dss_nil)))))) (dss_one (ds_ret (de_frz (de_makeM c_Times hr (by decide) tk (da_cons (dv 2) (da_nil)))))))
theorem b_Times_and : AllB dd5 ["self", "other"] := fun _ _ _ _ _ _ us hl => match us, hl with
  | [_, _], _ => rfl
theorem sc_Times_is_within : FnScope ["self", "other"] ["self", "other"] dd6.scope := ⟨rfl, rfl, rfl, by decide +kernel, rfl, by decide +kernel, by decide +kernel⟩
theorem w_Times_is_within (m : Md fcs fn K mg) (c_Times___and__ : Spc P w K mg base 5 "Times" "__and__" sp_Times_and) (c_Times___eq__ : Spc P w K mg base 1 "Times" "__eq__" sp_Times_eq) : WalkD P w K mg base 5 dd6 ["self", "other"] t_Times_is_within := by
  have Sc := sc_Times_is_within
  intro cdv A outer s H E F0 W hr tk
  exact dss_one (ds_ret (de_cmp (do_ownEq c_Times___eq__ hr (by decide)) (de_op (do_ownB c_Times___and__ rfl hr (by decide)) (dv 0) (dv 1)) (dv 0)))
theorem b_Times_is_within : AllB dd6 ["self", "other"] := fun _ _ _ _ _ _ us hl => match us, hl with
  | [_, _], _ => rfl
theorem sc_Outcomes_init : FnScope ["self", "ok", "fail", "never"] ["self", "ok", "fail", "never"] dd7.scope := ⟨rfl, rfl, rfl, by decide +kernel, rfl, by decide +kernel, by decide +kernel⟩
theorem w_Outcomes_init (m : Md fcs fn K mg)  : WalkD P w K mg base 0 dd7 ["self", "ok", "fail", "never"] t_Outcomes_init := by
  have Sc := sc_Outcomes_init
  intro cdv A outer s H E F0 W hr tk
  exact dss_cons (ds_fld (dv 0) (dv 1) (m.noat "Outcomes" "ok" (memi 21) (memi 22))) (dss_cons (ds_fld (dv 0) (dv 2) (m.noat "Outcomes" "fail" (memi 23) (memi 22))) (dss_cons (ds_fld (dv 0) (dv 3) (m.noat "Outcomes" "never" (memi 24) (memi 22))) (dss_one (ds_fld (dv 0) (de_tup (da_cons (de_fld (dv 1) (m.noat "Times" "ranges" (memi 12) (memi 13))) (da_cons (de_fld (dv 2) (m.noat "Times" "ranges" (memi 12) (memi 13))) (da_cons (dv 3) (da_nil))))) (m.noat "Outcomes" "parts" (memi 25) (memi 22))))))
theorem b_Outcomes_init : AllB dd7 ["self", "ok", "fail", "never"] := fun _ _ _ _ _ _ us hl => match us, hl with
  | [_, _, _, _], _ => rfl
theorem sc_Outcomes_eq : FnScope ["self", "other"] ["self", "other"] dd8.scope := ⟨rfl, rfl, rfl, by decide +kernel, rfl, by decide +kernel, by decide +kernel⟩
theorem w_Outcomes_eq (m : Md fcs fn K mg)  : WalkD P w K mg base 0 dd8 ["self", "other"] t_Outcomes_eq := by
  have Sc := sc_Outcomes_eq
  intro cdv A outer s H E F0 W hr tk
  exact dss_one (ds_ret (de_and tru_plain (de_b (dc_isi) (m.free "isinstance" (memi 1)) (da_cons (dv 1) (da_cons (de_cls ⟨_, m.cls "Outcomes" (memi 22)⟩) (da_nil)))) (de_one (de_cmp (do_eq hr.room) (de_fld (dv 0) (m.noat "Outcomes" "parts" (memi 25) (memi 22))) (de_fld (dv 1) (m.noat "Outcomes" "parts" (memi 25) (memi 22)))))))
theorem b_Outcomes_eq : AllB dd8 ["self", "other"] := fun _ _ _ _ _ _ us hl => match us, hl with
  | [_, _], _ => rfl
theorem sc_Outcomes_contains : FnScope ["self", "outcome"] ["self", "outcome"] dd9.scope := ⟨rfl, rfl, rfl, by decide +kernel, rfl, by decide +kernel, by decide +kernel⟩
theorem w_Outcomes_contains (m : Md fcs fn K mg) (c_Times___contains__ : Spc P w K mg base 1 "Times" "__contains__" sp_Times_contains) : WalkD P w K mg base 1 dd9 ["self", "outcome"] t_Outcomes_contains := by
  have Sc := sc_Outcomes_contains
  intro cdv A outer s H E F0 W hr tk
  exact dss_cons (ds_if (dt_cmp (do_eq hr.room) (dv 1) (de_gtup (zs := ["never"]) (m.gtup "NEVER" ["never"] (memi 28)))) (dss_one (ds_ret (de_fld (dv 0) (m.noat "Outcomes" "never" (memi 24) (memi 22))))) (dss_nil)) (dss_one (ds_ret (de_cmp (do_ownIn c_Times___contains__ hr (by decide)) (de_ix dx_seq (dv 1) (de_int)) (de_if (dt_cmp (do_eq hr.room) (de_ix dx_seq (dv 1) (de_int)) (de_str)) (de_fld (dv 0) (m.noat "Outcomes" "ok" (memi 21) (memi 22))) (de_fld (dv 0) (m.noat "Outcomes" "fail" (memi 23) (memi 22)))))))
theorem b_Outcomes_contains : AllB dd9 ["self", "outcome"] := fun _ _ _ _ _ _ us hl => match us, hl with
  | [_, _], _ => rfl
theorem sc_Outcomes_is_within : FnScope ["self", "other"] ["self", "other"] dd10.scope := ⟨rfl, rfl, rfl, by decide +kernel, rfl, by decide +kernel, by decide +kernel⟩
theorem w_Outcomes_is_within (m : Md fcs fn K mg) (c_Times_is_within : Met P w K mg base 6 "Times" "is_within" sp_Times_is_within []) : WalkD P w K mg base 6 dd10 ["self", "other"] t_Outcomes_is_within := by
  have Sc := sc_Outcomes_is_within
  intro cdv A outer s H E F0 W hr tk
  exact dss_cons (ds_if (dt_w (dw_and (dt_tr tru_plain (de_fld (dv 0) (m.noat "Outcomes" "never" (memi 24) (memi 22)))) (dw_and1 (dt_not (dt_tr tru_plain (de_fld (dv 1) (m.noat "Outcomes" "never" (memi 24) (memi 22)))))))) (dss_one (ds_ret (de_bl))) (dss_nil)) (dss_one (ds_ret (de_and tru_plain (de_meth c_Times_is_within hr (by decide) tk (de_fld (dv 0) (m.noat "Outcomes" "ok" (memi 21) (memi 22))) (da_cons (de_fld (dv 1) (m.noat "Outcomes" "ok" (memi 21) (memi 22))) (da_nil))) (de_one (de_meth c_Times_is_within hr (by decide) tk (de_fld (dv 0) (m.noat "Outcomes" "fail" (memi 23) (memi 22))) (da_cons (de_fld (dv 1) (m.noat "Outcomes" "fail" (memi 23) (memi 22))) (da_nil)))))))
theorem b_Outcomes_is_within : AllB dd10 ["self", "other"] := fun _ _ _ _ _ _ us hl => match us, hl with
  | [_, _], _ => rfl
theorem sc_Outcomes_worst : FnScope ["self", "low", "high"] ["self"] dd11.scope := ⟨rfl, rfl, rfl, by decide +kernel, rfl, by decide +kernel, by decide +kernel⟩
theorem w_Outcomes_worst (m : Md fcs fn K mg)  : WalkD P w K mg base 0 dd11 ["self", "low", "high"] t_Outcomes_worst := by
  have Sc := sc_Outcomes_worst
  intro cdv A outer s H E F0 W hr tk
  exact dss_cons (ds_if (dt_tr tru_plain (de_fld (dv 0) (m.noat "Outcomes" "never" (memi 24) (memi 22)))) (dss_one (ds_ret (de_non))) (dss_nil)) (dss_one (ds_ret (de_b (dc_max rfl) (m.free "max" (memi 11)) (da_cons (de_op do_add (de_lc (own := [("low", 1), ("high", 2)]) rfl Sc.nd (by simp) (di_seq (de_op do_add (de_fld (de_fld (dv 0) (m.noat "Outcomes" "ok" (memi 21) (memi 22))) (m.noat "Times" "ranges" (memi 12) (memi 13))) (de_fld (de_fld (dv 0) (m.noat "Outcomes" "fail" (memi 23) (memi 22))) (m.noat "Times" "ranges" (memi 12) (memi 13))))) (blkOk_by (N := ["self", "low", "high"]) (sc := dd11.scope) (by decide +kernel)) (fun _ _ _ _ _ => dg_tup rfl (dgs_cons (dg_name Sc.nd rfl (by first | exact Or.inl rfl | exact Or.inr rfl) (fun _ => by decide)) (dgs_cons (dg_name Sc.nd rfl (by first | exact Or.inl rfl | exact Or.inr rfl) (fun _ => by decide)) (dgs_nil)))) (fun _ _ _ _ _ => difs_nil) (fun _ _ _ _ _ => dv 2)) (de_lst (da_cons (de_int) (da_nil)))) (da_nil)))))
theorem b_Outcomes_worst : AllB dd11 ["self"] := fun _ _ _ _ _ _ us hl => match us, hl with
  | [_], _ => rfl
theorem sc_law_feed : FnScope ["script", "k", "seed", "digits"] ["script", "k"] dd12.scope := ⟨rfl, rfl, rfl, by decide +kernel, rfl, by decide +kernel, by decide +kernel⟩
theorem w_law_feed (m : Md fcs fn K mg)  : WalkD P w K mg base 0 dd12 ["script", "k", "seed", "digits"] t_law_feed := by
  have Sc := sc_law_feed
  intro cdv A outer s H E F0 W hr tk
  exact dss_cons (ds_set Sc.nd (i := 2) rfl (by first | exact Or.inl rfl | exact Or.inr rfl) (de_ix dx_seq (de_op do_add (de_ty (dc_list) (m.free "list" (memi 7)) (da_cons (de_slice (dv 0) (do_some (dv 1)) (do_some (de_op do_add (dv 1) (de_int)))) (da_nil))) (de_lst (da_cons (de_op do_add (de_op do_mul (de_int) (dv 1)) (de_int)) (da_nil)))) (de_int))) (dss_cons (ds_set Sc.nd (i := 3) rfl (by first | exact Or.inl rfl | exact Or.inr rfl) (de_b (dc_max rfl) (m.free "max" (memi 11)) (da_cons (de_int) (da_cons (de_op do_sub (de_b (dc_abs) (m.free "abs" (memi 32)) (da_cons (dv 2) (da_nil))) (de_op do_pow (de_int) (de_int))) (da_nil))))) (dss_one (ds_ret (de_lstM (da_cons (dv 3) (da_cons (de_op do_mod (de_op do_add (de_op do_add (de_op do_mul (de_op do_mod (de_b (dc_abs) (m.free "abs" (memi 32)) (da_cons (dv 2) (da_nil))) (de_int)) (de_int)) (de_op do_mul (de_int) (dv 1))) (de_int)) (de_int)) (da_nil)))))))
theorem b_law_feed : AllB dd12 ["script", "k"] := fun _ _ _ _ _ _ us hl => match us, hl with
  | [_, _], _ => rfl
theorem sc_law_take : FnScope ["feed", "size", "digit"] ["feed", "size"] dd13.scope := ⟨rfl, rfl, rfl, by decide +kernel, rfl, by decide +kernel, by decide +kernel⟩
theorem w_law_take (m : Md fcs fn K mg)  : WalkD P w K mg base 0 dd13 ["feed", "size", "digit"] t_law_take := by
  have Sc := sc_law_take
  intro cdv A outer s H E F0 W hr tk
  exact dss_cons (ds_if (dt_cmp (do_gt) (de_ix dx_seq (dv 0) (de_int)) (de_int)) (dss_cons (ds_set Sc.nd (i := 2) rfl (by first | exact Or.inl rfl | exact Or.inr rfl) (de_op do_mod (de_ix dx_seq (dv 0) (de_int)) (dv 1))) (dss_cons (ds_asg (de_op do_div (de_ix dx_seq (dv 0) (de_int)) (dv 1)) (dg_sub (dv 0) (de_int) ds_list)) (dss_one (ds_ret (dv 2))))) (dss_nil)) (dss_cons (ds_asg (de_op do_mod (de_op do_add (de_op do_mul (de_ix dx_seq (dv 0) (de_int)) (de_int)) (de_int)) (de_int)) (dg_sub (dv 0) (de_int) ds_list)) (dss_one (ds_ret (de_op do_mod (de_op do_div (de_ix dx_seq (dv 0) (de_int)) (de_int)) (dv 1)))))
theorem b_law_take : AllB dd13 ["feed", "size"] := fun _ _ _ _ _ _ us hl => match us, hl with
  | [_, _], _ => rfl
theorem sc_law_pick : FnScope ["feed", "choices"] ["feed", "choices"] dd14.scope := ⟨rfl, rfl, rfl, by decide +kernel, rfl, by decide +kernel, by decide +kernel⟩
theorem w_law_pick (m : Md fcs fn K mg) (c__law_take : Cal P w K mg base 1 "_law_take" sp_law_take []) : WalkD P w K mg base 1 dd14 ["feed", "choices"] t_law_pick := by
  have Sc := sc_law_pick
  intro cdv A outer s H E F0 W hr tk
  exact dss_one (ds_ret (de_ix dx_seq (dv 1) (de_call c__law_take hr (by decide) tk (da_cons (dv 0) (da_cons (de_b (dc_len) (m.free "len" (memi 5)) (da_cons (dv 1) (da_nil))) (da_nil))))))
theorem b_law_pick : AllB dd14 ["feed", "choices"] := fun _ _ _ _ _ _ us hl => match us, hl with
  | [_, _], _ => rfl
theorem sc_law_ranges : FnScope ["feed", "found", "turn", "low"] ["feed"] dd15.scope := ⟨rfl, rfl, rfl, by decide +kernel, rfl, by decide +kernel, by decide +kernel⟩
theorem w_law_ranges (m : Md fcs fn K mg) (c__law_take : Cal P w K mg base 1 "_law_take" sp_law_take []) (c__law_pick : Cal P w K mg base 2 "_law_pick" sp_law_pick []) : WalkD P w K mg base 2 dd15 ["feed", "found", "turn", "low"] t_law_ranges := by
  have Sc := sc_law_ranges
  intro cdv A outer s H E F0 W hr tk
  exact dss_cons (ds_set Sc.nd (i := 1) rfl (by first | exact Or.inl rfl | exact Or.inr rfl) (de_lstM (da_nil))) (dss_cons (ds_for (passes_of rfl) rfl (di_range1 (m.free "range" (memi 36)) (da_cons (de_call c__law_take hr (by decide) tk (da_cons (dv 0) (da_cons (de_int) (da_nil)))) (da_nil))) (dg_name Sc.nd rfl (by first | exact Or.inl rfl | exact Or.inr rfl) (fun h => absurd rfl h)) (dss_cons (ds_set Sc.nd (i := 3) rfl (by first | exact Or.inl rfl | exact Or.inr rfl) (de_call c__law_pick hr (by decide) tk (da_cons (dv 0) (da_cons (de_lst (da_cons (de_int) (da_cons (de_int) (da_cons (de_int) (da_cons (de_int) (da_cons (de_int) (da_cons (de_int) (da_cons (de_int) (da_cons (de_int) (da_nil)))))))))) (da_nil))))) (dss_one (ds_expr (de_append (dv 1) (da_cons (de_tup (da_cons (dv 3) (da_cons (de_op do_add (dv 3) (de_call c__law_pick hr (by decide) tk (da_cons (dv 0) (da_cons (de_lst (da_cons (de_int) (da_cons (de_int) (da_cons (de_int) (da_cons (de_int) (da_cons (de_int) (da_nil))))))) (da_nil))))) (da_nil)))) (da_nil))))))) (dss_one (ds_ret (de_frz (dv 1)))))
theorem b_law_ranges : AllB dd15 ["feed"] := fun _ _ _ _ _ _ us hl => match us, hl with
  | [_], _ => rfl
theorem sc_law_listed : FnScope ["ranges", "found", "low", "high"] ["ranges"] dd16.scope := ⟨rfl, rfl, rfl, by decide +kernel, rfl, by decide +kernel, by decide +kernel⟩
theorem w_law_listed (m : Md fcs fn K mg)  : WalkD P w K mg base 0 dd16 ["ranges", "found", "low", "high"] t_law_listed := by
  have Sc := sc_law_listed
  intro cdv A outer s H E F0 W hr tk
  exact dss_cons (ds_set Sc.nd (i := 1) rfl (by first | exact Or.inl rfl | exact Or.inr rfl) (de_lst (da_nil))) (dss_cons (ds_for (passes_of rfl) rfl (di_seq (dv 0)) (dg_tup rfl (dgs_cons (dg_name Sc.nd rfl (by first | exact Or.inl rfl | exact Or.inr rfl) (fun h => absurd rfl h)) (dgs_cons (dg_name Sc.nd rfl (by first | exact Or.inl rfl | exact Or.inr rfl) (fun h => absurd rfl h)) (dgs_nil)))) (dss_one (ds_set Sc.nd (i := 1) rfl (by first | exact Or.inl rfl | exact Or.inr rfl) (de_op do_add (dv 1) (de_listRg (m.free "list" (memi 7)) (m.free "range" (memi 36)) (dv 2) (de_op do_add (dv 3) (de_int))))))) (dss_one (ds_ret (de_sortSet (m.free "sorted" (memi 10)) (m.free "set" (memi 38)) (dv 1)))))
theorem b_law_listed : AllB dd16 ["ranges"] := fun _ _ _ _ _ _ us hl => match us, hl with
  | [_], _ => rfl
theorem sc_law_single : FnScope ["ranges", "time"] ["ranges"] dd17.scope := ⟨rfl, rfl, rfl, by decide +kernel, rfl, by decide +kernel, by decide +kernel⟩
theorem w_law_single (m : Md fcs fn K mg) (c__law_listed : Cal P w K mg base 1 "_law_listed" sp_law_listed []) : WalkD P w K mg base 1 dd17 ["ranges", "time"] t_law_single := by
  have Sc := sc_law_single
  intro cdv A outer s H E F0 W hr tk
  exact dss_one (ds_ret (de_rev (de_lc (own := [("time", 1)]) rfl Sc.nd (by simp) (di_seq (de_call c__law_listed hr (by decide) tk (da_cons (dv 0) (da_nil)))) (blkOk_by (N := ["ranges", "time"]) (sc := dd17.scope) (by decide +kernel)) (fun _ _ _ _ _ => dg_name Sc.nd rfl (by first | exact Or.inl rfl | exact Or.inr rfl) (fun _ => by decide)) (fun _ _ _ _ _ => difs_nil) (fun _ _ _ _ _ => de_tup (da_cons (dv 1) (da_cons (dv 1) (da_nil)))))))
theorem b_law_single : AllB dd17 ["ranges"] := fun _ _ _ _ _ _ us hl => match us, hl with
  | [_], _ => rfl
theorem sc_law_parts : FnScope ["feed"] ["feed"] dd18.scope := ⟨rfl, rfl, rfl, by decide +kernel, rfl, by decide +kernel, by decide +kernel⟩
theorem w_law_parts (m : Md fcs fn K mg) (c__law_take : Cal P w K mg base 1 "_law_take" sp_law_take []) (c__law_ranges : Cal P w K mg base 3 "_law_ranges" sp_law_ranges []) : WalkD P w K mg base 3 dd18 ["feed"] t_law_parts := by
  have Sc := sc_law_parts
  intro cdv A outer s H E F0 W hr tk
  exact dss_one (ds_ret (de_tup (da_cons (de_call c__law_ranges hr (by decide) tk (da_cons (dv 0) (da_nil))) (da_cons (de_call c__law_ranges hr (by decide) tk (da_cons (dv 0) (da_nil))) (da_cons (de_cmp (do_eq hr.room) (de_call c__law_take hr (by decide) tk (da_cons (dv 0) (da_cons (de_int) (da_nil)))) (de_int)) (da_nil))))))
theorem b_law_parts : AllB dd18 ["feed"] := fun _ _ _ _ _ _ us hl => match us, hl with
  | [_], _ => rfl
theorem sc_law_all : FnScope ["parts", "found", "time"] ["parts"] dd19.scope := ⟨rfl, rfl, rfl, by decide +kernel, rfl, by decide +kernel, by decide +kernel⟩
theorem w_law_all (m : Md fcs fn K mg) (c__law_listed : Cal P w K mg base 1 "_law_listed" sp_law_listed []) : WalkD P w K mg base 1 dd19 ["parts", "found", "time"] t_law_all := by
  have Sc := sc_law_all
  intro cdv A outer s H E F0 W hr tk
  exact dss_cons (ds_set Sc.nd (i := 1) rfl (by first | exact Or.inl rfl | exact Or.inr rfl) (de_op do_add (de_lc (own := [("time", 2)]) rfl Sc.nd (by simp) (di_seq (de_call c__law_listed hr (by decide) tk (da_cons (de_ix dx_seq (dv 0) (de_int)) (da_nil)))) (blkOk_by (N := ["parts", "found", "time"]) (sc := dd19.scope) (by decide +kernel)) (fun _ _ _ _ _ => dg_name Sc.nd rfl (by first | exact Or.inl rfl | exact Or.inr rfl) (fun _ => by decide)) (fun _ _ _ _ _ => difs_nil) (fun _ _ _ _ _ => de_tup (da_cons (de_str) (da_cons (dv 2) (da_nil))))) (de_lc (own := [("time", 2)]) rfl Sc.nd (by simp) (di_seq (de_call c__law_listed hr (by decide) tk (da_cons (de_ix dx_seq (dv 0) (de_int)) (da_nil)))) (blkOk_by (N := ["parts", "found", "time"]) (sc := dd19.scope) (by decide +kernel)) (fun _ _ _ _ _ => dg_name Sc.nd rfl (by first | exact Or.inl rfl | exact Or.inr rfl) (fun _ => by decide)) (fun _ _ _ _ _ => difs_nil) (fun _ _ _ _ _ => de_tup (da_cons (de_str) (da_cons (dv 2) (da_nil))))))) (dss_one (ds_ret (de_op do_add (dv 1) (de_op do_mul (de_lst (da_cons (de_tup (da_cons (de_str) (da_nil))) (da_nil))) (de_ty (dc_intB) (m.free "int" (memi 0)) (da_cons (de_ix dx_seq (dv 0) (de_int)) (da_nil)))))))
theorem b_law_all : AllB dd19 ["parts"] := fun _ _ _ _ _ _ us hl => match us, hl with
  | [_], _ => rfl
theorem sc_law_worst : FnScope ["parts"] ["parts"] dd20.scope := ⟨rfl, rfl, rfl, by decide +kernel, rfl, by decide +kernel, by decide +kernel⟩
theorem w_law_worst (m : Md fcs fn K mg) (c__law_listed : Cal P w K mg base 1 "_law_listed" sp_law_listed []) : WalkD P w K mg base 1 dd20 ["parts"] t_law_worst := by
  have Sc := sc_law_worst
  intro cdv A outer s H E F0 W hr tk
  exact dss_one (ds_ret (de_if (dt_tr tru_plain (de_ix dx_seq (dv 0) (de_int))) (de_non) (de_b (dc_max rfl) (m.free "max" (memi 11)) (da_cons (de_op do_add (de_op do_add (de_lst (da_cons (de_int) (da_nil))) (de_call c__law_listed hr (by decide) tk (da_cons (de_ix dx_seq (dv 0) (de_int)) (da_nil)))) (de_call c__law_listed hr (by decide) tk (da_cons (de_ix dx_seq (dv 0) (de_int)) (da_nil)))) (da_nil)))))
theorem b_law_worst : AllB dd20 ["parts"] := fun _ _ _ _ _ _ us hl => match us, hl with
  | [_], _ => rfl
theorem sc_law_are_right : FnScope ["first", "second", "one", "other", "mine", "yours", "due", "outcome"] ["first", "second", "one", "other"] dd21.scope := ⟨rfl, rfl, rfl, by decide +kernel, rfl, by decide +kernel, by decide +kernel⟩
theorem w_law_are_right (m : Md fcs fn K mg) (c__law_all : Cal P w K mg base 2 "_law_all" sp_law_all []) (c_Outcomes___eq__ : Spc P w K mg base 1 "Outcomes" "__eq__" sp_Outcomes_eq) (c_Outcomes_is_within : Met P w K mg base 7 "Outcomes" "is_within" sp_Outcomes_is_within []) : WalkD P w K mg base 7 dd21 ["first", "second", "one", "other", "mine", "yours", "due", "outcome"] t_law_are_right := by
  have Sc := sc_law_are_right
  intro cdv A outer s H E F0 W hr tk
  exact dss_cons (ds_asg (de_tup (da_cons (de_call c__law_all hr (by decide) tk (da_cons (dv 2) (da_nil))) (da_cons (de_call c__law_all hr (by decide) tk (da_cons (dv 3) (da_nil))) (da_nil)))) (dg_tup rfl (dgs_cons (dg_name Sc.nd rfl (by first | exact Or.inl rfl | exact Or.inr rfl) (fun h => absurd rfl h)) (dgs_cons (dg_name Sc.nd rfl (by first | exact Or.inl rfl | exact Or.inr rfl) (fun h => absurd rfl h)) (dgs_nil))))) (dss_cons (ds_if (dt_w (dw_or (dt_cmp (do_ne hr.room) (de_cmp (do_ownEq c_Outcomes___eq__ hr (by decide)) (dv 0) (dv 1)) (de_cmp (do_eq hr.room) (dv 4) (dv 5))) (dw_or1 (dt_cmp (do_eq hr.room) (de_cmp (do_ownNe c_Outcomes___eq__ (m.ne "Outcomes" (memi 44) (memi 22)) hr (by decide)) (dv 0) (dv 1)) (de_cmp (do_eq hr.room) (dv 4) (dv 5)))))) (dss_one (ds_ret (de_bl))) (dss_nil)) (dss_cons (ds_set Sc.nd (i := 6) rfl (by first | exact Or.inl rfl | exact Or.inr rfl) (de_cmp (do_eq hr.room) (de_lc (own := [("outcome", 7)]) rfl Sc.nd (by simp) (di_seq (dv 4)) (blkOk_by (N := ["first", "second", "one", "other", "mine", "yours", "due", "outcome"]) (sc := dd21.scope) (by decide +kernel)) (fun _ _ _ _ _ => dg_name Sc.nd rfl (by first | exact Or.inl rfl | exact Or.inr rfl) (fun _ => by decide)) (fun _ _ _ _ _ => difs_one (dt_cmp (do_notIn hr.room) (dv 7) (dv 5))) (fun _ _ _ _ _ => dv 7)) (de_lst (da_nil)))) (dss_one (ds_ret (de_cmp (do_eq hr.room) (de_b (dc_repr hr) (m.free "repr" (memi 45)) (da_cons (de_meth c_Outcomes_is_within hr (by decide) tk (dv 0) (da_cons (dv 1) (da_nil))) (da_nil))) (de_b (dc_repr hr) (m.free "repr" (memi 45)) (da_cons (dv 6) (da_nil))))))))
theorem b_law_are_right : AllB dd21 ["first", "second", "one", "other"] := fun _ _ _ _ _ _ us hl => match us, hl with
  | [_, _, _, _], _ => rfl
theorem sc_law_asked_on : FnScope ["first", "one", "others", "other", "second", "due", "outcome"] ["first", "one", "others"] dd22.scope := ⟨rfl, rfl, rfl, by decide +kernel, rfl, by decide +kernel, by decide +kernel⟩
theorem w_law_asked_on (m : Md fcs fn K mg) (c_Times : Mak P w K mg base 3 "Times" sp_Times_init []) (c_Outcomes : Mak P w K mg base 1 "Outcomes" sp_Outcomes_init []) (c__law_all : Cal P w K mg base 2 "_law_all" sp_law_all []) (c_Outcomes_is_within : Met P w K mg base 7 "Outcomes" "is_within" sp_Outcomes_is_within []) : WalkD P w K mg base 7 dd22 ["first", "one", "others", "other", "second", "due", "outcome"] t_law_asked_on := by
  have Sc := sc_law_asked_on
  intro cdv A outer s H E F0 W hr tk
  exact dss_cons (ds_for (passes_of rfl) rfl (di_seq (de_op do_add (dv 2) (de_slice (dv 2) (do_none) (do_some (de_int))))) (dg_name Sc.nd rfl (by first | exact Or.inl rfl | exact Or.inr rfl) (fun h => absurd rfl h)) (dss_cons (ds_set Sc.nd (i := 4) rfl (by first | exact Or.inl rfl | exact Or.inr rfl) (de_frz (de_makeM c_Outcomes hr (by decide) tk (da_cons (de_frz (de_makeM c_Times hr (by decide) tk (da_cons (de_ix dx_seq (dv 3) (de_int)) (da_nil)))) (da_cons (de_frz (de_makeM c_Times hr (by decide) tk (da_cons (de_ix dx_seq (dv 3) (de_int)) (da_nil)))) (da_cons (de_ix dx_seq (dv 3) (de_int)) (da_nil))))))) (dss_cons (ds_set Sc.nd (i := 5) rfl (by first | exact Or.inl rfl | exact Or.inr rfl) (de_cmp (do_eq hr.room) (de_lc (own := [("outcome", 6)]) rfl Sc.nd (by simp) (di_seq (de_call c__law_all hr (by decide) tk (da_cons (dv 1) (da_nil)))) (blkOk_by (N := ["first", "one", "others", "other", "second", "due", "outcome"]) (sc := dd22.scope) (by decide +kernel)) (fun _ _ _ _ _ => dg_name Sc.nd rfl (by first | exact Or.inl rfl | exact Or.inr rfl) (fun _ => by decide)) (fun _ _ _ _ _ => difs_one (dt_cmp (do_notIn hr.room) (dv 6) (de_call c__law_all hr (by decide) tkF (da_cons (dv 3) (da_nil))))) (fun _ _ _ _ _ => dv 6)) (de_lst (da_nil)))) (dss_one (ds_if (dt_cmp (do_ne hr.room) (de_b (dc_repr hr) (m.free "repr" (memi 45)) (da_cons (de_meth c_Outcomes_is_within hr (by decide) tk (dv 0) (da_cons (dv 4) (da_nil))) (da_nil))) (de_b (dc_repr hr) (m.free "repr" (memi 45)) (da_cons (dv 5) (da_nil)))) (dss_one (ds_ret (de_bl))) (dss_nil)))))) (dss_one (ds_ret (de_bl)))
theorem b_law_asked_on : AllB dd22 ["first", "one", "others"] := fun _ _ _ _ _ _ us hl => match us, hl with
  | [_, _, _], _ => rfl
theorem sc_law : FnScope ["script", "k", "feed", "one", "near", "whole", "other", "first", "second", "time", "turn", "word"] ["script"] dd23.scope := ⟨rfl, rfl, rfl, by decide +kernel, rfl, by decide +kernel, by decide +kernel⟩
theorem w_law (m : Md fcs fn K mg) (c__law_feed : Cal P w K mg base 1 "_law_feed" sp_law_feed []) (c__law_parts : Cal P w K mg base 4 "_law_parts" sp_law_parts []) (c__law_take : Cal P w K mg base 1 "_law_take" sp_law_take []) (c_Times : Mak P w K mg base 3 "Times" sp_Times_init []) (c_Outcomes : Mak P w K mg base 1 "Outcomes" sp_Outcomes_init []) (c__law_asked_on : Cal P w K mg base 8 "_law_asked_on" sp_law_asked_on []) (c__law_single : Cal P w K mg base 2 "_law_single" sp_law_single []) (c__law_are_right : Cal P w K mg base 8 "_law_are_right" sp_law_are_right []) (c_Times___eq__ : Spc P w K mg base 1 "Times" "__eq__" sp_Times_eq) (c_Outcomes_worst : Met P w K mg base 1 "Outcomes" "worst" sp_Outcomes_worst []) (c__law_worst : Cal P w K mg base 2 "_law_worst" sp_law_worst []) (c_Outcomes___contains__ : Spc P w K mg base 2 "Outcomes" "__contains__" sp_Outcomes_contains) (c__law_all : Cal P w K mg base 2 "_law_all" sp_law_all []) (c_Outcomes___eq__ : Spc P w K mg base 1 "Outcomes" "__eq__" sp_Outcomes_eq) : WalkD P w K mg base 8 dd23 ["script", "k", "feed", "one", "near", "whole", "other", "first", "second", "time", "turn", "word"] t_law := by
  have Sc := sc_law
  intro cdv A outer s H E F0 W hr tk
  exact dss_cons (ds_for (passes_of rfl) rfl (di_range1 (m.free "range" (memi 36)) (da_cons (de_b (dc_max rfl) (m.free "max" (memi 11)) (da_cons (de_int) (da_cons (de_b (dc_min rfl) (m.free "min" (memi 18)) (da_cons (de_int) (da_cons (de_b (dc_len) (m.free "len" (memi 5)) (da_cons (dv 0) (da_nil))) (da_nil)))) (da_nil)))) (da_nil))) (dg_name Sc.nd rfl (by first | exact Or.inl rfl | exact Or.inr rfl) (fun h => absurd rfl h)) (dss_cons (ds_set Sc.nd (i := 2) rfl (by first | exact Or.inl rfl | exact Or.inr rfl) (de_call c__law_feed hr (by decide) tk (da_cons (dv 0) (da_cons (dv 1) (da_nil))))) (dss_cons (ds_set Sc.nd (i := 3) rfl (by first | exact Or.inl rfl | exact Or.inr rfl) (de_call c__law_parts hr (by decide) tk (da_cons (dv 2) (da_nil)))) (dss_cons (ds_set Sc.nd (i := 4) rfl (by first | exact Or.inl rfl | exact Or.inr rfl) (de_lst (da_cons (de_slice (de_ix dx_seq (dv 3) (de_int)) (do_some (de_int)) (do_none)) (da_cons (de_ix dx_seq (dv 3) (de_int)) (da_cons (de_and tru_plain (de_ix dx_seq (dv 3) (de_int)) (de_one (de_cmp (do_eq hr.room) (de_call c__law_take hr (by decide) tk (da_cons (dv 2) (da_cons (de_int) (da_nil)))) (de_int)))) (da_nil)))))) (dss_cons (ds_set Sc.nd (i := 5) rfl (by first | exact Or.inl rfl | exact Or.inr rfl) (de_frz (de_makeM c_Outcomes hr (by decide) tk (da_cons (de_frz (de_makeM c_Times hr (by decide) tk (da_cons (de_ix dx_seq (dv 3) (de_int)) (da_nil)))) (da_cons (de_frz (de_makeM c_Times hr (by decide) tk (da_cons (de_ix dx_seq (dv 3) (de_int)) (da_nil)))) (da_cons (de_ix dx_seq (dv 3) (de_int)) (da_nil))))))) (dss_cons (ds_if (dt_not (dt_val (de_call c__law_asked_on hr (by decide) tk (da_cons (dv 5) (da_cons (dv 3) (da_cons (de_lst (da_cons (dv 3) (da_cons (dv 4) (da_cons (de_call c__law_parts hr (by decide) tk (da_cons (dv 2) (da_nil))) (da_cons (de_tup (da_cons (de_lst (da_nil)) (da_cons (de_lst (da_nil)) (da_cons (de_bl) (da_nil))))) (da_cons (de_tup (da_cons (de_ix dx_seq (dv 3) (de_int)) (da_cons (de_lst (da_cons (de_tup (da_cons (de_int) (da_cons (de_int) (da_nil)))) (da_nil))) (da_cons (de_bl) (da_nil))))) (da_nil))))))) (da_nil))))))) (dss_one (ds_ret (de_bl))) (dss_nil)) (dss_one (ds_for (passes_of rfl) rfl (di_seq (de_lst (da_cons (de_call c__law_parts hr (by decide) tk (da_cons (dv 2) (da_nil))) (da_cons (dv 4) (da_cons (de_tup (da_cons (de_call c__law_single hr (by decide) tk (da_cons (de_ix dx_seq (dv 3) (de_int)) (da_nil))) (da_cons (de_call c__law_single hr (by decide) tk (da_cons (de_ix dx_seq (dv 3) (de_int)) (da_nil))) (da_cons (de_ix dx_seq (dv 3) (de_int)) (da_nil))))) (da_cons (de_tup (da_cons (de_lst (da_nil)) (da_cons (de_lst (da_nil)) (da_cons (de_bl) (da_nil))))) (da_nil))))))) (dg_name Sc.nd rfl (by first | exact Or.inl rfl | exact Or.inr rfl) (fun h => absurd rfl h)) (dss_cons (ds_set Sc.nd (i := 7) rfl (by first | exact Or.inl rfl | exact Or.inr rfl) (de_frz (de_makeM c_Outcomes hr (by decide) tk (da_cons (de_frz (de_makeM c_Times hr (by decide) tk (da_cons (de_ix dx_seq (dv 3) (de_int)) (da_nil)))) (da_cons (de_frz (de_makeM c_Times hr (by decide) tk (da_cons (de_ix dx_seq (dv 3) (de_int)) (da_nil)))) (da_cons (de_ix dx_seq (dv 3) (de_int)) (da_nil))))))) (dss_cons (ds_set Sc.nd (i := 8) rfl (by first | exact Or.inl rfl | exact Or.inr rfl) (de_frz (de_makeM c_Outcomes hr (by decide) tk (da_cons (de_frz (de_makeM c_Times hr (by decide) tk (da_cons (de_ix dx_seq (dv 6) (de_int)) (da_nil)))) (da_cons (de_frz (de_makeM c_Times hr (by decide) tk (da_cons (de_ix dx_seq (dv 6) (de_int)) (da_nil)))) (da_cons (de_ix dx_seq (dv 6) (de_int)) (da_nil))))))) (dss_cons (ds_if (dt_w (dw_or (dt_not (dt_val (de_call c__law_are_right hr (by decide) tk (da_cons (dv 7) (da_cons (dv 8) (da_cons (dv 3) (da_cons (dv 6) (da_nil)))))))) (dw_or1 (dt_not (dt_val (de_call c__law_are_right hr (by decide) tk (da_cons (dv 8) (da_cons (dv 7) (da_cons (dv 6) (da_cons (dv 3) (da_nil))))))))))) (dss_one (ds_ret (de_bl))) (dss_nil)) (dss_cons (ds_if (dt_w (dw_or (dt_cmp (do_ownNe c_Times___eq__ (m.ne "Times" (memi 48) (memi 13)) hr (by decide)) (de_fld (dv 7) (m.noat "Outcomes" "ok" (memi 21) (memi 22))) (de_frz (de_makeM c_Times hr (by decide) tk (da_cons (de_ix dx_seq (dv 3) (de_int)) (da_nil))))) (dw_or (dt_cmp (do_ownNe c_Times___eq__ (m.ne "Times" (memi 48) (memi 13)) hr (by decide)) (de_fld (dv 7) (m.noat "Outcomes" "fail" (memi 23) (memi 22))) (de_frz (de_makeM c_Times hr (by decide) tk (da_cons (de_ix dx_seq (dv 3) (de_int)) (da_nil))))) (dw_or1 (dt_cmp (do_ne hr.room) (de_b (dc_repr hr) (m.free "repr" (memi 45)) (da_cons (de_fld (dv 7) (m.noat "Outcomes" "never" (memi 24) (memi 22))) (da_nil))) (de_b (dc_repr hr) (m.free "repr" (memi 45)) (da_cons (de_ix dx_seq (dv 3) (de_int)) (da_nil)))))))) (dss_one (ds_ret (de_bl))) (dss_nil)) (dss_cons (ds_if (dt_cmp (do_ne hr.room) (de_b (dc_repr hr) (m.free "repr" (memi 45)) (da_cons (de_meth0 c_Outcomes_worst hr (by decide) tk (dv 8)) (da_nil))) (de_b (dc_repr hr) (m.free "repr" (memi 45)) (da_cons (de_call c__law_worst hr (by decide) tk (da_cons (dv 6) (da_nil))) (da_nil)))) (dss_one (ds_ret (de_bl))) (dss_nil)) (dss_cons (ds_for (passes_of rfl) rfl (di_seq (de_lc (own := [("turn", 10)]) rfl Sc.nd (by simp) (di_range1 (m.free "range" (memi 36)) (da_cons (de_int) (da_nil))) (blkOk_by (N := ["script", "k", "feed", "one", "near", "whole", "other", "first", "second", "time", "turn", "word"]) (sc := dd23.scope) (by decide +kernel)) (fun _ _ _ _ _ => dg_name Sc.nd rfl (by first | exact Or.inl rfl | exact Or.inr rfl) (fun _ => by decide)) (fun _ _ _ _ _ => difs_nil) (fun _ _ _ _ _ => de_call c__law_take hr (by decide) tkF (da_cons (dv 2) (da_cons (de_int) (da_nil)))))) (dg_name Sc.nd rfl (by first | exact Or.inl rfl | exact Or.inr rfl) (fun h => absurd rfl h)) (dss_one (ds_for (passes_of rfl) rfl (di_seq (de_lst (da_cons (de_str) (da_cons (de_str) (da_nil))))) (dg_name Sc.nd rfl (by first | exact Or.inl rfl | exact Or.inr rfl) (fun h => absurd rfl h)) (dss_one (ds_if (dt_cmp (do_ne hr.room) (de_cmp (do_ownIn c_Outcomes___contains__ hr (by decide)) (de_tup (da_cons (dv 11) (da_cons (dv 9) (da_nil)))) (dv 7)) (de_cmp (do_in hr.room) (de_tup (da_cons (dv 11) (da_cons (dv 9) (da_nil)))) (de_call c__law_all hr (by decide) tk (da_cons (dv 3) (da_nil))))) (dss_one (ds_ret (de_bl))) (dss_nil)))))) (dss_one (ds_if (dt_w (dw_or (dt_cmp (do_ne hr.room) (de_cmp (do_ownIn c_Outcomes___contains__ hr (by decide)) (de_tup (da_cons (de_str) (da_nil))) (dv 7)) (de_ix dx_seq (dv 3) (de_int))) (dw_or (dt_cmp (do_ownEqX c_Outcomes___eq__ hr (by decide)) (dv 7) (de_str)) (dw_or (dt_cmp (do_ownEqX c_Outcomes___eq__ hr (by decide)) (dv 7) (dv 3)) (dw_or1 (dt_not (dt_cmp (do_ownNeX c_Outcomes___eq__ (m.ne "Outcomes" (memi 44) (memi 22)) hr (by decide)) (dv 7) (dv 3)))))))) (dss_one (ds_ret (de_bl))) (dss_nil))))))))))))))))) (dss_one (ds_ret (de_bl)))
theorem b_law : AllB dd23 ["script"] := fun _ _ _ _ _ _ us hl => match us, hl with
  | [_], _ => rfl
end
end K


set_option Elab.async false
set_option linter.all false
set_option maxRecDepth 100000
set_option maxHeartbeats 2000000
namespace K
open PySem PySem.Spec PyProof.Rows L2 DL
abbrev Pure (N : List Str) (sp : DSp) (t : DWX → DTS) : Prop := ∀ ds M P PE, sp ds M P PE → t (finW PE) { nx := fun _ M' => finP P .non M', rt := finP P } (startR N ds) M
theorem fin0 {P : D → Store → Prop} {d : D} {M : Store} (h : P d M) : finP P d M := ⟨M, SubM.refl M, h⟩
theorem finS {P : D → Store → Prop} {d : D} {M M' : Store} (s : SubM M' M) (h : P d M') : finP P d M := ⟨M', s, h⟩
def isT (M : Store) (n : String) (v : D) : Bool := match tyD M v with
  | some t => (isiD t (.ty n)).getD false
  | none => false
theorem isi_ty {M : Store} {v : D} {n : String} {Q : D → Store → Prop} (h : (tyD M v).isSome = true) (hn : n = "int" ∨ n = "bool" ∨ n = "str" ∨ n = "tuple" ∨ n = "list" ∨ n = "dict") : rcIsi [v, .ty n] M Q = Q (.bl (isT M n v)) M := by
  obtain ⟨t, e⟩ := Option.isSome_iff_exists.mp h
  have e2 : ∃ b, isiD t (.ty n) = some b := by
    cases t with
    | b t => exact ⟨_, if_pos hn⟩
    | own c => exact ⟨_, if_pos hn⟩
  obtain ⟨b, e2⟩ := e2
  have e3 : isT M n v = b := by
    unfold isT
    rw [e]
    show (isiD t (.ty n)).getD false = b
    rw [e2]
    rfl
  rw [e3]
  show (match tyD M v with
    | some t => match isiD t (.ty n) with
      | some b => Q (.bl b) M
      | none => False
    | none => False) = _
  rw [e]
  show (match isiD t (.ty n) with
      | some b => Q (.bl b) M
      | none => False) = _
  rw [e2]
theorem isT_ref {M : Store} {a : Addr} {n : String} (h : n = "int" ∨ n = "bool" ∨ n = "str" ∨ n = "tuple") : isT M n (.ref a) = false := by
  unfold isT tyD
  cases e : M a with
  | none => simp [e]
  | some m =>
    cases m <;> simp only [e] <;> rcases h with rfl | rfl | rfl | rfl <;> rfl
theorem isT_int (M : Store) (v : D) : isT M "int" v = match v with
    | .int _ => true
    | .bl _ => true
    | _ => false := by
  cases v with
  | ref a => exact isT_ref (by simp)
  | _ => rfl
theorem isT_bool (M : Store) (v : D) : isT M "bool" v = match v with
    | .bl _ => true
    | _ => false := by
  cases v with
  | ref a => exact isT_ref (by simp)
  | _ => rfl
theorem isT_tup (M : Store) (v : D) : isT M "tuple" v = match v with
    | .tup _ => true
    | _ => false := by
  cases v with
  | ref a => exact isT_ref (by simp)
  | _ => rfl
theorem q_is_integer : Pure ["value", "least", "most"] sp_is_integer t_is_integer := by
  rintro ds M P PE ⟨v, l, mo, rfl, hv, hm, h⟩
  simp only [t_is_integer, dSeq, dIf, dOr, dAnd, dNot, dB, dB1, daCons, daNil, dVar, dC, dRet, dRetN, dNext, dOp, dOrV, dAndV, dNotV, dIfE, dAsg, dgName, dTup, dLst, dLstM, dFrz, dDrop, dMt, dNeg, dCall, dgSub, dPar, dFld, dSetFld, dMakeM, dTr, dChain, dAug, dItem, dFor, dRange1, dRange2, dgTup, dgCons, dgNil, dRev, dMeth, dYes, startR, List.map_cons, List.map_nil, List.length_cons, List.length_nil, List.replicate, List.cons_append, List.nil_append, List.getElem?_cons_zero, List.getElem?_cons_succ, List.set_cons_zero, List.set_cons_succ, sizeLine_eq, Nat.reduceAdd, Nat.reduceLeDiff, Nat.reduceLT, Nat.zero_le, true_and]
  rw [isi_ty hv (by simp), isT_int, isi_ty hv (by simp), isT_bool]
  cases v with
  | int i =>
    rcases hm with rfl | ⟨m, rfl⟩
    · by_cases h1 : i < l
      · have : ¬ l ≤ i := by omega
        simpa [rcIsi, rdEq, rdI, rdCmp, rcLen, trP, tyD, isiD, isiB, rdIs, isNonD, rdIx, rdAdd, rdSub, rdMul, rdDiv, rdMod, rdPow, rdSetL, rcAll, rcMax, rcMin, rcAbs, rcTuple, rcList, rcListM, rcSorted, rmAppend, rmReverse, isLM, asL, asR, asS, h1, isIntD, this] using fin0 h
      · have : l ≤ i := by omega
        simpa [rcIsi, rdEq, rdI, rdCmp, rcLen, trP, tyD, isiD, isiB, rdIs, isNonD, rdIx, rdAdd, rdSub, rdMul, rdDiv, rdMod, rdPow, rdSetL, rcAll, rcMax, rcMin, rcAbs, rcTuple, rcList, rcListM, rcSorted, rmAppend, rmReverse, isLM, asL, asR, asS, h1, isIntD, this, isNonD] using fin0 h
    · by_cases h1 : i < l
      · have : ¬ l ≤ i := by omega
        simpa [rcIsi, rdEq, rdI, rdCmp, rcLen, trP, tyD, isiD, isiB, rdIs, isNonD, rdIx, rdAdd, rdSub, rdMul, rdDiv, rdMod, rdPow, rdSetL, rcAll, rcMax, rcMin, rcAbs, rcTuple, rcList, rcListM, rcSorted, rmAppend, rmReverse, isLM, asL, asR, asS, h1, isIntD, this] using fin0 h
      · have : l ≤ i := by omega
        simpa [rcIsi, rdEq, rdI, rdCmp, rcLen, trP, tyD, isiD, isiB, rdIs, isNonD, rdIx, rdAdd, rdSub, rdMul, rdDiv, rdMod, rdPow, rdSetL, rcAll, rcMax, rcMin, rcAbs, rcTuple, rcList, rcListM, rcSorted, rmAppend, rmReverse, isLM, asL, asR, asS, h1, isIntD, this, isNonD] using fin0 h
  | _ => simpa [isIntD] using fin0 h
theorem q_is_range : Pure ["value", "least", "most"] sp_is_range t_is_range := by
  rintro ds M P PE ⟨v, l, mo, rfl, ⟨hv, hk⟩, hm, h⟩
  simp only [t_is_range, dSeq, dIf, dOr, dAnd, dNot, dB, dB1, daCons, daNil, dVar, dC, dRet, dRetN, dNext, dOp, dOrV, dAndV, dNotV, dIfE, dAsg, dgName, dTup, dLst, dLstM, dFrz, dDrop, dMt, dNeg, dCall, dgSub, dPar, dFld, dSetFld, dMakeM, dTr, dChain, dAug, dItem, dFor, dRange1, dRange2, dgTup, dgCons, dgNil, dRev, dMeth, dYes, startR, List.map_cons, List.map_nil, List.length_cons, List.length_nil, List.replicate, List.cons_append, List.nil_append, List.getElem?_cons_zero, List.getElem?_cons_succ, List.set_cons_zero, List.set_cons_succ, sizeLine_eq, Nat.reduceAdd, Nat.reduceLeDiff, Nat.reduceLT, Nat.zero_le, true_and]
  rw [isi_ty hv (by simp), isT_tup]
  cases v with
  | tup xs =>
    match xs with
    | [] => simpa [rcIsi, rdEq, rdI, rdCmp, rcLen, trP, tyD, isiD, isiB, rdIs, isNonD, rdIx, rdAdd, rdSub, rdMul, rdDiv, rdMod, rdPow, rdSetL, rcAll, rcMax, rcMin, rcAbs, rcTuple, rcList, rcListM, rcSorted, rmAppend, rmReverse, isLM, asL, asR, asS, isRangeD] using fin0 h
    | [a] => simpa [rcIsi, rdEq, rdI, rdCmp, rcLen, trP, tyD, isiD, isiB, rdIs, isNonD, rdIx, rdAdd, rdSub, rdMul, rdDiv, rdMod, rdPow, rdSetL, rcAll, rcMax, rcMin, rcAbs, rcTuple, rcList, rcListM, rcSorted, rmAppend, rmReverse, isLM, asL, asR, asS, isRangeD] using fin0 h
    | [a, b] =>
      simp only [rcIsi, rdEq, rdI, rdCmp, rcLen, trP, tyD, isiD, isiB, rdIs, isNonD, rdIx, rdAdd, rdSub, rdMul, rdDiv, rdMod, rdPow, rdSetL, rcAll, rcMax, rcMin, rcAbs, rcTuple, rcList, rcListM, rcSorted, rmAppend, rmReverse, isLM, asL, asR, asS, ixN]
      have e : ∀ (P' : D → Store → Prop) (b' l'), (tyD M b').isSome = true → P' (.bl (isIntD b' l' mo)) M → sp_is_integer ([b', .int l', mo] ++ []) M P' (fun c fs M2 => finW PE c fs [some (D.tup [a, b]), some (D.int l), some mo] M2) := fun P' b' l' ht hp => ⟨b', l', mo, rfl, ht, hm, hp⟩
      simp only [List.append_nil] at e
      simp
      refine e _ a l hk.1 ?_
      cases a with
      | int i =>
        by_cases h1 : isIntD (.int i) l mo = true
        · simp [h1, rcIsi, rdEq, rdI, rdCmp, rcLen, trP, tyD, isiD, isiB, rdIs, isNonD, rdIx, rdAdd, rdSub, rdMul, rdDiv, rdMod, rdPow, rdSetL, rcAll, rcMax, rcMin, rcAbs, rcTuple, rcList, rcListM, rcSorted, rmAppend, rmReverse, isLM, asL, asR, asS]
          by_cases h2 : l < i
          · simp [h2]
            refine e _ b i hk.2 (fin0 ?_)
            simpa [isRangeD, h1, h2] using h
          · simp [h2]
            refine e _ b l hk.2 (fin0 ?_)
            simpa [isRangeD, h1, h2] using h
        · simp [h1, rcIsi, rdEq, rdI, rdCmp, rcLen, trP, tyD, isiD, isiB, rdIs, isNonD, rdIx, rdAdd, rdSub, rdMul, rdDiv, rdMod, rdPow, rdSetL, rcAll, rcMax, rcMin, rcAbs, rcTuple, rcList, rcListM, rcSorted, rmAppend, rmReverse, isLM, asL, asR, asS]
          refine fin0 ?_
          simpa [isRangeD, h1] using h
      | _ => simpa [isIntD, isRangeD, rcIsi, rdEq, rdI, rdCmp, rcLen, trP, tyD, isiD, isiB, rdIs, isNonD, rdIx, rdAdd, rdSub, rdMul, rdDiv, rdMod, rdPow, rdSetL, rcAll, rcMax, rcMin, rcAbs, rcTuple, rcList, rcListM, rcSorted, rmAppend, rmReverse, isLM, asL, asR, asS] using fin0 h
    | a :: b :: c :: r =>
      have e : ¬ ((r.length : Int) + 1 + 1 + 1 = 2) := by omega
      simpa [rcIsi, rdEq, rdI, rdCmp, rcLen, trP, tyD, isiD, isiB, rdIs, isNonD, rdIx, rdAdd, rdSub, rdMul, rdDiv, rdMod, rdPow, rdSetL, rcAll, rcMax, rcMin, rcAbs, rcTuple, rcList, rcListM, rcSorted, rmAppend, rmReverse, isLM, asL, asR, asS, isRangeD, e] using fin0 h
  | _ => simpa [isRangeD] using fin0 h
theorem ne_free {M : Store} {p q : Addr} {m : MO} (h : M p = some m) (hq : M q = none) : p ≠ q := fun e => by rw [e, hq] at h; cases h
theorem asR_ty {M : Store} {r : D} {ds : List D} (h : asR M r = some ds) : (tyD M r).isSome = true ∧ isT M "list" r = true ∧ asS M r = some ds ∧ (∀ q m, M q = none → Held r ds (updM M q m)) := by
  unfold asR at h
  split at h
  · cases h
    exact ⟨rfl, rfl, rfl, fun _ _ _ => trivial⟩
  · unfold asL at h
    split at h
    · cases h
      exact ⟨rfl, rfl, rfl, fun _ _ _ => trivial⟩
    · split at h
      · rename_i a _ _ xs e
        cases h
        refine ⟨?_, ?_, ?_, fun q m hq => ?_⟩
        · simp [tyD, e]
        · simp [isT, tyD, e, isiD, isiB]
        · simp [asS, asR, asL, e]
        · show updM M q m a = _
          rw [updM_ne (ne_free e hq)]
          exact e
      · cases h
    · cases h
theorem range_good {x : Int × Int} (h : 0 ≤ x.1 ∧ x.1 ≤ x.2) : isRangeD (rngD x) 0 .non = true := by
  obtain ⟨a, b⟩ := x
  simp only at h
  have h2 : 0 ≤ b := by omega
  by_cases h3 : 0 < a
  · simp [isRangeD, rngD, isIntD, h, h3]
  · simp [isRangeD, rngD, isIntD, h, h3, h2]
theorem toBs_good {L : PrL} (h : okR L) : toBs ((L.map rngD).map fun d => D.bl (isRangeD d 0 .non)) = some (L.map fun _ => true) := by
  induction L with
  | nil => rfl
  | cons x L ih =>
    have e := range_good (h x List.mem_cons_self)
    have := ih fun y hy => h y (List.mem_cons_of_mem _ hy)
    simp only [List.map_cons, toBs, e, this, Option.map_some]
theorem q_Times_init : Pure ["self", "ranges", "one", "found", "low", "high"] sp_Times_init t_Times_init := by
  rintro ds M P PE ⟨p, r, L, rfl, hp, hr, hL, hn, h⟩
  obtain ⟨r1, r2, r3, r4⟩ := asR_ty hr
  simp only [t_Times_init, dSeq, dIf, dOr, dAnd, dNot, dB, dB1, daCons, daNil, dVar, dC, dRet, dRetN, dNext, dOp, dOrV, dAndV, dNotV, dIfE, dAsg, dgName, dTup, dLst, dLstM, dFrz, dDrop, dMt, dNeg, dCall, dgSub, dPar, dFld, dSetFld, dMakeM, dTr, dChain, dAug, dItem, dFor, dRange1, dRange2, dgTup, dgCons, dgNil, dRev, dMeth, dYes, startR, List.map_cons, List.map_nil, List.length_cons, List.length_nil, List.replicate, List.cons_append, List.nil_append, List.getElem?_cons_zero, List.getElem?_cons_succ, List.set_cons_zero, List.set_cons_succ, sizeLine_eq, Nat.reduceAdd, Nat.reduceLeDiff, Nat.reduceLT, Nat.zero_le, true_and]
  rw [isi_ty r1 (by simp), r2]
  simp only [Bool.not_true, Bool.false_eq_true, if_false, dLc, dSeq, dIf, dOr, dAnd, dNot, dB, dB1, daCons, daNil, dVar, dC, dRet, dRetN, dNext, dOp, dOrV, dAndV, dNotV, dIfE, dAsg, dgName, dTup, dLst, dLstM, dFrz, dDrop, dMt, dNeg, dCall, dgSub, dPar, dFld, dSetFld, dMakeM, dTr, dChain, dAug, dItem, dFor, dRange1, dRange2, dgTup, dgCons, dgNil, dRev, dMeth, dYes, startR, List.map_cons, List.map_nil, List.length_cons, List.length_nil, List.replicate, List.cons_append, List.nil_append, List.getElem?_cons_zero, List.getElem?_cons_succ, List.set_cons_zero, List.set_cons_succ, sizeLine_eq, Nat.reduceAdd, Nat.reduceLeDiff, Nat.reduceLT, Nat.zero_le, true_and, r3]
  intro q hq
  refine dLc_map (f := fun d => .bl (isRangeD d 0 .non)) hq _ (fun acc => r4 q _ hq) (fun d hd acc Q hQ => ?_) (by rw [List.length_map, sizeLine_eq]; omega) ?_
  · obtain ⟨x, hx, rfl⟩ := List.mem_map.mp hd
    simp [dSeq, dIf, dOr, dAnd, dNot, dB, dB1, daCons, daNil, dVar, dC, dRet, dRetN, dNext, dOp, dOrV, dAndV, dNotV, dIfE, dAsg, dgName, dTup, dLst, dLstM, dFrz, dDrop, dMt, dNeg, dCall, dgSub, dPar, dFld, dSetFld, dMakeM, dTr, dChain, dAug, dItem, dFor, dRange1, dRange2, dgTup, dgCons, dgNil, dRev, dMeth, dYes, startR, List.map_cons, List.map_nil, List.length_cons, List.length_nil, List.replicate, List.cons_append, List.nil_append, List.getElem?_cons_zero, List.getElem?_cons_succ, List.set_cons_zero, List.set_cons_succ, sizeLine_eq, Nat.reduceAdd, Nat.reduceLeDiff, Nat.reduceLT, Nat.zero_le, true_and, wipeR]
    refine ⟨_, _, _, rfl, ⟨rfl, rfl, rfl⟩, .inl rfl, hQ⟩
  · have e : rcAll [.lst ((L.map rngD).map fun d => D.bl (isRangeD d 0 .non))] M = fun Q => Q (.bl true) M := by
      funext Q
      simp only [rcAll, asR, asL, toBs_good hL]
      have : (L.map fun _ => true).all id = true := by simp
      rw [this]
    simp only [e, Bool.not_true, Bool.false_eq_true, if_false]
    intro q2 hq2
    have hpq : p ≠ q2 := ne_free hp hq2
    refine rcSorted_pairs (L := L) ?_ ?_
    · exact asR_upd hr hq2
    · simp only [asS, asR, asL]
      refine dLoop_ind (fun rest ρ M' => ∃ (S acc : PrL) (o4 o5 : Option D), rest = S.map rngD ∧ ρ = [some (.ref p), some r, none, some (.ref q2), o4, o5] ∧ M' = updM M q2 (.lst (acc.map rngD)) ∧ S.foldl joinS acc = norm L ∧ acc.length + S.length ≤ 100000) ?_ ?_ _ _ _
        ⟨sortP L, [], none, none, rfl, rfl, rfl, rfl, by have := (sortP_perm L).length_eq; simp; omega⟩
      · rintro d rest ρ M' K hK ⟨S, acc, o4, o5, e1, rfl, rfl, e4, e5⟩
        cases S with
        | nil => cases e1
        | cons x S =>
          cases e1
          refine ⟨trivial, ?_⟩
          simp only [dSeq, dIf, dOr, dAnd, dNot, dB, dB1, daCons, daNil, dVar, dC, dRet, dRetN, dNext, dOp, dOrV, dAndV, dNotV, dIfE, dAsg, dgName, dTup, dLst, dLstM, dFrz, dDrop, dMt, dNeg, dCall, dgSub, dPar, dFld, dSetFld, dMakeM, dTr, dChain, dAug, dItem, dFor, dRange1, dRange2, dgTup, dgCons, dgNil, dRev, dMeth, dYes, startR, List.map_cons, List.map_nil, List.length_cons, List.length_nil, List.replicate, List.cons_append, List.nil_append, List.getElem?_cons_zero, List.getElem?_cons_succ, List.set_cons_zero, List.set_cons_succ, sizeLine_eq, Nat.reduceAdd, Nat.reduceLeDiff, Nat.reduceLT, Nat.zero_le, true_and, rngD, asS]
          have hM : updM M q2 (.lst (acc.map rngD)) q2 = some (.lst (acc.map rngD)) := updM_same
          rw [rdEq_refN hM]
          have nxt : ∀ acc' : PrL, joinS acc x = acc' → K [some (.ref p), some r, none, some (.ref q2), some (.int x.1), some (.int x.2)] (updM M q2 (.lst (acc'.map rngD))) := fun acc' ej =>
            hK _ _ ⟨S, acc', _, _, rfl, rfl, rfl, by rw [← e4, List.foldl_cons, ej], by
              have := joinS_len acc x
              rw [List.length_cons] at e5
              rw [ej] at this
              omega⟩
          have app : joinS acc x = acc ++ [x] → rmAppend (.ref q2) [rngD x] (updM M q2 (.lst (acc.map rngD))) fun _ M1 => K [some (.ref p), some r, none, some (.ref q2), some (.int x.1), some (.int x.2)] M1 := fun ej => by
            rw [rmAppend_ref hM]
            rw [List.length_cons] at e5
            refine ⟨by rw [List.length_map, sizeLine_eq]; omega, ?_⟩
            have := nxt _ ej
            rw [updM_updM]
            simpa using this
          rcases last_cases acc with ea | ⟨i, y, ea⟩
          · subst ea
            simp only [decide_true, Bool.bne_true, Bool.not_true, Bool.false_eq_true, if_false]
            rw [isLM_ref hM]
            exact ⟨trivial, app (joinS_nil x)⟩
          · subst ea
            have hM2 : updM M q2 (.lst ((i ++ [y]).map rngD)) q2 = some (.lst (i.map rngD ++ [rngD y])) := by rw [updM_same]; simp
            have en : decide (i ++ [y] = []) = false := by simp
            by_cases hj : x.1 ≤ y.2 + 1
            · simp only [rdIx_last hM2, rdIx_rng1, rdIx_rng0, rdAdd, rdCmp, rdI, rcMax, rdSetL_last hM2, en, hj, le_line, Bool.bne_false, decide_true, if_true, true_and]
              have := nxt _ (joinS_in hj)
              rw [updM_updM]
              have e : (if x.2 > y.2 then x.2 else y.2) = max y.2 x.2 := by
                split <;> omega
              rw [e]
              simpa [rngD] using this
            · simp only [rdIx_last hM2, rdIx_rng1, rdIx_rng0, rdAdd, rdCmp, rdI, en, hj, Bool.bne_false, decide_false, if_true, if_false, true_and, Bool.false_eq_true]
              rw [isLM_ref hM]
              exact ⟨trivial, app (joinS_out hj)⟩
      · rintro ρ M' ⟨S, acc, o4, o5, e1, rfl, rfl, e4, e5⟩
        cases S with
        | cons x S => cases e1
        | nil =>
          have hM : updM M q2 (.lst (acc.map rngD)) q2 = some (.lst (acc.map rngD)) := updM_same
          have e4 : acc = norm L := e4
          subst e4
          refine ⟨trivial, ?_⟩
          simp only [dSeq, dIf, dOr, dAnd, dNot, dB, dB1, daCons, daNil, dVar, dC, dRet, dRetN, dNext, dOp, dOrV, dAndV, dNotV, dIfE, dAsg, dgName, dTup, dLst, dLstM, dFrz, dDrop, dMt, dNeg, dCall, dgSub, dPar, dFld, dSetFld, dMakeM, dTr, dChain, dAug, dItem, dFor, dRange1, dRange2, dgTup, dgCons, dgNil, dRev, dMeth, dYes, startR, List.map_cons, List.map_nil, List.length_cons, List.length_nil, List.replicate, List.cons_append, List.nil_append, List.getElem?_cons_zero, List.getElem?_cons_succ, List.set_cons_zero, List.set_cons_succ, sizeLine_eq, Nat.reduceAdd, Nat.reduceLeDiff, Nat.reduceLT, Nat.zero_le, true_and, rcTuple, asR_ref hM, updM_ne hpq, hp]
          exact finS (subM_upd hq2 hpq) h
theorem q_Times_eq : Pure ["self", "other"] sp_Times_eq t_Times_eq := by
  rintro ds M P PE ⟨a, d, rfl, h⟩
  simp only [t_Times_eq, dSeq, dIf, dOr, dAnd, dNot, dB, dB1, daCons, daNil, dVar, dC, dRet, dRetN, dNext, dOp, dOrV, dAndV, dNotV, dIfE, dAsg, dgName, dTup, dLst, dLstM, dFrz, dDrop, dMt, dNeg, dCall, dgSub, dPar, dFld, dSetFld, dMakeM, dTr, dChain, dAug, dItem, dFor, dRange1, dRange2, dgTup, dgCons, dgNil, dRev, dMeth, dYes, startR, List.map_cons, List.map_nil, List.length_cons, List.length_nil, List.replicate, List.cons_append, List.nil_append, List.getElem?_cons_zero, List.getElem?_cons_succ, List.set_cons_zero, List.set_cons_succ, sizeLine_eq, Nat.reduceAdd, Nat.reduceLeDiff, Nat.reduceLT, Nat.zero_le, true_and]
  rcases h with ⟨b, rfl, h⟩ | ⟨⟨n, hn⟩, h⟩
  · simp only [objT, rcIsi, tyD, isiD, decide_true, trP, if_true, asO, timesO, List.lookup, beq_self_eq_true, rdEq_tup, Bool.false_bne]
    exact fin0 h
  · simp only [rcIsi, hn, isiD, trP, Bool.false_eq_true, if_false]
    exact fin0 h
theorem rdIx_feed0 {M : Store} {p : Addr} {f : Feed} {Q : D → Store → Prop} (h : M p = some (feedL f)) : rdIx (.ref p) (.int 0) M Q = Q (.int f.1) M := by
  simp [rdIx, asS_ref h, ixN]
theorem rdIx_feed1 {M : Store} {p : Addr} {f : Feed} {Q : D → Store → Prop} (h : M p = some (feedL f)) : rdIx (.ref p) (.int 1) M Q = Q (.int f.2) M := by
  simp [rdIx, asS_ref h, ixN]
theorem rdSet_feed0 {M : Store} {p : Addr} {f : Feed} {i : Int} {Q : Store → Prop} (h : M p = some (feedL f)) : rdSetL (.ref p) (.int 0) (.int i) M Q = Q (updM M p (feedL (i, f.2))) := by
  simp [rdSetL, h, feedL, ixN]
theorem rdSet_feed1 {M : Store} {p : Addr} {f : Feed} {i : Int} {Q : Store → Prop} (h : M p = some (feedL f)) : rdSetL (.ref p) (.int 1) (.int i) M Q = Q (updM M p (feedL (f.1, i))) := by
  simp [rdSetL, h, feedL, ixN]
theorem divW {i j : Int} (h : 0 < j) (h2 : j < 2 ^ 64) : CDivW i j := by
  refine ⟨h, ?_⟩
  have : j.natAbs.log2 < 64 := (Nat.log2_lt (by omega)).mpr (by omega)
  omega
theorem mulR {i j : Int} (h : -(2 ^ 64) < j) (h2 : j < 2 ^ 64) : CMul i j ∨ CMulW i j := .inl (.inr ⟨h, h2⟩)
theorem ixN_nat {n : Nat} {i : Int} (h0 : 0 ≤ i) (h1 : i < n) : ixN n i = some i.toNat := by
  unfold ixN
  rw [if_pos h0, if_pos h1]
theorem q_law_pick : Pure ["feed", "some"] sp_law_pick t_law_pick := by
  rintro ds M P PE ⟨p, f, xs, rfl, hp, h0, h1, h⟩
  simp only [t_law_pick, dSeq, dIf, dOr, dAnd, dNot, dB, dB1, daCons, daNil, dVar, dC, dRet, dRetN, dNext, dOp, dOrV, dAndV, dNotV, dIfE, dAsg, dgName, dTup, dLst, dLstM, dFrz, dDrop, dMt, dNeg, dCall, dgSub, dPar, dFld, dSetFld, dMakeM, dTr, dChain, dAug, dItem, dFor, dRange1, dRange2, dgTup, dgCons, dgNil, dRev, dMeth, dYes, startR, List.map_cons, List.map_nil, List.length_cons, List.length_nil, List.replicate, List.cons_append, List.nil_append, List.getElem?_cons_zero, List.getElem?_cons_succ, List.set_cons_zero, List.set_cons_succ, sizeLine_eq, Nat.reduceAdd, Nat.reduceLeDiff, Nat.reduceLT, Nat.zero_le, true_and, rcLen, asS, asR, asL]
  have hl : 0 < xs.length := List.length_pos_iff.mpr h0
  refine ⟨p, f, xs.length, rfl, hp, by omega, by omega, fun r f' hr hr2 => ?_⟩
  simp only [rdIx, asS, asR, asL, ixN_nat hr hr2, Option.bind_some]
  have : r.toNat < xs.length := by omega
  rw [List.getElem?_eq_getElem this]
  exact fin0 (h _ _ (List.getElem_mem this))
/-! the feed's cell and one list's cell -/
def MM (M : Store) (p q : Addr) (f : Feed) (L : PrL) : Store := updM (updM M p (feedL f)) q (.lst (L.map rngD))
section
variable {M : Store} {p q : Addr} {f f' : Feed} {L L' : PrL}
theorem MM_p (h : p ≠ q) : MM M p q f L p = some (feedL f) := by unfold MM; rw [updM_ne h, updM_same]
theorem MM_q : MM M p q f L q = some (.lst (L.map rngD)) := updM_same
theorem MM_f (h : p ≠ q) : updM (MM M p q f L) p (feedL f') = MM M p q f' L := by
  unfold MM
  rw [updM_comm (Ne.symm h), updM_updM]
theorem MM_l : updM (MM M p q f L) q (.lst (L'.map rngD)) = MM M p q f L' := by
  unfold MM
  rw [updM_updM]
theorem MM_del (h : p ≠ q) (hq : M q = none) : delM (MM M p q f L) q = updM M p (feedL f) := by
  unfold MM
  exact delM_updM (by rw [updM_ne (Ne.symm h)]; exact hq)
end
theorem rangeD_cons {lo : Int} {n : Nat} {d : D} {r : List D} (h : d :: r = rangeD lo n) : ∃ m, n = m + 1 ∧ d = .int lo ∧ r = rangeD (lo + 1) m := by
  cases n with
  | zero => cases h
  | succ m =>
    have e : rangeD lo (m + 1) = .int lo :: rangeD (lo + 1) m := by
      unfold rangeD
      rw [List.range_succ_eq_map, List.map_cons, List.map_map]
      congr 1
      · simp
      · apply List.map_congr_left
        intro a _
        simp
        omega
    rw [e] at h
    cases h
    exact ⟨m, rfl, rfl, rfl⟩
def Bp : Int := 2 * 10 ^ 9 + 10
/-! cells of two numbers each -/
def CellsAt (M : Store) : List Addr → PrL → Prop
  | [], [] => True
  | r :: rs, x :: xs => M r = some (.lst [.int x.1, .int x.2]) ∧ CellsAt M rs xs
  | _, _ => False
theorem cells_len {M : Store} : ∀ {rs : List Addr} {xs : PrL}, CellsAt M rs xs → rs.length = xs.length
  | [], [], _ => rfl
  | _ :: rs, _ :: xs, h => congrArg Nat.succ (cells_len h.2)
  | [], _ :: _, h => h.elim
  | _ :: _, [], h => h.elim
theorem cells_mono {M M' : Store} : ∀ {rs : List Addr} {xs : PrL}, (∀ r ∈ rs, M' r = M r) → CellsAt M rs xs → CellsAt M' rs xs
  | [], [], _, _ => trivial
  | r :: rs, x :: xs, k, h => ⟨(k r List.mem_cons_self).trans h.1, cells_mono (fun z hz => k z (List.mem_cons_of_mem _ hz)) h.2⟩
  | [], _ :: _, _, h => h.elim
  | _ :: _, [], _, h => h.elim
theorem cells_mem {M : Store} : ∀ {rs : List Addr} {xs : PrL}, CellsAt M rs xs → ∀ r ∈ rs, ∃ x : Int × Int, M r = some (.lst [.int x.1, .int x.2])
  | [], [], _ => fun r hr => by cases hr
  | s :: rs, x :: xs, h => fun r hr => by
    rcases List.mem_cons.mp hr with e | hr
    · rw [e]; exact ⟨x, h.1⟩
    · exact cells_mem h.2 r hr
  | [], _ :: _, h => h.elim
  | _ :: _, [], h => h.elim
theorem cells_app {M : Store} : ∀ {rs rs' : List Addr} {xs xs' : PrL}, CellsAt M rs xs → CellsAt M rs' xs' → CellsAt M (rs ++ rs') (xs ++ xs')
  | [], _, [], _, _, h => h
  | _ :: rs, _, _ :: xs, _, h, h' => ⟨h.1, cells_app h.2 h'⟩
  | [], _, _ :: _, _, h, _ => h.elim
  | _ :: _, _, [], _, h, _ => h.elim
theorem cells_last {M : Store} : ∀ {rs : List Addr} {xs : PrL} {y : Int × Int}, CellsAt M rs (xs ++ [y]) → ∃ rs' r, rs = rs' ++ [r] ∧ CellsAt M rs' xs ∧ M r = some (.lst [.int y.1, .int y.2])
  | [r], [], y, h => ⟨[], r, rfl, trivial, h.1⟩
  | [], [], y, h => h.elim
  | _ :: _ :: _, [], y, h => h.2.elim
  | [], _ :: _, _, h => h.elim
  | r :: rs, x :: xs, y, h => by
    obtain ⟨rs', r', e, h1, h2⟩ := cells_last (rs := rs) (xs := xs) (y := y) h.2
    exact ⟨r :: rs', r', by rw [e]; rfl, ⟨h.1, h1⟩, h2⟩
def endOf (acc : PrL) : Int := match acc.getLast? with
  | some y => y.2
  | none => -2
structure JInv (M M' : Store) (q : Addr) (rs : List Addr) (acc : PrL) : Prop where
  list : M' q = some (.lst (rs.map .ref))
  cells : CellsAt M' rs acc
  nq : q ∉ rs
  nd : rs.Nodup
  old : M q = none ∧ ∀ r ∈ rs, M r = none
  sub : SubM M M'
theorem ordR {L : PrL} (h : okR L) : ∀ x ∈ L, x.1 ≤ x.2 := fun x hx => (h x hx).2
theorem okL_R {n : Nat} {L : PrL} (h : okL n L) : okR L := fun x hx => ⟨(h.2 x hx).1, (h.2 x hx).2.1⟩
/-- Times(x): an object that nothing changes -/
theorem mkT {te : DTE} {ρ : Ro} {M : Store} {W : DWX} {Q : D → Store → Prop} {r : D} {L : PrL} (ht : ∀ Q', Q' r M → te ρ M Q') (hr : asR M r = some (L.map rngD)) (hL : okR L) (hn : L.length ≤ 100000) (h : Q (.obj "Times" (timesO (norm L))) M) :
    dFrz (dMakeM "Times" sp_Times_init W [] (daCons te daNil)) ρ M Q := by
  simp only [dFrz, dMakeM, daCons, daNil]
  refine ht _ fun p hp => ⟨p, r, L, rfl, updM_same, asR_upd hr hp, hL, hn, rfl, ?_⟩
  simp only [updM_updM, updM_same]
  rw [delM_updM hp]
  exact h
theorem okT_R {L : PrL} (h : okT L) : okR L := fun x hx => ⟨h.2 x hx, h.1.ok x hx⟩
theorem okT_norm {L : PrL} (h : okR L) : okT (norm L) := ⟨(norm_canon (ordR h)).1, fun x hx => (norm_ends (fun a => 0 ≤ a) (fun _ => True) (fun y hy => ⟨(h y hy).1, trivial⟩) x hx).1⟩
theorem in_norm {L : PrL} (h : okR L) (t : Int) : inRng (norm L) t ↔ inRng L t := (norm_canon (ordR h)).2 t
theorem okT_uniq {a b : PrL} (ha : okT a) (hb : okT b) (h : ∀ t, inRng a t ↔ inRng b t) : a = b := canon_uniq ha.1 hb.1 h
theorem okT_nil : okT [] := ⟨⟨by simp, by simp⟩, by simp⟩
theorem asO_T {M : Store} {a : PrL} : asO M "Times" (objT a) = some (timesO a) := by simp [asO, objT]
theorem look_T {a : PrL} : (timesO a).lookup ("ranges" : Str) = some (.tup (a.map rngD)) := by simp [timesO, List.lookup]
theorem filt_rng (a : PrL) (c : Int × Int → Bool) (f : Int × Int → Int × Int) (cD : D → Bool) (fD : D → D) (hc : ∀ x, cD (rngD x) = c x) (hf : ∀ x, fD (rngD x) = rngD (f x)) : (((a.map rngD).filter cD).map fD) = ((a.filter c).map f).map rngD := by
  induction a with
  | nil => rfl
  | cons x a ih =>
    rw [List.map_cons, List.filter_cons, List.filter_cons, hc]
    by_cases h : c x = true
    · simp only [h, if_true, List.map_cons, ih, hf]
    · simp only [h, Bool.false_eq_true, if_false, ih]
theorem q_Times_contains : Pure ["self", "time", "low", "high"] sp_Times_contains t_Times_contains := by
  rintro ds M P PE ⟨a, t, rfl, hn, h⟩
  simp only [t_Times_contains, dSeq, dIf, dOr, dAnd, dNot, dB, dB1, daCons, daNil, dVar, dC, dRet, dRetN, dNext, dOp, dOrV, dAndV, dNotV, dIfE, dAsg, dgName, dTup, dLst, dLstM, dFrz, dDrop, dMt, dNeg, dCall, dgSub, dPar, dFld, dSetFld, dMakeM, dTr, dChain, dAug, dItem, dFor, dRange1, dRange2, dgTup, dgCons, dgNil, dRev, dMeth, dYes, startR, List.map_cons, List.map_nil, List.length_cons, List.length_nil, List.replicate, List.cons_append, List.nil_append, List.getElem?_cons_zero, List.getElem?_cons_succ, List.set_cons_zero, List.set_cons_succ, sizeLine_eq, Nat.reduceAdd, Nat.reduceLeDiff, Nat.reduceLT, Nat.zero_le, true_and, asO_T, look_T, dLc, asS]
  intro p hp
  refine dLc_mapA (f := fun d => match d with
    | .tup [.int l, .int u] => .bl (decide (l ≤ t) && decide (t ≤ u))
    | _ => .non) hp (fun _ => trivial) _ _ (fun d hd acc Q hQ => ?_) (by rw [List.length_map, sizeLine_eq]; simp; omega) ?_
  · obtain ⟨x, hx, rfl⟩ := List.mem_map.mp hd
    simp only [dSeq, dIf, dOr, dAnd, dNot, dB, dB1, daCons, daNil, dVar, dC, dRet, dRetN, dNext, dOp, dOrV, dAndV, dNotV, dIfE, dAsg, dgName, dTup, dLst, dLstM, dFrz, dDrop, dMt, dNeg, dCall, dgSub, dPar, dFld, dSetFld, dMakeM, dTr, dChain, dAug, dItem, dFor, dRange1, dRange2, dgTup, dgCons, dgNil, dRev, dMeth, dYes, startR, List.map_cons, List.map_nil, List.length_cons, List.length_nil, List.replicate, List.cons_append, List.nil_append, List.getElem?_cons_zero, List.getElem?_cons_succ, List.set_cons_zero, List.set_cons_succ, sizeLine_eq, Nat.reduceAdd, Nat.reduceLeDiff, Nat.reduceLT, Nat.zero_le, true_and, rngD, asS, wipeR, rdAdd_int, rdSub_int, rdMul_int, rdMod_int, rdDiv_int, rdPow_int, rdCmp_int, rdEq_int, rcMax_int, rcMin_int]
    simp only [rngD] at hQ
    by_cases h1 : x.1 ≤ t
    · simpa [h1, rdAdd_int, rdSub_int, rdMul_int, rdMod_int, rdDiv_int, rdPow_int, rdCmp_int, rdEq_int, rcMax_int, rcMin_int] using hQ
    · simpa [h1] using hQ
  · have e : toBs ([] ++ (a.map rngD).map fun d => match d with
        | .tup [.int l, .int u] => .bl (decide (l ≤ t) && decide (t ≤ u))
        | _ => .non) = some (a.map fun x => decide (x.1 ≤ t) && decide (t ≤ x.2)) := by
      rw [List.nil_append, List.map_map]
      exact toBs_map' _ (fun x : Int × Int => decide (x.1 ≤ t) && decide (t ≤ x.2)) fun x => rfl
    simp only [rcAny, asR, asL, e]
    refine fin0 (h _ ?_)
    simp [inRng]
theorem q_Times_and : Pure ["self", "other", "found", "low", "high", "least", "most"] sp_Times_and t_Times_and := by
  rintro ds M P PE ⟨a, b, rfl, ha, hb, hn, h⟩
  simp only [t_Times_and, dSeq, dAsg, dLstM, daNil, dgName, dFor, dItem, dFld, dVar, startR, List.map_cons, List.map_nil, List.length_cons, List.length_nil, List.replicate, List.cons_append, List.nil_append, List.getElem?_cons_zero, List.getElem?_cons_succ, List.set_cons_zero, List.set_cons_succ, sizeLine_eq, Nat.reduceAdd, Nat.reduceLeDiff, Nat.reduceLT, Nat.zero_le, true_and, asO_T, look_T, asS]
  intro q hq
  have hbl : ∀ n : Nat, n ≤ a.length → n * b.length ≤ 100000 := fun n hn' => Nat.le_trans (Nat.mul_le_mul_right _ hn') hn
  refine dLoop_ind (fun rest ρ M' => ∃ (a1 a2 C : PrL) (o3 o4 o5 o6 : Option D), a = a1 ++ a2 ∧ rest = a2.map rngD ∧ ρ = [some (objT a), some (objT b), some (.ref q), o3, o4, o5, o6] ∧ M' = updM M q (.lst (C.map rngD)) ∧
    C.length ≤ a1.length * b.length ∧ okR C ∧ ∀ t, inRng C t ↔ inRng a1 t ∧ inRng b t) ?_ ?_ _ _ _ ⟨[], a, [], none, none, none, none, rfl, rfl, rfl, rfl, by simp, fun x hx => by simp at hx, fun t => by simp [inRng_nil]⟩
  · rintro d rest ρ M' K hK ⟨a1, a2, C, o3, o4, o5, o6, ea, e1, rfl, rfl, hC, hR, hs⟩
    cases a2 with
    | nil => cases e1
    | cons x a2 =>
      cases e1
      refine ⟨trivial, ?_⟩
      simp only [dSeq, dIf, dOr, dAnd, dNot, dB, dB1, daCons, daNil, dVar, dC, dRet, dRetN, dNext, dOp, dOrV, dAndV, dNotV, dIfE, dAsg, dgName, dTup, dLst, dLstM, dFrz, dDrop, dMt, dNeg, dCall, dgSub, dPar, dFld, dSetFld, dMakeM, dTr, dChain, dAug, dItem, dFor, dRange1, dRange2, dgTup, dgCons, dgNil, dRev, dMeth, dYes, startR, List.map_cons, List.map_nil, List.length_cons, List.length_nil, List.replicate, List.cons_append, List.nil_append, List.getElem?_cons_zero, List.getElem?_cons_succ, List.set_cons_zero, List.set_cons_succ, sizeLine_eq, Nat.reduceAdd, Nat.reduceLeDiff, Nat.reduceLT, Nat.zero_le, true_and, rngD, asS, asO_T, look_T]
      have hxa : x.1 ≤ x.2 ∧ 0 ≤ x.1 := ⟨ha.1.ok x (by rw [ea]; simp), ha.2 x (by rw [ea]; simp)⟩
      have hla : a1.length + 1 ≤ a.length := by rw [ea]; simp <;> omega
      have hcap := hbl _ hla
      rw [Nat.add_mul, Nat.one_mul] at hcap
      refine dLoop_ind (fun rest ρ M' => ∃ (b1 b2 C : PrL) (o5 o6 : Option D), b = b1 ++ b2 ∧ rest = b2.map rngD ∧ ρ = [some (objT a), some (objT b), some (.ref q), some (.int x.1), some (.int x.2), o5, o6] ∧ M' = updM M q (.lst (C.map rngD)) ∧
        C.length ≤ a1.length * b.length + b1.length ∧ okR C ∧ ∀ t, inRng C t ↔ (inRng a1 t ∧ inRng b t) ∨ ((x.1 ≤ t ∧ t ≤ x.2) ∧ inRng b1 t)) ?_ ?_ _ _ _ ⟨[], b, C, o5, o6, rfl, rfl, rfl, rfl, by simpa using hC, hR, fun t => by rw [hs]; simp [inRng_nil]⟩
      · rintro d rest ρ M' K2 hK2 ⟨b1, b2, C, o5, o6, eb, e1, rfl, rfl, hC, hR, hs⟩
        cases b2 with
        | nil => cases e1
        | cons y b2 =>
          cases e1
          refine ⟨trivial, ?_⟩
          simp only [dSeq, dIf, dOr, dAnd, dNot, dB, dB1, daCons, daNil, dVar, dC, dRet, dRetN, dNext, dOp, dOrV, dAndV, dNotV, dIfE, dAsg, dgName, dTup, dLst, dLstM, dFrz, dDrop, dMt, dNeg, dCall, dgSub, dPar, dFld, dSetFld, dMakeM, dTr, dChain, dAug, dItem, dFor, dRange1, dRange2, dgTup, dgCons, dgNil, dRev, dMeth, dYes, startR, List.map_cons, List.map_nil, List.length_cons, List.length_nil, List.replicate, List.cons_append, List.nil_append, List.getElem?_cons_zero, List.getElem?_cons_succ, List.set_cons_zero, List.set_cons_succ, sizeLine_eq, Nat.reduceAdd, Nat.reduceLeDiff, Nat.reduceLT, Nat.zero_le, true_and, rngD, asS, rdAdd_int, rdSub_int, rdMul_int, rdMod_int, rdDiv_int, rdPow_int, rdCmp_int, rdEq_int, rcMax_int, rcMin_int]
          have hyb : y.1 ≤ y.2 ∧ 0 ≤ y.1 := ⟨hb.1.ok y (by rw [eb]; simp), hb.2 y (by rw [eb]; simp)⟩
          have hlb : b1.length + 1 ≤ b.length := by rw [eb]; simp <;> omega
          by_cases hc : max x.1 y.1 ≤ min x.2 y.2
          · simp only [hc, decide_true, if_true, isLM_ref updM_same, true_and]
            rw [rmAppend_ref updM_same]
            refine ⟨by rw [List.length_map, sizeLine_eq]; omega, ?_⟩
            rw [updM_updM]
            have := hK2 [some (objT a), some (objT b), some (.ref q), some (.int x.1), some (.int x.2), some (.int y.1), some (.int y.2)] (updM M q (.lst ((C ++ [(max x.1 y.1, min x.2 y.2)]).map rngD))) ⟨b1 ++ [y], b2, C ++ [(max x.1 y.1, min x.2 y.2)], _, _, by rw [eb]; simp, rfl, rfl, rfl, by simp; omega, fun z hz => ?_, fun t => ?_⟩
            · simpa [rngD] using this
            · rcases List.mem_append.mp hz with hz | hz
              · exact hR z hz
              · simp only [List.mem_singleton] at hz
                subst hz
                exact ⟨by simp only; omega, hc⟩
            · rw [inRng_append, inRng_append, hs, inRng_cons, inRng_cons, inRng_nil]
              constructor
              · rintro ((h | h) | h | h)
                · exact .inl h
                · exact .inr ⟨h.1, .inl h.2⟩
                · simp only at h
                  exact .inr ⟨by omega, .inr (.inl (by omega))⟩
                · exact h.elim
              · rintro (h | ⟨h1, h | h | h⟩)
                · exact .inl (.inl h)
                · exact .inl (.inr ⟨h1, h⟩)
                · exact .inr (.inl (by simp only; omega))
                · exact h.elim
          · simp only [hc, decide_false, Bool.false_eq_true, if_false]
            refine hK2 _ _ ⟨b1 ++ [y], b2, C, _, _, by rw [eb]; simp, rfl, rfl, rfl, by simp; omega, hR, fun t => ?_⟩
            rw [hs, inRng_append, inRng_cons, inRng_nil]
            constructor
            · rintro (h | h)
              · exact .inl h
              · exact .inr ⟨h.1, .inl h.2⟩
            · rintro (h | ⟨h1, h | h | h⟩)
              · exact .inl h
              · exact .inr ⟨h1, h⟩
              · omega
              · exact h.elim
      · rintro ρ M' ⟨b1, b2, C, o5, o6, eb, e1, rfl, rfl, hC, hR, hs⟩
        cases b2 with
        | cons y b2 => cases e1
        | nil =>
          rw [List.append_nil] at eb
          subst eb
          refine ⟨trivial, hK _ _ ⟨a1 ++ [x], a2, C, _, _, _, _, by rw [ea]; simp, rfl, rfl, rfl, by rw [List.length_append, List.length_singleton, Nat.add_mul, Nat.one_mul]; exact hC, hR, fun t => ?_⟩⟩
          rw [hs, inRng_append, inRng_cons, inRng_nil]
          constructor
          · rintro (h | h)
            · exact ⟨.inl h.1, h.2⟩
            · exact ⟨.inr (.inl h.1), h.2⟩
          · rintro ⟨h | h | h, h2⟩
            · exact .inl ⟨h, h2⟩
            · exact .inr ⟨h, h2⟩
            · exact h.elim
  · rintro ρ M' ⟨a1, a2, C, o3, o4, o5, o6, ea, e1, rfl, rfl, hC, hR, hs⟩
    cases a2 with
    | cons x a2 => cases e1
    | nil =>
      rw [List.append_nil] at ea
      subst ea
      refine ⟨trivial, ?_⟩
      simp only [dRet]
      refine mkT (r := .ref q) (L := C) (fun Q' hQ => by simpa [dVar] using hQ) (asR_ref updM_same) hR (by omega) (finS (SubM.new hq) (h (norm C) (okT_norm hR) (by have := norm_len C; omega) fun t => by rw [in_norm hR]; exact hs t))
theorem q_Times_is_within : Pure ["self", "other"] sp_Times_is_within t_Times_is_within := by
  rintro ds M P PE ⟨a, b, rfl, ha, hb, hn, h⟩
  simp only [t_Times_is_within, dSeq, dIf, dOr, dAnd, dNot, dB, dB1, daCons, daNil, dVar, dC, dRet, dRetN, dNext, dOp, dOrV, dAndV, dNotV, dIfE, dAsg, dgName, dTup, dLst, dLstM, dFrz, dDrop, dMt, dNeg, dCall, dgSub, dPar, dFld, dSetFld, dMakeM, dTr, dChain, dAug, dItem, dFor, dRange1, dRange2, dgTup, dgCons, dgNil, dRev, dMeth, dYes, startR, List.map_cons, List.map_nil, List.length_cons, List.length_nil, List.replicate, List.cons_append, List.nil_append, List.getElem?_cons_zero, List.getElem?_cons_succ, List.set_cons_zero, List.set_cons_succ, sizeLine_eq, Nat.reduceAdd, Nat.reduceLeDiff, Nat.reduceLT, Nat.zero_le, true_and, rdOwnB]
  refine ⟨rfl, rfl, a, b, rfl, ha, hb, hn, fun L hL hl hs => ?_⟩
  refine ⟨rfl, rfl, L, objT a, rfl, .inl ⟨a, rfl, ?_⟩⟩
  simp only [Bool.false_eq_true, if_false]
  refine fin0 (h _ ?_)
  rw [decide_eq_true_eq]
  constructor
  · rintro rfl t ht
    exact ((hs t).mp ht).2
  · intro h2
    exact okT_uniq hL ha fun t => ⟨fun ht => ((hs t).mp ht).1, fun ht => (hs t).mpr ⟨ht, h2 t ht⟩⟩
structure TN (n : Nat) (L : PrL) : Prop where
  ok : okT L
  len : L.length ≤ n
section
variable {M : Store} {Q : D → Store → Prop} {a b : PrL} {m n : Nat}
theorem TN.mono {k : Nat} (h : TN n a) (hk : n ≤ k) : TN k a := ⟨h.ok, Nat.le_trans h.len hk⟩
theorem op_or (ha : TN m a) (hb : TN n b) (hn : m + n ≤ 100000) (h : ∀ L : PrL, TN (m + n) L → (∀ t, inRng L t ↔ inRng a t ∨ inRng b t) → Q (objT L) M) : rdOwnB "Times" sp_Times_or (objT a) (objT b) M Q := by
  have h1 := ha.len
  have h2 := hb.len
  exact ⟨by rw [asO_T]; rfl, by rw [asO_T]; rfl, a, b, rfl, ha.ok, hb.ok, by omega, fun L o l s => h L ⟨o, by omega⟩ s⟩
theorem op_and (ha : TN m a) (hb : TN n b) (hn : m * n ≤ 100000) (h : ∀ L : PrL, TN (m * n) L → (∀ t, inRng L t ↔ inRng a t ∧ inRng b t) → Q (objT L) M) : rdOwnB "Times" sp_Times_and (objT a) (objT b) M Q := by
  have h1 : a.length * b.length ≤ m * n := Nat.mul_le_mul ha.len hb.len
  exact ⟨by rw [asO_T]; rfl, by rw [asO_T]; rfl, a, b, rfl, ha.ok, hb.ok, by omega, fun L o l s => h L ⟨o, by omega⟩ s⟩
theorem op_sum (ha : TN m a) (hb : TN n b) (hn : m * n ≤ 100000) (h : ∀ L : PrL, TN (m * n) L → (∀ t, inRng L t ↔ inSum a b t) → Q (objT L) M) : rdOwnB "Times" sp_Times_add (objT a) (objT b) M Q := by
  have h1 : a.length * b.length ≤ m * n := Nat.mul_le_mul ha.len hb.len
  exact ⟨by rw [asO_T]; rfl, by rw [asO_T]; rfl, a, b, rfl, ha.ok, hb.ok, by omega, fun L o l s => h L ⟨o, by omega⟩ s⟩
theorem op_eqT (h : Q (.bl (decide (a = b))) M) : rdOwn false "Times" sp_Times_eq (objT a) (objT b) M Q :=
  ⟨by rw [asO_T]; rfl, by rw [asO_T]; rfl, a, objT b, rfl, .inl ⟨b, rfl, by simpa using h⟩⟩
theorem op_neT (h : Q (.bl (!decide (a = b))) M) : rdOwn true "Times" sp_Times_eq (objT a) (objT b) M Q :=
  ⟨by rw [asO_T]; rfl, by rw [asO_T]; rfl, a, objT b, rfl, .inl ⟨b, rfl, by simpa using h⟩⟩
theorem op_eqX {d : D} (hd : ∃ n, tyD M d = some (.b n)) (h : Q (.bl false) M) : rdOwnX false "Times" sp_Times_eq (objT a) d M Q :=
  ⟨by rw [asO_T]; rfl, hd, a, d, rfl, .inr ⟨hd, by simpa using h⟩⟩
theorem op_neX {d : D} (hd : ∃ n, tyD M d = some (.b n)) (h : Q (.bl true) M) : rdOwnX true "Times" sp_Times_eq (objT a) d M Q :=
  ⟨by rw [asO_T]; rfl, hd, a, d, rfl, .inr ⟨hd, by simpa using h⟩⟩
theorem op_boolT (h : Q (.bl (!a.isEmpty)) M) : rcBoolO "Times" sp_Times_bool [objT a] M Q := by
  refine ⟨by rw [asO_T]; rfl, a, rfl, h⟩
theorem op_inT {t : Int} (hn : a.length ≤ 100000) (h : ∀ r : Bool, (r = true ↔ inRng a t) → Q (.bl r) M) : rdOwnIn false "Times" sp_Times_contains (.int t) (objT a) M Q :=
  ⟨by rw [asO_T]; rfl, a, t, rfl, hn, fun r hr => by simpa using h r hr⟩
theorem op_notInT {t : Int} (hn : a.length ≤ 100000) (h : ∀ r : Bool, (r = true ↔ inRng a t) → Q (.bl (!r)) M) : rdOwnIn true "Times" sp_Times_contains (.int t) (objT a) M Q :=
  ⟨by rw [asO_T]; rfl, a, t, rfl, hn, fun r hr => by simpa using h r hr⟩
theorem TN.nil : TN 0 [] := ⟨okT_nil, Nat.le_refl _⟩
theorem TN.norm {k : Nat} {L : PrL} (h : okR L) (hl : L.length ≤ k) : TN k (norm L) := ⟨okT_norm h, by have := norm_len L; omega⟩
theorem norm_of {L : PrL} (h : okT L) : norm L = L := norm_idem h.1
/-- a method that is asked of a set -/
theorem meth_T {f : Str} {sp : DSp} {W : DWX} {to : DTE} {ta : DTA} {ρ : Ro} (hf : ((timesO a).lookup f).isSome = false) (ht : ∀ Q', Q' (objT a) M → to ρ M Q') (h : ta ρ M fun ds M2 => sp (objT a :: (ds ++ [])) M2 Q fun c fs M3 => W c fs ρ M3) : dMeth "Times" f sp W [] to ta ρ M Q := by
  simp only [dMeth]
  refine ht _ ⟨?_, h⟩
  rw [asO_T]
  show (timesO a).lookup f = none
  cases e : (timesO a).lookup f with
  | none => rfl
  | some d => rw [e] at hf; cases hf
theorem mOk_T {f : Str} (hf : ((timesO a).lookup f).isSome = false) : mOk "Times" f (objT a) M := by
  show (match asO M "Times" (objT a) with
    | some fs => fs.lookup f = none
    | none => False)
  rw [asO_T]
  show (timesO a).lookup f = none
  cases e : (timesO a).lookup f with
  | none => rfl
  | some d => rw [e] at hf; cases hf
theorem op_within {PE : DX} (ha : TN m a) (hb : TN n b) (hn : m * n ≤ 100000) (h : ∀ r : Bool, (r = true ↔ ∀ t, inRng a t → inRng b t) → Q (.bl r) M) : sp_Times_is_within (objT a :: ([objT b] ++ [])) M Q PE := by
  have h1 : a.length * b.length ≤ m * n := Nat.mul_le_mul ha.len hb.len
  exact ⟨a, b, rfl, ha.ok, hb.ok, by omega, h⟩
theorem op_up_to {PE : DX} {u : Int} (ha : TN n a) (hn : n ≤ 100000) (h : ∀ L : PrL, TN n L → (∀ t, inRng L t ↔ inRng a t ∧ t ≤ u) → Q (objT L) M) : sp_Times_up_to (objT a :: ([.int u] ++ [])) M Q PE := by
  have h1 := ha.len
  exact ⟨a, u, rfl, ha.ok, by omega, fun L o l s => h L ⟨o, by omega⟩ s⟩
theorem op_since {PE : DX} {u : Int} (ha : TN n a) (hn : n ≤ 100000) (h : ∀ L : PrL, TN n L → (∀ t, inRng L t ↔ inRng a t ∧ u ≤ t) → Q (objT L) M) : sp_Times_since (objT a :: ([.int u] ++ [])) M Q PE := by
  have h1 := ha.len
  exact ⟨a, u, rfl, ha.ok, by omega, fun L o l s => h L ⟨o, by omega⟩ s⟩
theorem op_least {PE : DX} (h : Q (leastD a) M) : sp_Times_least (objT a :: ([] ++ [])) M Q PE := ⟨a, rfl, h⟩
theorem op_greatest {PE : DX} (h : Q (greatD a) M) : sp_Times_greatest (objT a :: ([] ++ [])) M Q PE := ⟨a, rfl, h⟩
theorem min_of (ha : okT a) (hne : a ≠ []) : ∃ m, leastD a = .int m ∧ inRng a m ∧ ∀ t, inRng a t → m ≤ t := by
  cases a with
  | nil => exact absurd rfl hne
  | cons x a =>
    refine ⟨x.1, rfl, ⟨x, List.mem_cons_self, Int.le_refl _, ha.1.ok x List.mem_cons_self⟩, fun t ⟨z, hz, h1, h2⟩ => ?_⟩
    rcases List.mem_cons.mp hz with rfl | hz
    · exact h1
    · have := (List.pairwise_cons.mp ha.1.gap).1 z hz
      have := ha.1.ok x List.mem_cons_self
      omega
theorem max_of (ha : okT a) (hne : a ≠ []) : ∃ m, greatD a = .int m ∧ inRng a m ∧ ∀ t, inRng a t → t ≤ m := by
  rcases last_cases a with e | ⟨i, y, e⟩
  · exact absurd e hne
  · subst e
    obtain ⟨c1, c2, c3⟩ := canon_concat.mp ha.1
    refine ⟨y.2, by simp [greatD], ⟨y, by simp, c3, Int.le_refl _⟩, fun t ⟨z, hz, h1, h2⟩ => ?_⟩
    rcases List.mem_append.mp hz with hz | hz
    · have := c2 z hz
      omega
    · simp only [List.mem_singleton] at hz
      subst hz
      exact h2
/-- Times(e), e of any outcome -/
def mkC (W : DWX) (ρ : Ro) (r : D) (M : Store) (Q : D → Store → Prop) : Prop := dFrz (dMakeM "Times" sp_Times_init W [] (daCons (fun _ M' Q' => Q' r M') daNil)) ρ M Q
theorem s_mk {W : DWX} {ρ : Ro} {te : DTE} (h : te ρ M fun r M1 => mkC W ρ r M1 Q) : dFrz (dMakeM "Times" sp_Times_init W [] (daCons te daNil)) ρ M Q := h
theorem mkC_ok {W : DWX} {ρ : Ro} {r : D} {L : PrL} (hr : asR M r = some (L.map rngD)) (hL : okR L) (hn : L.length ≤ 100000) (h : Q (objT (norm L)) M) : mkC W ρ r M Q := mkT (fun _ q => q) hr hL hn h
end
theorem bound_norm {n : Nat} {L : PrL} (h : okL n L) (hn : n ≤ 1000) : (norm L).length ≤ 10000 ∧ ∀ x ∈ norm L, x.1.natAbs < 10 ^ 12 ∧ x.2.natAbs < 10 ^ 12 := by
  refine ⟨by have := norm_len L; have := h.1; omega, fun x hx => ?_⟩
  have hb := norm_ends (fun a => 0 ≤ a ∧ a ≤ 2 ^ 38) (fun b => 0 ≤ b ∧ b ≤ 2 ^ 38) (L := L) (fun y hy => by
    obtain ⟨a, b, c⟩ := h.2 y hy
    exact ⟨⟨a, by omega⟩, by omega, c⟩) x hx
  have e : (2 : Int) ^ 38 = 274877906944 := by decide
  omega
theorem okL.app {m n : Nat} {L1 L2 : PrL} (h1 : okL m L1) (h2 : okL n L2) : okL (m + n) (L1 ++ L2) := ⟨by rw [List.length_append]; have := h1.1; have := h2.1; omega, fun x hx => by
  rcases List.mem_append.mp hx with hx | hx
  · exact h1.2 x hx
  · exact h2.2 x hx⟩
theorem okL.nil {n : Nat} : okL n [] := ⟨Nat.zero_le _, by simp⟩
theorem in_bound {n : Nat} {L : PrL} (h : okL n L) {t : Int} (ht : inRng L t) : 0 ≤ t ∧ t ≤ 274877906944 := by
  obtain ⟨x, hx, a, b⟩ := ht
  have := h.2 x hx
  have e : (2 : Int) ^ 38 = 274877906944 := by decide
  omega
section
variable {E : DEnds} {ρ : Ro} {M : Store} {Q : D → Store → Prop} {Qb : Bool → Store → Prop} {R : List D → (Store → Prop) → Store → Prop} {te : DTE} {a : PrL} {i : Nat}
theorem s_fldT (h : ρ[i]? = some (some (objT a))) (q : Q (.tup (a.map rngD)) M) : dFld "Times" "ranges" (dVar i) ρ M Q := by
  simp only [dFld, dVar, h, asO_T, look_T]
  exact q
def mFld (f : Str) (x : D) (M : Store) (Q : D → Store → Prop) : Prop := match asO M "Times" x with
  | some fs => match fs.lookup f with
    | some d => Q d M
    | none => False
  | none => False
theorem s_fldM {f : Str} (h : te ρ M fun x M1 => mFld f x M1 Q) : dFld "Times" f te ρ M Q := h
theorem mFld_T (q : Q (.tup (a.map rngD)) M) : mFld "ranges" (objT a) M Q := by
  simp only [mFld, asO_T, look_T]
  exact q
theorem s_if2 {tt : DTT} {t u : DTS} (hn : E.nx ρ M) (h : E.nx ρ M → tt ρ M fun b M1 => if b = true then t E ρ M1 else u E ρ M1) : dIf tt t u E ρ M := h hn
theorem s_if3 {tt : DTT} {t u : DTS} {ρ' : Ro} (hn : E.nx ρ' M) (h : E.nx ρ' M → tt ρ M fun b M1 => if b = true then t E ρ M1 else u E ρ M1) : dIf tt t u E ρ M := h hn
theorem isi_T (q : Q (.bl true) M) : rcIsi [objT a, .cls "Times"] M Q := by
  simp only [rcIsi, objT, tyD, isiD, decide_true]
  exact q
theorem s_eqS {neg : Bool} {s t : Str} (q : Q (.bl (neg != decide (s = t))) M) : rdEq neg (.str s) (.str t) M Q := q
theorem s_eqTup {neg : Bool} {L L' : PrL} (q : Q (.bl (neg != decide (L = L'))) M) : rdEq neg (.tup (L.map rngD)) (.tup (L'.map rngD)) M Q := by rw [rdEq_tup]; exact q
theorem s_eqLN {neg : Bool} {L : PrL} (q : Q (.bl (neg != decide (L = []))) M) : rdEq neg (.lst (L.map rngD)) (.lst []) M Q := by
  have e := eqv_pairs L []
  simp only [List.map_nil] at e
  simp only [rdEq, toPM_lst, toPM_lst (L := []), PyData.eqv, okP_list, true_and]
  have t : toPM M (.lst []) = some (.list []) := toPM_lst (L := [])
  simp only [t, PyData.eqv, e]
  exact ⟨okP_list L, okP_list [], q⟩
def mItem (x : D) (M : Store) (R : List D → (Store → Prop) → Store → Prop) : Prop := match asS M x with
  | some ds => R ds (Held x ds) M
  | none => False
theorem s_itemM (h : te ρ M fun x M1 => mItem x M1 R) : dItem te ρ M R := h
theorem mItem_lst {ds : List D} (h : R ds (fun _ => True) M) : mItem (.lst ds) M R := h
theorem mItem_tup {ds : List D} (h : R ds (fun _ => True) M) : mItem (.tup ds) M R := h
theorem mItem_ok {d : D} {ds : List D} (hd : d = .lst ds ∨ d = .tup ds) (h : R ds (Held d ds) M) : mItem d M R := by
  rcases hd with rfl | rfl
  · exact h
  · exact h
theorem held_ok {d : D} {ds : List D} (hd : d = .lst ds ∨ d = .tup ds) (M : Store) : Held d ds M := by
  rcases hd with rfl | rfl
  · exact trivial
  · exact trivial
theorem s_rngP {x : Int × Int} {k j : Nat} {Qr : Ro → Store → Prop} (q : Qr ((ρ.set k (some (.int x.1))).set j (some (.int x.2))) M) : dgTup 2 (dgCons (dgName k) (dgCons (dgName j) dgNil)) (rngD x) ρ M Qr := by
  simp only [dgTup, rngD, asS, dgCons, dgName, dgNil, List.length_cons, List.length_nil]
  first
    | exact ⟨rfl, q⟩
    | exact q
    | simpa using q
theorem toPs_ints : ∀ ns : List Int, toPs (ns.map D.int) = some (ns.map PyData.int)
  | [] => by simp [toPs]
  | x :: ns => by
    rw [List.map_cons, List.map_cons, toPs, toPs_ints ns]
    simp [toP]
theorem lay_ints : ∀ ns : List Int, PyData.canLayAll0 (ns.map PyData.int) = true ∧ PyData.depthAll (ns.map PyData.int) ≤ 1
  | [] => by simp [PyData.canLayAll0, PyData.depthAll]
  | x :: ns => by
    obtain ⟨h1, h2⟩ := lay_ints ns
    rw [List.map_cons]
    simp only [PyData.canLayAll0, PyData.depthAll, h1, PyData.canLay0, PyData.depth]
    exact ⟨rfl, by omega⟩
theorem okP_ints (ns : List Int) : okP (.list (ns.map PyData.int)) := by
  obtain ⟨h1, h2⟩ := lay_ints ns
  unfold okP SeqAt.shaped
  rw [PyData.canLay0, h1, PyData.depth]
  simp
  omega
theorem okP_int (i : Int) : okP (.int i) := by simp [okP, SeqAt.shaped, PyData.canLay0, PyData.depth]
theorem any_ints (u : Int) : ∀ ns : List Int, ((ns.map PyData.int).any fun z => PyData.eqv z (.int u)) = decide (u ∈ ns)
  | [] => by simp
  | x :: ns => by
    rw [List.map_cons, List.any_cons, any_ints u ns, Bool.eq_iff_iff]
    simp only [PyData.eqv, Bool.or_eq_true, decide_eq_true_eq, List.mem_cons, beq_iff_eq]
    constructor
    · rintro (h | h)
      · exact .inl h.symm
      · exact .inr h
    · rintro (h | h)
      · exact .inl h.symm
      · exact .inr h
theorem s_inI {neg : Bool} {u : Int} {ns : List Int} (q : Q (.bl (neg != decide (u ∈ ns))) M) : rdIn neg (.int u) (.lst (ns.map .int)) M Q := by
  have t1 : toPM M (.int u) = some (.int u) := rfl
  have t2 : toPM M (.lst (ns.map .int)) = some (.list (ns.map .int)) := by simp only [toPM, asL, toPs_ints, Option.map_some]
  show (match toPM M (.int u), toPM M (.lst (ns.map .int)) with
    | some d, some (.list es) => okP d ∧ okP (.list es) ∧ Q (.bl (neg != es.any fun z => PyData.eqv z d)) M
    | some d, some (.tuple es) => okP d ∧ okP (.tuple es) ∧ Q (.bl (neg != es.any fun z => PyData.eqv z d)) M
    | _, _ => False)
  rw [t1, t2]
  refine ⟨okP_int u, okP_ints ns, ?_⟩
  rw [any_ints]
  exact q
theorem s_aug {x : D} {ti : DR2} (h : ρ[i]? = some (some x)) (k : te ρ M fun y M1 => ti x y M1 fun z M2 => E.nx (ρ.set i (some z)) M2) : dAug i te ti E ρ M := by
  simp only [dAug, h]
  exact k
theorem s_mtV {d : D} {rd : DMt} {ta : DTA} (h : ρ[i]? = some (some d)) (hl : isLM M d) (k : ta ρ M fun ds M2 => rd d ds M2 Q) : dMt rd (dVar i) ta ρ M Q := by
  simp only [dMt, dVar, h]
  exact ⟨hl, k⟩
theorem s_sortSet (h : te ρ M fun x M1 => rcSortSet x M1 Q) : dSortSet te ρ M Q := h
theorem s_pow {i j : Int} (hc : CPow i j) (q : Q (.int (i ^ j.toNat)) M) : rdPow (.int i) (.int j) M Q := ⟨hc, q⟩
theorem toIs_ints : ∀ ns : List Int, toIs (ns.map D.int) = some ns
  | [] => rfl
  | x :: ns => by rw [List.map_cons, toIs, toIs_ints ns]; rfl
theorem sortSet_ints {ns : List Int} (hn : ns.length ≤ 4000) (q : ∀ out : List Int, out.Pairwise (· < ·) → (∀ k, k ∈ out ↔ k ∈ ns) → out.length ≤ ns.length → Q (.lst (out.map .int)) M) : rcSortSet (.lst (ns.map .int)) M Q := by
  simp only [rcSortSet, asR, asL, toIs_ints]
  exact ⟨hn, q⟩
end
section
variable {E : DEnds} {ρ : Ro} {M : Store} {Q : D → Store → Prop} {i j : Nat}
theorem rcRepr_bool {b : Bool} (q : Q (.str (PyData.bool b).shown) M) : rcRepr [.bl b] M Q := by
  have e : toPM M (.bl b) = some (.bool b) := rfl
  unfold rcRepr
  simp only [e]
  cases b
  · exact ⟨trivial, by decide +kernel, by decide +kernel, by rw [sizeLine_eq]; decide +kernel, by decide +kernel, q⟩
  · exact ⟨trivial, by decide +kernel, by decide +kernel, by rw [sizeLine_eq]; decide +kernel, by decide +kernel, q⟩
theorem rcRepr_bools {a b : Bool} (q : Q (.str (PyData.tuple [.bool a, .bool b]).shown) M) : rcRepr [.tup [.bl a, .bl b]] M Q := by
  have e : toPM M (.tup [.bl a, .bl b]) = some (.tuple [.bool a, .bool b]) := rfl
  unfold rcRepr
  simp only [e]
  cases a <;> cases b <;> exact ⟨trivial, by decide +kernel, by decide +kernel, by rw [sizeLine_eq]; decide +kernel, by decide +kernel, q⟩
theorem rcRepr_nones (q : Q (.str (PyData.tuple [.none, .none]).shown) M) : rcRepr [.tup [.non, .non]] M Q := by
  have e : toPM M (.tup [.non, .non]) = some (.tuple [.none, .none]) := rfl
  unfold rcRepr
  simp only [e]
  exact ⟨trivial, by decide +kernel, by decide +kernel, by rw [sizeLine_eq]; decide +kernel, by decide +kernel, q⟩
theorem rcRepr_pair {x : Int × Int} (hb : x.1.natAbs < 10 ^ 12 ∧ x.2.natAbs < 10 ^ 12) (q : Q (.str (encP x).shown) M) : rcRepr [rngD x] M Q := by
  obtain ⟨h1, h2, h3, h4⟩ := pairs_show [x] (by simpa using hb)
  simp only [List.map_cons, List.map_nil, PyData.showableAll, PyData.hasDictAll, PyData.intsShortAll, Bool.and_true, Bool.or_false, PyData.weightAll, List.length_cons, List.length_nil] at h1 h2 h3 h4
  have e : toPM M (rngD x) = some (encP x) := by
    show toP (.tup [.int x.1, .int x.2]) = _
    exact toP_pair x
  have dp : PyData.depth (encP x) = 1 := by simp [encP, PyData.depth, PyData.depthAll]
  unfold rcRepr
  simp only [e]
  refine ⟨trivial, h1, h2, ?_, by rw [dp]; decide, q⟩
  have lay : PyData.layable0 (encP x) = true := by
    unfold PyData.layable0
    rw [dp]
    have c : (encP x).canLay0 = true := by simp [encP, PyData.canLay0, PyData.canLayAll0]
    rw [c]
    simp only [Bool.true_and, Bool.and_eq_true, decide_eq_true_eq]
    have e : (2 : Nat) ^ 20 = 1048576 := by decide
    omega
  have := shown_le13 lay h3
  rw [sizeLine_eq]
  omega
theorem s_negC {n : Int} (q : Q (.int (-n)) M) : dNeg (dC (.int n)) ρ M Q := q
theorem s_tup2 {x y : D} {Qr : Ro → Store → Prop} (q : Qr ((ρ.set i (some x)).set j (some y)) M) : dgTup 2 (dgCons (dgName i) (dgCons (dgName j) dgNil)) (.tup [x, y]) ρ M Qr := by
  simp only [dgTup, asS, dgCons, dgName, dgNil, List.length_cons, List.length_nil]
  first
    | exact ⟨rfl, q⟩
    | exact q
    | simpa using q
theorem mapA_of {α : Type} (f : α → Int) (g : D → D) (h : α → D) (e : ∀ x, g (h x) = .int (f x)) (l : List α) : (l.map h).map g = (l.map f).map D.int := by
  rw [List.map_map, List.map_map]
  exact List.map_congr_left fun x _ => e x
theorem rcMax_ints {ns : List Int} (h0 : ns ≠ []) (q : ∀ m, m ∈ ns → (∀ y, y ∈ ns → y ≤ m) → Q (.int m) M) : rcMax [.lst (ns.map .int)] M Q := by
  simp only [rcMax, asR, asL, toIs_ints]
  exact ⟨List.length_pos_iff.mpr h0, q⟩
theorem rcMin_ints {ns : List Int} (h0 : ns ≠ []) (q : ∀ m, m ∈ ns → (∀ y, y ∈ ns → m ≤ y) → Q (.int m) M) : rcMin [.lst (ns.map .int)] M Q := by
  simp only [rcMin, asR, asL, toIs_ints]
  exact ⟨List.length_pos_iff.mpr h0, q⟩
end
theorem canon_map {a : PrL} (c : Canon a) (p : Int × Int → Bool) (f : Int × Int → Int × Int) (hf : ∀ x ∈ a, x.1 ≤ (f x).1 ∧ (f x).2 ≤ x.2) (ho : ∀ x ∈ a, p x = true → (f x).1 ≤ (f x).2) : Canon ((a.filter p).map f) := by
  refine ⟨?_, fun z hz => ?_⟩
  · rw [List.pairwise_map]
    have g := c.gap
    have : (a.filter p).Pairwise fun x y => x.2 + 1 < y.1 := g.filter p
    refine this.imp_of_mem fun {x y} hx hy h => ?_
    have h1 := hf x (List.mem_filter.mp hx).1
    have h2 := hf y (List.mem_filter.mp hy).1
    omega
  · obtain ⟨x, hx, rfl⟩ := List.mem_map.mp hz
    exact ho x (List.mem_filter.mp hx).1 (List.mem_filter.mp hx).2
theorem lookM {a : PrL} : ((timesO a).lookup ("is_within" : Str)).isSome = false := by
  have e : (("is_within" : Str) == ("ranges" : Str)) = false := by decide +kernel
  simp [timesO, List.lookup, e]
theorem s_yes {ρ : Ro} {M : Store} {Qb : Bool → Store → Prop} (h : Qb true M) : dYes ρ M Qb := h
theorem cut_tail (ds : List D) : DL.cutD ds (some 1) none = ds.drop 1 := by
  have e : HT.sIx ds.length 0 (some ((1 : Nat) : Int)) = min 1 ds.length := HT.sIx_nat _ _ _
  have e1 : HT.sIx ds.length 0 (some 1) = min 1 ds.length := e
  unfold DL.cutD
  rw [e1, HT.sIx_none]
  cases ds with
  | nil => rfl
  | cons d ds =>
    have m : min 1 (d :: ds).length = 1 := by rw [List.length_cons]; omega
    rw [m, List.drop_one, List.tail_cons]
    exact List.take_of_length_le (by simp)
theorem cut_head (ds : List D) : DL.cutD ds none (some 1) = ds.take 1 := by
  have e : HT.sIx ds.length ds.length (some ((1 : Nat) : Int)) = min 1 ds.length := HT.sIx_nat _ _ _
  have e1 : HT.sIx ds.length ds.length (some 1) = min 1 ds.length := e
  unfold DL.cutD
  rw [e1, HT.sIx_none, Nat.sub_zero, List.drop_zero]
  cases ds with
  | nil => rfl
  | cons d ds =>
    have m : min 1 (d :: ds).length = 1 := by rw [List.length_cons]; omega
    rw [m]
section
variable {ρ : Ro} {M : Store} {Q : D → Store → Prop} {te : DTE} {tl th : DTO} {Qo : Option Int → Store → Prop}
theorem s_slice (h : te ρ M fun x M1 => tl ρ M1 fun l M2 => th ρ M2 fun h M3 => rdSl x l h M3 Q) : dSlice te tl th ρ M Q := h
theorem s_doC {i : Int} (h : Qo (some i) M) : doSome (dC (.int i)) ρ M Qo := h
theorem s_doN (h : Qo none M) : doNone ρ M Qo := h
theorem sl_tail {ds : List D} (q : Q (.lst (ds.drop 1)) M) : rdSl (.lst ds) (some 1) none M Q := by
  show Q (.lst (DL.cutD ds (some 1) none)) M
  rw [cut_tail]
  exact q
theorem sl_head {ds : List D} (q : Q (.lst (ds.take 1)) M) : rdSl (.lst ds) none (some 1) M Q := by
  show Q (.lst (DL.cutD ds none (some 1))) M
  rw [cut_head]
  exact q
theorem s_revV {i : Nat} {ds : List D} (h : ρ[i]? = some (some (.lst ds))) (q : Q (.lst ds.reverse) M) : dRev (dVar i) ρ M Q := by
  simp only [dRev, dVar, h, asR, asL]
  exact q
theorem zip_map {α : Type} (f g : α → D) : ∀ l : List α, zipD (l.map f) (l.map g) = l.map fun x => .tup [f x, g x]
  | [] => rfl
  | x :: l => by
    have := zip_map f g l
    unfold zipD at this ⊢
    rw [List.map_cons, List.map_cons, List.zipWith_cons_cons, this, List.map_cons]
theorem s_zip {i j : Nat} {xs ys : List D} {R : List D → (Store → Prop) → Store → Prop} (h1 : ρ[i]? = some (some (.lst xs))) (h2 : ρ[j]? = some (some (.lst ys))) (hl : xs.length = ys.length) (k : R (zipD xs ys) (fun _ => True ∧ True) M) : dZip (daCons (dVar i) (daCons (dVar j) daNil)) ρ M R := by
  simp only [dZip, daCons, daNil, dVar, h1, h2, asR, asL]
  exact ⟨hl, k⟩
end
theorem lookU {a : PrL} : ((timesO a).lookup ("up_to" : Str)).isSome = false := by
  have e : (("up_to" : Str) == ("ranges" : Str)) = false := by decide +kernel
  simp [timesO, List.lookup, e]
theorem lookS {a : PrL} : ((timesO a).lookup ("since" : Str)).isSome = false := by
  have e : (("since" : Str) == ("ranges" : Str)) = false := by decide +kernel
  simp [timesO, List.lookup, e]
theorem lookL {a : PrL} : ((timesO a).lookup ("least" : Str)).isSome = false := by
  have e : (("least" : Str) == ("ranges" : Str)) = false := by decide +kernel
  simp [timesO, List.lookup, e]
theorem lookG {a : PrL} : ((timesO a).lookup ("greatest" : Str)).isSome = false := by
  have e : (("greatest" : Str) == ("ranges" : Str)) = false := by decide +kernel
  simp [timesO, List.lookup, e]
theorem rcTuple_lst {M : Store} {ds : List D} {Q : D → Store → Prop} (q : Q (.tup ds) M) : rcTuple [.lst ds] M Q := q
theorem s_mulI {i j : Int} {M : Store} {Q : D → Store → Prop} (h1 : -(2 ^ 64) < j) (h2 : j < 2 ^ 64) (q : Q (.int (i * j)) M) : rdMul (.int i) (.int j) M Q := ⟨mulR h1 h2, q⟩

section
variable {E : DEnds} {ρ : Ro} {M : Store} {Q : D → Store → Prop} {Qb : Bool → Store → Prop} {R : List D → (Store → Prop) → Store → Prop} {te : DTE} {i j : Nat}
theorem s_modI {i j : Int} (h : 0 < j) (q : Q (.int (i % j)) M) : rdMod (.int i) (.int j) M Q := ⟨h, q⟩
theorem s_ifG {tt : DTT} {t u : DTS} (Inv : Ro → Prop) (hn : ∀ ρ', Inv ρ' → E.nx ρ' M) (h : (∀ ρ', Inv ρ' → E.nx ρ' M) → tt ρ M fun b M1 => if b = true then t E ρ M1 else u E ρ M1) : dIf tt t u E ρ M := h hn
theorem s_asgG {te : DTE} (Inv : D → Store → Prop) (hn : ∀ x M', Inv x M' → E.nx (ρ.set i (some x)) M') (h : (∀ x M', Inv x M' → E.nx (ρ.set i (some x)) M') → te ρ M fun x M1 => E.nx (ρ.set i (some x)) M1) : dAsg te (dgName i) E ρ M := h hn
theorem s_mulL {xs : List D} {k : Int} (h1 : -(2 ^ 63) ≤ k) (h2 : k < 2 ^ 63) (h3 : xs.length * k.toNat ≤ sizeLine) (q : Q (.lst (List.replicate k.toNat xs).flatten) M) : rdMul (.lst xs) (.int k) M Q := ⟨h1, h2, h3, q⟩
theorem s_isN {x : D} {neg : Bool} (q : Q (.bl (neg != isNonD x)) M) : rdIs neg x .non M Q := by
  cases x <;> exact q
theorem s_tupV3 {a b c x y z : D} {i j k : Nat} {Qr : Ro → Store → Prop} (q : Qr (((ρ.set i (some a)).set j (some b)).set k (some c)) M) : dgTup 3 (dgCons (dgName i) (dgCons (dgName j) (dgCons (dgName k) dgNil))) (.tup [a, b, c]) ρ M Qr := by
  simp only [dgTup, asS, dgCons, dgName, dgNil, List.length_cons, List.length_nil]
  first
    | exact ⟨rfl, q⟩
    | exact q
    | simpa using q
def mSome (x : D) (M : Store) (Qo : Option Int → Store → Prop) : Prop := match x with
  | .int i => Qo (some i) M
  | _ => False
theorem s_doS {Qo : Option Int → Store → Prop} (h : te ρ M fun x M1 => mSome x M1 Qo) : doSome te ρ M Qo := h
theorem mSome_int {Qo : Option Int → Store → Prop} {i : Int} (h : Qo (some i) M) : mSome (.int i) M Qo := h
theorem ix_tup {ds : List D} {n : Nat} {d : D} (h : ds[n]? = some d) (q : Q d M) : rdIx (.tup ds) (.int (n : Int)) M Q := by
  have hl : n < ds.length := by
    rcases Nat.lt_or_ge n ds.length with h1 | h1
    · exact h1
    · rw [List.getElem?_eq_none_iff.mpr h1] at h; cases h
  have e : ixN ds.length (n : Int) = some n := by
    have := ixN_nat (n := ds.length) (i := (n : Int)) (by omega) (by omega)
    simpa using this
  simp only [rdIx, asS, e, Option.bind_some, h]
  exact q
theorem ix_lst {ds : List D} {n : Nat} {d : D} (h : ds[n]? = some d) (q : Q d M) : rdIx (.lst ds) (.int (n : Int)) M Q := by
  have hl : n < ds.length := by
    rcases Nat.lt_or_ge n ds.length with h1 | h1
    · exact h1
    · rw [List.getElem?_eq_none_iff.mpr h1] at h; cases h
  have e : ixN ds.length (n : Int) = some n := by
    have := ixN_nat (n := ds.length) (i := (n : Int)) (by omega) (by omega)
    simpa using this
  simp only [rdIx, asS, asR, asL, e, Option.bind_some, h]
  exact q
theorem ix_ref {p : Addr} {ds : List D} {n : Nat} {d : D} (hp : M p = some (.lst ds)) (h : ds[n]? = some d) (q : Q d M) : rdIx (.ref p) (.int (n : Int)) M Q := by
  have hl : n < ds.length := by
    rcases Nat.lt_or_ge n ds.length with h1 | h1
    · exact h1
    · rw [List.getElem?_eq_none_iff.mpr h1] at h; cases h
  have e : ixN ds.length (n : Int) = some n := by
    have := ixN_nat (n := ds.length) (i := (n : Int)) (by omega) (by omega)
    simpa using this
  simp only [rdIx, asS_ref hp, e, Option.bind_some, h]
  exact q
theorem s_eqP {x y : D} {d e : PyData} {neg : Bool} (hx : toPM M x = some d) (hy : toPM M y = some e) (ok1 : okP d) (ok2 : okP e) (ns : (∀ s t, ¬ (x = .str s ∧ y = .str t)) ∧ ∀ i j, ¬ (x = .int i ∧ y = .int j)) (q : Q (.bl (neg != PyData.eqv d e)) M) : rdEq neg x y M Q := by
  unfold rdEq
  split
  · exact absurd ⟨rfl, rfl⟩ (ns.1 _ _)
  · exact absurd ⟨rfl, rfl⟩ (ns.2 _ _)
  · rw [hx, hy]
    exact ⟨ok1, ok2, q⟩
theorem s_setFld {c f : Str} {p : Addr} {fs : List (Str × D)} (h : ρ[i]? = some (some (.ref p))) (k : te ρ M fun d M1 => M1 p = some (.ins c fs) ∧ fs.length < 1000 ∧ E.nx ρ (updM M1 p (.ins c (dput f d fs)))) (hm : ∀ {Q1 Q2 : D → Store → Prop}, (∀ d M, Q1 d M → Q2 d M) → te ρ M Q1 → te ρ M Q2) : dSetFld c f (dVar i) te E ρ M := by
  simp only [dSetFld, dVar, h]
  refine hm (fun d M1 hd => ?_) k
  obtain ⟨h1, h2, h3⟩ := hd
  simp only [h1]
  exact ⟨trivial, h2, h3⟩
end
def encR : Rp → PyData
  | none => .tuple [.str "never"]
  | some (b, t) => .tuple [.str (wordS b), .int t]
def okRp (r : Rp) : Prop := ∀ b t, r = some (b, t) → 1 ≤ t
theorem toP_rep : ∀ r : Rp, toP (repD r) = some (encR r)
  | none => by simp [repD, encR, toP, toPs]
  | some (b, t) => by simp [repD, encR, toP, toPs]
theorem toPs_reps : ∀ l : List Rp, toPs (l.map repD) = some (l.map encR)
  | [] => by simp [toPs]
  | r :: l => by rw [List.map_cons, List.map_cons, toPs, toP_rep, toPs_reps l]
theorem word_ok (b : Bool) : PyData.strOk (wordS b) = true := by cases b <;> decide +kernel
theorem never_ok : PyData.strOk "never" = true := by decide +kernel
theorem lay_rep : ∀ r : Rp, (encR r).canLay0 = true ∧ (encR r).depth = 1
  | none => by simp [encR, PyData.canLay0, PyData.canLayAll0, PyData.depth, PyData.depthAll, never_ok]
  | some (b, t) => by simp [encR, PyData.canLay0, PyData.canLayAll0, PyData.depth, PyData.depthAll, word_ok]
theorem lay_reps : ∀ l : List Rp, PyData.canLayAll0 (l.map encR) = true ∧ PyData.depthAll (l.map encR) ≤ 2
  | [] => by simp [PyData.canLayAll0, PyData.depthAll]
  | r :: l => by
    obtain ⟨h1, h2⟩ := lay_reps l
    obtain ⟨h3, h4⟩ := lay_rep r
    rw [List.map_cons, PyData.canLayAll0, PyData.depthAll, h1, h3, h4]
    exact ⟨rfl, by omega⟩
theorem okP_reps (l : List Rp) : okP (.list (l.map encR)) := by
  obtain ⟨h1, h2⟩ := lay_reps l
  unfold okP SeqAt.shaped
  rw [PyData.canLay0, h1, PyData.depth]
  simp
  omega
theorem okP_rep (r : Rp) : okP (encR r) := by
  obtain ⟨h3, h4⟩ := lay_rep r
  unfold okP SeqAt.shaped
  rw [h3, h4]
  rfl

theorem sl_fro {ds : List D} {l h : Option Int} {M : Store} {Q : D → Store → Prop} (q : Q (.lst (DL.cutD ds l h)) M) : rdSl (.fro ds) l h M Q := q
theorem head_int {l : List D} {z : Int} (h : ∀ d ∈ l, ∃ i : Int, d = .int i) : ∃ i : Int, (l ++ [.int z])[0]? = some (.int i) := by
  cases l with
  | nil => exact ⟨z, rfl⟩
  | cons a r =>
    obtain ⟨i, rfl⟩ := h a List.mem_cons_self
    exact ⟨i, rfl⟩
theorem cut_one (ds : List D) {k : Int} (hk : 0 ≤ k) : (DL.cutD ds (some k) (some (k + 1))).length ≤ 1 := by
  unfold DL.cutD
  rw [List.length_take]
  have e1 : HT.sIx ds.length 0 (some k) = min k.toNat ds.length := by
    show (if k < 0 then (k + (ds.length : Int)).toNat else min k.toNat ds.length) = _
    rw [if_neg (by omega)]
  have e2 : HT.sIx ds.length ds.length (some (k + 1)) = min (k + 1).toNat ds.length := by
    show (if k + 1 < 0 then (k + 1 + (ds.length : Int)).toNat else min (k + 1).toNat ds.length) = _
    rw [if_neg (by omega)]
  rw [e1, e2]
  omega
theorem cut_mem {ds : List D} {l h : Option Int} {d : D} (hd : d ∈ DL.cutD ds l h) : d ∈ ds := by
  unfold DL.cutD at hd
  exact List.mem_of_mem_drop (List.mem_of_mem_take hd)
theorem s_absI {i : Int} {M : Store} {Q : D → Store → Prop} (q : Q (.int (if i < 0 then -i else i)) M) : rcAbs [.int i] M Q := q
theorem rcList_lst {ds : List D} {M : Store} {Q : D → Store → Prop} (q : Q (.lst ds) M) : rcList [.lst ds] M Q := q
theorem q_law_feed : Pure ["script", "k", "seed", "digits"] sp_law_feed t_law_feed := by
  rintro ds M P PE ⟨ns, k, rfl, h0, h1, h⟩
  unfold t_law_feed
  repeat (first | with_reducible refine s_seqN (by simp only [startR, List.map_cons, List.map_nil, List.length_cons, List.length_nil, List.replicate, List.cons_append, List.nil_append, List.getElem?_cons_zero, List.getElem?_cons_succ, List.set_cons_zero, List.set_cons_succ]; exact rfl) ?_ | with_reducible apply s_seq | with_reducible apply s_asg | with_reducible apply s_name | with_reducible apply s_next | with_reducible apply s_ret | with_reducible apply s_retN | with_reducible apply s_drop | with_reducible apply s_if | with_reducible apply s_for | with_reducible apply s_and | with_reducible apply s_or | with_reducible apply s_not | with_reducible apply s_B | with_reducible apply s_mB | with_reducible apply s_addI | with_reducible apply s_subI | with_reducible apply s_cmpI | with_reducible apply s_eqI | with_reducible apply s_minI | with_reducible apply s_maxI | with_reducible apply s_meth | with_reducible apply s_Tr | with_reducible apply s_op | with_reducible apply s_c | with_reducible apply s_ifE | with_reducible apply s_andV | with_reducible apply s_orV | with_reducible apply s_notV | with_reducible apply s_b1 | with_reducible apply s_cons | with_reducible apply s_nil | with_reducible apply s_tup | with_reducible apply s_lst | with_reducible apply s_lstM | with_reducible apply s_call | with_reducible apply s_trB | with_reducible apply iteT | with_reducible apply iteF | with_reducible apply s_par | ((with_reducible apply s_var); case h => first | assumption | exact rfl) | (with_reducible refine ⟨by simp [sizeLine_eq], ?_⟩))
  with_reducible refine s_slice ?_
  repeat (first | with_reducible refine s_seqN (by simp only [startR, List.map_cons, List.map_nil, List.length_cons, List.length_nil, List.replicate, List.cons_append, List.nil_append, List.getElem?_cons_zero, List.getElem?_cons_succ, List.set_cons_zero, List.set_cons_succ]; exact rfl) ?_ | with_reducible apply s_seq | with_reducible apply s_asg | with_reducible apply s_name | with_reducible apply s_next | with_reducible apply s_ret | with_reducible apply s_retN | with_reducible apply s_drop | with_reducible apply s_if | with_reducible apply s_for | with_reducible apply s_and | with_reducible apply s_or | with_reducible apply s_not | with_reducible apply s_B | with_reducible apply s_mB | with_reducible apply s_addI | with_reducible apply s_subI | with_reducible apply s_cmpI | with_reducible apply s_eqI | with_reducible apply s_minI | with_reducible apply s_maxI | with_reducible apply s_meth | with_reducible apply s_Tr | with_reducible apply s_op | with_reducible apply s_c | with_reducible apply s_ifE | with_reducible apply s_andV | with_reducible apply s_orV | with_reducible apply s_notV | with_reducible apply s_b1 | with_reducible apply s_cons | with_reducible apply s_nil | with_reducible apply s_tup | with_reducible apply s_lst | with_reducible apply s_lstM | with_reducible apply s_call | with_reducible apply s_trB | with_reducible apply iteT | with_reducible apply iteF | with_reducible apply s_par | ((with_reducible apply s_var); case h => first | assumption | exact rfl) | (with_reducible refine ⟨by simp [sizeLine_eq], ?_⟩))
  with_reducible refine s_doS ?_
  repeat (first | with_reducible refine s_seqN (by simp only [startR, List.map_cons, List.map_nil, List.length_cons, List.length_nil, List.replicate, List.cons_append, List.nil_append, List.getElem?_cons_zero, List.getElem?_cons_succ, List.set_cons_zero, List.set_cons_succ]; exact rfl) ?_ | with_reducible apply s_seq | with_reducible apply s_asg | with_reducible apply s_name | with_reducible apply s_next | with_reducible apply s_ret | with_reducible apply s_retN | with_reducible apply s_drop | with_reducible apply s_if | with_reducible apply s_for | with_reducible apply s_and | with_reducible apply s_or | with_reducible apply s_not | with_reducible apply s_B | with_reducible apply s_mB | with_reducible apply s_addI | with_reducible apply s_subI | with_reducible apply s_cmpI | with_reducible apply s_eqI | with_reducible apply s_minI | with_reducible apply s_maxI | with_reducible apply s_meth | with_reducible apply s_Tr | with_reducible apply s_op | with_reducible apply s_c | with_reducible apply s_ifE | with_reducible apply s_andV | with_reducible apply s_orV | with_reducible apply s_notV | with_reducible apply s_b1 | with_reducible apply s_cons | with_reducible apply s_nil | with_reducible apply s_tup | with_reducible apply s_lst | with_reducible apply s_lstM | with_reducible apply s_call | with_reducible apply s_trB | with_reducible apply iteT | with_reducible apply iteF | with_reducible apply s_par | ((with_reducible apply s_var); case h => first | assumption | exact rfl) | (with_reducible refine ⟨by simp [sizeLine_eq], ?_⟩))
  refine mSome_int ?_
  with_reducible refine s_doS ?_
  repeat (first | with_reducible refine s_seqN (by simp only [startR, List.map_cons, List.map_nil, List.length_cons, List.length_nil, List.replicate, List.cons_append, List.nil_append, List.getElem?_cons_zero, List.getElem?_cons_succ, List.set_cons_zero, List.set_cons_succ]; exact rfl) ?_ | with_reducible apply s_seq | with_reducible apply s_asg | with_reducible apply s_name | with_reducible apply s_next | with_reducible apply s_ret | with_reducible apply s_retN | with_reducible apply s_drop | with_reducible apply s_if | with_reducible apply s_for | with_reducible apply s_and | with_reducible apply s_or | with_reducible apply s_not | with_reducible apply s_B | with_reducible apply s_mB | with_reducible apply s_addI | with_reducible apply s_subI | with_reducible apply s_cmpI | with_reducible apply s_eqI | with_reducible apply s_minI | with_reducible apply s_maxI | with_reducible apply s_meth | with_reducible apply s_Tr | with_reducible apply s_op | with_reducible apply s_c | with_reducible apply s_ifE | with_reducible apply s_andV | with_reducible apply s_orV | with_reducible apply s_notV | with_reducible apply s_b1 | with_reducible apply s_cons | with_reducible apply s_nil | with_reducible apply s_tup | with_reducible apply s_lst | with_reducible apply s_lstM | with_reducible apply s_call | with_reducible apply s_trB | with_reducible apply iteT | with_reducible apply iteF | with_reducible apply s_par | ((with_reducible apply s_var); case h => first | assumption | exact rfl) | (with_reducible refine ⟨by simp [sizeLine_eq], ?_⟩))
  refine mSome_int ?_
  refine sl_fro ?_
  repeat (first | with_reducible refine s_seqN (by simp only [startR, List.map_cons, List.map_nil, List.length_cons, List.length_nil, List.replicate, List.cons_append, List.nil_append, List.getElem?_cons_zero, List.getElem?_cons_succ, List.set_cons_zero, List.set_cons_succ]; exact rfl) ?_ | with_reducible apply s_seq | with_reducible apply s_asg | with_reducible apply s_name | with_reducible apply s_next | with_reducible apply s_ret | with_reducible apply s_retN | with_reducible apply s_drop | with_reducible apply s_if | with_reducible apply s_for | with_reducible apply s_and | with_reducible apply s_or | with_reducible apply s_not | with_reducible apply s_B | with_reducible apply s_mB | with_reducible apply s_addI | with_reducible apply s_subI | with_reducible apply s_cmpI | with_reducible apply s_eqI | with_reducible apply s_minI | with_reducible apply s_maxI | with_reducible apply s_meth | with_reducible apply s_Tr | with_reducible apply s_op | with_reducible apply s_c | with_reducible apply s_ifE | with_reducible apply s_andV | with_reducible apply s_orV | with_reducible apply s_notV | with_reducible apply s_b1 | with_reducible apply s_cons | with_reducible apply s_nil | with_reducible apply s_tup | with_reducible apply s_lst | with_reducible apply s_lstM | with_reducible apply s_call | with_reducible apply s_trB | with_reducible apply iteT | with_reducible apply iteF | with_reducible apply s_par | ((with_reducible apply s_var); case h => first | assumption | exact rfl) | (with_reducible refine ⟨by simp [sizeLine_eq], ?_⟩))
  refine rcList_lst ?_
  have hl := cut_one (ns.map D.int) h0
  have hm : ∀ d ∈ DL.cutD (ns.map D.int) (some k) (some (k + 1)), ∃ i : Int, d = .int i := fun d hd => by
    obtain ⟨i, _, e⟩ := List.mem_map.mp (cut_mem hd)
    exact ⟨i, e.symm⟩
  generalize DL.cutD (ns.map D.int) (some k) (some (k + 1)) = l at hl hm ⊢
  repeat (first | with_reducible refine s_seqN (by simp only [startR, List.map_cons, List.map_nil, List.length_cons, List.length_nil, List.replicate, List.cons_append, List.nil_append, List.getElem?_cons_zero, List.getElem?_cons_succ, List.set_cons_zero, List.set_cons_succ]; exact rfl) ?_ | with_reducible apply s_seq | with_reducible apply s_asg | with_reducible apply s_name | with_reducible apply s_next | with_reducible apply s_ret | with_reducible apply s_retN | with_reducible apply s_drop | with_reducible apply s_if | with_reducible apply s_for | with_reducible apply s_and | with_reducible apply s_or | with_reducible apply s_not | with_reducible apply s_B | with_reducible apply s_mB | with_reducible apply s_addI | with_reducible apply s_subI | with_reducible apply s_cmpI | with_reducible apply s_eqI | with_reducible apply s_minI | with_reducible apply s_maxI | with_reducible apply s_meth | with_reducible apply s_Tr | with_reducible apply s_op | with_reducible apply s_c | with_reducible apply s_ifE | with_reducible apply s_andV | with_reducible apply s_orV | with_reducible apply s_notV | with_reducible apply s_b1 | with_reducible apply s_cons | with_reducible apply s_nil | with_reducible apply s_tup | with_reducible apply s_lst | with_reducible apply s_lstM | with_reducible apply s_call | with_reducible apply s_trB | with_reducible apply iteT | with_reducible apply iteF | with_reducible apply s_par | ((with_reducible apply s_var); case h => first | assumption | exact rfl) | (with_reducible refine ⟨by simp [sizeLine_eq], ?_⟩))
  refine s_mulI (by have : (2 : Int) ^ 62 = 4611686018427387904 := by decide
                    omega) (by have : (2 : Int) ^ 62 = 4611686018427387904 := by decide
                               omega) ?_
  repeat (first | with_reducible refine s_seqN (by simp only [startR, List.map_cons, List.map_nil, List.length_cons, List.length_nil, List.replicate, List.cons_append, List.nil_append, List.getElem?_cons_zero, List.getElem?_cons_succ, List.set_cons_zero, List.set_cons_succ]; exact rfl) ?_ | with_reducible apply s_seq | with_reducible apply s_asg | with_reducible apply s_name | with_reducible apply s_next | with_reducible apply s_ret | with_reducible apply s_retN | with_reducible apply s_drop | with_reducible apply s_if | with_reducible apply s_for | with_reducible apply s_and | with_reducible apply s_or | with_reducible apply s_not | with_reducible apply s_B | with_reducible apply s_mB | with_reducible apply s_addI | with_reducible apply s_subI | with_reducible apply s_cmpI | with_reducible apply s_eqI | with_reducible apply s_minI | with_reducible apply s_maxI | with_reducible apply s_meth | with_reducible apply s_Tr | with_reducible apply s_op | with_reducible apply s_c | with_reducible apply s_ifE | with_reducible apply s_andV | with_reducible apply s_orV | with_reducible apply s_notV | with_reducible apply s_b1 | with_reducible apply s_cons | with_reducible apply s_nil | with_reducible apply s_tup | with_reducible apply s_lst | with_reducible apply s_lstM | with_reducible apply s_call | with_reducible apply s_trB | with_reducible apply iteT | with_reducible apply iteF | with_reducible apply s_par | ((with_reducible apply s_var); case h => first | assumption | exact rfl) | (with_reducible refine ⟨by simp [sizeLine_eq], ?_⟩))
  refine s_addL (by simp only [List.length_cons, List.length_nil, sizeLine_eq]; omega) ?_
  repeat (first | with_reducible refine s_seqN (by simp only [startR, List.map_cons, List.map_nil, List.length_cons, List.length_nil, List.replicate, List.cons_append, List.nil_append, List.getElem?_cons_zero, List.getElem?_cons_succ, List.set_cons_zero, List.set_cons_succ]; exact rfl) ?_ | with_reducible apply s_seq | with_reducible apply s_asg | with_reducible apply s_name | with_reducible apply s_next | with_reducible apply s_ret | with_reducible apply s_retN | with_reducible apply s_drop | with_reducible apply s_if | with_reducible apply s_for | with_reducible apply s_and | with_reducible apply s_or | with_reducible apply s_not | with_reducible apply s_B | with_reducible apply s_mB | with_reducible apply s_addI | with_reducible apply s_subI | with_reducible apply s_cmpI | with_reducible apply s_eqI | with_reducible apply s_minI | with_reducible apply s_maxI | with_reducible apply s_meth | with_reducible apply s_Tr | with_reducible apply s_op | with_reducible apply s_c | with_reducible apply s_ifE | with_reducible apply s_andV | with_reducible apply s_orV | with_reducible apply s_notV | with_reducible apply s_b1 | with_reducible apply s_cons | with_reducible apply s_nil | with_reducible apply s_tup | with_reducible apply s_lst | with_reducible apply s_lstM | with_reducible apply s_call | with_reducible apply s_trB | with_reducible apply iteT | with_reducible apply iteF | with_reducible apply s_par | ((with_reducible apply s_var); case h => first | assumption | exact rfl) | (with_reducible refine ⟨by simp [sizeLine_eq], ?_⟩))
  obtain ⟨i, hi⟩ := head_int (z := 71 * k + 23) hm
  refine ix_lst (n := 0) hi ?_
  repeat (first | with_reducible refine s_seqN (by simp only [startR, List.map_cons, List.map_nil, List.length_cons, List.length_nil, List.replicate, List.cons_append, List.nil_append, List.getElem?_cons_zero, List.getElem?_cons_succ, List.set_cons_zero, List.set_cons_succ]; exact rfl) ?_ | with_reducible apply s_seq | with_reducible apply s_asg | with_reducible apply s_name | with_reducible apply s_next | with_reducible apply s_ret | with_reducible apply s_retN | with_reducible apply s_drop | with_reducible apply s_if | with_reducible apply s_for | with_reducible apply s_and | with_reducible apply s_or | with_reducible apply s_not | with_reducible apply s_B | with_reducible apply s_mB | with_reducible apply s_addI | with_reducible apply s_subI | with_reducible apply s_cmpI | with_reducible apply s_eqI | with_reducible apply s_minI | with_reducible apply s_maxI | with_reducible apply s_meth | with_reducible apply s_Tr | with_reducible apply s_op | with_reducible apply s_c | with_reducible apply s_ifE | with_reducible apply s_andV | with_reducible apply s_orV | with_reducible apply s_notV | with_reducible apply s_b1 | with_reducible apply s_cons | with_reducible apply s_nil | with_reducible apply s_tup | with_reducible apply s_lst | with_reducible apply s_lstM | with_reducible apply s_call | with_reducible apply s_trB | with_reducible apply iteT | with_reducible apply iteF | with_reducible apply s_par | ((with_reducible apply s_var); case h => first | assumption | exact rfl) | (with_reducible refine ⟨by simp [sizeLine_eq], ?_⟩))
  refine s_absI ?_
  repeat (first | with_reducible refine s_seqN (by simp only [startR, List.map_cons, List.map_nil, List.length_cons, List.length_nil, List.replicate, List.cons_append, List.nil_append, List.getElem?_cons_zero, List.getElem?_cons_succ, List.set_cons_zero, List.set_cons_succ]; exact rfl) ?_ | with_reducible apply s_seq | with_reducible apply s_asg | with_reducible apply s_name | with_reducible apply s_next | with_reducible apply s_ret | with_reducible apply s_retN | with_reducible apply s_drop | with_reducible apply s_if | with_reducible apply s_for | with_reducible apply s_and | with_reducible apply s_or | with_reducible apply s_not | with_reducible apply s_B | with_reducible apply s_mB | with_reducible apply s_addI | with_reducible apply s_subI | with_reducible apply s_cmpI | with_reducible apply s_eqI | with_reducible apply s_minI | with_reducible apply s_maxI | with_reducible apply s_meth | with_reducible apply s_Tr | with_reducible apply s_op | with_reducible apply s_c | with_reducible apply s_ifE | with_reducible apply s_andV | with_reducible apply s_orV | with_reducible apply s_notV | with_reducible apply s_b1 | with_reducible apply s_cons | with_reducible apply s_nil | with_reducible apply s_tup | with_reducible apply s_lst | with_reducible apply s_lstM | with_reducible apply s_call | with_reducible apply s_trB | with_reducible apply iteT | with_reducible apply iteF | with_reducible apply s_par | ((with_reducible apply s_var); case h => first | assumption | exact rfl) | (with_reducible refine ⟨by simp [sizeLine_eq], ?_⟩))
  refine s_pow ⟨by decide, by decide, by decide⟩ ?_
  repeat (first | with_reducible refine s_seqN (by simp only [startR, List.map_cons, List.map_nil, List.length_cons, List.length_nil, List.replicate, List.cons_append, List.nil_append, List.getElem?_cons_zero, List.getElem?_cons_succ, List.set_cons_zero, List.set_cons_succ]; exact rfl) ?_ | with_reducible apply s_seq | with_reducible apply s_asg | with_reducible apply s_name | with_reducible apply s_next | with_reducible apply s_ret | with_reducible apply s_retN | with_reducible apply s_drop | with_reducible apply s_if | with_reducible apply s_for | with_reducible apply s_and | with_reducible apply s_or | with_reducible apply s_not | with_reducible apply s_B | with_reducible apply s_mB | with_reducible apply s_addI | with_reducible apply s_subI | with_reducible apply s_cmpI | with_reducible apply s_eqI | with_reducible apply s_minI | with_reducible apply s_maxI | with_reducible apply s_meth | with_reducible apply s_Tr | with_reducible apply s_op | with_reducible apply s_c | with_reducible apply s_ifE | with_reducible apply s_andV | with_reducible apply s_orV | with_reducible apply s_notV | with_reducible apply s_b1 | with_reducible apply s_cons | with_reducible apply s_nil | with_reducible apply s_tup | with_reducible apply s_lst | with_reducible apply s_lstM | with_reducible apply s_call | with_reducible apply s_trB | with_reducible apply iteT | with_reducible apply iteF | with_reducible apply s_par | ((with_reducible apply s_var); case h => first | assumption | exact rfl) | (with_reducible refine ⟨by simp [sizeLine_eq], ?_⟩))
  refine s_absI ?_
  repeat (first | with_reducible refine s_seqN (by simp only [startR, List.map_cons, List.map_nil, List.length_cons, List.length_nil, List.replicate, List.cons_append, List.nil_append, List.getElem?_cons_zero, List.getElem?_cons_succ, List.set_cons_zero, List.set_cons_succ]; exact rfl) ?_ | with_reducible apply s_seq | with_reducible apply s_asg | with_reducible apply s_name | with_reducible apply s_next | with_reducible apply s_ret | with_reducible apply s_retN | with_reducible apply s_drop | with_reducible apply s_if | with_reducible apply s_for | with_reducible apply s_and | with_reducible apply s_or | with_reducible apply s_not | with_reducible apply s_B | with_reducible apply s_mB | with_reducible apply s_addI | with_reducible apply s_subI | with_reducible apply s_cmpI | with_reducible apply s_eqI | with_reducible apply s_minI | with_reducible apply s_maxI | with_reducible apply s_meth | with_reducible apply s_Tr | with_reducible apply s_op | with_reducible apply s_c | with_reducible apply s_ifE | with_reducible apply s_andV | with_reducible apply s_orV | with_reducible apply s_notV | with_reducible apply s_b1 | with_reducible apply s_cons | with_reducible apply s_nil | with_reducible apply s_tup | with_reducible apply s_lst | with_reducible apply s_lstM | with_reducible apply s_call | with_reducible apply s_trB | with_reducible apply iteT | with_reducible apply iteF | with_reducible apply s_par | ((with_reducible apply s_var); case h => first | assumption | exact rfl) | (with_reducible refine ⟨by simp [sizeLine_eq], ?_⟩))
  refine s_modI (by decide) ?_
  repeat (first | with_reducible refine s_seqN (by simp only [startR, List.map_cons, List.map_nil, List.length_cons, List.length_nil, List.replicate, List.cons_append, List.nil_append, List.getElem?_cons_zero, List.getElem?_cons_succ, List.set_cons_zero, List.set_cons_succ]; exact rfl) ?_ | with_reducible apply s_seq | with_reducible apply s_asg | with_reducible apply s_name | with_reducible apply s_next | with_reducible apply s_ret | with_reducible apply s_retN | with_reducible apply s_drop | with_reducible apply s_if | with_reducible apply s_for | with_reducible apply s_and | with_reducible apply s_or | with_reducible apply s_not | with_reducible apply s_B | with_reducible apply s_mB | with_reducible apply s_addI | with_reducible apply s_subI | with_reducible apply s_cmpI | with_reducible apply s_eqI | with_reducible apply s_minI | with_reducible apply s_maxI | with_reducible apply s_meth | with_reducible apply s_Tr | with_reducible apply s_op | with_reducible apply s_c | with_reducible apply s_ifE | with_reducible apply s_andV | with_reducible apply s_orV | with_reducible apply s_notV | with_reducible apply s_b1 | with_reducible apply s_cons | with_reducible apply s_nil | with_reducible apply s_tup | with_reducible apply s_lst | with_reducible apply s_lstM | with_reducible apply s_call | with_reducible apply s_trB | with_reducible apply iteT | with_reducible apply iteF | with_reducible apply s_par | ((with_reducible apply s_var); case h => first | assumption | exact rfl) | (with_reducible refine ⟨by simp [sizeLine_eq], ?_⟩))
  refine s_mulI (by decide) (by decide) ?_
  repeat (first | with_reducible refine s_seqN (by simp only [startR, List.map_cons, List.map_nil, List.length_cons, List.length_nil, List.replicate, List.cons_append, List.nil_append, List.getElem?_cons_zero, List.getElem?_cons_succ, List.set_cons_zero, List.set_cons_succ]; exact rfl) ?_ | with_reducible apply s_seq | with_reducible apply s_asg | with_reducible apply s_name | with_reducible apply s_next | with_reducible apply s_ret | with_reducible apply s_retN | with_reducible apply s_drop | with_reducible apply s_if | with_reducible apply s_for | with_reducible apply s_and | with_reducible apply s_or | with_reducible apply s_not | with_reducible apply s_B | with_reducible apply s_mB | with_reducible apply s_addI | with_reducible apply s_subI | with_reducible apply s_cmpI | with_reducible apply s_eqI | with_reducible apply s_minI | with_reducible apply s_maxI | with_reducible apply s_meth | with_reducible apply s_Tr | with_reducible apply s_op | with_reducible apply s_c | with_reducible apply s_ifE | with_reducible apply s_andV | with_reducible apply s_orV | with_reducible apply s_notV | with_reducible apply s_b1 | with_reducible apply s_cons | with_reducible apply s_nil | with_reducible apply s_tup | with_reducible apply s_lst | with_reducible apply s_lstM | with_reducible apply s_call | with_reducible apply s_trB | with_reducible apply iteT | with_reducible apply iteF | with_reducible apply s_par | ((with_reducible apply s_var); case h => first | assumption | exact rfl) | (with_reducible refine ⟨by simp [sizeLine_eq], ?_⟩))
  refine s_mulI (by have : (2 : Int) ^ 62 = 4611686018427387904 := by decide
                    omega) (by have : (2 : Int) ^ 62 = 4611686018427387904 := by decide
                               omega) ?_
  repeat (first | with_reducible refine s_seqN (by simp only [startR, List.map_cons, List.map_nil, List.length_cons, List.length_nil, List.replicate, List.cons_append, List.nil_append, List.getElem?_cons_zero, List.getElem?_cons_succ, List.set_cons_zero, List.set_cons_succ]; exact rfl) ?_ | with_reducible apply s_seq | with_reducible apply s_asg | with_reducible apply s_name | with_reducible apply s_next | with_reducible apply s_ret | with_reducible apply s_retN | with_reducible apply s_drop | with_reducible apply s_if | with_reducible apply s_for | with_reducible apply s_and | with_reducible apply s_or | with_reducible apply s_not | with_reducible apply s_B | with_reducible apply s_mB | with_reducible apply s_addI | with_reducible apply s_subI | with_reducible apply s_cmpI | with_reducible apply s_eqI | with_reducible apply s_minI | with_reducible apply s_maxI | with_reducible apply s_meth | with_reducible apply s_Tr | with_reducible apply s_op | with_reducible apply s_c | with_reducible apply s_ifE | with_reducible apply s_andV | with_reducible apply s_orV | with_reducible apply s_notV | with_reducible apply s_b1 | with_reducible apply s_cons | with_reducible apply s_nil | with_reducible apply s_tup | with_reducible apply s_lst | with_reducible apply s_lstM | with_reducible apply s_call | with_reducible apply s_trB | with_reducible apply iteT | with_reducible apply iteF | with_reducible apply s_par | ((with_reducible apply s_var); case h => first | assumption | exact rfl) | (with_reducible refine ⟨by simp [sizeLine_eq], ?_⟩))
  refine s_modI (by decide) ?_
  repeat (first | with_reducible refine s_seqN (by simp only [startR, List.map_cons, List.map_nil, List.length_cons, List.length_nil, List.replicate, List.cons_append, List.nil_append, List.getElem?_cons_zero, List.getElem?_cons_succ, List.set_cons_zero, List.set_cons_succ]; exact rfl) ?_ | with_reducible apply s_seq | with_reducible apply s_asg | with_reducible apply s_name | with_reducible apply s_next | with_reducible apply s_ret | with_reducible apply s_retN | with_reducible apply s_drop | with_reducible apply s_if | with_reducible apply s_for | with_reducible apply s_and | with_reducible apply s_or | with_reducible apply s_not | with_reducible apply s_B | with_reducible apply s_mB | with_reducible apply s_addI | with_reducible apply s_subI | with_reducible apply s_cmpI | with_reducible apply s_eqI | with_reducible apply s_minI | with_reducible apply s_maxI | with_reducible apply s_meth | with_reducible apply s_Tr | with_reducible apply s_op | with_reducible apply s_c | with_reducible apply s_ifE | with_reducible apply s_andV | with_reducible apply s_orV | with_reducible apply s_notV | with_reducible apply s_b1 | with_reducible apply s_cons | with_reducible apply s_nil | with_reducible apply s_tup | with_reducible apply s_lst | with_reducible apply s_lstM | with_reducible apply s_call | with_reducible apply s_trB | with_reducible apply iteT | with_reducible apply iteF | with_reducible apply s_par | ((with_reducible apply s_var); case h => first | assumption | exact rfl) | (with_reducible refine ⟨by simp [sizeLine_eq], ?_⟩))
  exact fun p hp => fin0 (h p (_, _) hp)
theorem q_law_take : Pure ["feed", "size", "digit"] sp_law_take t_law_take := by
  rintro ds M P PE ⟨p, f, n, rfl, hp, h0, h1, h⟩
  simp only [t_law_take, dSeq, dIf, dOr, dAnd, dNot, dB, dB1, daCons, daNil, dVar, dC, dRet, dRetN, dNext, dOp, dOrV, dAndV, dNotV, dIfE, dAsg, dgName, dTup, dLst, dLstM, dFrz, dDrop, dMt, dNeg, dCall, dgSub, dPar, dFld, dSetFld, dMakeM, dTr, dChain, dAug, dItem, dFor, dRange1, dRange2, dgTup, dgCons, dgNil, dRev, dMeth, dYes, startR, List.map_cons, List.map_nil, List.length_cons, List.length_nil, List.replicate, List.cons_append, List.nil_append, List.getElem?_cons_zero, List.getElem?_cons_succ, List.set_cons_zero, List.set_cons_succ, sizeLine_eq, Nat.reduceAdd, Nat.reduceLeDiff, Nat.reduceLT, Nat.zero_le, true_and]
  by_cases hd : 0 < f.1
  · simp only [rdIx_feed0 hp, rdCmp, rdI, hd, decide_true, if_true, true_and, h0, rdMod, rdDiv, rdSet_feed0 hp]
    refine ⟨divW h0 h1, fin0 (h _ _ (Int.emod_nonneg _ (by omega)) (Int.emod_lt_of_pos _ h0))⟩
  · simp only [rdIx_feed0 hp, rdIx_feed1 hp, rdCmp, rdI, hd, decide_false, Bool.false_eq_true, if_false, true_and, h0, rdMod, rdDiv, rdMul, rdAdd, rdSet_feed1 hp]
    refine ⟨mulR (by decide) (by decide), by decide, ?_⟩
    have hp2 : updM M p (feedL (f.1, (f.2 * 69069 + 12345) % 4294967311)) p = some (feedL (f.1, (f.2 * 69069 + 12345) % 4294967311)) := updM_same
    rw [rdIx_feed1 hp2]
    exact ⟨divW (by decide) (by decide), fin0 (h _ _ (Int.emod_nonneg _ (by omega)) (Int.emod_lt_of_pos _ h0))⟩
end K


set_option Elab.async false
set_option linter.all false
set_option maxRecDepth 100000
set_option maxHeartbeats 2000000
namespace K
open PySem PySem.Spec PyProof.Rows L2 DL
theorem inB_iff {L : PrL} {t : Int} : inB L t = true ↔ inRng L t := by simp [inB, inRng]
theorem mem_times {L : PrL} (h : okS L) {t : Int} : t ∈ timesOf L ↔ inRng L t := by
  unfold timesOf
  rw [List.mem_filter, inB_iff]
  refine ⟨fun h => h.2, fun ht => ⟨?_, ht⟩⟩
  obtain ⟨x, hx, h1, h2⟩ := ht
  have := h.2 x hx
  exact List.mem_map.mpr ⟨t.toNat, List.mem_range.mpr (by omega), by omega⟩
theorem times_sorted (L : PrL) : (timesOf L).Pairwise (· < ·) := by
  unfold timesOf
  refine List.Pairwise.filter _ ?_
  rw [List.pairwise_map]
  exact List.pairwise_lt_range.imp fun h => by omega
theorem sorted_ext : ∀ {l l' : List Int}, l.Pairwise (· < ·) → l'.Pairwise (· < ·) → (∀ t, t ∈ l ↔ t ∈ l') → l = l'
  | [], [], _, _, _ => rfl
  | [], y :: l', _, _, h => absurd ((h y).mpr List.mem_cons_self) List.not_mem_nil
  | x :: l, [], _, _, h => absurd ((h x).mp List.mem_cons_self) List.not_mem_nil
  | x :: l, y :: l', h1, h2, h => by
    obtain ⟨a1, a2⟩ := List.pairwise_cons.mp h1
    obtain ⟨b1, b2⟩ := List.pairwise_cons.mp h2
    have e : x = y := by
      rcases List.mem_cons.mp ((h x).mp List.mem_cons_self) with q | q
      · exact q
      · rcases List.mem_cons.mp ((h y).mpr List.mem_cons_self) with z | z
        · exact z.symm
        · have := b1 x q
          have := a1 y z
          omega
    subst e
    congr 1
    refine sorted_ext a2 b2 fun t => ⟨fun ht => ?_, fun ht => ?_⟩
    · rcases List.mem_cons.mp ((h t).mp (List.mem_cons_of_mem _ ht)) with q | q
      · have := a1 t ht
        omega
      · exact q
    · rcases List.mem_cons.mp ((h t).mpr (List.mem_cons_of_mem _ ht)) with q | q
      · have := b1 t ht
        omega
      · exact q
theorem times_len (L : PrL) : (timesOf L).length ≤ 41 := by
  unfold timesOf
  refine Nat.le_trans (List.length_filter_le _ _) ?_
  simp
theorem okS_R {L : PrL} (h : okS L) : okR L := fun x hx => ⟨(h.2 x hx).1, (h.2 x hx).2.1⟩
theorem norm_in {L : PrL} (h : okS L) (t : Int) : inRng (norm L) t ↔ inRng L t := in_norm (okS_R h) t
theorem times_same {L L' : PrL} (h : okS L) (h' : okS L') : timesOf L = timesOf L' ↔ norm L = norm L' := by
  constructor
  · intro e
    refine norm_same (fun x hx => (h.2 x hx).2.1) (fun x hx => (h'.2 x hx).2.1) fun t => ?_
    rw [← mem_times h, ← mem_times h', e]
  · intro e
    refine sorted_ext (times_sorted L) (times_sorted L') fun t => ?_
    rw [mem_times h, mem_times h', ← norm_in h, ← norm_in h', e]
theorem allR_len (x : Pt) : (allR x).length ≤ 83 := by
  unfold allR
  have h1 := times_len x.a
  have h2 := times_len x.b
  simp only [List.length_append, List.length_map]
  split <;> simp <;> omega
theorem mem_all {x : Pt} (h : okPt x) (r : Rp) : r ∈ allR x ↔ memO (nO x) r := by
  unfold allR
  simp only [List.mem_append, List.mem_map]
  match r with
  | none =>
    constructor
    · rintro ((⟨t, _, e⟩ | ⟨t, _, e⟩) | e)
      · cases e
      · cases e
      · show x.n = true
        split at e
        · assumption
        · cases e
    · intro e
      have e' : x.n = true := e
      exact .inr (by rw [if_pos e']; exact List.mem_singleton.mpr rfl)
  | some (true, t) =>
    show _ ↔ inRng (norm x.a) t
    rw [norm_in h.a, ← mem_times h.a]
    constructor
    · rintro ((⟨s, hs, e⟩ | ⟨s, _, e⟩) | e)
      · cases e
        exact hs
      · cases e
      · split at e
        · cases List.mem_singleton.mp e
        · cases e
    · exact fun ht => .inl (.inl ⟨t, ht, rfl⟩)
  | some (false, t) =>
    show _ ↔ inRng (norm x.b) t
    rw [norm_in h.b, ← mem_times h.b]
    constructor
    · rintro ((⟨s, hs, e⟩ | ⟨s, hs, e⟩) | e)
      · cases e
      · cases e
        exact hs
      · split at e
        · cases List.mem_singleton.mp e
        · cases e
    · exact fun ht => .inl (.inr ⟨t, ht, rfl⟩)
def okOf : Rp → Option Int
  | some (true, t) => some t
  | _ => none
def failOf : Rp → Option Int
  | some (false, t) => some t
  | _ => none
theorem fm_none {α β : Type} {f : α → Option β} (h : ∀ x, f x = none) : ∀ l : List α, l.filterMap f = []
  | [] => rfl
  | x :: l => by rw [List.filterMap_cons, h x, fm_none h l]
theorem fm_some {α : Type} {f : α → Option α} (h : ∀ x, f x = some x) : ∀ l : List α, l.filterMap f = l
  | [] => rfl
  | x :: l => by rw [List.filterMap_cons, h x, fm_some h l]
theorem filt_ok (l1 l2 : List Int) (n : Bool) : ((l1.map fun t => (some (true, t) : Rp)) ++ (l2.map fun t => (some (false, t) : Rp)) ++ (if n = true then [none] else [])).filterMap okOf = l1 := by
  rw [List.filterMap_append, List.filterMap_append, List.filterMap_map, List.filterMap_map]
  rw [fm_some (f := okOf ∘ fun t => (some (true, t) : Rp)) fun _ => rfl, fm_none (f := okOf ∘ fun t => (some (false, t) : Rp)) fun _ => rfl]
  cases n <;> simp [okOf]
theorem filt_fail (l1 l2 : List Int) (n : Bool) : ((l1.map fun t => (some (true, t) : Rp)) ++ (l2.map fun t => (some (false, t) : Rp)) ++ (if n = true then [none] else [])).filterMap failOf = l2 := by
  rw [List.filterMap_append, List.filterMap_append, List.filterMap_map, List.filterMap_map]
  rw [fm_none (f := failOf ∘ fun t => (some (true, t) : Rp)) fun _ => rfl, fm_some (f := failOf ∘ fun t => (some (false, t) : Rp)) fun _ => rfl]
  cases n <;> simp [failOf]
theorem all_same {x y : Pt} (h : okPt x) (h' : okPt y) : allR x = allR y ↔ nO x = nO y := by
  constructor
  · intro e
    have e1 := congrArg (fun l : List Rp => l.filterMap okOf) e
    have e2 := congrArg (fun l : List Rp => l.filterMap failOf) e
    simp only [allR, filt_ok, filt_fail] at e1 e2
    have e3 : x.n = y.n := by
      have a := mem_all h none
      have b := mem_all h' none
      rw [e] at a
      have c : (x.n = true ↔ y.n = true) := a.symm.trans b
      rw [Bool.eq_iff_iff]
      exact c
    unfold nO
    rw [(times_same h.a h'.a).mp e1, (times_same h.b h'.b).mp e2, e3]
  · intro e
    have e1 : norm x.a = norm y.a := congrArg Oc.a e
    have e2 : norm x.b = norm y.b := congrArg Oc.b e
    have e3 : x.n = y.n := congrArg Oc.n e
    unfold allR
    rw [(times_same h.a h'.a).mpr e1, (times_same h.b h'.b).mpr e2, e3]
theorem word_inj {b c : Bool} : wordS b = wordS c ↔ b = c := by
  have n1 : ¬ (("ok" : Str) = "fail") := by decide +kernel
  cases b <;> cases c <;> simp [wordS, n1, Ne.symm n1]
theorem eqv_rep : ∀ r s : Rp, PyData.eqv (encR r) (encR s) = decide (r = s)
  | none, none => by simp [encR, PyData.eqv, PyData.eqvAll]
  | none, some (b, t) => by simp [encR, PyData.eqv, PyData.eqvAll]
  | some (b, t), none => by simp [encR, PyData.eqv, PyData.eqvAll]
  | some (b, t), some (c, u) => by
    rw [Bool.eq_iff_iff]
    simp only [encR, PyData.eqv, PyData.eqvAll, Bool.and_true, Bool.and_eq_true, beq_iff_eq, decide_eq_true_eq, word_inj, Option.some.injEq, Prod.mk.injEq]
theorem eqvs_rep : ∀ l l' : List Rp, PyData.eqvAll (l.map encR) (l'.map encR) = decide (l = l')
  | [], [] => by simp [PyData.eqvAll]
  | [], y :: l' => by simp [PyData.eqvAll]
  | x :: l, [] => by simp [PyData.eqvAll]
  | x :: l, y :: l' => by
    rw [List.map_cons, List.map_cons, PyData.eqvAll, eqv_rep, eqvs_rep l l', Bool.eq_iff_iff]
    simp
theorem any_rep (r : Rp) : ∀ l : List Rp, ((l.map encR).any fun z => PyData.eqv z (encR r)) = decide (r ∈ l)
  | [] => by simp
  | x :: l => by
    rw [List.map_cons, List.any_cons, any_rep r l, eqv_rep, Bool.eq_iff_iff]
    simp only [Bool.or_eq_true, decide_eq_true_eq, List.mem_cons]
    exact ⟨fun h => h.elim (fun e => .inl e.symm) .inr, fun h => h.elim (fun e => .inl e.symm) .inr⟩
section
variable {M : Store} {Q : D → Store → Prop} {ρ : Ro} {i : Nat} {o o' : Oc}
theorem toPM_reps {l : List Rp} : toPM M (.lst (l.map repD)) = some (.list (l.map encR)) := by
  unfold toPM
  simp only [asL, toPs_reps, Option.map_some]
theorem toPM_rep (r : Rp) : toPM M (repD r) = some (encR r) := by
  cases r with
  | none => exact toP_rep none
  | some x => exact toP_rep (some x)
theorem rep_ns (r : Rp) (d : D) : (∀ s t, ¬ (repD r = .str s ∧ d = .str t)) ∧ ∀ i j, ¬ (repD r = .int i ∧ d = .int j) := by
  match r with
  | none => exact ⟨fun s t z => (by cases z.1), fun s t z => (by cases z.1)⟩
  | some (b, t) => exact ⟨fun s t z => (by cases z.1), fun s t z => (by cases z.1)⟩
theorem s_eqReps {neg : Bool} {l l' : List Rp} (q : Q (.bl (neg != decide (l = l'))) M) : rdEq neg (.lst (l.map repD)) (.lst (l'.map repD)) M Q := by
  refine s_eqP toPM_reps toPM_reps (okP_reps l) (okP_reps l') ⟨fun s t z => (by cases z.1), fun s t z => (by cases z.1)⟩ ?_
  rw [PyData.eqv, eqvs_rep]
  exact q
theorem s_eqRepsN {neg : Bool} {l : List Rp} (q : Q (.bl (neg != decide (l = []))) M) : rdEq neg (.lst (l.map repD)) (.lst []) M Q := s_eqReps (l' := []) q
theorem s_eqNev {neg : Bool} {r : Rp} (q : Q (.bl (neg != decide (r = none))) M) : rdEq neg (repD r) (.tup [.str "never"]) M Q := by
  refine s_eqP (toPM_rep r) (toPM_rep none) (okP_rep r) (okP_rep none) (rep_ns r _) ?_
  rw [eqv_rep]
  exact q
theorem s_inReps {neg : Bool} {r : Rp} {l : List Rp} (q : Q (.bl (neg != decide (r ∈ l))) M) : rdIn neg (repD r) (.lst (l.map repD)) M Q := by
  have k : (match toPM M (repD r), toPM M (.lst (l.map repD)) with
    | some d, some (.list es) => okP d ∧ okP (.list es) ∧ Q (.bl (neg != es.any fun z => PyData.eqv z d)) M
    | some d, some (.tuple es) => okP d ∧ okP (.tuple es) ∧ Q (.bl (neg != es.any fun z => PyData.eqv z d)) M
    | _, _ => False) := by
    rw [toPM_rep, toPM_reps]
    exact ⟨okP_rep r, okP_reps l, by rw [any_rep]; exact q⟩
  match r with
  | none => exact k
  | some (b, t) => exact k
theorem asO_O : asO M "Outcomes" (objO o) = some (ocO o) := by simp [asO, objO]
theorem lookO_ok : (ocO o).lookup ("ok" : Str) = some (objT o.a) := by simp [ocO, List.lookup]
theorem lookO_fail : (ocO o).lookup ("fail" : Str) = some (objT o.b) := by
  have e1 : (("fail" : Str) == ("ok" : Str)) = false := by decide +kernel
  simp [ocO, List.lookup, e1]
theorem lookO_never : (ocO o).lookup ("never" : Str) = some (.bl o.n) := by
  have e1 : (("never" : Str) == ("ok" : Str)) = false := by decide +kernel
  have e2 : (("never" : Str) == ("fail" : Str)) = false := by decide +kernel
  simp [ocO, List.lookup, e1, e2]
theorem lookO_parts : (ocO o).lookup ("parts" : Str) = some (ocP o) := by
  have e1 : (("parts" : Str) == ("ok" : Str)) = false := by decide +kernel
  have e2 : (("parts" : Str) == ("fail" : Str)) = false := by decide +kernel
  have e3 : (("parts" : Str) == ("never" : Str)) = false := by decide +kernel
  simp [ocO, List.lookup, e1, e2, e3]
theorem lookO_no {f : Str} (h : ("ok" : Str) ≠ f ∧ ("fail" : Str) ≠ f ∧ ("never" : Str) ≠ f ∧ ("parts" : Str) ≠ f) : (ocO o).lookup f = none := by
  have e1 : (f == ("ok" : Str)) = false := by simpa using Ne.symm h.1
  have e2 : (f == ("fail" : Str)) = false := by simpa using Ne.symm h.2.1
  have e3 : (f == ("never" : Str)) = false := by simpa using Ne.symm h.2.2.1
  have e4 : (f == ("parts" : Str)) = false := by simpa using Ne.symm h.2.2.2
  simp [ocO, List.lookup, e1, e2, e3, e4]
theorem mOk_O {f : Str} (h : ("ok" : Str) ≠ f ∧ ("fail" : Str) ≠ f ∧ ("never" : Str) ≠ f ∧ ("parts" : Str) ≠ f) : mOk "Outcomes" f (objO o) M := by
  show (match asO M "Outcomes" (objO o) with
    | some fs => fs.lookup f = none
    | none => False)
  rw [asO_O]
  exact lookO_no h
theorem mOk_worst : mOk "Outcomes" "worst" (objO o) M := mOk_O (by decide +kernel)
theorem mOk_within : mOk "Outcomes" "is_within" (objO o) M := mOk_O (by decide +kernel)
theorem s_fldO {f : Str} {d : D} (h : ρ[i]? = some (some (objO o))) (hl : (ocO o).lookup f = some d) (q : Q d M) : dFld "Outcomes" f (dVar i) ρ M Q := by
  simp only [dFld, dVar, h, asO_O, hl]
  exact q
theorem toP_lstP (L : PrL) : toP (.tup (L.map rngD)) = some (.tuple (L.map encP)) := by
  rw [toP, toPs_pairs]
  rfl
def encO (o : Oc) : PyData := .tuple [.tuple (o.a.map encP), .tuple (o.b.map encP), .bool o.n]
theorem toP_O (o : Oc) : toP (ocP o) = some (encO o) := by
  unfold ocP encO
  rw [toP, toPs, toP_lstP, toPs, toP_lstP, toPs, toPs]
  simp [toP]
theorem okP_O (o : Oc) : okP (encO o) := by
  have h1 := lay_pairs o.a
  have h2 := lay_pairs o.b
  have h3 := depth_pairs o.a
  have h4 := depth_pairs o.b
  have c : (encO o).canLay0 = true := by
    unfold encO
    simp only [PyData.canLay0, PyData.canLayAll0, h1, h2, Bool.and_true, Bool.true_and]
  have d : (encO o).depth ≤ 3 := by
    unfold encO
    simp only [PyData.depth, PyData.depthAll]
    omega
  unfold okP SeqAt.shaped
  rw [c, Bool.true_and, decide_eq_true_eq]
  omega
theorem eqv_O (o o' : Oc) : PyData.eqv (encO o) (encO o') = decide (o = o') := by
  unfold encO
  simp only [PyData.eqv, PyData.eqvAll, eqv_pairs, Bool.and_true]
  rw [Bool.eq_iff_iff]
  obtain ⟨a, b, n⟩ := o
  obtain ⟨a', b', n'⟩ := o'
  simp [Oc.mk.injEq]
theorem s_eqO {neg : Bool} (q : Q (.bl (neg != decide (o = o'))) M) : rdEq neg (ocP o) (ocP o') M Q := by
  refine s_eqP (x := ocP o) (y := ocP o') (toP_O o) (toP_O o') (okP_O o) (okP_O o') ⟨fun s t z => (by cases z.2), fun s t z => (by cases z.2)⟩ ?_
  rw [eqv_O]
  exact q
theorem opO_eq (q : Q (.bl (decide (o = o'))) M) : rdOwn false "Outcomes" sp_Outcomes_eq (objO o) (objO o') M Q :=
  ⟨by rw [asO_O]; rfl, by rw [asO_O]; rfl, o, objO o', rfl, .inl ⟨o', rfl, by simpa using q⟩⟩
theorem opO_ne (q : Q (.bl (!decide (o = o'))) M) : rdOwn true "Outcomes" sp_Outcomes_eq (objO o) (objO o') M Q :=
  ⟨by rw [asO_O]; rfl, by rw [asO_O]; rfl, o, objO o', rfl, .inl ⟨o', rfl, by simpa using q⟩⟩
theorem opO_eqX {d : D} (hd : ∃ n, tyD M d = some (.b n)) (q : Q (.bl false) M) : rdOwnX false "Outcomes" sp_Outcomes_eq (objO o) d M Q :=
  ⟨by rw [asO_O]; rfl, hd, o, d, rfl, .inr ⟨hd, by simpa using q⟩⟩
theorem opO_neX {d : D} (hd : ∃ n, tyD M d = some (.b n)) (q : Q (.bl true) M) : rdOwnX true "Outcomes" sp_Outcomes_eq (objO o) d M Q :=
  ⟨by rw [asO_O]; rfl, hd, o, d, rfl, .inr ⟨hd, by simpa using q⟩⟩
theorem opO_in {r : Rp} (ho : okO o) (q : ∀ b : Bool, (b = true ↔ memO o r) → Q (.bl b) M) : rdOwnIn false "Outcomes" sp_Outcomes_contains (repD r) (objO o) M Q :=
  ⟨by rw [asO_O]; rfl, o, r, rfl, ho, fun b hb => by simpa using q b hb⟩
end
theorem s_setF {E : DEnds} {ρ : Ro} {M : Store} {c f : Str} {p : Addr} {fs : List (Str × D)} {i : Nat} {te : DTE} {d : D} (h : ρ[i]? = some (some (.ref p))) (ht : ∀ Q : D → Store → Prop, Q d M → te ρ M Q) (hp : M p = some (.ins c fs)) (hl : fs.length < 1000) (k : E.nx ρ (updM M p (.ins c (dput f d fs)))) : dSetFld c f (dVar i) te E ρ M := by
  simp only [dSetFld, dVar, h]
  refine ht _ ?_
  simp only [hp]
  exact ⟨trivial, hl, k⟩
theorem q_Outcomes_init : Pure ["self", "ok", "fail", "never"] sp_Outcomes_init t_Outcomes_init := by
  rintro ds M P PE ⟨p, o, rfl, hp, h⟩
  unfold t_Outcomes_init
  have n1 : ¬ (("ok" : Str) = "fail") := by decide +kernel
  have n2 : ¬ (("ok" : Str) = "never") := by decide +kernel
  have n3 : ¬ (("fail" : Str) = "never") := by decide +kernel
  have n4 : ¬ (("ok" : Str) = "parts") := by decide +kernel
  have n5 : ¬ (("fail" : Str) = "parts") := by decide +kernel
  have n6 : ¬ (("never" : Str) = "parts") := by decide +kernel
  repeat (first | with_reducible refine s_seqN (by simp only [startR, List.map_cons, List.map_nil, List.length_cons, List.length_nil, List.replicate, List.cons_append, List.nil_append, List.getElem?_cons_zero, List.getElem?_cons_succ, List.set_cons_zero, List.set_cons_succ]; exact rfl) ?_ | with_reducible apply s_seq | with_reducible apply s_asg | with_reducible apply s_name | with_reducible apply s_next | with_reducible apply s_ret | with_reducible apply s_retN | with_reducible apply s_drop | with_reducible apply s_if | with_reducible apply s_for | with_reducible apply s_and | with_reducible apply s_or | with_reducible apply s_not | with_reducible apply s_B | with_reducible apply s_mB | with_reducible apply s_addI | with_reducible apply s_subI | with_reducible apply s_cmpI | with_reducible apply s_eqI | with_reducible apply s_minI | with_reducible apply s_maxI | with_reducible apply s_meth | with_reducible apply s_Tr | with_reducible apply s_op | with_reducible apply s_c | with_reducible apply s_ifE | with_reducible apply s_andV | with_reducible apply s_orV | with_reducible apply s_notV | with_reducible apply s_b1 | with_reducible apply s_cons | with_reducible apply s_nil | with_reducible apply s_tup | with_reducible apply s_lst | with_reducible apply s_lstM | with_reducible apply s_call | with_reducible apply s_trB | with_reducible apply iteT | with_reducible apply iteF | with_reducible apply s_par | ((with_reducible apply s_var); case h => first | assumption | exact rfl) | (with_reducible refine ⟨by simp [sizeLine_eq], ?_⟩))
  refine s_setF (p := p) (d := objT o.a) rfl (fun Q q => q) hp (by simp) ?_
  repeat (first | with_reducible refine s_seqN (by simp only [startR, List.map_cons, List.map_nil, List.length_cons, List.length_nil, List.replicate, List.cons_append, List.nil_append, List.getElem?_cons_zero, List.getElem?_cons_succ, List.set_cons_zero, List.set_cons_succ]; exact rfl) ?_ | with_reducible apply s_seq | with_reducible apply s_asg | with_reducible apply s_name | with_reducible apply s_next | with_reducible apply s_ret | with_reducible apply s_retN | with_reducible apply s_drop | with_reducible apply s_if | with_reducible apply s_for | with_reducible apply s_and | with_reducible apply s_or | with_reducible apply s_not | with_reducible apply s_B | with_reducible apply s_mB | with_reducible apply s_addI | with_reducible apply s_subI | with_reducible apply s_cmpI | with_reducible apply s_eqI | with_reducible apply s_minI | with_reducible apply s_maxI | with_reducible apply s_meth | with_reducible apply s_Tr | with_reducible apply s_op | with_reducible apply s_c | with_reducible apply s_ifE | with_reducible apply s_andV | with_reducible apply s_orV | with_reducible apply s_notV | with_reducible apply s_b1 | with_reducible apply s_cons | with_reducible apply s_nil | with_reducible apply s_tup | with_reducible apply s_lst | with_reducible apply s_lstM | with_reducible apply s_call | with_reducible apply s_trB | with_reducible apply iteT | with_reducible apply iteF | with_reducible apply s_par | ((with_reducible apply s_var); case h => first | assumption | exact rfl) | (with_reducible refine ⟨by simp [sizeLine_eq], ?_⟩))
  refine s_setF (p := p) (d := objT o.b) rfl (fun Q q => q) updM_same (by simp [dput]) ?_
  rw [updM_updM]
  repeat (first | with_reducible refine s_seqN (by simp only [startR, List.map_cons, List.map_nil, List.length_cons, List.length_nil, List.replicate, List.cons_append, List.nil_append, List.getElem?_cons_zero, List.getElem?_cons_succ, List.set_cons_zero, List.set_cons_succ]; exact rfl) ?_ | with_reducible apply s_seq | with_reducible apply s_asg | with_reducible apply s_name | with_reducible apply s_next | with_reducible apply s_ret | with_reducible apply s_retN | with_reducible apply s_drop | with_reducible apply s_if | with_reducible apply s_for | with_reducible apply s_and | with_reducible apply s_or | with_reducible apply s_not | with_reducible apply s_B | with_reducible apply s_mB | with_reducible apply s_addI | with_reducible apply s_subI | with_reducible apply s_cmpI | with_reducible apply s_eqI | with_reducible apply s_minI | with_reducible apply s_maxI | with_reducible apply s_meth | with_reducible apply s_Tr | with_reducible apply s_op | with_reducible apply s_c | with_reducible apply s_ifE | with_reducible apply s_andV | with_reducible apply s_orV | with_reducible apply s_notV | with_reducible apply s_b1 | with_reducible apply s_cons | with_reducible apply s_nil | with_reducible apply s_tup | with_reducible apply s_lst | with_reducible apply s_lstM | with_reducible apply s_call | with_reducible apply s_trB | with_reducible apply iteT | with_reducible apply iteF | with_reducible apply s_par | ((with_reducible apply s_var); case h => first | assumption | exact rfl) | (with_reducible refine ⟨by simp [sizeLine_eq], ?_⟩))
  refine s_setF (p := p) (d := .bl o.n) rfl (fun Q q => q) updM_same (by simp [dput, n1]) ?_
  rw [updM_updM]
  repeat (first | with_reducible refine s_seqN (by simp only [startR, List.map_cons, List.map_nil, List.length_cons, List.length_nil, List.replicate, List.cons_append, List.nil_append, List.getElem?_cons_zero, List.getElem?_cons_succ, List.set_cons_zero, List.set_cons_succ]; exact rfl) ?_ | with_reducible apply s_seq | with_reducible apply s_asg | with_reducible apply s_name | with_reducible apply s_next | with_reducible apply s_ret | with_reducible apply s_retN | with_reducible apply s_drop | with_reducible apply s_if | with_reducible apply s_for | with_reducible apply s_and | with_reducible apply s_or | with_reducible apply s_not | with_reducible apply s_B | with_reducible apply s_mB | with_reducible apply s_addI | with_reducible apply s_subI | with_reducible apply s_cmpI | with_reducible apply s_eqI | with_reducible apply s_minI | with_reducible apply s_maxI | with_reducible apply s_meth | with_reducible apply s_Tr | with_reducible apply s_op | with_reducible apply s_c | with_reducible apply s_ifE | with_reducible apply s_andV | with_reducible apply s_orV | with_reducible apply s_notV | with_reducible apply s_b1 | with_reducible apply s_cons | with_reducible apply s_nil | with_reducible apply s_tup | with_reducible apply s_lst | with_reducible apply s_lstM | with_reducible apply s_call | with_reducible apply s_trB | with_reducible apply iteT | with_reducible apply iteF | with_reducible apply s_par | ((with_reducible apply s_var); case h => first | assumption | exact rfl) | (with_reducible refine ⟨by simp [sizeLine_eq], ?_⟩))
  dsimp only
  refine s_setF (p := p) (d := ocP o) rfl ?_ updM_same ?_ ?_
  · intro Q q
    repeat (first | with_reducible refine s_seqN (by simp only [startR, List.map_cons, List.map_nil, List.length_cons, List.length_nil, List.replicate, List.cons_append, List.nil_append, List.getElem?_cons_zero, List.getElem?_cons_succ, List.set_cons_zero, List.set_cons_succ]; exact rfl) ?_ | with_reducible apply s_seq | with_reducible apply s_asg | with_reducible apply s_name | with_reducible apply s_next | with_reducible apply s_ret | with_reducible apply s_retN | with_reducible apply s_drop | with_reducible apply s_if | with_reducible apply s_for | with_reducible apply s_and | with_reducible apply s_or | with_reducible apply s_not | with_reducible apply s_B | with_reducible apply s_mB | with_reducible apply s_addI | with_reducible apply s_subI | with_reducible apply s_cmpI | with_reducible apply s_eqI | with_reducible apply s_minI | with_reducible apply s_maxI | with_reducible apply s_meth | with_reducible apply s_Tr | with_reducible apply s_op | with_reducible apply s_c | with_reducible apply s_ifE | with_reducible apply s_andV | with_reducible apply s_orV | with_reducible apply s_notV | with_reducible apply s_b1 | with_reducible apply s_cons | with_reducible apply s_nil | with_reducible apply s_tup | with_reducible apply s_lst | with_reducible apply s_lstM | with_reducible apply s_call | with_reducible apply s_trB | with_reducible apply iteT | with_reducible apply iteF | with_reducible apply s_par | ((with_reducible apply s_var); case h => first | assumption | exact rfl) | (with_reducible refine ⟨by simp [sizeLine_eq], ?_⟩))
    refine s_fldT rfl ?_
    repeat (first | with_reducible refine s_seqN (by simp only [startR, List.map_cons, List.map_nil, List.length_cons, List.length_nil, List.replicate, List.cons_append, List.nil_append, List.getElem?_cons_zero, List.getElem?_cons_succ, List.set_cons_zero, List.set_cons_succ]; exact rfl) ?_ | with_reducible apply s_seq | with_reducible apply s_asg | with_reducible apply s_name | with_reducible apply s_next | with_reducible apply s_ret | with_reducible apply s_retN | with_reducible apply s_drop | with_reducible apply s_if | with_reducible apply s_for | with_reducible apply s_and | with_reducible apply s_or | with_reducible apply s_not | with_reducible apply s_B | with_reducible apply s_mB | with_reducible apply s_addI | with_reducible apply s_subI | with_reducible apply s_cmpI | with_reducible apply s_eqI | with_reducible apply s_minI | with_reducible apply s_maxI | with_reducible apply s_meth | with_reducible apply s_Tr | with_reducible apply s_op | with_reducible apply s_c | with_reducible apply s_ifE | with_reducible apply s_andV | with_reducible apply s_orV | with_reducible apply s_notV | with_reducible apply s_b1 | with_reducible apply s_cons | with_reducible apply s_nil | with_reducible apply s_tup | with_reducible apply s_lst | with_reducible apply s_lstM | with_reducible apply s_call | with_reducible apply s_trB | with_reducible apply iteT | with_reducible apply iteF | with_reducible apply s_par | ((with_reducible apply s_var); case h => first | assumption | exact rfl) | (with_reducible refine ⟨by simp [sizeLine_eq], ?_⟩))
    refine s_fldT rfl ?_
    repeat (first | with_reducible refine s_seqN (by simp only [startR, List.map_cons, List.map_nil, List.length_cons, List.length_nil, List.replicate, List.cons_append, List.nil_append, List.getElem?_cons_zero, List.getElem?_cons_succ, List.set_cons_zero, List.set_cons_succ]; exact rfl) ?_ | with_reducible apply s_seq | with_reducible apply s_asg | with_reducible apply s_name | with_reducible apply s_next | with_reducible apply s_ret | with_reducible apply s_retN | with_reducible apply s_drop | with_reducible apply s_if | with_reducible apply s_for | with_reducible apply s_and | with_reducible apply s_or | with_reducible apply s_not | with_reducible apply s_B | with_reducible apply s_mB | with_reducible apply s_addI | with_reducible apply s_subI | with_reducible apply s_cmpI | with_reducible apply s_eqI | with_reducible apply s_minI | with_reducible apply s_maxI | with_reducible apply s_meth | with_reducible apply s_Tr | with_reducible apply s_op | with_reducible apply s_c | with_reducible apply s_ifE | with_reducible apply s_andV | with_reducible apply s_orV | with_reducible apply s_notV | with_reducible apply s_b1 | with_reducible apply s_cons | with_reducible apply s_nil | with_reducible apply s_tup | with_reducible apply s_lst | with_reducible apply s_lstM | with_reducible apply s_call | with_reducible apply s_trB | with_reducible apply iteT | with_reducible apply iteF | with_reducible apply s_par | ((with_reducible apply s_var); case h => first | assumption | exact rfl) | (with_reducible refine ⟨by simp [sizeLine_eq], ?_⟩))
    exact q
  · simp [dput, n1, n2, n3]
  · rw [updM_updM]
    simp only [dput, if_neg n1, if_neg n2, if_neg n3, if_neg n4, if_neg n5, if_neg n6]
    exact fin0 h
theorem q_Outcomes_eq : Pure ["self", "other"] sp_Outcomes_eq t_Outcomes_eq := by
  rintro ds M P PE ⟨a, d, rfl, h⟩
  unfold t_Outcomes_eq
  repeat (first | with_reducible refine s_seqN (by simp only [startR, List.map_cons, List.map_nil, List.length_cons, List.length_nil, List.replicate, List.cons_append, List.nil_append, List.getElem?_cons_zero, List.getElem?_cons_succ, List.set_cons_zero, List.set_cons_succ]; exact rfl) ?_ | with_reducible apply s_seq | with_reducible apply s_asg | with_reducible apply s_name | with_reducible apply s_next | with_reducible apply s_ret | with_reducible apply s_retN | with_reducible apply s_drop | with_reducible apply s_if | with_reducible apply s_for | with_reducible apply s_and | with_reducible apply s_or | with_reducible apply s_not | with_reducible apply s_B | with_reducible apply s_mB | with_reducible apply s_addI | with_reducible apply s_subI | with_reducible apply s_cmpI | with_reducible apply s_eqI | with_reducible apply s_minI | with_reducible apply s_maxI | with_reducible apply s_meth | with_reducible apply s_Tr | with_reducible apply s_op | with_reducible apply s_c | with_reducible apply s_ifE | with_reducible apply s_andV | with_reducible apply s_orV | with_reducible apply s_notV | with_reducible apply s_b1 | with_reducible apply s_cons | with_reducible apply s_nil | with_reducible apply s_tup | with_reducible apply s_lst | with_reducible apply s_lstM | with_reducible apply s_call | with_reducible apply s_trB | with_reducible apply iteT | with_reducible apply iteF | with_reducible apply s_par | ((with_reducible apply s_var); case h => first | assumption | exact rfl) | (with_reducible refine ⟨by simp [sizeLine_eq], ?_⟩))
  rcases h with ⟨b, rfl, h⟩ | ⟨⟨n, hn⟩, h⟩
  · simp only [rcIsi, objO, tyD, isiD, decide_true]
    repeat (first | with_reducible refine s_seqN (by simp only [startR, List.map_cons, List.map_nil, List.length_cons, List.length_nil, List.replicate, List.cons_append, List.nil_append, List.getElem?_cons_zero, List.getElem?_cons_succ, List.set_cons_zero, List.set_cons_succ]; exact rfl) ?_ | with_reducible apply s_seq | with_reducible apply s_asg | with_reducible apply s_name | with_reducible apply s_next | with_reducible apply s_ret | with_reducible apply s_retN | with_reducible apply s_drop | with_reducible apply s_if | with_reducible apply s_for | with_reducible apply s_and | with_reducible apply s_or | with_reducible apply s_not | with_reducible apply s_B | with_reducible apply s_mB | with_reducible apply s_addI | with_reducible apply s_subI | with_reducible apply s_cmpI | with_reducible apply s_eqI | with_reducible apply s_minI | with_reducible apply s_maxI | with_reducible apply s_meth | with_reducible apply s_Tr | with_reducible apply s_op | with_reducible apply s_c | with_reducible apply s_ifE | with_reducible apply s_andV | with_reducible apply s_orV | with_reducible apply s_notV | with_reducible apply s_b1 | with_reducible apply s_cons | with_reducible apply s_nil | with_reducible apply s_tup | with_reducible apply s_lst | with_reducible apply s_lstM | with_reducible apply s_call | with_reducible apply s_trB | with_reducible apply iteT | with_reducible apply iteF | with_reducible apply s_par | ((with_reducible apply s_var); case h => first | assumption | exact rfl) | (with_reducible refine ⟨by simp [sizeLine_eq], ?_⟩))
    refine s_fldO (i := 0) (o := a) rfl lookO_parts ?_
    repeat (first | with_reducible refine s_seqN (by simp only [startR, List.map_cons, List.map_nil, List.length_cons, List.length_nil, List.replicate, List.cons_append, List.nil_append, List.getElem?_cons_zero, List.getElem?_cons_succ, List.set_cons_zero, List.set_cons_succ]; exact rfl) ?_ | with_reducible apply s_seq | with_reducible apply s_asg | with_reducible apply s_name | with_reducible apply s_next | with_reducible apply s_ret | with_reducible apply s_retN | with_reducible apply s_drop | with_reducible apply s_if | with_reducible apply s_for | with_reducible apply s_and | with_reducible apply s_or | with_reducible apply s_not | with_reducible apply s_B | with_reducible apply s_mB | with_reducible apply s_addI | with_reducible apply s_subI | with_reducible apply s_cmpI | with_reducible apply s_eqI | with_reducible apply s_minI | with_reducible apply s_maxI | with_reducible apply s_meth | with_reducible apply s_Tr | with_reducible apply s_op | with_reducible apply s_c | with_reducible apply s_ifE | with_reducible apply s_andV | with_reducible apply s_orV | with_reducible apply s_notV | with_reducible apply s_b1 | with_reducible apply s_cons | with_reducible apply s_nil | with_reducible apply s_tup | with_reducible apply s_lst | with_reducible apply s_lstM | with_reducible apply s_call | with_reducible apply s_trB | with_reducible apply iteT | with_reducible apply iteF | with_reducible apply s_par | ((with_reducible apply s_var); case h => first | assumption | exact rfl) | (with_reducible refine ⟨by simp [sizeLine_eq], ?_⟩))
    refine s_fldO (i := 1) (o := b) rfl lookO_parts ?_
    refine s_eqO ?_
    exact fin0 (by simpa using h)
  · simp only [rcIsi, hn, isiD]
    repeat (first | with_reducible refine s_seqN (by simp only [startR, List.map_cons, List.map_nil, List.length_cons, List.length_nil, List.replicate, List.cons_append, List.nil_append, List.getElem?_cons_zero, List.getElem?_cons_succ, List.set_cons_zero, List.set_cons_succ]; exact rfl) ?_ | with_reducible apply s_seq | with_reducible apply s_asg | with_reducible apply s_name | with_reducible apply s_next | with_reducible apply s_ret | with_reducible apply s_retN | with_reducible apply s_drop | with_reducible apply s_if | with_reducible apply s_for | with_reducible apply s_and | with_reducible apply s_or | with_reducible apply s_not | with_reducible apply s_B | with_reducible apply s_mB | with_reducible apply s_addI | with_reducible apply s_subI | with_reducible apply s_cmpI | with_reducible apply s_eqI | with_reducible apply s_minI | with_reducible apply s_maxI | with_reducible apply s_meth | with_reducible apply s_Tr | with_reducible apply s_op | with_reducible apply s_c | with_reducible apply s_ifE | with_reducible apply s_andV | with_reducible apply s_orV | with_reducible apply s_notV | with_reducible apply s_b1 | with_reducible apply s_cons | with_reducible apply s_nil | with_reducible apply s_tup | with_reducible apply s_lst | with_reducible apply s_lstM | with_reducible apply s_call | with_reducible apply s_trB | with_reducible apply iteT | with_reducible apply iteF | with_reducible apply s_par | ((with_reducible apply s_var); case h => first | assumption | exact rfl) | (with_reducible refine ⟨by simp [sizeLine_eq], ?_⟩))
    exact fin0 h
theorem q_Outcomes_contains : Pure ["self", "outcome"] sp_Outcomes_contains t_Outcomes_contains := by
  rintro ds M P PE ⟨o, r, rfl, ho, h⟩
  unfold t_Outcomes_contains
  repeat (first | with_reducible refine s_seqN (by simp only [startR, List.map_cons, List.map_nil, List.length_cons, List.length_nil, List.replicate, List.cons_append, List.nil_append, List.getElem?_cons_zero, List.getElem?_cons_succ, List.set_cons_zero, List.set_cons_succ]; exact rfl) ?_ | with_reducible apply s_seq | with_reducible apply s_asg | with_reducible apply s_name | with_reducible apply s_next | with_reducible apply s_ret | with_reducible apply s_retN | with_reducible apply s_drop | with_reducible apply s_if | with_reducible apply s_for | with_reducible apply s_and | with_reducible apply s_or | with_reducible apply s_not | with_reducible apply s_B | with_reducible apply s_mB | with_reducible apply s_addI | with_reducible apply s_subI | with_reducible apply s_cmpI | with_reducible apply s_eqI | with_reducible apply s_minI | with_reducible apply s_maxI | with_reducible apply s_meth | with_reducible apply s_Tr | with_reducible apply s_op | with_reducible apply s_c | with_reducible apply s_ifE | with_reducible apply s_andV | with_reducible apply s_orV | with_reducible apply s_notV | with_reducible apply s_b1 | with_reducible apply s_cons | with_reducible apply s_nil | with_reducible apply s_tup | with_reducible apply s_lst | with_reducible apply s_lstM | with_reducible apply s_call | with_reducible apply s_trB | with_reducible apply iteT | with_reducible apply iteF | with_reducible apply s_par | ((with_reducible apply s_var); case h => first | assumption | exact rfl) | (with_reducible refine ⟨by simp [sizeLine_eq], ?_⟩))
  refine s_eqNev ?_
  match r with
  | none =>
    repeat (first | with_reducible refine s_seqN (by simp only [startR, List.map_cons, List.map_nil, List.length_cons, List.length_nil, List.replicate, List.cons_append, List.nil_append, List.getElem?_cons_zero, List.getElem?_cons_succ, List.set_cons_zero, List.set_cons_succ]; exact rfl) ?_ | with_reducible apply s_seq | with_reducible apply s_asg | with_reducible apply s_name | with_reducible apply s_next | with_reducible apply s_ret | with_reducible apply s_retN | with_reducible apply s_drop | with_reducible apply s_if | with_reducible apply s_for | with_reducible apply s_and | with_reducible apply s_or | with_reducible apply s_not | with_reducible apply s_B | with_reducible apply s_mB | with_reducible apply s_addI | with_reducible apply s_subI | with_reducible apply s_cmpI | with_reducible apply s_eqI | with_reducible apply s_minI | with_reducible apply s_maxI | with_reducible apply s_meth | with_reducible apply s_Tr | with_reducible apply s_op | with_reducible apply s_c | with_reducible apply s_ifE | with_reducible apply s_andV | with_reducible apply s_orV | with_reducible apply s_notV | with_reducible apply s_b1 | with_reducible apply s_cons | with_reducible apply s_nil | with_reducible apply s_tup | with_reducible apply s_lst | with_reducible apply s_lstM | with_reducible apply s_call | with_reducible apply s_trB | with_reducible apply iteT | with_reducible apply iteF | with_reducible apply s_par | ((with_reducible apply s_var); case h => first | assumption | exact rfl) | (with_reducible refine ⟨by simp [sizeLine_eq], ?_⟩))
    refine s_iteT (by simp) ?_
    repeat (first | with_reducible refine s_seqN (by simp only [startR, List.map_cons, List.map_nil, List.length_cons, List.length_nil, List.replicate, List.cons_append, List.nil_append, List.getElem?_cons_zero, List.getElem?_cons_succ, List.set_cons_zero, List.set_cons_succ]; exact rfl) ?_ | with_reducible apply s_seq | with_reducible apply s_asg | with_reducible apply s_name | with_reducible apply s_next | with_reducible apply s_ret | with_reducible apply s_retN | with_reducible apply s_drop | with_reducible apply s_if | with_reducible apply s_for | with_reducible apply s_and | with_reducible apply s_or | with_reducible apply s_not | with_reducible apply s_B | with_reducible apply s_mB | with_reducible apply s_addI | with_reducible apply s_subI | with_reducible apply s_cmpI | with_reducible apply s_eqI | with_reducible apply s_minI | with_reducible apply s_maxI | with_reducible apply s_meth | with_reducible apply s_Tr | with_reducible apply s_op | with_reducible apply s_c | with_reducible apply s_ifE | with_reducible apply s_andV | with_reducible apply s_orV | with_reducible apply s_notV | with_reducible apply s_b1 | with_reducible apply s_cons | with_reducible apply s_nil | with_reducible apply s_tup | with_reducible apply s_lst | with_reducible apply s_lstM | with_reducible apply s_call | with_reducible apply s_trB | with_reducible apply iteT | with_reducible apply iteF | with_reducible apply s_par | ((with_reducible apply s_var); case h => first | assumption | exact rfl) | (with_reducible refine ⟨by simp [sizeLine_eq], ?_⟩))
    refine s_fldO (i := 0) (o := o) rfl lookO_never ?_
    exact fin0 (h _ Iff.rfl)
  | some (w, t) =>
    repeat (first | with_reducible refine s_seqN (by simp only [startR, List.map_cons, List.map_nil, List.length_cons, List.length_nil, List.replicate, List.cons_append, List.nil_append, List.getElem?_cons_zero, List.getElem?_cons_succ, List.set_cons_zero, List.set_cons_succ]; exact rfl) ?_ | with_reducible apply s_seq | with_reducible apply s_asg | with_reducible apply s_name | with_reducible apply s_next | with_reducible apply s_ret | with_reducible apply s_retN | with_reducible apply s_drop | with_reducible apply s_if | with_reducible apply s_for | with_reducible apply s_and | with_reducible apply s_or | with_reducible apply s_not | with_reducible apply s_B | with_reducible apply s_mB | with_reducible apply s_addI | with_reducible apply s_subI | with_reducible apply s_cmpI | with_reducible apply s_eqI | with_reducible apply s_minI | with_reducible apply s_maxI | with_reducible apply s_meth | with_reducible apply s_Tr | with_reducible apply s_op | with_reducible apply s_c | with_reducible apply s_ifE | with_reducible apply s_andV | with_reducible apply s_orV | with_reducible apply s_notV | with_reducible apply s_b1 | with_reducible apply s_cons | with_reducible apply s_nil | with_reducible apply s_tup | with_reducible apply s_lst | with_reducible apply s_lstM | with_reducible apply s_call | with_reducible apply s_trB | with_reducible apply iteT | with_reducible apply iteF | with_reducible apply s_par | ((with_reducible apply s_var); case h => first | assumption | exact rfl) | (with_reducible refine ⟨by simp [sizeLine_eq], ?_⟩))
    refine s_iteF (by simp) ?_
    repeat (first | with_reducible refine s_seqN (by simp only [startR, List.map_cons, List.map_nil, List.length_cons, List.length_nil, List.replicate, List.cons_append, List.nil_append, List.getElem?_cons_zero, List.getElem?_cons_succ, List.set_cons_zero, List.set_cons_succ]; exact rfl) ?_ | with_reducible apply s_seq | with_reducible apply s_asg | with_reducible apply s_name | with_reducible apply s_next | with_reducible apply s_ret | with_reducible apply s_retN | with_reducible apply s_drop | with_reducible apply s_if | with_reducible apply s_for | with_reducible apply s_and | with_reducible apply s_or | with_reducible apply s_not | with_reducible apply s_B | with_reducible apply s_mB | with_reducible apply s_addI | with_reducible apply s_subI | with_reducible apply s_cmpI | with_reducible apply s_eqI | with_reducible apply s_minI | with_reducible apply s_maxI | with_reducible apply s_meth | with_reducible apply s_Tr | with_reducible apply s_op | with_reducible apply s_c | with_reducible apply s_ifE | with_reducible apply s_andV | with_reducible apply s_orV | with_reducible apply s_notV | with_reducible apply s_b1 | with_reducible apply s_cons | with_reducible apply s_nil | with_reducible apply s_tup | with_reducible apply s_lst | with_reducible apply s_lstM | with_reducible apply s_call | with_reducible apply s_trB | with_reducible apply iteT | with_reducible apply iteF | with_reducible apply s_par | ((with_reducible apply s_var); case h => first | assumption | exact rfl) | (with_reducible refine ⟨by simp [sizeLine_eq], ?_⟩))
    refine ix_tup (ds := [.str (wordS w), .int t]) (n := 1) rfl ?_
    repeat (first | with_reducible refine s_seqN (by simp only [startR, List.map_cons, List.map_nil, List.length_cons, List.length_nil, List.replicate, List.cons_append, List.nil_append, List.getElem?_cons_zero, List.getElem?_cons_succ, List.set_cons_zero, List.set_cons_succ]; exact rfl) ?_ | with_reducible apply s_seq | with_reducible apply s_asg | with_reducible apply s_name | with_reducible apply s_next | with_reducible apply s_ret | with_reducible apply s_retN | with_reducible apply s_drop | with_reducible apply s_if | with_reducible apply s_for | with_reducible apply s_and | with_reducible apply s_or | with_reducible apply s_not | with_reducible apply s_B | with_reducible apply s_mB | with_reducible apply s_addI | with_reducible apply s_subI | with_reducible apply s_cmpI | with_reducible apply s_eqI | with_reducible apply s_minI | with_reducible apply s_maxI | with_reducible apply s_meth | with_reducible apply s_Tr | with_reducible apply s_op | with_reducible apply s_c | with_reducible apply s_ifE | with_reducible apply s_andV | with_reducible apply s_orV | with_reducible apply s_notV | with_reducible apply s_b1 | with_reducible apply s_cons | with_reducible apply s_nil | with_reducible apply s_tup | with_reducible apply s_lst | with_reducible apply s_lstM | with_reducible apply s_call | with_reducible apply s_trB | with_reducible apply iteT | with_reducible apply iteF | with_reducible apply s_par | ((with_reducible apply s_var); case h => first | assumption | exact rfl) | (with_reducible refine ⟨by simp [sizeLine_eq], ?_⟩))
    refine ix_tup (ds := [.str (wordS w), .int t]) (n := 0) rfl ?_
    repeat (first | with_reducible refine s_seqN (by simp only [startR, List.map_cons, List.map_nil, List.length_cons, List.length_nil, List.replicate, List.cons_append, List.nil_append, List.getElem?_cons_zero, List.getElem?_cons_succ, List.set_cons_zero, List.set_cons_succ]; exact rfl) ?_ | with_reducible apply s_seq | with_reducible apply s_asg | with_reducible apply s_name | with_reducible apply s_next | with_reducible apply s_ret | with_reducible apply s_retN | with_reducible apply s_drop | with_reducible apply s_if | with_reducible apply s_for | with_reducible apply s_and | with_reducible apply s_or | with_reducible apply s_not | with_reducible apply s_B | with_reducible apply s_mB | with_reducible apply s_addI | with_reducible apply s_subI | with_reducible apply s_cmpI | with_reducible apply s_eqI | with_reducible apply s_minI | with_reducible apply s_maxI | with_reducible apply s_meth | with_reducible apply s_Tr | with_reducible apply s_op | with_reducible apply s_c | with_reducible apply s_ifE | with_reducible apply s_andV | with_reducible apply s_orV | with_reducible apply s_notV | with_reducible apply s_b1 | with_reducible apply s_cons | with_reducible apply s_nil | with_reducible apply s_tup | with_reducible apply s_lst | with_reducible apply s_lstM | with_reducible apply s_call | with_reducible apply s_trB | with_reducible apply iteT | with_reducible apply iteF | with_reducible apply s_par | ((with_reducible apply s_var); case h => first | assumption | exact rfl) | (with_reducible refine ⟨by simp [sizeLine_eq], ?_⟩))
    refine s_eqS ?_
    cases w with
    | true =>
      repeat (first | with_reducible refine s_seqN (by simp only [startR, List.map_cons, List.map_nil, List.length_cons, List.length_nil, List.replicate, List.cons_append, List.nil_append, List.getElem?_cons_zero, List.getElem?_cons_succ, List.set_cons_zero, List.set_cons_succ]; exact rfl) ?_ | with_reducible apply s_seq | with_reducible apply s_asg | with_reducible apply s_name | with_reducible apply s_next | with_reducible apply s_ret | with_reducible apply s_retN | with_reducible apply s_drop | with_reducible apply s_if | with_reducible apply s_for | with_reducible apply s_and | with_reducible apply s_or | with_reducible apply s_not | with_reducible apply s_B | with_reducible apply s_mB | with_reducible apply s_addI | with_reducible apply s_subI | with_reducible apply s_cmpI | with_reducible apply s_eqI | with_reducible apply s_minI | with_reducible apply s_maxI | with_reducible apply s_meth | with_reducible apply s_Tr | with_reducible apply s_op | with_reducible apply s_c | with_reducible apply s_ifE | with_reducible apply s_andV | with_reducible apply s_orV | with_reducible apply s_notV | with_reducible apply s_b1 | with_reducible apply s_cons | with_reducible apply s_nil | with_reducible apply s_tup | with_reducible apply s_lst | with_reducible apply s_lstM | with_reducible apply s_call | with_reducible apply s_trB | with_reducible apply iteT | with_reducible apply iteF | with_reducible apply s_par | ((with_reducible apply s_var); case h => first | assumption | exact rfl) | (with_reducible refine ⟨by simp [sizeLine_eq], ?_⟩))
      try (refine s_iteT (by decide +kernel) ?_)
      repeat (first | with_reducible refine s_seqN (by simp only [startR, List.map_cons, List.map_nil, List.length_cons, List.length_nil, List.replicate, List.cons_append, List.nil_append, List.getElem?_cons_zero, List.getElem?_cons_succ, List.set_cons_zero, List.set_cons_succ]; exact rfl) ?_ | with_reducible apply s_seq | with_reducible apply s_asg | with_reducible apply s_name | with_reducible apply s_next | with_reducible apply s_ret | with_reducible apply s_retN | with_reducible apply s_drop | with_reducible apply s_if | with_reducible apply s_for | with_reducible apply s_and | with_reducible apply s_or | with_reducible apply s_not | with_reducible apply s_B | with_reducible apply s_mB | with_reducible apply s_addI | with_reducible apply s_subI | with_reducible apply s_cmpI | with_reducible apply s_eqI | with_reducible apply s_minI | with_reducible apply s_maxI | with_reducible apply s_meth | with_reducible apply s_Tr | with_reducible apply s_op | with_reducible apply s_c | with_reducible apply s_ifE | with_reducible apply s_andV | with_reducible apply s_orV | with_reducible apply s_notV | with_reducible apply s_b1 | with_reducible apply s_cons | with_reducible apply s_nil | with_reducible apply s_tup | with_reducible apply s_lst | with_reducible apply s_lstM | with_reducible apply s_call | with_reducible apply s_trB | with_reducible apply iteT | with_reducible apply iteF | with_reducible apply s_par | ((with_reducible apply s_var); case h => first | assumption | exact rfl) | (with_reducible refine ⟨by simp [sizeLine_eq], ?_⟩))
      refine s_fldO (i := 0) (o := o) rfl lookO_ok ?_
      refine op_inT (by have := ho.la; omega) fun b hb => fin0 (h b hb)
    | false =>
      repeat (first | with_reducible refine s_seqN (by simp only [startR, List.map_cons, List.map_nil, List.length_cons, List.length_nil, List.replicate, List.cons_append, List.nil_append, List.getElem?_cons_zero, List.getElem?_cons_succ, List.set_cons_zero, List.set_cons_succ]; exact rfl) ?_ | with_reducible apply s_seq | with_reducible apply s_asg | with_reducible apply s_name | with_reducible apply s_next | with_reducible apply s_ret | with_reducible apply s_retN | with_reducible apply s_drop | with_reducible apply s_if | with_reducible apply s_for | with_reducible apply s_and | with_reducible apply s_or | with_reducible apply s_not | with_reducible apply s_B | with_reducible apply s_mB | with_reducible apply s_addI | with_reducible apply s_subI | with_reducible apply s_cmpI | with_reducible apply s_eqI | with_reducible apply s_minI | with_reducible apply s_maxI | with_reducible apply s_meth | with_reducible apply s_Tr | with_reducible apply s_op | with_reducible apply s_c | with_reducible apply s_ifE | with_reducible apply s_andV | with_reducible apply s_orV | with_reducible apply s_notV | with_reducible apply s_b1 | with_reducible apply s_cons | with_reducible apply s_nil | with_reducible apply s_tup | with_reducible apply s_lst | with_reducible apply s_lstM | with_reducible apply s_call | with_reducible apply s_trB | with_reducible apply iteT | with_reducible apply iteF | with_reducible apply s_par | ((with_reducible apply s_var); case h => first | assumption | exact rfl) | (with_reducible refine ⟨by simp [sizeLine_eq], ?_⟩))
      try (refine s_iteF (by decide +kernel) ?_)
      repeat (first | with_reducible refine s_seqN (by simp only [startR, List.map_cons, List.map_nil, List.length_cons, List.length_nil, List.replicate, List.cons_append, List.nil_append, List.getElem?_cons_zero, List.getElem?_cons_succ, List.set_cons_zero, List.set_cons_succ]; exact rfl) ?_ | with_reducible apply s_seq | with_reducible apply s_asg | with_reducible apply s_name | with_reducible apply s_next | with_reducible apply s_ret | with_reducible apply s_retN | with_reducible apply s_drop | with_reducible apply s_if | with_reducible apply s_for | with_reducible apply s_and | with_reducible apply s_or | with_reducible apply s_not | with_reducible apply s_B | with_reducible apply s_mB | with_reducible apply s_addI | with_reducible apply s_subI | with_reducible apply s_cmpI | with_reducible apply s_eqI | with_reducible apply s_minI | with_reducible apply s_maxI | with_reducible apply s_meth | with_reducible apply s_Tr | with_reducible apply s_op | with_reducible apply s_c | with_reducible apply s_ifE | with_reducible apply s_andV | with_reducible apply s_orV | with_reducible apply s_notV | with_reducible apply s_b1 | with_reducible apply s_cons | with_reducible apply s_nil | with_reducible apply s_tup | with_reducible apply s_lst | with_reducible apply s_lstM | with_reducible apply s_call | with_reducible apply s_trB | with_reducible apply iteT | with_reducible apply iteF | with_reducible apply s_par | ((with_reducible apply s_var); case h => first | assumption | exact rfl) | (with_reducible refine ⟨by simp [sizeLine_eq], ?_⟩))
      refine s_fldO (i := 0) (o := o) rfl lookO_fail ?_
      refine op_inT (by have := ho.lb; omega) fun b hb => fin0 (h b hb)
theorem q_Outcomes_is_within : Pure ["self", "other"] sp_Outcomes_is_within t_Outcomes_is_within := by
  rintro ds M P PE ⟨o, o', rfl, ho, ho', h⟩
  unfold t_Outcomes_is_within
  have step : (o.n = true → o'.n = true) → dRet (dAndV trP (dMeth "Times" "is_within" sp_Times_is_within (finW PE) [] (dFld "Outcomes" "ok" (dVar 0)) (daCons (dFld "Outcomes" "ok" (dVar 1)) (daNil))) (dMeth "Times" "is_within" sp_Times_is_within (finW PE) [] (dFld "Outcomes" "fail" (dVar 0)) (daCons (dFld "Outcomes" "fail" (dVar 1)) (daNil)))) { nx := fun x M' => finP P .non M', rt := finP P } [some (objO o), some (objO o')] M := fun hn => by
    repeat (first | with_reducible refine s_seqN (by simp only [startR, List.map_cons, List.map_nil, List.length_cons, List.length_nil, List.replicate, List.cons_append, List.nil_append, List.getElem?_cons_zero, List.getElem?_cons_succ, List.set_cons_zero, List.set_cons_succ]; exact rfl) ?_ | with_reducible apply s_seq | with_reducible apply s_asg | with_reducible apply s_name | with_reducible apply s_next | with_reducible apply s_ret | with_reducible apply s_retN | with_reducible apply s_drop | with_reducible apply s_if | with_reducible apply s_for | with_reducible apply s_and | with_reducible apply s_or | with_reducible apply s_not | with_reducible apply s_B | with_reducible apply s_mB | with_reducible apply s_addI | with_reducible apply s_subI | with_reducible apply s_cmpI | with_reducible apply s_eqI | with_reducible apply s_minI | with_reducible apply s_maxI | with_reducible apply s_meth | with_reducible apply s_Tr | with_reducible apply s_op | with_reducible apply s_c | with_reducible apply s_ifE | with_reducible apply s_andV | with_reducible apply s_orV | with_reducible apply s_notV | with_reducible apply s_b1 | with_reducible apply s_cons | with_reducible apply s_nil | with_reducible apply s_tup | with_reducible apply s_lst | with_reducible apply s_lstM | with_reducible apply s_call | with_reducible apply s_trB | with_reducible apply iteT | with_reducible apply iteF | with_reducible apply s_par | ((with_reducible apply s_var); case h => first | assumption | exact rfl) | (with_reducible refine ⟨by simp [sizeLine_eq], ?_⟩))
    refine s_fldO (i := 0) (o := o) rfl lookO_ok ?_
    refine ⟨mOk_T lookM, ?_⟩
    repeat (first | with_reducible refine s_seqN (by simp only [startR, List.map_cons, List.map_nil, List.length_cons, List.length_nil, List.replicate, List.cons_append, List.nil_append, List.getElem?_cons_zero, List.getElem?_cons_succ, List.set_cons_zero, List.set_cons_succ]; exact rfl) ?_ | with_reducible apply s_seq | with_reducible apply s_asg | with_reducible apply s_name | with_reducible apply s_next | with_reducible apply s_ret | with_reducible apply s_retN | with_reducible apply s_drop | with_reducible apply s_if | with_reducible apply s_for | with_reducible apply s_and | with_reducible apply s_or | with_reducible apply s_not | with_reducible apply s_B | with_reducible apply s_mB | with_reducible apply s_addI | with_reducible apply s_subI | with_reducible apply s_cmpI | with_reducible apply s_eqI | with_reducible apply s_minI | with_reducible apply s_maxI | with_reducible apply s_meth | with_reducible apply s_Tr | with_reducible apply s_op | with_reducible apply s_c | with_reducible apply s_ifE | with_reducible apply s_andV | with_reducible apply s_orV | with_reducible apply s_notV | with_reducible apply s_b1 | with_reducible apply s_cons | with_reducible apply s_nil | with_reducible apply s_tup | with_reducible apply s_lst | with_reducible apply s_lstM | with_reducible apply s_call | with_reducible apply s_trB | with_reducible apply iteT | with_reducible apply iteF | with_reducible apply s_par | ((with_reducible apply s_var); case h => first | assumption | exact rfl) | (with_reducible refine ⟨by simp [sizeLine_eq], ?_⟩))
    refine s_fldO (i := 1) (o := o') rfl lookO_ok ?_
    repeat (first | with_reducible refine s_seqN (by simp only [startR, List.map_cons, List.map_nil, List.length_cons, List.length_nil, List.replicate, List.cons_append, List.nil_append, List.getElem?_cons_zero, List.getElem?_cons_succ, List.set_cons_zero, List.set_cons_succ]; exact rfl) ?_ | with_reducible apply s_seq | with_reducible apply s_asg | with_reducible apply s_name | with_reducible apply s_next | with_reducible apply s_ret | with_reducible apply s_retN | with_reducible apply s_drop | with_reducible apply s_if | with_reducible apply s_for | with_reducible apply s_and | with_reducible apply s_or | with_reducible apply s_not | with_reducible apply s_B | with_reducible apply s_mB | with_reducible apply s_addI | with_reducible apply s_subI | with_reducible apply s_cmpI | with_reducible apply s_eqI | with_reducible apply s_minI | with_reducible apply s_maxI | with_reducible apply s_meth | with_reducible apply s_Tr | with_reducible apply s_op | with_reducible apply s_c | with_reducible apply s_ifE | with_reducible apply s_andV | with_reducible apply s_orV | with_reducible apply s_notV | with_reducible apply s_b1 | with_reducible apply s_cons | with_reducible apply s_nil | with_reducible apply s_tup | with_reducible apply s_lst | with_reducible apply s_lstM | with_reducible apply s_call | with_reducible apply s_trB | with_reducible apply iteT | with_reducible apply iteF | with_reducible apply s_par | ((with_reducible apply s_var); case h => first | assumption | exact rfl) | (with_reducible refine ⟨by simp [sizeLine_eq], ?_⟩))
    refine ⟨o.a, o'.a, rfl, ho.a, ho'.a, ?_, fun b1 hb1 => ?_⟩
    · have := Nat.mul_le_mul ho.la ho'.la
      omega
    repeat (first | with_reducible refine s_seqN (by simp only [startR, List.map_cons, List.map_nil, List.length_cons, List.length_nil, List.replicate, List.cons_append, List.nil_append, List.getElem?_cons_zero, List.getElem?_cons_succ, List.set_cons_zero, List.set_cons_succ]; exact rfl) ?_ | with_reducible apply s_seq | with_reducible apply s_asg | with_reducible apply s_name | with_reducible apply s_next | with_reducible apply s_ret | with_reducible apply s_retN | with_reducible apply s_drop | with_reducible apply s_if | with_reducible apply s_for | with_reducible apply s_and | with_reducible apply s_or | with_reducible apply s_not | with_reducible apply s_B | with_reducible apply s_mB | with_reducible apply s_addI | with_reducible apply s_subI | with_reducible apply s_cmpI | with_reducible apply s_eqI | with_reducible apply s_minI | with_reducible apply s_maxI | with_reducible apply s_meth | with_reducible apply s_Tr | with_reducible apply s_op | with_reducible apply s_c | with_reducible apply s_ifE | with_reducible apply s_andV | with_reducible apply s_orV | with_reducible apply s_notV | with_reducible apply s_b1 | with_reducible apply s_cons | with_reducible apply s_nil | with_reducible apply s_tup | with_reducible apply s_lst | with_reducible apply s_lstM | with_reducible apply s_call | with_reducible apply s_trB | with_reducible apply iteT | with_reducible apply iteF | with_reducible apply s_par | ((with_reducible apply s_var); case h => first | assumption | exact rfl) | (with_reducible refine ⟨by simp [sizeLine_eq], ?_⟩))
    cases b1 with
    | false =>
      refine fin0 (h false ⟨fun z => (by cases z), fun z => hb1.mpr fun t ht => z (some (true, t)) ht⟩)
    | true =>
      repeat (first | with_reducible refine s_seqN (by simp only [startR, List.map_cons, List.map_nil, List.length_cons, List.length_nil, List.replicate, List.cons_append, List.nil_append, List.getElem?_cons_zero, List.getElem?_cons_succ, List.set_cons_zero, List.set_cons_succ]; exact rfl) ?_ | with_reducible apply s_seq | with_reducible apply s_asg | with_reducible apply s_name | with_reducible apply s_next | with_reducible apply s_ret | with_reducible apply s_retN | with_reducible apply s_drop | with_reducible apply s_if | with_reducible apply s_for | with_reducible apply s_and | with_reducible apply s_or | with_reducible apply s_not | with_reducible apply s_B | with_reducible apply s_mB | with_reducible apply s_addI | with_reducible apply s_subI | with_reducible apply s_cmpI | with_reducible apply s_eqI | with_reducible apply s_minI | with_reducible apply s_maxI | with_reducible apply s_meth | with_reducible apply s_Tr | with_reducible apply s_op | with_reducible apply s_c | with_reducible apply s_ifE | with_reducible apply s_andV | with_reducible apply s_orV | with_reducible apply s_notV | with_reducible apply s_b1 | with_reducible apply s_cons | with_reducible apply s_nil | with_reducible apply s_tup | with_reducible apply s_lst | with_reducible apply s_lstM | with_reducible apply s_call | with_reducible apply s_trB | with_reducible apply iteT | with_reducible apply iteF | with_reducible apply s_par | ((with_reducible apply s_var); case h => first | assumption | exact rfl) | (with_reducible refine ⟨by simp [sizeLine_eq], ?_⟩))
      refine s_fldO (i := 0) (o := o) rfl lookO_fail ?_
      refine ⟨mOk_T lookM, ?_⟩
      repeat (first | with_reducible refine s_seqN (by simp only [startR, List.map_cons, List.map_nil, List.length_cons, List.length_nil, List.replicate, List.cons_append, List.nil_append, List.getElem?_cons_zero, List.getElem?_cons_succ, List.set_cons_zero, List.set_cons_succ]; exact rfl) ?_ | with_reducible apply s_seq | with_reducible apply s_asg | with_reducible apply s_name | with_reducible apply s_next | with_reducible apply s_ret | with_reducible apply s_retN | with_reducible apply s_drop | with_reducible apply s_if | with_reducible apply s_for | with_reducible apply s_and | with_reducible apply s_or | with_reducible apply s_not | with_reducible apply s_B | with_reducible apply s_mB | with_reducible apply s_addI | with_reducible apply s_subI | with_reducible apply s_cmpI | with_reducible apply s_eqI | with_reducible apply s_minI | with_reducible apply s_maxI | with_reducible apply s_meth | with_reducible apply s_Tr | with_reducible apply s_op | with_reducible apply s_c | with_reducible apply s_ifE | with_reducible apply s_andV | with_reducible apply s_orV | with_reducible apply s_notV | with_reducible apply s_b1 | with_reducible apply s_cons | with_reducible apply s_nil | with_reducible apply s_tup | with_reducible apply s_lst | with_reducible apply s_lstM | with_reducible apply s_call | with_reducible apply s_trB | with_reducible apply iteT | with_reducible apply iteF | with_reducible apply s_par | ((with_reducible apply s_var); case h => first | assumption | exact rfl) | (with_reducible refine ⟨by simp [sizeLine_eq], ?_⟩))
      refine s_fldO (i := 1) (o := o') rfl lookO_fail ?_
      repeat (first | with_reducible refine s_seqN (by simp only [startR, List.map_cons, List.map_nil, List.length_cons, List.length_nil, List.replicate, List.cons_append, List.nil_append, List.getElem?_cons_zero, List.getElem?_cons_succ, List.set_cons_zero, List.set_cons_succ]; exact rfl) ?_ | with_reducible apply s_seq | with_reducible apply s_asg | with_reducible apply s_name | with_reducible apply s_next | with_reducible apply s_ret | with_reducible apply s_retN | with_reducible apply s_drop | with_reducible apply s_if | with_reducible apply s_for | with_reducible apply s_and | with_reducible apply s_or | with_reducible apply s_not | with_reducible apply s_B | with_reducible apply s_mB | with_reducible apply s_addI | with_reducible apply s_subI | with_reducible apply s_cmpI | with_reducible apply s_eqI | with_reducible apply s_minI | with_reducible apply s_maxI | with_reducible apply s_meth | with_reducible apply s_Tr | with_reducible apply s_op | with_reducible apply s_c | with_reducible apply s_ifE | with_reducible apply s_andV | with_reducible apply s_orV | with_reducible apply s_notV | with_reducible apply s_b1 | with_reducible apply s_cons | with_reducible apply s_nil | with_reducible apply s_tup | with_reducible apply s_lst | with_reducible apply s_lstM | with_reducible apply s_call | with_reducible apply s_trB | with_reducible apply iteT | with_reducible apply iteF | with_reducible apply s_par | ((with_reducible apply s_var); case h => first | assumption | exact rfl) | (with_reducible refine ⟨by simp [sizeLine_eq], ?_⟩))
      refine ⟨o.b, o'.b, rfl, ho.b, ho'.b, ?_, fun b2 hb2 => ?_⟩
      · have := Nat.mul_le_mul ho.lb ho'.lb
        omega
      refine fin0 (h b2 ?_)
      rw [hb2]
      constructor
      · intro z r hr
        match r, hr with
        | none, hr => exact hn hr
        | some (true, t), hr => exact hb1.mp rfl t hr
        | some (false, t), hr => exact z t hr
      · exact fun z t ht => z (some (false, t)) ht
  repeat (first | with_reducible refine s_seqN (by simp only [startR, List.map_cons, List.map_nil, List.length_cons, List.length_nil, List.replicate, List.cons_append, List.nil_append, List.getElem?_cons_zero, List.getElem?_cons_succ, List.set_cons_zero, List.set_cons_succ]; exact rfl) ?_ | with_reducible apply s_seq | with_reducible apply s_asg | with_reducible apply s_name | with_reducible apply s_next | with_reducible apply s_ret | with_reducible apply s_retN | with_reducible apply s_drop | with_reducible apply s_if | with_reducible apply s_for | with_reducible apply s_and | with_reducible apply s_or | with_reducible apply s_not | with_reducible apply s_B | with_reducible apply s_mB | with_reducible apply s_addI | with_reducible apply s_subI | with_reducible apply s_cmpI | with_reducible apply s_eqI | with_reducible apply s_minI | with_reducible apply s_maxI | with_reducible apply s_meth | with_reducible apply s_Tr | with_reducible apply s_op | with_reducible apply s_c | with_reducible apply s_ifE | with_reducible apply s_andV | with_reducible apply s_orV | with_reducible apply s_notV | with_reducible apply s_b1 | with_reducible apply s_cons | with_reducible apply s_nil | with_reducible apply s_tup | with_reducible apply s_lst | with_reducible apply s_lstM | with_reducible apply s_call | with_reducible apply s_trB | with_reducible apply iteT | with_reducible apply iteF | with_reducible apply s_par | ((with_reducible apply s_var); case h => first | assumption | exact rfl) | (with_reducible refine ⟨by simp [sizeLine_eq], ?_⟩))
  refine s_fldO (i := 0) (o := o) rfl lookO_never ?_
  repeat (first | with_reducible refine s_seqN (by simp only [startR, List.map_cons, List.map_nil, List.length_cons, List.length_nil, List.replicate, List.cons_append, List.nil_append, List.getElem?_cons_zero, List.getElem?_cons_succ, List.set_cons_zero, List.set_cons_succ]; exact rfl) ?_ | with_reducible apply s_seq | with_reducible apply s_asg | with_reducible apply s_name | with_reducible apply s_next | with_reducible apply s_ret | with_reducible apply s_retN | with_reducible apply s_drop | with_reducible apply s_if | with_reducible apply s_for | with_reducible apply s_and | with_reducible apply s_or | with_reducible apply s_not | with_reducible apply s_B | with_reducible apply s_mB | with_reducible apply s_addI | with_reducible apply s_subI | with_reducible apply s_cmpI | with_reducible apply s_eqI | with_reducible apply s_minI | with_reducible apply s_maxI | with_reducible apply s_meth | with_reducible apply s_Tr | with_reducible apply s_op | with_reducible apply s_c | with_reducible apply s_ifE | with_reducible apply s_andV | with_reducible apply s_orV | with_reducible apply s_notV | with_reducible apply s_b1 | with_reducible apply s_cons | with_reducible apply s_nil | with_reducible apply s_tup | with_reducible apply s_lst | with_reducible apply s_lstM | with_reducible apply s_call | with_reducible apply s_trB | with_reducible apply iteT | with_reducible apply iteF | with_reducible apply s_par | ((with_reducible apply s_var); case h => first | assumption | exact rfl) | (with_reducible refine ⟨by simp [sizeLine_eq], ?_⟩))
  refine s_ite (fun h1 => ?_) fun h1 => ?_
  · repeat (first | with_reducible refine s_seqN (by simp only [startR, List.map_cons, List.map_nil, List.length_cons, List.length_nil, List.replicate, List.cons_append, List.nil_append, List.getElem?_cons_zero, List.getElem?_cons_succ, List.set_cons_zero, List.set_cons_succ]; exact rfl) ?_ | with_reducible apply s_seq | with_reducible apply s_asg | with_reducible apply s_name | with_reducible apply s_next | with_reducible apply s_ret | with_reducible apply s_retN | with_reducible apply s_drop | with_reducible apply s_if | with_reducible apply s_for | with_reducible apply s_and | with_reducible apply s_or | with_reducible apply s_not | with_reducible apply s_B | with_reducible apply s_mB | with_reducible apply s_addI | with_reducible apply s_subI | with_reducible apply s_cmpI | with_reducible apply s_eqI | with_reducible apply s_minI | with_reducible apply s_maxI | with_reducible apply s_meth | with_reducible apply s_Tr | with_reducible apply s_op | with_reducible apply s_c | with_reducible apply s_ifE | with_reducible apply s_andV | with_reducible apply s_orV | with_reducible apply s_notV | with_reducible apply s_b1 | with_reducible apply s_cons | with_reducible apply s_nil | with_reducible apply s_tup | with_reducible apply s_lst | with_reducible apply s_lstM | with_reducible apply s_call | with_reducible apply s_trB | with_reducible apply iteT | with_reducible apply iteF | with_reducible apply s_par | ((with_reducible apply s_var); case h => first | assumption | exact rfl) | (with_reducible refine ⟨by simp [sizeLine_eq], ?_⟩))
    refine s_fldO (i := 1) (o := o') rfl lookO_never ?_
    repeat (first | with_reducible refine s_seqN (by simp only [startR, List.map_cons, List.map_nil, List.length_cons, List.length_nil, List.replicate, List.cons_append, List.nil_append, List.getElem?_cons_zero, List.getElem?_cons_succ, List.set_cons_zero, List.set_cons_succ]; exact rfl) ?_ | with_reducible apply s_seq | with_reducible apply s_asg | with_reducible apply s_name | with_reducible apply s_next | with_reducible apply s_ret | with_reducible apply s_retN | with_reducible apply s_drop | with_reducible apply s_if | with_reducible apply s_for | with_reducible apply s_and | with_reducible apply s_or | with_reducible apply s_not | with_reducible apply s_B | with_reducible apply s_mB | with_reducible apply s_addI | with_reducible apply s_subI | with_reducible apply s_cmpI | with_reducible apply s_eqI | with_reducible apply s_minI | with_reducible apply s_maxI | with_reducible apply s_meth | with_reducible apply s_Tr | with_reducible apply s_op | with_reducible apply s_c | with_reducible apply s_ifE | with_reducible apply s_andV | with_reducible apply s_orV | with_reducible apply s_notV | with_reducible apply s_b1 | with_reducible apply s_cons | with_reducible apply s_nil | with_reducible apply s_tup | with_reducible apply s_lst | with_reducible apply s_lstM | with_reducible apply s_call | with_reducible apply s_trB | with_reducible apply iteT | with_reducible apply iteF | with_reducible apply s_par | ((with_reducible apply s_var); case h => first | assumption | exact rfl) | (with_reducible refine ⟨by simp [sizeLine_eq], ?_⟩))
    refine s_ite (fun h2 => ?_) fun h2 => ?_
    · repeat (first | with_reducible refine s_seqN (by simp only [startR, List.map_cons, List.map_nil, List.length_cons, List.length_nil, List.replicate, List.cons_append, List.nil_append, List.getElem?_cons_zero, List.getElem?_cons_succ, List.set_cons_zero, List.set_cons_succ]; exact rfl) ?_ | with_reducible apply s_seq | with_reducible apply s_asg | with_reducible apply s_name | with_reducible apply s_next | with_reducible apply s_ret | with_reducible apply s_retN | with_reducible apply s_drop | with_reducible apply s_if | with_reducible apply s_for | with_reducible apply s_and | with_reducible apply s_or | with_reducible apply s_not | with_reducible apply s_B | with_reducible apply s_mB | with_reducible apply s_addI | with_reducible apply s_subI | with_reducible apply s_cmpI | with_reducible apply s_eqI | with_reducible apply s_minI | with_reducible apply s_maxI | with_reducible apply s_meth | with_reducible apply s_Tr | with_reducible apply s_op | with_reducible apply s_c | with_reducible apply s_ifE | with_reducible apply s_andV | with_reducible apply s_orV | with_reducible apply s_notV | with_reducible apply s_b1 | with_reducible apply s_cons | with_reducible apply s_nil | with_reducible apply s_tup | with_reducible apply s_lst | with_reducible apply s_lstM | with_reducible apply s_call | with_reducible apply s_trB | with_reducible apply iteT | with_reducible apply iteF | with_reducible apply s_par | ((with_reducible apply s_var); case h => first | assumption | exact rfl) | (with_reducible refine ⟨by simp [sizeLine_eq], ?_⟩))
      have h2' : o'.n = false := by simpa using h2
      exact fin0 (h false ⟨fun z => (by cases z), fun z => (by
        have : o'.n = true := z none h1
        rw [h2'] at this
        cases this)⟩)
    · have h2' : o'.n = true := by simpa using h2
      repeat (first | with_reducible apply s_asg | with_reducible apply s_name | with_reducible apply s_next | with_reducible apply s_ret | with_reducible apply s_retN | with_reducible apply s_drop | with_reducible apply s_if | with_reducible apply s_for | with_reducible apply s_and | with_reducible apply s_or | with_reducible apply s_not | with_reducible apply s_B | with_reducible apply s_mB | with_reducible apply s_addI | with_reducible apply s_subI | with_reducible apply s_cmpI | with_reducible apply s_eqI | with_reducible apply s_minI | with_reducible apply s_maxI | with_reducible apply s_meth | with_reducible apply s_Tr | with_reducible apply s_op | with_reducible apply s_c | with_reducible apply s_ifE | with_reducible apply s_andV | with_reducible apply s_orV | with_reducible apply s_notV | with_reducible apply s_b1 | with_reducible apply s_cons | with_reducible apply s_nil | with_reducible apply s_tup | with_reducible apply s_lst | with_reducible apply s_lstM | with_reducible apply s_call | with_reducible apply s_trB | with_reducible apply iteT | with_reducible apply iteF | with_reducible apply s_par | ((with_reducible apply s_var); case h => first | assumption | exact rfl) | (with_reducible refine ⟨by simp [sizeLine_eq], ?_⟩))
      exact step fun _ => h2'
  · repeat (first | with_reducible apply s_asg | with_reducible apply s_name | with_reducible apply s_next | with_reducible apply s_ret | with_reducible apply s_retN | with_reducible apply s_drop | with_reducible apply s_if | with_reducible apply s_for | with_reducible apply s_and | with_reducible apply s_or | with_reducible apply s_not | with_reducible apply s_B | with_reducible apply s_mB | with_reducible apply s_addI | with_reducible apply s_subI | with_reducible apply s_cmpI | with_reducible apply s_eqI | with_reducible apply s_minI | with_reducible apply s_maxI | with_reducible apply s_meth | with_reducible apply s_Tr | with_reducible apply s_op | with_reducible apply s_c | with_reducible apply s_ifE | with_reducible apply s_andV | with_reducible apply s_orV | with_reducible apply s_notV | with_reducible apply s_b1 | with_reducible apply s_cons | with_reducible apply s_nil | with_reducible apply s_tup | with_reducible apply s_lst | with_reducible apply s_lstM | with_reducible apply s_call | with_reducible apply s_trB | with_reducible apply iteT | with_reducible apply iteF | with_reducible apply s_par | ((with_reducible apply s_var); case h => first | assumption | exact rfl) | (with_reducible refine ⟨by simp [sizeLine_eq], ?_⟩))
    exact step fun z => by rw [z] at h1; cases h1
section
variable {M : Store} {Q : D → Store → Prop} {ρ : Ro} {W : DWX} {o : Oc} {x : Pt} {d : D}
def mkO (W : DWX) (ρ : Ro) (ds : List D) (M : Store) (Q : D → Store → Prop) : Prop := dFrz (fun ρ M Q => ∀ p, M p = none → sp_Outcomes_init (.ref p :: (ds ++ [])) (updM M p (.ins "Outcomes" [])) (fun v M2 => v = .non ∧ Q (.ref p) M2) fun c fs M2 => W c fs ρ M2) ρ M Q
theorem s_mkO {ta : DTA} (h : ta ρ M fun ds M1 => mkO W ρ ds M1 Q) : dFrz (dMakeM "Outcomes" sp_Outcomes_init W [] ta) ρ M Q := h
theorem mkO_ok (q : Q (objO o) M) : mkO W ρ [objT o.a, objT o.b, .bl o.n] M Q := by
  unfold mkO
  simp only [dFrz]
  intro p hp
  refine ⟨p, o, rfl, updM_same, rfl, ?_⟩
  simp only [updM_updM, updM_same]
  rw [delM_updM hp]
  exact q
theorem ix_pt0 (h : isPt d x) (q : Q (.lst (x.a.map rngD)) M) : rdIx d (.int 0) M Q := by
  rcases h with rfl | rfl
  · exact ix_tup (n := 0) rfl q
  · exact ix_lst (n := 0) rfl q
theorem ix_pt1 (h : isPt d x) (q : Q (.lst (x.b.map rngD)) M) : rdIx d (.int 1) M Q := by
  rcases h with rfl | rfl
  · exact ix_tup (n := 1) rfl q
  · exact ix_lst (n := 1) rfl q
theorem ix_pt2 (h : isPt d x) (q : Q (.bl x.n) M) : rdIx d (.int 2) M Q := by
  rcases h with rfl | rfl
  · exact ix_tup (n := 2) rfl q
  · exact ix_lst (n := 2) rfl q
theorem okO_n (h : okPt x) : okO (nO x) := ⟨okT_norm (okS_R h.a), okT_norm (okS_R h.b), by have := norm_len x.a; have := h.a.1; show (norm x.a).length ≤ 50; omega, by have := norm_len x.b; have := h.b.1; show (norm x.b).length ≤ 50; omega⟩
def mRg (x y : D) (M : Store) (Q : D → Store → Prop) : Prop := match x, y with
  | .int i, .int j => RgOk i j ∧ Q (.lst (rangeD i (j - i).toNat)) M
  | _, _ => False
theorem s_listRg {ta tb : DTE} (h : ta ρ M fun x M1 => tb ρ M1 fun y M2 => mRg x y M2 Q) : dListRg ta tb ρ M Q := h
theorem mRg_ok {i j : Int} (h : RgOk i j) (q : Q (.lst (((List.range (j - i).toNat).map fun (k : Nat) => i + (k : Int)).map .int)) M) : mRg (.int i) (.int j) M Q := by
  refine ⟨h, ?_⟩
  have e : rangeD i (j - i).toNat = ((List.range (j - i).toNat).map fun (k : Nat) => i + (k : Int)).map D.int := by
    unfold rangeD
    rw [List.map_map]
    rfl
  rw [e]
  exact q
def mRev (x : D) (M : Store) (Q : D → Store → Prop) : Prop := match asR M x with
  | some ds => Q (.lst ds.reverse) M
  | none => False
theorem s_rev {te : DTE} (h : te ρ M fun x M1 => mRev x M1 Q) : dRev te ρ M Q := h
theorem mRev_lst {ds : List D} (q : Q (.lst ds.reverse) M) : mRev (.lst ds) M Q := q
theorem s_addT {xs ys : List D} (h1 : xs.length + ys.length ≤ sizeLine) (h2 : Q (.tup (xs ++ ys)) M) : rdAdd (.tup xs) (.tup ys) M Q := ⟨h1, h2⟩
theorem rcRepr_int {i : Int} (hb : i.natAbs < 10 ^ 12) (q : Q (.str (PyData.int i).shown) M) : rcRepr [.int i] M Q := by
  have w1 := weight_int hb
  have e : toPM M (.int i) = some (.int i) := rfl
  have sh : PyData.showable (.int i) = true := by
    simp only [PyData.showable, decide_eq_true_eq]
    by_cases hz : i.natAbs = 0
    · rw [hz]; decide
    · have : i.natAbs.log2 < 40 := (Nat.log2_lt hz).mpr (Nat.lt_of_lt_of_le hb (by decide))
      omega
  have is : PyData.intsShort 13 (.int i) = true := by
    have := PyData.intsShortAll_ints [i] (fun n hn => by
      rw [List.mem_singleton.mp hn]
      exact hb)
    simpa [PyData.intsShortAll] using this
  unfold rcRepr
  simp only [e]
  refine ⟨trivial, sh, by simp [PyData.hasDict], ?_, by simp [PyData.depth], q⟩
  have lay : PyData.layable0 (.int i) = true := by
    unfold PyData.layable0
    have k : (PyData.int i).canLay0 = true := by simp [PyData.canLay0]
    rw [k]
    have dp : (PyData.int i).depth = 0 := by simp [PyData.depth]
    rw [dp]
    simp only [Bool.true_and, Bool.and_eq_true, decide_eq_true_eq]
    have e : (2 : Nat) ^ 20 = 1048576 := by decide
    omega
  have := shown_le13 lay is
  rw [sizeLine_eq]
  omega
theorem rcRepr_none (q : Q (.str (PyData.none).shown) M) : rcRepr [.non] M Q := by
  have e : toPM M .non = some .none := rfl
  unfold rcRepr
  simp only [e]
  exact ⟨trivial, by decide +kernel, by decide +kernel, by rw [sizeLine_eq]; decide +kernel, by decide +kernel, q⟩
end
theorem late_uniq {p p' : Int → Prop} {m m' : Int} (h : lateOf p m) (h' : lateOf p' m') (e : ∀ t, p t ↔ p' t) : m = m' := by
  obtain ⟨a1, a2, a3⟩ := h
  obtain ⟨b1, b2, b3⟩ := h'
  have h1 : m ≤ m' := by
    rcases a3 with rfl | a3
    · exact b1
    · exact b2 m ((e m).mp a3)
  have h2 : m' ≤ m := by
    rcases b3 with rfl | b3
    · exact a1
    · exact a2 m' ((e m').mpr b3)
  omega
theorem q_Outcomes_worst : Pure ["self", "low", "high"] sp_Outcomes_worst t_Outcomes_worst := by
  rintro ds M P PE ⟨o, rfl, ho, hy, hn⟩
  unfold t_Outcomes_worst
  repeat (first | with_reducible refine s_seqN (by simp only [startR, List.map_cons, List.map_nil, List.length_cons, List.length_nil, List.replicate, List.cons_append, List.nil_append, List.getElem?_cons_zero, List.getElem?_cons_succ, List.set_cons_zero, List.set_cons_succ]; exact rfl) ?_ | with_reducible apply s_seq | with_reducible apply s_asg | with_reducible apply s_name | with_reducible apply s_next | with_reducible apply s_ret | with_reducible apply s_retN | with_reducible apply s_drop | with_reducible apply s_if | with_reducible apply s_for | with_reducible apply s_and | with_reducible apply s_or | with_reducible apply s_not | with_reducible apply s_B | with_reducible apply s_mB | with_reducible apply s_addI | with_reducible apply s_subI | with_reducible apply s_cmpI | with_reducible apply s_eqI | with_reducible apply s_minI | with_reducible apply s_maxI | with_reducible apply s_meth | with_reducible apply s_Tr | with_reducible apply s_op | with_reducible apply s_c | with_reducible apply s_ifE | with_reducible apply s_andV | with_reducible apply s_orV | with_reducible apply s_notV | with_reducible apply s_b1 | with_reducible apply s_cons | with_reducible apply s_nil | with_reducible apply s_tup | with_reducible apply s_lst | with_reducible apply s_lstM | with_reducible apply s_call | with_reducible apply s_trB | with_reducible apply iteT | with_reducible apply iteF | with_reducible apply s_par | ((with_reducible apply s_var); case h => first | assumption | exact rfl) | (with_reducible refine ⟨by simp [sizeLine_eq], ?_⟩))
  refine s_fldO (i := 0) (o := o) rfl lookO_never ?_
  repeat (first | with_reducible refine s_seqN (by simp only [startR, List.map_cons, List.map_nil, List.length_cons, List.length_nil, List.replicate, List.cons_append, List.nil_append, List.getElem?_cons_zero, List.getElem?_cons_succ, List.set_cons_zero, List.set_cons_succ]; exact rfl) ?_ | with_reducible apply s_seq | with_reducible apply s_asg | with_reducible apply s_name | with_reducible apply s_next | with_reducible apply s_ret | with_reducible apply s_retN | with_reducible apply s_drop | with_reducible apply s_if | with_reducible apply s_for | with_reducible apply s_and | with_reducible apply s_or | with_reducible apply s_not | with_reducible apply s_B | with_reducible apply s_mB | with_reducible apply s_addI | with_reducible apply s_subI | with_reducible apply s_cmpI | with_reducible apply s_eqI | with_reducible apply s_minI | with_reducible apply s_maxI | with_reducible apply s_meth | with_reducible apply s_Tr | with_reducible apply s_op | with_reducible apply s_c | with_reducible apply s_ifE | with_reducible apply s_andV | with_reducible apply s_orV | with_reducible apply s_notV | with_reducible apply s_b1 | with_reducible apply s_cons | with_reducible apply s_nil | with_reducible apply s_tup | with_reducible apply s_lst | with_reducible apply s_lstM | with_reducible apply s_call | with_reducible apply s_trB | with_reducible apply iteT | with_reducible apply iteF | with_reducible apply s_par | ((with_reducible apply s_var); case h => first | assumption | exact rfl) | (with_reducible refine ⟨by simp [sizeLine_eq], ?_⟩))
  refine s_ite (fun h1 => ?_) fun h1 => ?_
  · repeat (first | with_reducible refine s_seqN (by simp only [startR, List.map_cons, List.map_nil, List.length_cons, List.length_nil, List.replicate, List.cons_append, List.nil_append, List.getElem?_cons_zero, List.getElem?_cons_succ, List.set_cons_zero, List.set_cons_succ]; exact rfl) ?_ | with_reducible apply s_seq | with_reducible apply s_asg | with_reducible apply s_name | with_reducible apply s_next | with_reducible apply s_ret | with_reducible apply s_retN | with_reducible apply s_drop | with_reducible apply s_if | with_reducible apply s_for | with_reducible apply s_and | with_reducible apply s_or | with_reducible apply s_not | with_reducible apply s_B | with_reducible apply s_mB | with_reducible apply s_addI | with_reducible apply s_subI | with_reducible apply s_cmpI | with_reducible apply s_eqI | with_reducible apply s_minI | with_reducible apply s_maxI | with_reducible apply s_meth | with_reducible apply s_Tr | with_reducible apply s_op | with_reducible apply s_c | with_reducible apply s_ifE | with_reducible apply s_andV | with_reducible apply s_orV | with_reducible apply s_notV | with_reducible apply s_b1 | with_reducible apply s_cons | with_reducible apply s_nil | with_reducible apply s_tup | with_reducible apply s_lst | with_reducible apply s_lstM | with_reducible apply s_call | with_reducible apply s_trB | with_reducible apply iteT | with_reducible apply iteF | with_reducible apply s_par | ((with_reducible apply s_var); case h => first | assumption | exact rfl) | (with_reducible refine ⟨by simp [sizeLine_eq], ?_⟩))
    exact fin0 (hy h1)
  · repeat (first | with_reducible refine s_seqN (by simp only [startR, List.map_cons, List.map_nil, List.length_cons, List.length_nil, List.replicate, List.cons_append, List.nil_append, List.getElem?_cons_zero, List.getElem?_cons_succ, List.set_cons_zero, List.set_cons_succ]; exact rfl) ?_ | with_reducible apply s_seq | with_reducible apply s_asg | with_reducible apply s_name | with_reducible apply s_next | with_reducible apply s_ret | with_reducible apply s_retN | with_reducible apply s_drop | with_reducible apply s_if | with_reducible apply s_for | with_reducible apply s_and | with_reducible apply s_or | with_reducible apply s_not | with_reducible apply s_B | with_reducible apply s_mB | with_reducible apply s_addI | with_reducible apply s_subI | with_reducible apply s_cmpI | with_reducible apply s_eqI | with_reducible apply s_minI | with_reducible apply s_maxI | with_reducible apply s_meth | with_reducible apply s_Tr | with_reducible apply s_op | with_reducible apply s_c | with_reducible apply s_ifE | with_reducible apply s_andV | with_reducible apply s_orV | with_reducible apply s_notV | with_reducible apply s_b1 | with_reducible apply s_cons | with_reducible apply s_nil | with_reducible apply s_tup | with_reducible apply s_lst | with_reducible apply s_lstM | with_reducible apply s_call | with_reducible apply s_trB | with_reducible apply iteT | with_reducible apply iteF | with_reducible apply s_par | ((with_reducible apply s_var); case h => first | assumption | exact rfl) | (with_reducible refine ⟨by simp [sizeLine_eq], ?_⟩))
    with_reducible refine s_lc ?_
    with_reducible refine s_itemM ?_
    repeat (first | with_reducible refine s_seqN (by simp only [startR, List.map_cons, List.map_nil, List.length_cons, List.length_nil, List.replicate, List.cons_append, List.nil_append, List.getElem?_cons_zero, List.getElem?_cons_succ, List.set_cons_zero, List.set_cons_succ]; exact rfl) ?_ | with_reducible apply s_seq | with_reducible apply s_asg | with_reducible apply s_name | with_reducible apply s_next | with_reducible apply s_ret | with_reducible apply s_retN | with_reducible apply s_drop | with_reducible apply s_if | with_reducible apply s_for | with_reducible apply s_and | with_reducible apply s_or | with_reducible apply s_not | with_reducible apply s_B | with_reducible apply s_mB | with_reducible apply s_addI | with_reducible apply s_subI | with_reducible apply s_cmpI | with_reducible apply s_eqI | with_reducible apply s_minI | with_reducible apply s_maxI | with_reducible apply s_meth | with_reducible apply s_Tr | with_reducible apply s_op | with_reducible apply s_c | with_reducible apply s_ifE | with_reducible apply s_andV | with_reducible apply s_orV | with_reducible apply s_notV | with_reducible apply s_b1 | with_reducible apply s_cons | with_reducible apply s_nil | with_reducible apply s_tup | with_reducible apply s_lst | with_reducible apply s_lstM | with_reducible apply s_call | with_reducible apply s_trB | with_reducible apply iteT | with_reducible apply iteF | with_reducible apply s_par | ((with_reducible apply s_var); case h => first | assumption | exact rfl) | (with_reducible refine ⟨by simp [sizeLine_eq], ?_⟩))
    refine s_fldM ?_
    refine s_fldO (i := 0) (o := o) rfl lookO_ok ?_
    refine mFld_T ?_
    refine s_fldM ?_
    refine s_fldO (i := 0) (o := o) rfl lookO_fail ?_
    refine mFld_T ?_
    have l1 := ho.la
    have l2 := ho.lb
    refine s_addT (by rw [List.length_map, List.length_map, sizeLine_eq]; omega) ?_
    refine mItem_tup ?_
    intro p hp
    rw [← List.map_append]
    refine dLc_mapA (f := fun d => match d with
      | .tup [_, x] => x
      | _ => .non) hp (fun _ => trivial) _ _ (fun d hd acc Kt k1 => ?_) (by rw [List.length_map, List.length_append, sizeLine_eq]; simp; omega) ?_
    · obtain ⟨x, hx, rfl⟩ := List.mem_map.mp hd
      simp only [wipeR, List.foldl, startR, List.map_cons, List.map_nil, List.length_cons, List.length_nil, List.replicate, List.cons_append, List.nil_append, List.getElem?_cons_zero, List.getElem?_cons_succ, List.set_cons_zero, List.set_cons_succ, sizeLine_eq, Nat.reduceAdd, Nat.reduceLeDiff, Nat.reduceLT, Nat.zero_le, true_and]
      refine s_rngP ?_
      repeat (first | with_reducible refine s_seqN (by simp only [startR, List.map_cons, List.map_nil, List.length_cons, List.length_nil, List.replicate, List.cons_append, List.nil_append, List.getElem?_cons_zero, List.getElem?_cons_succ, List.set_cons_zero, List.set_cons_succ]; exact rfl) ?_ | with_reducible apply s_seq | with_reducible apply s_asg | with_reducible apply s_name | with_reducible apply s_next | with_reducible apply s_ret | with_reducible apply s_retN | with_reducible apply s_drop | with_reducible apply s_if | with_reducible apply s_for | with_reducible apply s_and | with_reducible apply s_or | with_reducible apply s_not | with_reducible apply s_B | with_reducible apply s_mB | with_reducible apply s_addI | with_reducible apply s_subI | with_reducible apply s_cmpI | with_reducible apply s_eqI | with_reducible apply s_minI | with_reducible apply s_maxI | with_reducible apply s_meth | with_reducible apply s_Tr | with_reducible apply s_op | with_reducible apply s_c | with_reducible apply s_ifE | with_reducible apply s_andV | with_reducible apply s_orV | with_reducible apply s_notV | with_reducible apply s_b1 | with_reducible apply s_cons | with_reducible apply s_nil | with_reducible apply s_tup | with_reducible apply s_lst | with_reducible apply s_lstM | with_reducible apply s_call | with_reducible apply s_trB | with_reducible apply iteT | with_reducible apply iteF | with_reducible apply s_par | ((with_reducible apply s_var); case h => first | assumption | exact rfl) | (with_reducible refine ⟨by simp [sizeLine_eq], ?_⟩))
      exact k1
    rw [List.nil_append, mapA_of (fun x : Int × Int => x.2) _ rngD (fun x => rfl)]
    repeat (first | with_reducible refine s_seqN (by simp only [startR, List.map_cons, List.map_nil, List.length_cons, List.length_nil, List.replicate, List.cons_append, List.nil_append, List.getElem?_cons_zero, List.getElem?_cons_succ, List.set_cons_zero, List.set_cons_succ]; exact rfl) ?_ | with_reducible apply s_seq | with_reducible apply s_asg | with_reducible apply s_name | with_reducible apply s_next | with_reducible apply s_ret | with_reducible apply s_retN | with_reducible apply s_drop | with_reducible apply s_if | with_reducible apply s_for | with_reducible apply s_and | with_reducible apply s_or | with_reducible apply s_not | with_reducible apply s_B | with_reducible apply s_mB | with_reducible apply s_addI | with_reducible apply s_subI | with_reducible apply s_cmpI | with_reducible apply s_eqI | with_reducible apply s_minI | with_reducible apply s_maxI | with_reducible apply s_meth | with_reducible apply s_Tr | with_reducible apply s_op | with_reducible apply s_c | with_reducible apply s_ifE | with_reducible apply s_andV | with_reducible apply s_orV | with_reducible apply s_notV | with_reducible apply s_b1 | with_reducible apply s_cons | with_reducible apply s_nil | with_reducible apply s_tup | with_reducible apply s_lst | with_reducible apply s_lstM | with_reducible apply s_call | with_reducible apply s_trB | with_reducible apply iteT | with_reducible apply iteF | with_reducible apply s_par | ((with_reducible apply s_var); case h => first | assumption | exact rfl) | (with_reducible refine ⟨by simp [sizeLine_eq], ?_⟩))
    refine s_addL (by rw [List.length_map, List.length_map, List.length_append, sizeLine_eq]; simp; omega) ?_
    have e : ((o.a ++ o.b).map fun x : Int × Int => x.2).map D.int ++ [D.int 0] = (((o.a ++ o.b).map fun x : Int × Int => x.2) ++ [0]).map D.int := by simp
    rw [e]
    refine rcMax_ints (by simp) fun m hm hle => ?_
    refine fin0 (hn h1 m ⟨hle 0 (by simp), fun t ht => ?_, ?_⟩)
    · have key : ∃ x ∈ o.a ++ o.b, t ≤ x.2 := by
        rcases ht with ⟨x, hx, _, h2⟩ | ⟨x, hx, _, h2⟩
        · exact ⟨x, List.mem_append_left _ hx, h2⟩
        · exact ⟨x, List.mem_append_right _ hx, h2⟩
      obtain ⟨x, hx, h2⟩ := key
      have := hle x.2 (List.mem_append_left _ (List.mem_map.mpr ⟨x, hx, rfl⟩))
      omega
    · rcases List.mem_append.mp hm with hm | hm
      · obtain ⟨x, hx, rfl⟩ := List.mem_map.mp hm
        right
        rcases List.mem_append.mp hx with hx | hx
        · exact .inl ⟨x, hx, ho.a.1.ok x hx, Int.le_refl _⟩
        · exact .inr ⟨x, hx, ho.b.1.ok x hx, Int.le_refl _⟩
      · exact .inl (List.mem_singleton.mp hm)
theorem q_law_ranges : Pure ["feed", "found", "turn", "low"] sp_law_ranges t_law_ranges := by
  rintro ds M P PE ⟨p, f, rfl, hp, h⟩
  unfold t_law_ranges
  repeat (first | with_reducible refine s_seqN (by simp only [startR, List.map_cons, List.map_nil, List.length_cons, List.length_nil, List.replicate, List.cons_append, List.nil_append, List.getElem?_cons_zero, List.getElem?_cons_succ, List.set_cons_zero, List.set_cons_succ]; exact rfl) ?_ | with_reducible apply s_seq | with_reducible apply s_asg | with_reducible apply s_name | with_reducible apply s_next | with_reducible apply s_ret | with_reducible apply s_retN | with_reducible apply s_drop | with_reducible apply s_if | with_reducible apply s_for | with_reducible apply s_and | with_reducible apply s_or | with_reducible apply s_not | with_reducible apply s_B | with_reducible apply s_mB | with_reducible apply s_addI | with_reducible apply s_subI | with_reducible apply s_cmpI | with_reducible apply s_eqI | with_reducible apply s_minI | with_reducible apply s_maxI | with_reducible apply s_meth | with_reducible apply s_Tr | with_reducible apply s_op | with_reducible apply s_c | with_reducible apply s_ifE | with_reducible apply s_andV | with_reducible apply s_orV | with_reducible apply s_notV | with_reducible apply s_b1 | with_reducible apply s_cons | with_reducible apply s_nil | with_reducible apply s_tup | with_reducible apply s_lst | with_reducible apply s_lstM | with_reducible apply s_call | with_reducible apply s_trB | with_reducible apply iteT | with_reducible apply iteF | with_reducible apply s_par | ((with_reducible apply s_var); case h => first | assumption | exact rfl) | (with_reducible refine ⟨by simp [sizeLine_eq], ?_⟩))
  intro q hq
  have hpq : p ≠ q := ne_free hp hq
  have e0 : updM M q (.lst []) = MM M p q f [] := by
    unfold MM
    rw [updM_self hp]
    rfl
  rw [e0]
  repeat (first | with_reducible refine s_seqN (by simp only [startR, List.map_cons, List.map_nil, List.length_cons, List.length_nil, List.replicate, List.cons_append, List.nil_append, List.getElem?_cons_zero, List.getElem?_cons_succ, List.set_cons_zero, List.set_cons_succ]; exact rfl) ?_ | with_reducible apply s_seq | with_reducible apply s_asg | with_reducible apply s_name | with_reducible apply s_next | with_reducible apply s_ret | with_reducible apply s_retN | with_reducible apply s_drop | with_reducible apply s_if | with_reducible apply s_for | with_reducible apply s_and | with_reducible apply s_or | with_reducible apply s_not | with_reducible apply s_B | with_reducible apply s_mB | with_reducible apply s_addI | with_reducible apply s_subI | with_reducible apply s_cmpI | with_reducible apply s_eqI | with_reducible apply s_minI | with_reducible apply s_maxI | with_reducible apply s_meth | with_reducible apply s_Tr | with_reducible apply s_op | with_reducible apply s_c | with_reducible apply s_ifE | with_reducible apply s_andV | with_reducible apply s_orV | with_reducible apply s_notV | with_reducible apply s_b1 | with_reducible apply s_cons | with_reducible apply s_nil | with_reducible apply s_tup | with_reducible apply s_lst | with_reducible apply s_lstM | with_reducible apply s_call | with_reducible apply s_trB | with_reducible apply iteT | with_reducible apply iteF | with_reducible apply s_par | ((with_reducible apply s_var); case h => first | assumption | exact rfl) | (with_reducible refine ⟨by simp [sizeLine_eq], ?_⟩))
  simp only [dRange1]
  repeat (first | with_reducible refine s_seqN (by simp only [startR, List.map_cons, List.map_nil, List.length_cons, List.length_nil, List.replicate, List.cons_append, List.nil_append, List.getElem?_cons_zero, List.getElem?_cons_succ, List.set_cons_zero, List.set_cons_succ]; exact rfl) ?_ | with_reducible apply s_seq | with_reducible apply s_asg | with_reducible apply s_name | with_reducible apply s_next | with_reducible apply s_ret | with_reducible apply s_retN | with_reducible apply s_drop | with_reducible apply s_if | with_reducible apply s_for | with_reducible apply s_and | with_reducible apply s_or | with_reducible apply s_not | with_reducible apply s_B | with_reducible apply s_mB | with_reducible apply s_addI | with_reducible apply s_subI | with_reducible apply s_cmpI | with_reducible apply s_eqI | with_reducible apply s_minI | with_reducible apply s_maxI | with_reducible apply s_meth | with_reducible apply s_Tr | with_reducible apply s_op | with_reducible apply s_c | with_reducible apply s_ifE | with_reducible apply s_andV | with_reducible apply s_orV | with_reducible apply s_notV | with_reducible apply s_b1 | with_reducible apply s_cons | with_reducible apply s_nil | with_reducible apply s_tup | with_reducible apply s_lst | with_reducible apply s_lstM | with_reducible apply s_call | with_reducible apply s_trB | with_reducible apply iteT | with_reducible apply iteF | with_reducible apply s_par | ((with_reducible apply s_var); case h => first | assumption | exact rfl) | (with_reducible refine ⟨by simp [sizeLine_eq], ?_⟩))
  refine ⟨p, f, 4, rfl, MM_p hpq, by decide, by decide, fun r f1 hr hr1 => ?_⟩
  rw [MM_f hpq]
  simp only [daNil]
  refine ⟨by omega, by omega, ?_⟩
  refine dLoop_ind (fun rest ρ M' => ∃ (L : PrL) (f : Feed) (k : Nat) (lo : Int) (o2 o3 : Option D), rest = rangeD lo k ∧ k + L.length ≤ 3 ∧ ρ = [some (.ref p), some (.ref q), o2, o3] ∧ M' = MM M p q f L ∧
    ∀ x ∈ L, 0 ≤ x.1 ∧ x.1 ≤ x.2 ∧ x.2 ≤ 25) ?_ ?_ _ _ _ ⟨[], f1, r.toNat, 0, none, none, rfl, by simp; omega, rfl, rfl, by simp⟩
  · rintro d rest ρ M' K hK ⟨L, f, k, lo, o2, o3, e1, e2, rfl, rfl, e3⟩
    obtain ⟨k, rfl, rfl, rfl⟩ := rangeD_cons e1
    refine ⟨trivial, ?_⟩
    repeat (first | with_reducible refine s_seqN (by simp only [startR, List.map_cons, List.map_nil, List.length_cons, List.length_nil, List.replicate, List.cons_append, List.nil_append, List.getElem?_cons_zero, List.getElem?_cons_succ, List.set_cons_zero, List.set_cons_succ]; exact rfl) ?_ | with_reducible apply s_seq | with_reducible apply s_asg | with_reducible apply s_name | with_reducible apply s_next | with_reducible apply s_ret | with_reducible apply s_retN | with_reducible apply s_drop | with_reducible apply s_if | with_reducible apply s_for | with_reducible apply s_and | with_reducible apply s_or | with_reducible apply s_not | with_reducible apply s_B | with_reducible apply s_mB | with_reducible apply s_addI | with_reducible apply s_subI | with_reducible apply s_cmpI | with_reducible apply s_eqI | with_reducible apply s_minI | with_reducible apply s_maxI | with_reducible apply s_meth | with_reducible apply s_Tr | with_reducible apply s_op | with_reducible apply s_c | with_reducible apply s_ifE | with_reducible apply s_andV | with_reducible apply s_orV | with_reducible apply s_notV | with_reducible apply s_b1 | with_reducible apply s_cons | with_reducible apply s_nil | with_reducible apply s_tup | with_reducible apply s_lst | with_reducible apply s_lstM | with_reducible apply s_call | with_reducible apply s_trB | with_reducible apply iteT | with_reducible apply iteF | with_reducible apply s_par | ((with_reducible apply s_var); case h => first | assumption | exact rfl) | (with_reducible refine ⟨by simp [sizeLine_eq], ?_⟩))
    refine ⟨p, f, _, rfl, MM_p hpq, by simp, by simp, fun x f2 hx => ?_⟩
    rw [MM_f hpq]
    obtain ⟨l, rfl, l0, l1⟩ : ∃ l : Int, x = .int l ∧ 0 ≤ l ∧ l ≤ 20 := by
      simp only [List.mem_cons, List.not_mem_nil, or_false] at hx
      rcases hx with rfl | rfl | rfl | rfl | rfl | rfl | rfl | rfl <;> exact ⟨_, rfl, by decide, by decide⟩
    repeat (first | with_reducible refine s_seqN (by simp only [startR, List.map_cons, List.map_nil, List.length_cons, List.length_nil, List.replicate, List.cons_append, List.nil_append, List.getElem?_cons_zero, List.getElem?_cons_succ, List.set_cons_zero, List.set_cons_succ]; exact rfl) ?_ | with_reducible apply s_seq | with_reducible apply s_asg | with_reducible apply s_name | with_reducible apply s_next | with_reducible apply s_ret | with_reducible apply s_retN | with_reducible apply s_drop | with_reducible apply s_if | with_reducible apply s_for | with_reducible apply s_and | with_reducible apply s_or | with_reducible apply s_not | with_reducible apply s_B | with_reducible apply s_mB | with_reducible apply s_addI | with_reducible apply s_subI | with_reducible apply s_cmpI | with_reducible apply s_eqI | with_reducible apply s_minI | with_reducible apply s_maxI | with_reducible apply s_meth | with_reducible apply s_Tr | with_reducible apply s_op | with_reducible apply s_c | with_reducible apply s_ifE | with_reducible apply s_andV | with_reducible apply s_orV | with_reducible apply s_notV | with_reducible apply s_b1 | with_reducible apply s_cons | with_reducible apply s_nil | with_reducible apply s_tup | with_reducible apply s_lst | with_reducible apply s_lstM | with_reducible apply s_call | with_reducible apply s_trB | with_reducible apply iteT | with_reducible apply iteF | with_reducible apply s_par | ((with_reducible apply s_var); case h => first | assumption | exact rfl) | (with_reducible refine ⟨by simp [sizeLine_eq], ?_⟩))
    refine s_mtV rfl (by rw [isLM_ref MM_q]; trivial) ?_
    repeat (first | with_reducible refine s_seqN (by simp only [startR, List.map_cons, List.map_nil, List.length_cons, List.length_nil, List.replicate, List.cons_append, List.nil_append, List.getElem?_cons_zero, List.getElem?_cons_succ, List.set_cons_zero, List.set_cons_succ]; exact rfl) ?_ | with_reducible apply s_seq | with_reducible apply s_asg | with_reducible apply s_name | with_reducible apply s_next | with_reducible apply s_ret | with_reducible apply s_retN | with_reducible apply s_drop | with_reducible apply s_if | with_reducible apply s_for | with_reducible apply s_and | with_reducible apply s_or | with_reducible apply s_not | with_reducible apply s_B | with_reducible apply s_mB | with_reducible apply s_addI | with_reducible apply s_subI | with_reducible apply s_cmpI | with_reducible apply s_eqI | with_reducible apply s_minI | with_reducible apply s_maxI | with_reducible apply s_meth | with_reducible apply s_Tr | with_reducible apply s_op | with_reducible apply s_c | with_reducible apply s_ifE | with_reducible apply s_andV | with_reducible apply s_orV | with_reducible apply s_notV | with_reducible apply s_b1 | with_reducible apply s_cons | with_reducible apply s_nil | with_reducible apply s_tup | with_reducible apply s_lst | with_reducible apply s_lstM | with_reducible apply s_call | with_reducible apply s_trB | with_reducible apply iteT | with_reducible apply iteF | with_reducible apply s_par | ((with_reducible apply s_var); case h => first | assumption | exact rfl) | (with_reducible refine ⟨by simp [sizeLine_eq], ?_⟩))
    refine ⟨p, f2, _, rfl, MM_p hpq, by simp, by simp, fun x f3 hx => ?_⟩
    rw [MM_f hpq]
    obtain ⟨z, rfl, z0, z1⟩ : ∃ l : Int, x = .int l ∧ 0 ≤ l ∧ l ≤ 5 := by
      simp only [List.mem_cons, List.not_mem_nil, or_false] at hx
      rcases hx with rfl | rfl | rfl | rfl | rfl <;> exact ⟨_, rfl, by decide, by decide⟩
    repeat (first | with_reducible refine s_seqN (by simp only [startR, List.map_cons, List.map_nil, List.length_cons, List.length_nil, List.replicate, List.cons_append, List.nil_append, List.getElem?_cons_zero, List.getElem?_cons_succ, List.set_cons_zero, List.set_cons_succ]; exact rfl) ?_ | with_reducible apply s_seq | with_reducible apply s_asg | with_reducible apply s_name | with_reducible apply s_next | with_reducible apply s_ret | with_reducible apply s_retN | with_reducible apply s_drop | with_reducible apply s_if | with_reducible apply s_for | with_reducible apply s_and | with_reducible apply s_or | with_reducible apply s_not | with_reducible apply s_B | with_reducible apply s_mB | with_reducible apply s_addI | with_reducible apply s_subI | with_reducible apply s_cmpI | with_reducible apply s_eqI | with_reducible apply s_minI | with_reducible apply s_maxI | with_reducible apply s_meth | with_reducible apply s_Tr | with_reducible apply s_op | with_reducible apply s_c | with_reducible apply s_ifE | with_reducible apply s_andV | with_reducible apply s_orV | with_reducible apply s_notV | with_reducible apply s_b1 | with_reducible apply s_cons | with_reducible apply s_nil | with_reducible apply s_tup | with_reducible apply s_lst | with_reducible apply s_lstM | with_reducible apply s_call | with_reducible apply s_trB | with_reducible apply iteT | with_reducible apply iteF | with_reducible apply s_par | ((with_reducible apply s_var); case h => first | assumption | exact rfl) | (with_reducible refine ⟨by simp [sizeLine_eq], ?_⟩))
    rw [rmAppend_ref MM_q]
    refine ⟨by rw [List.length_map, sizeLine_eq]; omega, ?_⟩
    repeat (first | with_reducible refine s_seqN (by simp only [startR, List.map_cons, List.map_nil, List.length_cons, List.length_nil, List.replicate, List.cons_append, List.nil_append, List.getElem?_cons_zero, List.getElem?_cons_succ, List.set_cons_zero, List.set_cons_succ]; exact rfl) ?_ | with_reducible apply s_seq | with_reducible apply s_asg | with_reducible apply s_name | with_reducible apply s_next | with_reducible apply s_ret | with_reducible apply s_retN | with_reducible apply s_drop | with_reducible apply s_if | with_reducible apply s_for | with_reducible apply s_and | with_reducible apply s_or | with_reducible apply s_not | with_reducible apply s_B | with_reducible apply s_mB | with_reducible apply s_addI | with_reducible apply s_subI | with_reducible apply s_cmpI | with_reducible apply s_eqI | with_reducible apply s_minI | with_reducible apply s_maxI | with_reducible apply s_meth | with_reducible apply s_Tr | with_reducible apply s_op | with_reducible apply s_c | with_reducible apply s_ifE | with_reducible apply s_andV | with_reducible apply s_orV | with_reducible apply s_notV | with_reducible apply s_b1 | with_reducible apply s_cons | with_reducible apply s_nil | with_reducible apply s_tup | with_reducible apply s_lst | with_reducible apply s_lstM | with_reducible apply s_call | with_reducible apply s_trB | with_reducible apply iteT | with_reducible apply iteF | with_reducible apply s_par | ((with_reducible apply s_var); case h => first | assumption | exact rfl) | (with_reducible refine ⟨by simp [sizeLine_eq], ?_⟩))
    refine hK _ _ ⟨L ++ [(l, l + z)], f3, k, lo + 1, _, _, rfl, by simp; omega, rfl, ?_, fun x hx => ?_⟩
    · have : L.map rngD ++ [.tup [.int l, .int (l + z)]] = (L ++ [(l, l + z)]).map rngD := by simp [rngD]
      rw [this, MM_l]
    · rcases List.mem_append.mp hx with hx | hx
      · exact e3 x hx
      · rw [List.mem_singleton.mp hx]
        exact ⟨l0, by simp only; omega, by simp only; omega⟩
  · rintro ρ M' ⟨L, f, k, lo, o2, o3, e1, e2, rfl, rfl, e3⟩
    refine ⟨trivial, ?_⟩
    simp only [dSeq, dIf, dOr, dAnd, dNot, dB, dB1, daCons, daNil, dVar, dC, dRet, dRetN, dNext, dOp, dOrV, dAndV, dNotV, dIfE, dAsg, dgName, dTup, dLst, dLstM, dFrz, dDrop, dMt, dNeg, dCall, dgSub, dPar, dFld, dSetFld, dMakeM, dTr, dChain, dAug, dItem, dFor, dRange1, dRange2, dgTup, dgCons, dgNil, dRev, dMeth, dYes, startR, List.map_cons, List.map_nil, List.length_cons, List.length_nil, List.replicate, List.cons_append, List.nil_append, List.getElem?_cons_zero, List.getElem?_cons_succ, List.set_cons_zero, List.set_cons_succ, sizeLine_eq, Nat.reduceAdd, Nat.reduceLeDiff, Nat.reduceLT, Nat.zero_le, true_and, MM_q, MM_del hpq hq]
    exact fin0 (h L f (by omega) e3)
theorem q_law_listed : Pure ["ranges", "found", "low", "high"] sp_law_listed t_law_listed := by
  rintro ds M P PE ⟨L, rfl, hL, h⟩
  unfold t_law_listed
  repeat (first | with_reducible refine s_seqN (by simp only [startR, List.map_cons, List.map_nil, List.length_cons, List.length_nil, List.replicate, List.cons_append, List.nil_append, List.getElem?_cons_zero, List.getElem?_cons_succ, List.set_cons_zero, List.set_cons_succ]; exact rfl) ?_ | with_reducible apply s_seq | with_reducible apply s_asg | with_reducible apply s_name | with_reducible apply s_next | with_reducible apply s_ret | with_reducible apply s_retN | with_reducible apply s_drop | with_reducible apply s_if | with_reducible apply s_for | with_reducible apply s_and | with_reducible apply s_or | with_reducible apply s_not | with_reducible apply s_B | with_reducible apply s_mB | with_reducible apply s_addI | with_reducible apply s_subI | with_reducible apply s_cmpI | with_reducible apply s_eqI | with_reducible apply s_minI | with_reducible apply s_maxI | with_reducible apply s_meth | with_reducible apply s_Tr | with_reducible apply s_op | with_reducible apply s_c | with_reducible apply s_ifE | with_reducible apply s_andV | with_reducible apply s_orV | with_reducible apply s_notV | with_reducible apply s_b1 | with_reducible apply s_cons | with_reducible apply s_nil | with_reducible apply s_tup | with_reducible apply s_lst | with_reducible apply s_lstM | with_reducible apply s_call | with_reducible apply s_trB | with_reducible apply iteT | with_reducible apply iteF | with_reducible apply s_par | ((with_reducible apply s_var); case h => first | assumption | exact rfl) | (with_reducible refine ⟨by simp [sizeLine_eq], ?_⟩))
  with_reducible refine s_itemM ?_
  repeat (first | with_reducible refine s_seqN (by simp only [startR, List.map_cons, List.map_nil, List.length_cons, List.length_nil, List.replicate, List.cons_append, List.nil_append, List.getElem?_cons_zero, List.getElem?_cons_succ, List.set_cons_zero, List.set_cons_succ]; exact rfl) ?_ | with_reducible apply s_seq | with_reducible apply s_asg | with_reducible apply s_name | with_reducible apply s_next | with_reducible apply s_ret | with_reducible apply s_retN | with_reducible apply s_drop | with_reducible apply s_if | with_reducible apply s_for | with_reducible apply s_and | with_reducible apply s_or | with_reducible apply s_not | with_reducible apply s_B | with_reducible apply s_mB | with_reducible apply s_addI | with_reducible apply s_subI | with_reducible apply s_cmpI | with_reducible apply s_eqI | with_reducible apply s_minI | with_reducible apply s_maxI | with_reducible apply s_meth | with_reducible apply s_Tr | with_reducible apply s_op | with_reducible apply s_c | with_reducible apply s_ifE | with_reducible apply s_andV | with_reducible apply s_orV | with_reducible apply s_notV | with_reducible apply s_b1 | with_reducible apply s_cons | with_reducible apply s_nil | with_reducible apply s_tup | with_reducible apply s_lst | with_reducible apply s_lstM | with_reducible apply s_call | with_reducible apply s_trB | with_reducible apply iteT | with_reducible apply iteF | with_reducible apply s_par | ((with_reducible apply s_var); case h => first | assumption | exact rfl) | (with_reducible refine ⟨by simp [sizeLine_eq], ?_⟩))
  refine mItem_lst ?_
  refine dLoop_ind (fun rest ρ M' => ∃ (Dn S : PrL) (acc : List Int) (o2 o3 : Option D), M' = M ∧ rest = S.map rngD ∧ Dn ++ S = L ∧ (∀ t, t ∈ acc ↔ inRng Dn t) ∧ acc.length ≤ 41 * Dn.length ∧ ρ = [some (.lst (L.map rngD)), some (.lst (acc.map .int)), o2, o3]) ?_ ?_ _ _ _
    ⟨[], L, [], none, none, rfl, rfl, rfl, by simp [inRng], by simp, rfl⟩
  · rintro d rest ρ M' K hK ⟨Dn, S, acc, o2, o3, rfl, es, eL, hm, hl, rfl⟩
    cases S with
    | nil => cases es
    | cons x S =>
      cases es
      have hx := hL.2 x (by rw [← eL]; simp)
      have lD : Dn.length ≤ 50 := by
        have e := congrArg List.length eL
        rw [List.length_append] at e
        have := hL.1
        omega
      refine ⟨trivial, ?_⟩
      refine s_rngP ?_
      repeat (first | with_reducible refine s_seqN (by simp only [startR, List.map_cons, List.map_nil, List.length_cons, List.length_nil, List.replicate, List.cons_append, List.nil_append, List.getElem?_cons_zero, List.getElem?_cons_succ, List.set_cons_zero, List.set_cons_succ]; exact rfl) ?_ | with_reducible apply s_seq | with_reducible apply s_asg | with_reducible apply s_name | with_reducible apply s_next | with_reducible apply s_ret | with_reducible apply s_retN | with_reducible apply s_drop | with_reducible apply s_if | with_reducible apply s_for | with_reducible apply s_and | with_reducible apply s_or | with_reducible apply s_not | with_reducible apply s_B | with_reducible apply s_mB | with_reducible apply s_addI | with_reducible apply s_subI | with_reducible apply s_cmpI | with_reducible apply s_eqI | with_reducible apply s_minI | with_reducible apply s_maxI | with_reducible apply s_meth | with_reducible apply s_Tr | with_reducible apply s_op | with_reducible apply s_c | with_reducible apply s_ifE | with_reducible apply s_andV | with_reducible apply s_orV | with_reducible apply s_notV | with_reducible apply s_b1 | with_reducible apply s_cons | with_reducible apply s_nil | with_reducible apply s_tup | with_reducible apply s_lst | with_reducible apply s_lstM | with_reducible apply s_call | with_reducible apply s_trB | with_reducible apply iteT | with_reducible apply iteF | with_reducible apply s_par | ((with_reducible apply s_var); case h => first | assumption | exact rfl) | (with_reducible refine ⟨by simp [sizeLine_eq], ?_⟩))
      refine s_listRg ?_
      repeat (first | with_reducible refine s_seqN (by simp only [startR, List.map_cons, List.map_nil, List.length_cons, List.length_nil, List.replicate, List.cons_append, List.nil_append, List.getElem?_cons_zero, List.getElem?_cons_succ, List.set_cons_zero, List.set_cons_succ]; exact rfl) ?_ | with_reducible apply s_seq | with_reducible apply s_asg | with_reducible apply s_name | with_reducible apply s_next | with_reducible apply s_ret | with_reducible apply s_retN | with_reducible apply s_drop | with_reducible apply s_if | with_reducible apply s_for | with_reducible apply s_and | with_reducible apply s_or | with_reducible apply s_not | with_reducible apply s_B | with_reducible apply s_mB | with_reducible apply s_addI | with_reducible apply s_subI | with_reducible apply s_cmpI | with_reducible apply s_eqI | with_reducible apply s_minI | with_reducible apply s_maxI | with_reducible apply s_meth | with_reducible apply s_Tr | with_reducible apply s_op | with_reducible apply s_c | with_reducible apply s_ifE | with_reducible apply s_andV | with_reducible apply s_orV | with_reducible apply s_notV | with_reducible apply s_b1 | with_reducible apply s_cons | with_reducible apply s_nil | with_reducible apply s_tup | with_reducible apply s_lst | with_reducible apply s_lstM | with_reducible apply s_call | with_reducible apply s_trB | with_reducible apply iteT | with_reducible apply iteF | with_reducible apply s_par | ((with_reducible apply s_var); case h => first | assumption | exact rfl) | (with_reducible refine ⟨by simp [sizeLine_eq], ?_⟩))
      refine mRg_ok (RgOk.of_le (by omega) (by omega) (by omega) (by omega)) ?_
      refine s_addL (by rw [List.length_map, List.length_map, List.length_map, List.length_range, sizeLine_eq]; omega) ?_
      rw [← List.map_append]
      repeat (first | with_reducible refine s_seqN (by simp only [startR, List.map_cons, List.map_nil, List.length_cons, List.length_nil, List.replicate, List.cons_append, List.nil_append, List.getElem?_cons_zero, List.getElem?_cons_succ, List.set_cons_zero, List.set_cons_succ]; exact rfl) ?_ | with_reducible apply s_seq | with_reducible apply s_asg | with_reducible apply s_name | with_reducible apply s_next | with_reducible apply s_ret | with_reducible apply s_retN | with_reducible apply s_drop | with_reducible apply s_if | with_reducible apply s_for | with_reducible apply s_and | with_reducible apply s_or | with_reducible apply s_not | with_reducible apply s_B | with_reducible apply s_mB | with_reducible apply s_addI | with_reducible apply s_subI | with_reducible apply s_cmpI | with_reducible apply s_eqI | with_reducible apply s_minI | with_reducible apply s_maxI | with_reducible apply s_meth | with_reducible apply s_Tr | with_reducible apply s_op | with_reducible apply s_c | with_reducible apply s_ifE | with_reducible apply s_andV | with_reducible apply s_orV | with_reducible apply s_notV | with_reducible apply s_b1 | with_reducible apply s_cons | with_reducible apply s_nil | with_reducible apply s_tup | with_reducible apply s_lst | with_reducible apply s_lstM | with_reducible apply s_call | with_reducible apply s_trB | with_reducible apply iteT | with_reducible apply iteF | with_reducible apply s_par | ((with_reducible apply s_var); case h => first | assumption | exact rfl) | (with_reducible refine ⟨by simp [sizeLine_eq], ?_⟩))
      refine hK _ _ ⟨Dn ++ [x], S, _, _, _, rfl, rfl, by rw [← eL]; simp, fun t => ?_, ?_, rfl⟩
      · rw [List.mem_append, hm, inRng_append, inRng_cons, List.mem_map]
        constructor
        · rintro (ht | ⟨k, hk, rfl⟩)
          · exact .inl ht
          · rw [List.mem_range] at hk
            exact .inr (.inl ⟨by omega, by omega⟩)
        · rintro (ht | ht | ht)
          · exact .inl ht
          · exact .inr ⟨(t - x.1).toNat, List.mem_range.mpr (by omega), by omega⟩
          · exact absurd ht (by simp [inRng])
      · rw [List.length_append, List.length_map, List.length_range, List.length_append, List.length_singleton]
        omega
  · rintro ρ M' ⟨Dn, S, acc, o2, o3, rfl, es, eL, hm, hl, rfl⟩
    cases S with
    | cons x S => cases es
    | nil =>
      rw [List.append_nil] at eL
      subst eL
      refine ⟨trivial, ?_⟩
      show dRet (dSortSet (dVar 1)) { nx := fun x M' => finP P .non M', rt := finP P } [some (.lst (Dn.map rngD)), some (.lst (acc.map .int)), o2, o3] M'
      refine s_ret ?_
      refine s_sortSet ?_
      repeat (first | with_reducible refine s_seqN (by simp only [startR, List.map_cons, List.map_nil, List.length_cons, List.length_nil, List.replicate, List.cons_append, List.nil_append, List.getElem?_cons_zero, List.getElem?_cons_succ, List.set_cons_zero, List.set_cons_succ]; exact rfl) ?_ | with_reducible apply s_seq | with_reducible apply s_asg | with_reducible apply s_name | with_reducible apply s_next | with_reducible apply s_ret | with_reducible apply s_retN | with_reducible apply s_drop | with_reducible apply s_if | with_reducible apply s_for | with_reducible apply s_and | with_reducible apply s_or | with_reducible apply s_not | with_reducible apply s_B | with_reducible apply s_mB | with_reducible apply s_addI | with_reducible apply s_subI | with_reducible apply s_cmpI | with_reducible apply s_eqI | with_reducible apply s_minI | with_reducible apply s_maxI | with_reducible apply s_meth | with_reducible apply s_Tr | with_reducible apply s_op | with_reducible apply s_c | with_reducible apply s_ifE | with_reducible apply s_andV | with_reducible apply s_orV | with_reducible apply s_notV | with_reducible apply s_b1 | with_reducible apply s_cons | with_reducible apply s_nil | with_reducible apply s_tup | with_reducible apply s_lst | with_reducible apply s_lstM | with_reducible apply s_call | with_reducible apply s_trB | with_reducible apply iteT | with_reducible apply iteF | with_reducible apply s_par | ((with_reducible apply s_var); case h => first | assumption | exact rfl) | (with_reducible refine ⟨by simp [sizeLine_eq], ?_⟩))
      have := hL.1
      refine sortSet_ints (by omega) fun out h1 h2 h3 => ?_
      have e : out = timesOf Dn := sorted_ext h1 (times_sorted Dn) fun t => by rw [h2, hm, mem_times hL]
      rw [e]
      exact fin0 h
theorem okS_single {L : PrL} (h : okS L) : okS ((timesOf L).map fun t => (t, t)).reverse ∧ ∀ t, inRng ((timesOf L).map fun t => (t, t)).reverse t ↔ inRng L t := by
  have hl := times_len L
  constructor
  · refine ⟨by rw [List.length_reverse, List.length_map]; omega, fun x hx => ?_⟩
    obtain ⟨t, ht, rfl⟩ := List.mem_map.mp (List.mem_reverse.mp hx)
    obtain ⟨x, hx, h1, h2⟩ := (mem_times h).mp ht
    have := h.2 x hx
    exact ⟨by simp only; omega, by simp only; omega, by simp only; omega⟩
  · intro t
    rw [← mem_times h]
    constructor
    · rintro ⟨x, hx, h1, h2⟩
      obtain ⟨s, hs, rfl⟩ := List.mem_map.mp (List.mem_reverse.mp hx)
      have e : t = s := by simp only at h1 h2; omega
      rw [e]
      exact hs
    · exact fun ht => ⟨(t, t), List.mem_reverse.mpr (List.mem_map.mpr ⟨t, ht, rfl⟩), Int.le_refl _, Int.le_refl _⟩
theorem q_law_single : Pure ["ranges", "time"] sp_law_single t_law_single := by
  rintro ds M P PE ⟨L, rfl, hL, h⟩
  unfold t_law_single
  repeat (first | with_reducible refine s_seqN (by simp only [startR, List.map_cons, List.map_nil, List.length_cons, List.length_nil, List.replicate, List.cons_append, List.nil_append, List.getElem?_cons_zero, List.getElem?_cons_succ, List.set_cons_zero, List.set_cons_succ]; exact rfl) ?_ | with_reducible apply s_seq | with_reducible apply s_asg | with_reducible apply s_name | with_reducible apply s_next | with_reducible apply s_ret | with_reducible apply s_retN | with_reducible apply s_drop | with_reducible apply s_if | with_reducible apply s_for | with_reducible apply s_and | with_reducible apply s_or | with_reducible apply s_not | with_reducible apply s_B | with_reducible apply s_mB | with_reducible apply s_addI | with_reducible apply s_subI | with_reducible apply s_cmpI | with_reducible apply s_eqI | with_reducible apply s_minI | with_reducible apply s_maxI | with_reducible apply s_meth | with_reducible apply s_Tr | with_reducible apply s_op | with_reducible apply s_c | with_reducible apply s_ifE | with_reducible apply s_andV | with_reducible apply s_orV | with_reducible apply s_notV | with_reducible apply s_b1 | with_reducible apply s_cons | with_reducible apply s_nil | with_reducible apply s_tup | with_reducible apply s_lst | with_reducible apply s_lstM | with_reducible apply s_call | with_reducible apply s_trB | with_reducible apply iteT | with_reducible apply iteF | with_reducible apply s_par | ((with_reducible apply s_var); case h => first | assumption | exact rfl) | (with_reducible refine ⟨by simp [sizeLine_eq], ?_⟩))
  refine s_rev ?_
  with_reducible refine s_lc ?_
  with_reducible refine s_itemM ?_
  repeat (first | with_reducible refine s_seqN (by simp only [startR, List.map_cons, List.map_nil, List.length_cons, List.length_nil, List.replicate, List.cons_append, List.nil_append, List.getElem?_cons_zero, List.getElem?_cons_succ, List.set_cons_zero, List.set_cons_succ]; exact rfl) ?_ | with_reducible apply s_seq | with_reducible apply s_asg | with_reducible apply s_name | with_reducible apply s_next | with_reducible apply s_ret | with_reducible apply s_retN | with_reducible apply s_drop | with_reducible apply s_if | with_reducible apply s_for | with_reducible apply s_and | with_reducible apply s_or | with_reducible apply s_not | with_reducible apply s_B | with_reducible apply s_mB | with_reducible apply s_addI | with_reducible apply s_subI | with_reducible apply s_cmpI | with_reducible apply s_eqI | with_reducible apply s_minI | with_reducible apply s_maxI | with_reducible apply s_meth | with_reducible apply s_Tr | with_reducible apply s_op | with_reducible apply s_c | with_reducible apply s_ifE | with_reducible apply s_andV | with_reducible apply s_orV | with_reducible apply s_notV | with_reducible apply s_b1 | with_reducible apply s_cons | with_reducible apply s_nil | with_reducible apply s_tup | with_reducible apply s_lst | with_reducible apply s_lstM | with_reducible apply s_call | with_reducible apply s_trB | with_reducible apply iteT | with_reducible apply iteF | with_reducible apply s_par | ((with_reducible apply s_var); case h => first | assumption | exact rfl) | (with_reducible refine ⟨by simp [sizeLine_eq], ?_⟩))
  refine ⟨L, rfl, hL, ?_⟩
  refine mItem_lst ?_
  intro p hp
  have hl := times_len L
  refine dLc_mapA (f := fun d => .tup [d, d]) hp (fun _ => trivial) _ _ (fun d hd acc Kt k1 => ?_) (by rw [List.length_map, sizeLine_eq]; simp; omega) ?_
  · simp only [wipeR, List.foldl, startR, List.map_cons, List.map_nil, List.length_cons, List.length_nil, List.replicate, List.cons_append, List.nil_append, List.getElem?_cons_zero, List.getElem?_cons_succ, List.set_cons_zero, List.set_cons_succ, sizeLine_eq, Nat.reduceAdd, Nat.reduceLeDiff, Nat.reduceLT, Nat.zero_le, true_and]
    repeat (first | with_reducible refine s_seqN (by simp only [startR, List.map_cons, List.map_nil, List.length_cons, List.length_nil, List.replicate, List.cons_append, List.nil_append, List.getElem?_cons_zero, List.getElem?_cons_succ, List.set_cons_zero, List.set_cons_succ]; exact rfl) ?_ | with_reducible apply s_seq | with_reducible apply s_asg | with_reducible apply s_name | with_reducible apply s_next | with_reducible apply s_ret | with_reducible apply s_retN | with_reducible apply s_drop | with_reducible apply s_if | with_reducible apply s_for | with_reducible apply s_and | with_reducible apply s_or | with_reducible apply s_not | with_reducible apply s_B | with_reducible apply s_mB | with_reducible apply s_addI | with_reducible apply s_subI | with_reducible apply s_cmpI | with_reducible apply s_eqI | with_reducible apply s_minI | with_reducible apply s_maxI | with_reducible apply s_meth | with_reducible apply s_Tr | with_reducible apply s_op | with_reducible apply s_c | with_reducible apply s_ifE | with_reducible apply s_andV | with_reducible apply s_orV | with_reducible apply s_notV | with_reducible apply s_b1 | with_reducible apply s_cons | with_reducible apply s_nil | with_reducible apply s_tup | with_reducible apply s_lst | with_reducible apply s_lstM | with_reducible apply s_call | with_reducible apply s_trB | with_reducible apply iteT | with_reducible apply iteF | with_reducible apply s_par | ((with_reducible apply s_var); case h => first | assumption | exact rfl) | (with_reducible refine ⟨by simp [sizeLine_eq], ?_⟩))
    exact k1
  refine mRev_lst ?_
  have e : ([] ++ ((timesOf L).map D.int).map fun d => D.tup [d, d]).reverse = ((timesOf L).map fun t => (t, t)).reverse.map rngD := by
    rw [List.nil_append, List.map_reverse, List.map_map, List.map_map]
    rfl
  rw [e]
  obtain ⟨h1, h2⟩ := okS_single hL
  exact fin0 (h _ h1 h2)
theorem okS_of {L : PrL} (h1 : L.length ≤ 3) (h2 : ∀ x ∈ L, 0 ≤ x.1 ∧ x.1 ≤ x.2 ∧ x.2 ≤ 25) : okS L := ⟨by omega, fun x hx => by have := h2 x hx; omega⟩
theorem q_law_parts : Pure ["feed"] sp_law_parts t_law_parts := by
  rintro ds M P PE ⟨p, f, rfl, hp, h⟩
  unfold t_law_parts
  repeat (first | with_reducible refine s_seqN (by simp only [startR, List.map_cons, List.map_nil, List.length_cons, List.length_nil, List.replicate, List.cons_append, List.nil_append, List.getElem?_cons_zero, List.getElem?_cons_succ, List.set_cons_zero, List.set_cons_succ]; exact rfl) ?_ | with_reducible apply s_seq | with_reducible apply s_asg | with_reducible apply s_name | with_reducible apply s_next | with_reducible apply s_ret | with_reducible apply s_retN | with_reducible apply s_drop | with_reducible apply s_if | with_reducible apply s_for | with_reducible apply s_and | with_reducible apply s_or | with_reducible apply s_not | with_reducible apply s_B | with_reducible apply s_mB | with_reducible apply s_addI | with_reducible apply s_subI | with_reducible apply s_cmpI | with_reducible apply s_eqI | with_reducible apply s_minI | with_reducible apply s_maxI | with_reducible apply s_meth | with_reducible apply s_Tr | with_reducible apply s_op | with_reducible apply s_c | with_reducible apply s_ifE | with_reducible apply s_andV | with_reducible apply s_orV | with_reducible apply s_notV | with_reducible apply s_b1 | with_reducible apply s_cons | with_reducible apply s_nil | with_reducible apply s_tup | with_reducible apply s_lst | with_reducible apply s_lstM | with_reducible apply s_call | with_reducible apply s_trB | with_reducible apply iteT | with_reducible apply iteF | with_reducible apply s_par | ((with_reducible apply s_var); case h => first | assumption | exact rfl) | (with_reducible refine ⟨by simp [sizeLine_eq], ?_⟩))
  refine ⟨p, f, rfl, hp, fun L1 f1 a1 a2 => ?_⟩
  repeat (first | with_reducible refine s_seqN (by simp only [startR, List.map_cons, List.map_nil, List.length_cons, List.length_nil, List.replicate, List.cons_append, List.nil_append, List.getElem?_cons_zero, List.getElem?_cons_succ, List.set_cons_zero, List.set_cons_succ]; exact rfl) ?_ | with_reducible apply s_seq | with_reducible apply s_asg | with_reducible apply s_name | with_reducible apply s_next | with_reducible apply s_ret | with_reducible apply s_retN | with_reducible apply s_drop | with_reducible apply s_if | with_reducible apply s_for | with_reducible apply s_and | with_reducible apply s_or | with_reducible apply s_not | with_reducible apply s_B | with_reducible apply s_mB | with_reducible apply s_addI | with_reducible apply s_subI | with_reducible apply s_cmpI | with_reducible apply s_eqI | with_reducible apply s_minI | with_reducible apply s_maxI | with_reducible apply s_meth | with_reducible apply s_Tr | with_reducible apply s_op | with_reducible apply s_c | with_reducible apply s_ifE | with_reducible apply s_andV | with_reducible apply s_orV | with_reducible apply s_notV | with_reducible apply s_b1 | with_reducible apply s_cons | with_reducible apply s_nil | with_reducible apply s_tup | with_reducible apply s_lst | with_reducible apply s_lstM | with_reducible apply s_call | with_reducible apply s_trB | with_reducible apply iteT | with_reducible apply iteF | with_reducible apply s_par | ((with_reducible apply s_var); case h => first | assumption | exact rfl) | (with_reducible refine ⟨by simp [sizeLine_eq], ?_⟩))
  refine ⟨p, f1, rfl, updM_same, fun L2 f2 b1 b2 => ?_⟩
  rw [updM_updM]
  repeat (first | with_reducible refine s_seqN (by simp only [startR, List.map_cons, List.map_nil, List.length_cons, List.length_nil, List.replicate, List.cons_append, List.nil_append, List.getElem?_cons_zero, List.getElem?_cons_succ, List.set_cons_zero, List.set_cons_succ]; exact rfl) ?_ | with_reducible apply s_seq | with_reducible apply s_asg | with_reducible apply s_name | with_reducible apply s_next | with_reducible apply s_ret | with_reducible apply s_retN | with_reducible apply s_drop | with_reducible apply s_if | with_reducible apply s_for | with_reducible apply s_and | with_reducible apply s_or | with_reducible apply s_not | with_reducible apply s_B | with_reducible apply s_mB | with_reducible apply s_addI | with_reducible apply s_subI | with_reducible apply s_cmpI | with_reducible apply s_eqI | with_reducible apply s_minI | with_reducible apply s_maxI | with_reducible apply s_meth | with_reducible apply s_Tr | with_reducible apply s_op | with_reducible apply s_c | with_reducible apply s_ifE | with_reducible apply s_andV | with_reducible apply s_orV | with_reducible apply s_notV | with_reducible apply s_b1 | with_reducible apply s_cons | with_reducible apply s_nil | with_reducible apply s_tup | with_reducible apply s_lst | with_reducible apply s_lstM | with_reducible apply s_call | with_reducible apply s_trB | with_reducible apply iteT | with_reducible apply iteF | with_reducible apply s_par | ((with_reducible apply s_var); case h => first | assumption | exact rfl) | (with_reducible refine ⟨by simp [sizeLine_eq], ?_⟩))
  refine ⟨p, f2, 2, rfl, updM_same, by decide, by decide, fun v f3 v0 v2 => ?_⟩
  rw [updM_updM]
  repeat (first | with_reducible refine s_seqN (by simp only [startR, List.map_cons, List.map_nil, List.length_cons, List.length_nil, List.replicate, List.cons_append, List.nil_append, List.getElem?_cons_zero, List.getElem?_cons_succ, List.set_cons_zero, List.set_cons_succ]; exact rfl) ?_ | with_reducible apply s_seq | with_reducible apply s_asg | with_reducible apply s_name | with_reducible apply s_next | with_reducible apply s_ret | with_reducible apply s_retN | with_reducible apply s_drop | with_reducible apply s_if | with_reducible apply s_for | with_reducible apply s_and | with_reducible apply s_or | with_reducible apply s_not | with_reducible apply s_B | with_reducible apply s_mB | with_reducible apply s_addI | with_reducible apply s_subI | with_reducible apply s_cmpI | with_reducible apply s_eqI | with_reducible apply s_minI | with_reducible apply s_maxI | with_reducible apply s_meth | with_reducible apply s_Tr | with_reducible apply s_op | with_reducible apply s_c | with_reducible apply s_ifE | with_reducible apply s_andV | with_reducible apply s_orV | with_reducible apply s_notV | with_reducible apply s_b1 | with_reducible apply s_cons | with_reducible apply s_nil | with_reducible apply s_tup | with_reducible apply s_lst | with_reducible apply s_lstM | with_reducible apply s_call | with_reducible apply s_trB | with_reducible apply iteT | with_reducible apply iteF | with_reducible apply s_par | ((with_reducible apply s_var); case h => first | assumption | exact rfl) | (with_reducible refine ⟨by simp [sizeLine_eq], ?_⟩))
  exact fin0 (h ⟨L1, L2, _⟩ f3 ⟨okS_of a1 a2, okS_of b1 b2⟩)
theorem q_law_all : Pure ["parts", "found", "time"] sp_law_all t_law_all := by
  rintro ds M P PE ⟨d, x, rfl, hd, hx, h⟩
  unfold t_law_all
  have l1 := times_len x.a
  have l2 := times_len x.b
  repeat (first | with_reducible refine s_seqN (by simp only [startR, List.map_cons, List.map_nil, List.length_cons, List.length_nil, List.replicate, List.cons_append, List.nil_append, List.getElem?_cons_zero, List.getElem?_cons_succ, List.set_cons_zero, List.set_cons_succ]; exact rfl) ?_ | with_reducible apply s_seq | with_reducible apply s_asg | with_reducible apply s_name | with_reducible apply s_next | with_reducible apply s_ret | with_reducible apply s_retN | with_reducible apply s_drop | with_reducible apply s_if | with_reducible apply s_for | with_reducible apply s_and | with_reducible apply s_or | with_reducible apply s_not | with_reducible apply s_B | with_reducible apply s_mB | with_reducible apply s_addI | with_reducible apply s_subI | with_reducible apply s_cmpI | with_reducible apply s_eqI | with_reducible apply s_minI | with_reducible apply s_maxI | with_reducible apply s_meth | with_reducible apply s_Tr | with_reducible apply s_op | with_reducible apply s_c | with_reducible apply s_ifE | with_reducible apply s_andV | with_reducible apply s_orV | with_reducible apply s_notV | with_reducible apply s_b1 | with_reducible apply s_cons | with_reducible apply s_nil | with_reducible apply s_tup | with_reducible apply s_lst | with_reducible apply s_lstM | with_reducible apply s_call | with_reducible apply s_trB | with_reducible apply iteT | with_reducible apply iteF | with_reducible apply s_par | ((with_reducible apply s_var); case h => first | assumption | exact rfl) | (with_reducible refine ⟨by simp [sizeLine_eq], ?_⟩))
  with_reducible refine s_lc ?_
  with_reducible refine s_itemM ?_
  repeat (first | with_reducible refine s_seqN (by simp only [startR, List.map_cons, List.map_nil, List.length_cons, List.length_nil, List.replicate, List.cons_append, List.nil_append, List.getElem?_cons_zero, List.getElem?_cons_succ, List.set_cons_zero, List.set_cons_succ]; exact rfl) ?_ | with_reducible apply s_seq | with_reducible apply s_asg | with_reducible apply s_name | with_reducible apply s_next | with_reducible apply s_ret | with_reducible apply s_retN | with_reducible apply s_drop | with_reducible apply s_if | with_reducible apply s_for | with_reducible apply s_and | with_reducible apply s_or | with_reducible apply s_not | with_reducible apply s_B | with_reducible apply s_mB | with_reducible apply s_addI | with_reducible apply s_subI | with_reducible apply s_cmpI | with_reducible apply s_eqI | with_reducible apply s_minI | with_reducible apply s_maxI | with_reducible apply s_meth | with_reducible apply s_Tr | with_reducible apply s_op | with_reducible apply s_c | with_reducible apply s_ifE | with_reducible apply s_andV | with_reducible apply s_orV | with_reducible apply s_notV | with_reducible apply s_b1 | with_reducible apply s_cons | with_reducible apply s_nil | with_reducible apply s_tup | with_reducible apply s_lst | with_reducible apply s_lstM | with_reducible apply s_call | with_reducible apply s_trB | with_reducible apply iteT | with_reducible apply iteF | with_reducible apply s_par | ((with_reducible apply s_var); case h => first | assumption | exact rfl) | (with_reducible refine ⟨by simp [sizeLine_eq], ?_⟩))
  refine ix_pt0 hd ?_
  repeat (first | with_reducible refine s_seqN (by simp only [startR, List.map_cons, List.map_nil, List.length_cons, List.length_nil, List.replicate, List.cons_append, List.nil_append, List.getElem?_cons_zero, List.getElem?_cons_succ, List.set_cons_zero, List.set_cons_succ]; exact rfl) ?_ | with_reducible apply s_seq | with_reducible apply s_asg | with_reducible apply s_name | with_reducible apply s_next | with_reducible apply s_ret | with_reducible apply s_retN | with_reducible apply s_drop | with_reducible apply s_if | with_reducible apply s_for | with_reducible apply s_and | with_reducible apply s_or | with_reducible apply s_not | with_reducible apply s_B | with_reducible apply s_mB | with_reducible apply s_addI | with_reducible apply s_subI | with_reducible apply s_cmpI | with_reducible apply s_eqI | with_reducible apply s_minI | with_reducible apply s_maxI | with_reducible apply s_meth | with_reducible apply s_Tr | with_reducible apply s_op | with_reducible apply s_c | with_reducible apply s_ifE | with_reducible apply s_andV | with_reducible apply s_orV | with_reducible apply s_notV | with_reducible apply s_b1 | with_reducible apply s_cons | with_reducible apply s_nil | with_reducible apply s_tup | with_reducible apply s_lst | with_reducible apply s_lstM | with_reducible apply s_call | with_reducible apply s_trB | with_reducible apply iteT | with_reducible apply iteF | with_reducible apply s_par | ((with_reducible apply s_var); case h => first | assumption | exact rfl) | (with_reducible refine ⟨by simp [sizeLine_eq], ?_⟩))
  refine ⟨x.a, rfl, hx.a, ?_⟩
  refine mItem_lst ?_
  intro p hp
  refine dLc_mapA (f := fun d => .tup [.str "ok", d]) hp (fun _ => trivial) _ _ (fun d hd acc Kt k1 => ?_) (by rw [List.length_map, sizeLine_eq]; simp; omega) ?_
  · simp only [wipeR, List.foldl, startR, List.map_cons, List.map_nil, List.length_cons, List.length_nil, List.replicate, List.cons_append, List.nil_append, List.getElem?_cons_zero, List.getElem?_cons_succ, List.set_cons_zero, List.set_cons_succ, sizeLine_eq, Nat.reduceAdd, Nat.reduceLeDiff, Nat.reduceLT, Nat.zero_le, true_and]
    repeat (first | with_reducible refine s_seqN (by simp only [startR, List.map_cons, List.map_nil, List.length_cons, List.length_nil, List.replicate, List.cons_append, List.nil_append, List.getElem?_cons_zero, List.getElem?_cons_succ, List.set_cons_zero, List.set_cons_succ]; exact rfl) ?_ | with_reducible apply s_seq | with_reducible apply s_asg | with_reducible apply s_name | with_reducible apply s_next | with_reducible apply s_ret | with_reducible apply s_retN | with_reducible apply s_drop | with_reducible apply s_if | with_reducible apply s_for | with_reducible apply s_and | with_reducible apply s_or | with_reducible apply s_not | with_reducible apply s_B | with_reducible apply s_mB | with_reducible apply s_addI | with_reducible apply s_subI | with_reducible apply s_cmpI | with_reducible apply s_eqI | with_reducible apply s_minI | with_reducible apply s_maxI | with_reducible apply s_meth | with_reducible apply s_Tr | with_reducible apply s_op | with_reducible apply s_c | with_reducible apply s_ifE | with_reducible apply s_andV | with_reducible apply s_orV | with_reducible apply s_notV | with_reducible apply s_b1 | with_reducible apply s_cons | with_reducible apply s_nil | with_reducible apply s_tup | with_reducible apply s_lst | with_reducible apply s_lstM | with_reducible apply s_call | with_reducible apply s_trB | with_reducible apply iteT | with_reducible apply iteF | with_reducible apply s_par | ((with_reducible apply s_var); case h => first | assumption | exact rfl) | (with_reducible refine ⟨by simp [sizeLine_eq], ?_⟩))
    exact k1
  with_reducible refine s_lc ?_
  with_reducible refine s_itemM ?_
  repeat (first | with_reducible refine s_seqN (by simp only [startR, List.map_cons, List.map_nil, List.length_cons, List.length_nil, List.replicate, List.cons_append, List.nil_append, List.getElem?_cons_zero, List.getElem?_cons_succ, List.set_cons_zero, List.set_cons_succ]; exact rfl) ?_ | with_reducible apply s_seq | with_reducible apply s_asg | with_reducible apply s_name | with_reducible apply s_next | with_reducible apply s_ret | with_reducible apply s_retN | with_reducible apply s_drop | with_reducible apply s_if | with_reducible apply s_for | with_reducible apply s_and | with_reducible apply s_or | with_reducible apply s_not | with_reducible apply s_B | with_reducible apply s_mB | with_reducible apply s_addI | with_reducible apply s_subI | with_reducible apply s_cmpI | with_reducible apply s_eqI | with_reducible apply s_minI | with_reducible apply s_maxI | with_reducible apply s_meth | with_reducible apply s_Tr | with_reducible apply s_op | with_reducible apply s_c | with_reducible apply s_ifE | with_reducible apply s_andV | with_reducible apply s_orV | with_reducible apply s_notV | with_reducible apply s_b1 | with_reducible apply s_cons | with_reducible apply s_nil | with_reducible apply s_tup | with_reducible apply s_lst | with_reducible apply s_lstM | with_reducible apply s_call | with_reducible apply s_trB | with_reducible apply iteT | with_reducible apply iteF | with_reducible apply s_par | ((with_reducible apply s_var); case h => first | assumption | exact rfl) | (with_reducible refine ⟨by simp [sizeLine_eq], ?_⟩))
  refine ix_pt1 hd ?_
  repeat (first | with_reducible refine s_seqN (by simp only [startR, List.map_cons, List.map_nil, List.length_cons, List.length_nil, List.replicate, List.cons_append, List.nil_append, List.getElem?_cons_zero, List.getElem?_cons_succ, List.set_cons_zero, List.set_cons_succ]; exact rfl) ?_ | with_reducible apply s_seq | with_reducible apply s_asg | with_reducible apply s_name | with_reducible apply s_next | with_reducible apply s_ret | with_reducible apply s_retN | with_reducible apply s_drop | with_reducible apply s_if | with_reducible apply s_for | with_reducible apply s_and | with_reducible apply s_or | with_reducible apply s_not | with_reducible apply s_B | with_reducible apply s_mB | with_reducible apply s_addI | with_reducible apply s_subI | with_reducible apply s_cmpI | with_reducible apply s_eqI | with_reducible apply s_minI | with_reducible apply s_maxI | with_reducible apply s_meth | with_reducible apply s_Tr | with_reducible apply s_op | with_reducible apply s_c | with_reducible apply s_ifE | with_reducible apply s_andV | with_reducible apply s_orV | with_reducible apply s_notV | with_reducible apply s_b1 | with_reducible apply s_cons | with_reducible apply s_nil | with_reducible apply s_tup | with_reducible apply s_lst | with_reducible apply s_lstM | with_reducible apply s_call | with_reducible apply s_trB | with_reducible apply iteT | with_reducible apply iteF | with_reducible apply s_par | ((with_reducible apply s_var); case h => first | assumption | exact rfl) | (with_reducible refine ⟨by simp [sizeLine_eq], ?_⟩))
  refine ⟨x.b, rfl, hx.b, ?_⟩
  refine mItem_lst ?_
  intro p hp
  refine dLc_mapA (f := fun d => .tup [.str "fail", d]) hp (fun _ => trivial) _ _ (fun d hd acc Kt k1 => ?_) (by rw [List.length_map, sizeLine_eq]; simp; omega) ?_
  · simp only [wipeR, List.foldl, startR, List.map_cons, List.map_nil, List.length_cons, List.length_nil, List.replicate, List.cons_append, List.nil_append, List.getElem?_cons_zero, List.getElem?_cons_succ, List.set_cons_zero, List.set_cons_succ, sizeLine_eq, Nat.reduceAdd, Nat.reduceLeDiff, Nat.reduceLT, Nat.zero_le, true_and]
    repeat (first | with_reducible refine s_seqN (by simp only [startR, List.map_cons, List.map_nil, List.length_cons, List.length_nil, List.replicate, List.cons_append, List.nil_append, List.getElem?_cons_zero, List.getElem?_cons_succ, List.set_cons_zero, List.set_cons_succ]; exact rfl) ?_ | with_reducible apply s_seq | with_reducible apply s_asg | with_reducible apply s_name | with_reducible apply s_next | with_reducible apply s_ret | with_reducible apply s_retN | with_reducible apply s_drop | with_reducible apply s_if | with_reducible apply s_for | with_reducible apply s_and | with_reducible apply s_or | with_reducible apply s_not | with_reducible apply s_B | with_reducible apply s_mB | with_reducible apply s_addI | with_reducible apply s_subI | with_reducible apply s_cmpI | with_reducible apply s_eqI | with_reducible apply s_minI | with_reducible apply s_maxI | with_reducible apply s_meth | with_reducible apply s_Tr | with_reducible apply s_op | with_reducible apply s_c | with_reducible apply s_ifE | with_reducible apply s_andV | with_reducible apply s_orV | with_reducible apply s_notV | with_reducible apply s_b1 | with_reducible apply s_cons | with_reducible apply s_nil | with_reducible apply s_tup | with_reducible apply s_lst | with_reducible apply s_lstM | with_reducible apply s_call | with_reducible apply s_trB | with_reducible apply iteT | with_reducible apply iteF | with_reducible apply s_par | ((with_reducible apply s_var); case h => first | assumption | exact rfl) | (with_reducible refine ⟨by simp [sizeLine_eq], ?_⟩))
    exact k1
  have e1 : ([] ++ ((timesOf x.a).map D.int).map fun d => D.tup [.str "ok", d]) = ((timesOf x.a).map fun t => (some (true, t) : Rp)).map repD := by
    rw [List.nil_append, List.map_map, List.map_map]
    rfl
  have e2 : ([] ++ ((timesOf x.b).map D.int).map fun d => D.tup [.str "fail", d]) = ((timesOf x.b).map fun t => (some (false, t) : Rp)).map repD := by
    rw [List.nil_append, List.map_map, List.map_map]
    rfl
  rw [e1, e2]
  refine s_addL (by simp only [List.length_map, sizeLine_eq]; omega) ?_
  rw [← List.map_append]
  repeat (first | with_reducible refine s_seqN (by simp only [startR, List.map_cons, List.map_nil, List.length_cons, List.length_nil, List.replicate, List.cons_append, List.nil_append, List.getElem?_cons_zero, List.getElem?_cons_succ, List.set_cons_zero, List.set_cons_succ]; exact rfl) ?_ | with_reducible apply s_seq | with_reducible apply s_asg | with_reducible apply s_name | with_reducible apply s_next | with_reducible apply s_ret | with_reducible apply s_retN | with_reducible apply s_drop | with_reducible apply s_if | with_reducible apply s_for | with_reducible apply s_and | with_reducible apply s_or | with_reducible apply s_not | with_reducible apply s_B | with_reducible apply s_mB | with_reducible apply s_addI | with_reducible apply s_subI | with_reducible apply s_cmpI | with_reducible apply s_eqI | with_reducible apply s_minI | with_reducible apply s_maxI | with_reducible apply s_meth | with_reducible apply s_Tr | with_reducible apply s_op | with_reducible apply s_c | with_reducible apply s_ifE | with_reducible apply s_andV | with_reducible apply s_orV | with_reducible apply s_notV | with_reducible apply s_b1 | with_reducible apply s_cons | with_reducible apply s_nil | with_reducible apply s_tup | with_reducible apply s_lst | with_reducible apply s_lstM | with_reducible apply s_call | with_reducible apply s_trB | with_reducible apply iteT | with_reducible apply iteF | with_reducible apply s_par | ((with_reducible apply s_var); case h => first | assumption | exact rfl) | (with_reducible refine ⟨by simp [sizeLine_eq], ?_⟩))
  refine ix_pt2 hd ?_
  simp only [daNil, rcIntB]
  have fin : ∀ n : Bool, x.n = n → rdMul (.lst [.tup [.str "never"]]) (.int (if n = true then 1 else 0)) M fun y M2 => rdAdd (.lst ((((timesOf x.a).map fun t => (some (true, t) : Rp)) ++ ((timesOf x.b).map fun t => (some (false, t) : Rp))).map repD)) y M2 (finP P) := fun n hn => by
    have ea : allR x = ((timesOf x.a).map fun t => (some (true, t) : Rp)) ++ ((timesOf x.b).map fun t => (some (false, t) : Rp)) ++ (if n = true then [none] else []) := by rw [← hn]; rfl
    rw [ea, List.map_append] at h
    cases n with
    | true =>
      refine s_mulL (by decide) (by decide) (by decide) ?_
      refine s_addL (by simp only [List.length_map, List.length_append, sizeLine_eq]; simp; omega) ?_
      exact fin0 h
    | false =>
      refine s_mulL (by decide) (by decide) (by decide) ?_
      refine s_addL (by simp only [List.length_map, List.length_append, sizeLine_eq]; simp; omega) ?_
      exact fin0 h
  exact fin x.n rfl
theorem q_law_worst : Pure ["parts"] sp_law_worst t_law_worst := by
  rintro ds M P PE ⟨d, x, rfl, hd, hx, hy, hn⟩
  unfold t_law_worst
  have l1 := times_len x.a
  have l2 := times_len x.b
  repeat (first | with_reducible refine s_seqN (by simp only [startR, List.map_cons, List.map_nil, List.length_cons, List.length_nil, List.replicate, List.cons_append, List.nil_append, List.getElem?_cons_zero, List.getElem?_cons_succ, List.set_cons_zero, List.set_cons_succ]; exact rfl) ?_ | with_reducible apply s_seq | with_reducible apply s_asg | with_reducible apply s_name | with_reducible apply s_next | with_reducible apply s_ret | with_reducible apply s_retN | with_reducible apply s_drop | with_reducible apply s_if | with_reducible apply s_for | with_reducible apply s_and | with_reducible apply s_or | with_reducible apply s_not | with_reducible apply s_B | with_reducible apply s_mB | with_reducible apply s_addI | with_reducible apply s_subI | with_reducible apply s_cmpI | with_reducible apply s_eqI | with_reducible apply s_minI | with_reducible apply s_maxI | with_reducible apply s_meth | with_reducible apply s_Tr | with_reducible apply s_op | with_reducible apply s_c | with_reducible apply s_ifE | with_reducible apply s_andV | with_reducible apply s_orV | with_reducible apply s_notV | with_reducible apply s_b1 | with_reducible apply s_cons | with_reducible apply s_nil | with_reducible apply s_tup | with_reducible apply s_lst | with_reducible apply s_lstM | with_reducible apply s_call | with_reducible apply s_trB | with_reducible apply iteT | with_reducible apply iteF | with_reducible apply s_par | ((with_reducible apply s_var); case h => first | assumption | exact rfl) | (with_reducible refine ⟨by simp [sizeLine_eq], ?_⟩))
  refine ix_pt2 hd ?_
  repeat (first | with_reducible refine s_seqN (by simp only [startR, List.map_cons, List.map_nil, List.length_cons, List.length_nil, List.replicate, List.cons_append, List.nil_append, List.getElem?_cons_zero, List.getElem?_cons_succ, List.set_cons_zero, List.set_cons_succ]; exact rfl) ?_ | with_reducible apply s_seq | with_reducible apply s_asg | with_reducible apply s_name | with_reducible apply s_next | with_reducible apply s_ret | with_reducible apply s_retN | with_reducible apply s_drop | with_reducible apply s_if | with_reducible apply s_for | with_reducible apply s_and | with_reducible apply s_or | with_reducible apply s_not | with_reducible apply s_B | with_reducible apply s_mB | with_reducible apply s_addI | with_reducible apply s_subI | with_reducible apply s_cmpI | with_reducible apply s_eqI | with_reducible apply s_minI | with_reducible apply s_maxI | with_reducible apply s_meth | with_reducible apply s_Tr | with_reducible apply s_op | with_reducible apply s_c | with_reducible apply s_ifE | with_reducible apply s_andV | with_reducible apply s_orV | with_reducible apply s_notV | with_reducible apply s_b1 | with_reducible apply s_cons | with_reducible apply s_nil | with_reducible apply s_tup | with_reducible apply s_lst | with_reducible apply s_lstM | with_reducible apply s_call | with_reducible apply s_trB | with_reducible apply iteT | with_reducible apply iteF | with_reducible apply s_par | ((with_reducible apply s_var); case h => first | assumption | exact rfl) | (with_reducible refine ⟨by simp [sizeLine_eq], ?_⟩))
  refine s_ite (fun h1 => ?_) fun h1 => ?_
  · repeat (first | with_reducible refine s_seqN (by simp only [startR, List.map_cons, List.map_nil, List.length_cons, List.length_nil, List.replicate, List.cons_append, List.nil_append, List.getElem?_cons_zero, List.getElem?_cons_succ, List.set_cons_zero, List.set_cons_succ]; exact rfl) ?_ | with_reducible apply s_seq | with_reducible apply s_asg | with_reducible apply s_name | with_reducible apply s_next | with_reducible apply s_ret | with_reducible apply s_retN | with_reducible apply s_drop | with_reducible apply s_if | with_reducible apply s_for | with_reducible apply s_and | with_reducible apply s_or | with_reducible apply s_not | with_reducible apply s_B | with_reducible apply s_mB | with_reducible apply s_addI | with_reducible apply s_subI | with_reducible apply s_cmpI | with_reducible apply s_eqI | with_reducible apply s_minI | with_reducible apply s_maxI | with_reducible apply s_meth | with_reducible apply s_Tr | with_reducible apply s_op | with_reducible apply s_c | with_reducible apply s_ifE | with_reducible apply s_andV | with_reducible apply s_orV | with_reducible apply s_notV | with_reducible apply s_b1 | with_reducible apply s_cons | with_reducible apply s_nil | with_reducible apply s_tup | with_reducible apply s_lst | with_reducible apply s_lstM | with_reducible apply s_call | with_reducible apply s_trB | with_reducible apply iteT | with_reducible apply iteF | with_reducible apply s_par | ((with_reducible apply s_var); case h => first | assumption | exact rfl) | (with_reducible refine ⟨by simp [sizeLine_eq], ?_⟩))
    exact fin0 (hy h1)
  · repeat (first | with_reducible refine s_seqN (by simp only [startR, List.map_cons, List.map_nil, List.length_cons, List.length_nil, List.replicate, List.cons_append, List.nil_append, List.getElem?_cons_zero, List.getElem?_cons_succ, List.set_cons_zero, List.set_cons_succ]; exact rfl) ?_ | with_reducible apply s_seq | with_reducible apply s_asg | with_reducible apply s_name | with_reducible apply s_next | with_reducible apply s_ret | with_reducible apply s_retN | with_reducible apply s_drop | with_reducible apply s_if | with_reducible apply s_for | with_reducible apply s_and | with_reducible apply s_or | with_reducible apply s_not | with_reducible apply s_B | with_reducible apply s_mB | with_reducible apply s_addI | with_reducible apply s_subI | with_reducible apply s_cmpI | with_reducible apply s_eqI | with_reducible apply s_minI | with_reducible apply s_maxI | with_reducible apply s_meth | with_reducible apply s_Tr | with_reducible apply s_op | with_reducible apply s_c | with_reducible apply s_ifE | with_reducible apply s_andV | with_reducible apply s_orV | with_reducible apply s_notV | with_reducible apply s_b1 | with_reducible apply s_cons | with_reducible apply s_nil | with_reducible apply s_tup | with_reducible apply s_lst | with_reducible apply s_lstM | with_reducible apply s_call | with_reducible apply s_trB | with_reducible apply iteT | with_reducible apply iteF | with_reducible apply s_par | ((with_reducible apply s_var); case h => first | assumption | exact rfl) | (with_reducible refine ⟨by simp [sizeLine_eq], ?_⟩))
    refine ix_pt0 hd ?_
    repeat (first | with_reducible refine s_seqN (by simp only [startR, List.map_cons, List.map_nil, List.length_cons, List.length_nil, List.replicate, List.cons_append, List.nil_append, List.getElem?_cons_zero, List.getElem?_cons_succ, List.set_cons_zero, List.set_cons_succ]; exact rfl) ?_ | with_reducible apply s_seq | with_reducible apply s_asg | with_reducible apply s_name | with_reducible apply s_next | with_reducible apply s_ret | with_reducible apply s_retN | with_reducible apply s_drop | with_reducible apply s_if | with_reducible apply s_for | with_reducible apply s_and | with_reducible apply s_or | with_reducible apply s_not | with_reducible apply s_B | with_reducible apply s_mB | with_reducible apply s_addI | with_reducible apply s_subI | with_reducible apply s_cmpI | with_reducible apply s_eqI | with_reducible apply s_minI | with_reducible apply s_maxI | with_reducible apply s_meth | with_reducible apply s_Tr | with_reducible apply s_op | with_reducible apply s_c | with_reducible apply s_ifE | with_reducible apply s_andV | with_reducible apply s_orV | with_reducible apply s_notV | with_reducible apply s_b1 | with_reducible apply s_cons | with_reducible apply s_nil | with_reducible apply s_tup | with_reducible apply s_lst | with_reducible apply s_lstM | with_reducible apply s_call | with_reducible apply s_trB | with_reducible apply iteT | with_reducible apply iteF | with_reducible apply s_par | ((with_reducible apply s_var); case h => first | assumption | exact rfl) | (with_reducible refine ⟨by simp [sizeLine_eq], ?_⟩))
    refine ⟨x.a, rfl, hx.a, ?_⟩
    have e1 : (D.int 0 :: (timesOf x.a).map D.int) = ((0 : Int) :: timesOf x.a).map D.int := rfl
    refine s_addL (xs := [.int 0]) (by simp only [List.length_map, List.length_cons, List.length_nil, sizeLine_eq]; omega) ?_
    rw [List.singleton_append, e1]
    repeat (first | with_reducible refine s_seqN (by simp only [startR, List.map_cons, List.map_nil, List.length_cons, List.length_nil, List.replicate, List.cons_append, List.nil_append, List.getElem?_cons_zero, List.getElem?_cons_succ, List.set_cons_zero, List.set_cons_succ]; exact rfl) ?_ | with_reducible apply s_seq | with_reducible apply s_asg | with_reducible apply s_name | with_reducible apply s_next | with_reducible apply s_ret | with_reducible apply s_retN | with_reducible apply s_drop | with_reducible apply s_if | with_reducible apply s_for | with_reducible apply s_and | with_reducible apply s_or | with_reducible apply s_not | with_reducible apply s_B | with_reducible apply s_mB | with_reducible apply s_addI | with_reducible apply s_subI | with_reducible apply s_cmpI | with_reducible apply s_eqI | with_reducible apply s_minI | with_reducible apply s_maxI | with_reducible apply s_meth | with_reducible apply s_Tr | with_reducible apply s_op | with_reducible apply s_c | with_reducible apply s_ifE | with_reducible apply s_andV | with_reducible apply s_orV | with_reducible apply s_notV | with_reducible apply s_b1 | with_reducible apply s_cons | with_reducible apply s_nil | with_reducible apply s_tup | with_reducible apply s_lst | with_reducible apply s_lstM | with_reducible apply s_call | with_reducible apply s_trB | with_reducible apply iteT | with_reducible apply iteF | with_reducible apply s_par | ((with_reducible apply s_var); case h => first | assumption | exact rfl) | (with_reducible refine ⟨by simp [sizeLine_eq], ?_⟩))
    refine ix_pt1 hd ?_
    repeat (first | with_reducible refine s_seqN (by simp only [startR, List.map_cons, List.map_nil, List.length_cons, List.length_nil, List.replicate, List.cons_append, List.nil_append, List.getElem?_cons_zero, List.getElem?_cons_succ, List.set_cons_zero, List.set_cons_succ]; exact rfl) ?_ | with_reducible apply s_seq | with_reducible apply s_asg | with_reducible apply s_name | with_reducible apply s_next | with_reducible apply s_ret | with_reducible apply s_retN | with_reducible apply s_drop | with_reducible apply s_if | with_reducible apply s_for | with_reducible apply s_and | with_reducible apply s_or | with_reducible apply s_not | with_reducible apply s_B | with_reducible apply s_mB | with_reducible apply s_addI | with_reducible apply s_subI | with_reducible apply s_cmpI | with_reducible apply s_eqI | with_reducible apply s_minI | with_reducible apply s_maxI | with_reducible apply s_meth | with_reducible apply s_Tr | with_reducible apply s_op | with_reducible apply s_c | with_reducible apply s_ifE | with_reducible apply s_andV | with_reducible apply s_orV | with_reducible apply s_notV | with_reducible apply s_b1 | with_reducible apply s_cons | with_reducible apply s_nil | with_reducible apply s_tup | with_reducible apply s_lst | with_reducible apply s_lstM | with_reducible apply s_call | with_reducible apply s_trB | with_reducible apply iteT | with_reducible apply iteF | with_reducible apply s_par | ((with_reducible apply s_var); case h => first | assumption | exact rfl) | (with_reducible refine ⟨by simp [sizeLine_eq], ?_⟩))
    refine ⟨x.b, rfl, hx.b, ?_⟩
    refine s_addL (by simp only [List.length_map, List.length_cons, List.length_nil, sizeLine_eq]; omega) ?_
    rw [← List.map_append]
    repeat (first | with_reducible refine s_seqN (by simp only [startR, List.map_cons, List.map_nil, List.length_cons, List.length_nil, List.replicate, List.cons_append, List.nil_append, List.getElem?_cons_zero, List.getElem?_cons_succ, List.set_cons_zero, List.set_cons_succ]; exact rfl) ?_ | with_reducible apply s_seq | with_reducible apply s_asg | with_reducible apply s_name | with_reducible apply s_next | with_reducible apply s_ret | with_reducible apply s_retN | with_reducible apply s_drop | with_reducible apply s_if | with_reducible apply s_for | with_reducible apply s_and | with_reducible apply s_or | with_reducible apply s_not | with_reducible apply s_B | with_reducible apply s_mB | with_reducible apply s_addI | with_reducible apply s_subI | with_reducible apply s_cmpI | with_reducible apply s_eqI | with_reducible apply s_minI | with_reducible apply s_maxI | with_reducible apply s_meth | with_reducible apply s_Tr | with_reducible apply s_op | with_reducible apply s_c | with_reducible apply s_ifE | with_reducible apply s_andV | with_reducible apply s_orV | with_reducible apply s_notV | with_reducible apply s_b1 | with_reducible apply s_cons | with_reducible apply s_nil | with_reducible apply s_tup | with_reducible apply s_lst | with_reducible apply s_lstM | with_reducible apply s_call | with_reducible apply s_trB | with_reducible apply iteT | with_reducible apply iteF | with_reducible apply s_par | ((with_reducible apply s_var); case h => first | assumption | exact rfl) | (with_reducible refine ⟨by simp [sizeLine_eq], ?_⟩))
    refine rcMax_ints (by simp) fun m hm hle => ?_
    refine fin0 (hn h1 m ⟨hle 0 (by simp), fun t ht => hle t ?_, ?_⟩)
    · rcases ht with ht | ht
      · exact List.mem_append_left _ (List.mem_cons_of_mem _ ((mem_times hx.a).mpr ht))
      · exact List.mem_append_right _ ((mem_times hx.b).mpr ht)
    · rcases List.mem_append.mp hm with hm | hm
      · rcases List.mem_cons.mp hm with hm | hm
        · exact .inl hm
        · exact .inr (.inl ((mem_times hx.a).mp hm))
      · exact .inr (.inr ((mem_times hx.b).mp hm))
theorem dLc_filtM {α : Type} {L : Store → Prop} {g : DTG} {tt : DTT} {te : DTE} {p : Addr} {ρ : Ro} {c : α → Bool} {h : α → D} {M : Store} {Q : List D → Store → Prop} (hp : M p = none) (hL : ∀ acc, L (updM M p (.lst acc))) :
    ∀ (l : List α) (acc : List D), (∀ x ∈ l, ∀ acc (Kt : D → Store → Prop) (Kf : Store → Prop), (c x = true → Kt (h x) (updM M p (.lst acc))) → (c x = false → Kf (updM M p (.lst acc))) → g (h x) ρ (updM M p (.lst acc)) fun ρ2 M2 => tt ρ2 M2 fun b M3 => if b = true then te ρ2 M3 Kt else Kf M3) →
      acc.length + l.length ≤ sizeLine → Q (acc ++ (l.filter c).map h) M → dLcLoop L g tt te p ρ (l.map h) acc M Q
  | [], acc, _, _, q => ⟨hL acc, by simpa using q⟩
  | x :: l, acc, hh, hl, q => by
    refine ⟨hL acc, ?_⟩
    rw [List.length_cons] at hl
    refine hh x List.mem_cons_self acc _ _ (fun hc => ⟨M, rfl, hp, by omega, dLc_filtM hp hL l (acc ++ [h x]) (fun d hd => hh d (List.mem_cons_of_mem _ hd)) ?_ ?_⟩) (fun hc => ⟨M, rfl, hp, dLc_filtM hp hL l acc (fun d hd => hh d (List.mem_cons_of_mem _ hd)) (by omega) ?_⟩)
    · rw [List.length_append, List.length_singleton]
      omega
    · rw [List.append_assoc]
      simpa [List.filter_cons, hc] using q
    · simpa [List.filter_cons, hc] using q
/-- whether no outcome of the one lacks in the other -/
def dueB (x y : Pt) : Bool := decide ((allR x).filter (fun r => decide (r ∉ allR y)) = [])
theorem due_iff {x y : Pt} (hx : okPt x) (hy : okPt y) {b : Bool} (hb : b = true ↔ ∀ r, memO (nO x) r → memO (nO y) r) : b = dueB x y := by
  unfold dueB
  rw [Bool.eq_iff_iff, hb, decide_eq_true_eq, List.filter_eq_nil_iff]
  constructor
  · intro h r hr
    have := h r ((mem_all hx r).mp hr)
    simpa using (mem_all hy r).mpr this
  · intro h r hr
    have := h r ((mem_all hx r).mpr hr)
    exact (mem_all hy r).mp (by simpa using this)
theorem q_law_are_right : Pure ["first", "second", "one", "other", "mine", "yours", "due", "outcome"] sp_law_are_right t_law_are_right := by
  rintro ds M P PE ⟨d, e, x, y, rfl, hd, he, hx, hy, h⟩
  unfold t_law_are_right
  have lx := allR_len x
  have ly := allR_len y
  have same : decide (allR x = allR y) = decide (nO x = nO y) := by
    rw [Bool.eq_iff_iff, decide_eq_true_eq, decide_eq_true_eq]
    exact all_same hx hy
  repeat (first | with_reducible refine s_seqN (by simp only [startR, List.map_cons, List.map_nil, List.length_cons, List.length_nil, List.replicate, List.cons_append, List.nil_append, List.getElem?_cons_zero, List.getElem?_cons_succ, List.set_cons_zero, List.set_cons_succ]; exact rfl) ?_ | with_reducible apply s_seq | with_reducible apply s_asg | with_reducible apply s_name | with_reducible apply s_next | with_reducible apply s_ret | with_reducible apply s_retN | with_reducible apply s_drop | with_reducible apply s_if | with_reducible apply s_for | with_reducible apply s_and | with_reducible apply s_or | with_reducible apply s_not | with_reducible apply s_B | with_reducible apply s_mB | with_reducible apply s_addI | with_reducible apply s_subI | with_reducible apply s_cmpI | with_reducible apply s_eqI | with_reducible apply s_minI | with_reducible apply s_maxI | with_reducible apply s_meth | with_reducible apply s_Tr | with_reducible apply s_op | with_reducible apply s_c | with_reducible apply s_ifE | with_reducible apply s_andV | with_reducible apply s_orV | with_reducible apply s_notV | with_reducible apply s_b1 | with_reducible apply s_cons | with_reducible apply s_nil | with_reducible apply s_tup | with_reducible apply s_lst | with_reducible apply s_lstM | with_reducible apply s_call | with_reducible apply s_trB | with_reducible apply iteT | with_reducible apply iteF | with_reducible apply s_par | ((with_reducible apply s_var); case h => first | assumption | exact rfl) | (with_reducible refine ⟨by simp [sizeLine_eq], ?_⟩))
  refine ⟨d, x, rfl, hd, hx, ?_⟩
  repeat (first | with_reducible refine s_seqN (by simp only [startR, List.map_cons, List.map_nil, List.length_cons, List.length_nil, List.replicate, List.cons_append, List.nil_append, List.getElem?_cons_zero, List.getElem?_cons_succ, List.set_cons_zero, List.set_cons_succ]; exact rfl) ?_ | with_reducible apply s_seq | with_reducible apply s_asg | with_reducible apply s_name | with_reducible apply s_next | with_reducible apply s_ret | with_reducible apply s_retN | with_reducible apply s_drop | with_reducible apply s_if | with_reducible apply s_for | with_reducible apply s_and | with_reducible apply s_or | with_reducible apply s_not | with_reducible apply s_B | with_reducible apply s_mB | with_reducible apply s_addI | with_reducible apply s_subI | with_reducible apply s_cmpI | with_reducible apply s_eqI | with_reducible apply s_minI | with_reducible apply s_maxI | with_reducible apply s_meth | with_reducible apply s_Tr | with_reducible apply s_op | with_reducible apply s_c | with_reducible apply s_ifE | with_reducible apply s_andV | with_reducible apply s_orV | with_reducible apply s_notV | with_reducible apply s_b1 | with_reducible apply s_cons | with_reducible apply s_nil | with_reducible apply s_tup | with_reducible apply s_lst | with_reducible apply s_lstM | with_reducible apply s_call | with_reducible apply s_trB | with_reducible apply iteT | with_reducible apply iteF | with_reducible apply s_par | ((with_reducible apply s_var); case h => first | assumption | exact rfl) | (with_reducible refine ⟨by simp [sizeLine_eq], ?_⟩))
  refine ⟨e, y, rfl, he, hy, ?_⟩
  repeat (first | with_reducible refine s_seqN (by simp only [startR, List.map_cons, List.map_nil, List.length_cons, List.length_nil, List.replicate, List.cons_append, List.nil_append, List.getElem?_cons_zero, List.getElem?_cons_succ, List.set_cons_zero, List.set_cons_succ]; exact rfl) ?_ | with_reducible apply s_seq | with_reducible apply s_asg | with_reducible apply s_name | with_reducible apply s_next | with_reducible apply s_ret | with_reducible apply s_retN | with_reducible apply s_drop | with_reducible apply s_if | with_reducible apply s_for | with_reducible apply s_and | with_reducible apply s_or | with_reducible apply s_not | with_reducible apply s_B | with_reducible apply s_mB | with_reducible apply s_addI | with_reducible apply s_subI | with_reducible apply s_cmpI | with_reducible apply s_eqI | with_reducible apply s_minI | with_reducible apply s_maxI | with_reducible apply s_meth | with_reducible apply s_Tr | with_reducible apply s_op | with_reducible apply s_c | with_reducible apply s_ifE | with_reducible apply s_andV | with_reducible apply s_orV | with_reducible apply s_notV | with_reducible apply s_b1 | with_reducible apply s_cons | with_reducible apply s_nil | with_reducible apply s_tup | with_reducible apply s_lst | with_reducible apply s_lstM | with_reducible apply s_call | with_reducible apply s_trB | with_reducible apply iteT | with_reducible apply iteF | with_reducible apply s_par | ((with_reducible apply s_var); case h => first | assumption | exact rfl) | (with_reducible refine ⟨by simp [sizeLine_eq], ?_⟩))
  refine s_tup2 ?_
  repeat (first | with_reducible refine s_seqN (by simp only [startR, List.map_cons, List.map_nil, List.length_cons, List.length_nil, List.replicate, List.cons_append, List.nil_append, List.getElem?_cons_zero, List.getElem?_cons_succ, List.set_cons_zero, List.set_cons_succ]; exact rfl) ?_ | with_reducible apply s_seq | with_reducible apply s_asg | with_reducible apply s_name | with_reducible apply s_next | with_reducible apply s_ret | with_reducible apply s_retN | with_reducible apply s_drop | with_reducible apply s_if | with_reducible apply s_for | with_reducible apply s_and | with_reducible apply s_or | with_reducible apply s_not | with_reducible apply s_B | with_reducible apply s_mB | with_reducible apply s_addI | with_reducible apply s_subI | with_reducible apply s_cmpI | with_reducible apply s_eqI | with_reducible apply s_minI | with_reducible apply s_maxI | with_reducible apply s_meth | with_reducible apply s_Tr | with_reducible apply s_op | with_reducible apply s_c | with_reducible apply s_ifE | with_reducible apply s_andV | with_reducible apply s_orV | with_reducible apply s_notV | with_reducible apply s_b1 | with_reducible apply s_cons | with_reducible apply s_nil | with_reducible apply s_tup | with_reducible apply s_lst | with_reducible apply s_lstM | with_reducible apply s_call | with_reducible apply s_trB | with_reducible apply iteT | with_reducible apply iteF | with_reducible apply s_par | ((with_reducible apply s_var); case h => first | assumption | exact rfl) | (with_reducible refine ⟨by simp [sizeLine_eq], ?_⟩))
  refine opO_eq ?_
  repeat (first | with_reducible refine s_seqN (by simp only [startR, List.map_cons, List.map_nil, List.length_cons, List.length_nil, List.replicate, List.cons_append, List.nil_append, List.getElem?_cons_zero, List.getElem?_cons_succ, List.set_cons_zero, List.set_cons_succ]; exact rfl) ?_ | with_reducible apply s_seq | with_reducible apply s_asg | with_reducible apply s_name | with_reducible apply s_next | with_reducible apply s_ret | with_reducible apply s_retN | with_reducible apply s_drop | with_reducible apply s_if | with_reducible apply s_for | with_reducible apply s_and | with_reducible apply s_or | with_reducible apply s_not | with_reducible apply s_B | with_reducible apply s_mB | with_reducible apply s_addI | with_reducible apply s_subI | with_reducible apply s_cmpI | with_reducible apply s_eqI | with_reducible apply s_minI | with_reducible apply s_maxI | with_reducible apply s_meth | with_reducible apply s_Tr | with_reducible apply s_op | with_reducible apply s_c | with_reducible apply s_ifE | with_reducible apply s_andV | with_reducible apply s_orV | with_reducible apply s_notV | with_reducible apply s_b1 | with_reducible apply s_cons | with_reducible apply s_nil | with_reducible apply s_tup | with_reducible apply s_lst | with_reducible apply s_lstM | with_reducible apply s_call | with_reducible apply s_trB | with_reducible apply iteT | with_reducible apply iteF | with_reducible apply s_par | ((with_reducible apply s_var); case h => first | assumption | exact rfl) | (with_reducible refine ⟨by simp [sizeLine_eq], ?_⟩))
  refine s_eqReps ?_
  rw [same]
  refine s_eqB ?_
  refine s_iteF (by simp) ?_
  repeat (first | with_reducible refine s_seqN (by simp only [startR, List.map_cons, List.map_nil, List.length_cons, List.length_nil, List.replicate, List.cons_append, List.nil_append, List.getElem?_cons_zero, List.getElem?_cons_succ, List.set_cons_zero, List.set_cons_succ]; exact rfl) ?_ | with_reducible apply s_seq | with_reducible apply s_asg | with_reducible apply s_name | with_reducible apply s_next | with_reducible apply s_ret | with_reducible apply s_retN | with_reducible apply s_drop | with_reducible apply s_if | with_reducible apply s_for | with_reducible apply s_and | with_reducible apply s_or | with_reducible apply s_not | with_reducible apply s_B | with_reducible apply s_mB | with_reducible apply s_addI | with_reducible apply s_subI | with_reducible apply s_cmpI | with_reducible apply s_eqI | with_reducible apply s_minI | with_reducible apply s_maxI | with_reducible apply s_meth | with_reducible apply s_Tr | with_reducible apply s_op | with_reducible apply s_c | with_reducible apply s_ifE | with_reducible apply s_andV | with_reducible apply s_orV | with_reducible apply s_notV | with_reducible apply s_b1 | with_reducible apply s_cons | with_reducible apply s_nil | with_reducible apply s_tup | with_reducible apply s_lst | with_reducible apply s_lstM | with_reducible apply s_call | with_reducible apply s_trB | with_reducible apply iteT | with_reducible apply iteF | with_reducible apply s_par | ((with_reducible apply s_var); case h => first | assumption | exact rfl) | (with_reducible refine ⟨by simp [sizeLine_eq], ?_⟩))
  refine opO_ne ?_
  repeat (first | with_reducible refine s_seqN (by simp only [startR, List.map_cons, List.map_nil, List.length_cons, List.length_nil, List.replicate, List.cons_append, List.nil_append, List.getElem?_cons_zero, List.getElem?_cons_succ, List.set_cons_zero, List.set_cons_succ]; exact rfl) ?_ | with_reducible apply s_seq | with_reducible apply s_asg | with_reducible apply s_name | with_reducible apply s_next | with_reducible apply s_ret | with_reducible apply s_retN | with_reducible apply s_drop | with_reducible apply s_if | with_reducible apply s_for | with_reducible apply s_and | with_reducible apply s_or | with_reducible apply s_not | with_reducible apply s_B | with_reducible apply s_mB | with_reducible apply s_addI | with_reducible apply s_subI | with_reducible apply s_cmpI | with_reducible apply s_eqI | with_reducible apply s_minI | with_reducible apply s_maxI | with_reducible apply s_meth | with_reducible apply s_Tr | with_reducible apply s_op | with_reducible apply s_c | with_reducible apply s_ifE | with_reducible apply s_andV | with_reducible apply s_orV | with_reducible apply s_notV | with_reducible apply s_b1 | with_reducible apply s_cons | with_reducible apply s_nil | with_reducible apply s_tup | with_reducible apply s_lst | with_reducible apply s_lstM | with_reducible apply s_call | with_reducible apply s_trB | with_reducible apply iteT | with_reducible apply iteF | with_reducible apply s_par | ((with_reducible apply s_var); case h => first | assumption | exact rfl) | (with_reducible refine ⟨by simp [sizeLine_eq], ?_⟩))
  refine s_eqReps ?_
  rw [same]
  refine s_eqB ?_
  refine s_iteF (by cases decide (nO x = nO y) <;> rfl) ?_
  try (refine s_iteF (by cases decide (nO x = nO y) <;> rfl) ?_)
  repeat (first | with_reducible refine s_seqN (by simp only [startR, List.map_cons, List.map_nil, List.length_cons, List.length_nil, List.replicate, List.cons_append, List.nil_append, List.getElem?_cons_zero, List.getElem?_cons_succ, List.set_cons_zero, List.set_cons_succ]; exact rfl) ?_ | with_reducible apply s_seq | with_reducible apply s_asg | with_reducible apply s_name | with_reducible apply s_next | with_reducible apply s_ret | with_reducible apply s_retN | with_reducible apply s_drop | with_reducible apply s_if | with_reducible apply s_for | with_reducible apply s_and | with_reducible apply s_or | with_reducible apply s_not | with_reducible apply s_B | with_reducible apply s_mB | with_reducible apply s_addI | with_reducible apply s_subI | with_reducible apply s_cmpI | with_reducible apply s_eqI | with_reducible apply s_minI | with_reducible apply s_maxI | with_reducible apply s_meth | with_reducible apply s_Tr | with_reducible apply s_op | with_reducible apply s_c | with_reducible apply s_ifE | with_reducible apply s_andV | with_reducible apply s_orV | with_reducible apply s_notV | with_reducible apply s_b1 | with_reducible apply s_cons | with_reducible apply s_nil | with_reducible apply s_tup | with_reducible apply s_lst | with_reducible apply s_lstM | with_reducible apply s_call | with_reducible apply s_trB | with_reducible apply iteT | with_reducible apply iteF | with_reducible apply s_par | ((with_reducible apply s_var); case h => first | assumption | exact rfl) | (with_reducible refine ⟨by simp [sizeLine_eq], ?_⟩))
  with_reducible refine s_lc ?_
  with_reducible refine s_itemM ?_
  repeat (first | with_reducible refine s_seqN (by simp only [startR, List.map_cons, List.map_nil, List.length_cons, List.length_nil, List.replicate, List.cons_append, List.nil_append, List.getElem?_cons_zero, List.getElem?_cons_succ, List.set_cons_zero, List.set_cons_succ]; exact rfl) ?_ | with_reducible apply s_seq | with_reducible apply s_asg | with_reducible apply s_name | with_reducible apply s_next | with_reducible apply s_ret | with_reducible apply s_retN | with_reducible apply s_drop | with_reducible apply s_if | with_reducible apply s_for | with_reducible apply s_and | with_reducible apply s_or | with_reducible apply s_not | with_reducible apply s_B | with_reducible apply s_mB | with_reducible apply s_addI | with_reducible apply s_subI | with_reducible apply s_cmpI | with_reducible apply s_eqI | with_reducible apply s_minI | with_reducible apply s_maxI | with_reducible apply s_meth | with_reducible apply s_Tr | with_reducible apply s_op | with_reducible apply s_c | with_reducible apply s_ifE | with_reducible apply s_andV | with_reducible apply s_orV | with_reducible apply s_notV | with_reducible apply s_b1 | with_reducible apply s_cons | with_reducible apply s_nil | with_reducible apply s_tup | with_reducible apply s_lst | with_reducible apply s_lstM | with_reducible apply s_call | with_reducible apply s_trB | with_reducible apply iteT | with_reducible apply iteF | with_reducible apply s_par | ((with_reducible apply s_var); case h => first | assumption | exact rfl) | (with_reducible refine ⟨by simp [sizeLine_eq], ?_⟩))
  refine mItem_lst ?_
  intro p hp
  refine dLc_filtM (c := fun r => decide (r ∉ allR y)) (h := repD) hp (fun _ => trivial) _ _ (fun r hr acc Kt Kf k1 k2 => ?_) (by rw [sizeLine_eq]; simp; omega) ?_
  · simp only [wipeR, List.foldl, startR, List.map_cons, List.map_nil, List.length_cons, List.length_nil, List.replicate, List.cons_append, List.nil_append, List.getElem?_cons_zero, List.getElem?_cons_succ, List.set_cons_zero, List.set_cons_succ, sizeLine_eq, Nat.reduceAdd, Nat.reduceLeDiff, Nat.reduceLT, Nat.zero_le, true_and]
    repeat (first | with_reducible refine s_seqN (by simp only [startR, List.map_cons, List.map_nil, List.length_cons, List.length_nil, List.replicate, List.cons_append, List.nil_append, List.getElem?_cons_zero, List.getElem?_cons_succ, List.set_cons_zero, List.set_cons_succ]; exact rfl) ?_ | with_reducible apply s_seq | with_reducible apply s_asg | with_reducible apply s_name | with_reducible apply s_next | with_reducible apply s_ret | with_reducible apply s_retN | with_reducible apply s_drop | with_reducible apply s_if | with_reducible apply s_for | with_reducible apply s_and | with_reducible apply s_or | with_reducible apply s_not | with_reducible apply s_B | with_reducible apply s_mB | with_reducible apply s_addI | with_reducible apply s_subI | with_reducible apply s_cmpI | with_reducible apply s_eqI | with_reducible apply s_minI | with_reducible apply s_maxI | with_reducible apply s_meth | with_reducible apply s_Tr | with_reducible apply s_op | with_reducible apply s_c | with_reducible apply s_ifE | with_reducible apply s_andV | with_reducible apply s_orV | with_reducible apply s_notV | with_reducible apply s_b1 | with_reducible apply s_cons | with_reducible apply s_nil | with_reducible apply s_tup | with_reducible apply s_lst | with_reducible apply s_lstM | with_reducible apply s_call | with_reducible apply s_trB | with_reducible apply iteT | with_reducible apply iteF | with_reducible apply s_par | ((with_reducible apply s_var); case h => first | assumption | exact rfl) | (with_reducible refine ⟨by simp [sizeLine_eq], ?_⟩))
    refine s_inReps ?_
    repeat (first | with_reducible refine s_seqN (by simp only [startR, List.map_cons, List.map_nil, List.length_cons, List.length_nil, List.replicate, List.cons_append, List.nil_append, List.getElem?_cons_zero, List.getElem?_cons_succ, List.set_cons_zero, List.set_cons_succ]; exact rfl) ?_ | with_reducible apply s_seq | with_reducible apply s_asg | with_reducible apply s_name | with_reducible apply s_next | with_reducible apply s_ret | with_reducible apply s_retN | with_reducible apply s_drop | with_reducible apply s_if | with_reducible apply s_for | with_reducible apply s_and | with_reducible apply s_or | with_reducible apply s_not | with_reducible apply s_B | with_reducible apply s_mB | with_reducible apply s_addI | with_reducible apply s_subI | with_reducible apply s_cmpI | with_reducible apply s_eqI | with_reducible apply s_minI | with_reducible apply s_maxI | with_reducible apply s_meth | with_reducible apply s_Tr | with_reducible apply s_op | with_reducible apply s_c | with_reducible apply s_ifE | with_reducible apply s_andV | with_reducible apply s_orV | with_reducible apply s_notV | with_reducible apply s_b1 | with_reducible apply s_cons | with_reducible apply s_nil | with_reducible apply s_tup | with_reducible apply s_lst | with_reducible apply s_lstM | with_reducible apply s_call | with_reducible apply s_trB | with_reducible apply iteT | with_reducible apply iteF | with_reducible apply s_par | ((with_reducible apply s_var); case h => first | assumption | exact rfl) | (with_reducible refine ⟨by simp [sizeLine_eq], ?_⟩))
    refine s_ite (fun hc => ?_) fun hc => ?_
    · repeat (first | with_reducible refine s_seqN (by simp only [startR, List.map_cons, List.map_nil, List.length_cons, List.length_nil, List.replicate, List.cons_append, List.nil_append, List.getElem?_cons_zero, List.getElem?_cons_succ, List.set_cons_zero, List.set_cons_succ]; exact rfl) ?_ | with_reducible apply s_seq | with_reducible apply s_asg | with_reducible apply s_name | with_reducible apply s_next | with_reducible apply s_ret | with_reducible apply s_retN | with_reducible apply s_drop | with_reducible apply s_if | with_reducible apply s_for | with_reducible apply s_and | with_reducible apply s_or | with_reducible apply s_not | with_reducible apply s_B | with_reducible apply s_mB | with_reducible apply s_addI | with_reducible apply s_subI | with_reducible apply s_cmpI | with_reducible apply s_eqI | with_reducible apply s_minI | with_reducible apply s_maxI | with_reducible apply s_meth | with_reducible apply s_Tr | with_reducible apply s_op | with_reducible apply s_c | with_reducible apply s_ifE | with_reducible apply s_andV | with_reducible apply s_orV | with_reducible apply s_notV | with_reducible apply s_b1 | with_reducible apply s_cons | with_reducible apply s_nil | with_reducible apply s_tup | with_reducible apply s_lst | with_reducible apply s_lstM | with_reducible apply s_call | with_reducible apply s_trB | with_reducible apply iteT | with_reducible apply iteF | with_reducible apply s_par | ((with_reducible apply s_var); case h => first | assumption | exact rfl) | (with_reducible refine ⟨by simp [sizeLine_eq], ?_⟩))
      exact k1 (by simpa using hc)
    · exact k2 (by simpa using hc)
  rw [List.nil_append]
  repeat (first | with_reducible refine s_seqN (by simp only [startR, List.map_cons, List.map_nil, List.length_cons, List.length_nil, List.replicate, List.cons_append, List.nil_append, List.getElem?_cons_zero, List.getElem?_cons_succ, List.set_cons_zero, List.set_cons_succ]; exact rfl) ?_ | with_reducible apply s_seq | with_reducible apply s_asg | with_reducible apply s_name | with_reducible apply s_next | with_reducible apply s_ret | with_reducible apply s_retN | with_reducible apply s_drop | with_reducible apply s_if | with_reducible apply s_for | with_reducible apply s_and | with_reducible apply s_or | with_reducible apply s_not | with_reducible apply s_B | with_reducible apply s_mB | with_reducible apply s_addI | with_reducible apply s_subI | with_reducible apply s_cmpI | with_reducible apply s_eqI | with_reducible apply s_minI | with_reducible apply s_maxI | with_reducible apply s_meth | with_reducible apply s_Tr | with_reducible apply s_op | with_reducible apply s_c | with_reducible apply s_ifE | with_reducible apply s_andV | with_reducible apply s_orV | with_reducible apply s_notV | with_reducible apply s_b1 | with_reducible apply s_cons | with_reducible apply s_nil | with_reducible apply s_tup | with_reducible apply s_lst | with_reducible apply s_lstM | with_reducible apply s_call | with_reducible apply s_trB | with_reducible apply iteT | with_reducible apply iteF | with_reducible apply s_par | ((with_reducible apply s_var); case h => first | assumption | exact rfl) | (with_reducible refine ⟨by simp [sizeLine_eq], ?_⟩))
  refine s_eqRepsN ?_
  repeat (first | with_reducible refine s_seqN (by simp only [startR, List.map_cons, List.map_nil, List.length_cons, List.length_nil, List.replicate, List.cons_append, List.nil_append, List.getElem?_cons_zero, List.getElem?_cons_succ, List.set_cons_zero, List.set_cons_succ]; exact rfl) ?_ | with_reducible apply s_seq | with_reducible apply s_asg | with_reducible apply s_name | with_reducible apply s_next | with_reducible apply s_ret | with_reducible apply s_retN | with_reducible apply s_drop | with_reducible apply s_if | with_reducible apply s_for | with_reducible apply s_and | with_reducible apply s_or | with_reducible apply s_not | with_reducible apply s_B | with_reducible apply s_mB | with_reducible apply s_addI | with_reducible apply s_subI | with_reducible apply s_cmpI | with_reducible apply s_eqI | with_reducible apply s_minI | with_reducible apply s_maxI | with_reducible apply s_meth | with_reducible apply s_Tr | with_reducible apply s_op | with_reducible apply s_c | with_reducible apply s_ifE | with_reducible apply s_andV | with_reducible apply s_orV | with_reducible apply s_notV | with_reducible apply s_b1 | with_reducible apply s_cons | with_reducible apply s_nil | with_reducible apply s_tup | with_reducible apply s_lst | with_reducible apply s_lstM | with_reducible apply s_call | with_reducible apply s_trB | with_reducible apply iteT | with_reducible apply iteF | with_reducible apply s_par | ((with_reducible apply s_var); case h => first | assumption | exact rfl) | (with_reducible refine ⟨by simp [sizeLine_eq], ?_⟩))
  refine ⟨mOk_within, ?_⟩
  repeat (first | with_reducible refine s_seqN (by simp only [startR, List.map_cons, List.map_nil, List.length_cons, List.length_nil, List.replicate, List.cons_append, List.nil_append, List.getElem?_cons_zero, List.getElem?_cons_succ, List.set_cons_zero, List.set_cons_succ]; exact rfl) ?_ | with_reducible apply s_seq | with_reducible apply s_asg | with_reducible apply s_name | with_reducible apply s_next | with_reducible apply s_ret | with_reducible apply s_retN | with_reducible apply s_drop | with_reducible apply s_if | with_reducible apply s_for | with_reducible apply s_and | with_reducible apply s_or | with_reducible apply s_not | with_reducible apply s_B | with_reducible apply s_mB | with_reducible apply s_addI | with_reducible apply s_subI | with_reducible apply s_cmpI | with_reducible apply s_eqI | with_reducible apply s_minI | with_reducible apply s_maxI | with_reducible apply s_meth | with_reducible apply s_Tr | with_reducible apply s_op | with_reducible apply s_c | with_reducible apply s_ifE | with_reducible apply s_andV | with_reducible apply s_orV | with_reducible apply s_notV | with_reducible apply s_b1 | with_reducible apply s_cons | with_reducible apply s_nil | with_reducible apply s_tup | with_reducible apply s_lst | with_reducible apply s_lstM | with_reducible apply s_call | with_reducible apply s_trB | with_reducible apply iteT | with_reducible apply iteF | with_reducible apply s_par | ((with_reducible apply s_var); case h => first | assumption | exact rfl) | (with_reducible refine ⟨by simp [sizeLine_eq], ?_⟩))
  refine ⟨nO x, nO y, rfl, okO_n hx, okO_n hy, fun b hb => ?_⟩
  repeat (first | with_reducible refine s_seqN (by simp only [startR, List.map_cons, List.map_nil, List.length_cons, List.length_nil, List.replicate, List.cons_append, List.nil_append, List.getElem?_cons_zero, List.getElem?_cons_succ, List.set_cons_zero, List.set_cons_succ]; exact rfl) ?_ | with_reducible apply s_seq | with_reducible apply s_asg | with_reducible apply s_name | with_reducible apply s_next | with_reducible apply s_ret | with_reducible apply s_retN | with_reducible apply s_drop | with_reducible apply s_if | with_reducible apply s_for | with_reducible apply s_and | with_reducible apply s_or | with_reducible apply s_not | with_reducible apply s_B | with_reducible apply s_mB | with_reducible apply s_addI | with_reducible apply s_subI | with_reducible apply s_cmpI | with_reducible apply s_eqI | with_reducible apply s_minI | with_reducible apply s_maxI | with_reducible apply s_meth | with_reducible apply s_Tr | with_reducible apply s_op | with_reducible apply s_c | with_reducible apply s_ifE | with_reducible apply s_andV | with_reducible apply s_orV | with_reducible apply s_notV | with_reducible apply s_b1 | with_reducible apply s_cons | with_reducible apply s_nil | with_reducible apply s_tup | with_reducible apply s_lst | with_reducible apply s_lstM | with_reducible apply s_call | with_reducible apply s_trB | with_reducible apply iteT | with_reducible apply iteF | with_reducible apply s_par | ((with_reducible apply s_var); case h => first | assumption | exact rfl) | (with_reducible refine ⟨by simp [sizeLine_eq], ?_⟩))
  refine rcRepr_bool ?_
  repeat (first | with_reducible refine s_seqN (by simp only [startR, List.map_cons, List.map_nil, List.length_cons, List.length_nil, List.replicate, List.cons_append, List.nil_append, List.getElem?_cons_zero, List.getElem?_cons_succ, List.set_cons_zero, List.set_cons_succ]; exact rfl) ?_ | with_reducible apply s_seq | with_reducible apply s_asg | with_reducible apply s_name | with_reducible apply s_next | with_reducible apply s_ret | with_reducible apply s_retN | with_reducible apply s_drop | with_reducible apply s_if | with_reducible apply s_for | with_reducible apply s_and | with_reducible apply s_or | with_reducible apply s_not | with_reducible apply s_B | with_reducible apply s_mB | with_reducible apply s_addI | with_reducible apply s_subI | with_reducible apply s_cmpI | with_reducible apply s_eqI | with_reducible apply s_minI | with_reducible apply s_maxI | with_reducible apply s_meth | with_reducible apply s_Tr | with_reducible apply s_op | with_reducible apply s_c | with_reducible apply s_ifE | with_reducible apply s_andV | with_reducible apply s_orV | with_reducible apply s_notV | with_reducible apply s_b1 | with_reducible apply s_cons | with_reducible apply s_nil | with_reducible apply s_tup | with_reducible apply s_lst | with_reducible apply s_lstM | with_reducible apply s_call | with_reducible apply s_trB | with_reducible apply iteT | with_reducible apply iteF | with_reducible apply s_par | ((with_reducible apply s_var); case h => first | assumption | exact rfl) | (with_reducible refine ⟨by simp [sizeLine_eq], ?_⟩))
  refine rcRepr_bool ?_
  refine s_eqS ?_
  have eb := due_iff hx hy hb
  subst eb
  have e1 : (false != decide ((allR x).filter (fun r => decide (r ∉ allR y)) = [])) = dueB x y := by simp [dueB]
  rw [e1]
  exact fin0 (by simpa using h)
theorem q_law_asked_on : Pure ["first", "one", "others", "other", "second", "due", "outcome"] sp_law_asked_on t_law_asked_on := by
  rintro ds M P PE ⟨d, x, es, rfl, hd, hx, hl, hes, h⟩
  unfold t_law_asked_on
  have lx := allR_len x
  repeat (first | with_reducible refine s_seqN (by simp only [startR, List.map_cons, List.map_nil, List.length_cons, List.length_nil, List.replicate, List.cons_append, List.nil_append, List.getElem?_cons_zero, List.getElem?_cons_succ, List.set_cons_zero, List.set_cons_succ]; exact rfl) ?_ | with_reducible apply s_seq | with_reducible apply s_asg | with_reducible apply s_name | with_reducible apply s_next | with_reducible apply s_ret | with_reducible apply s_retN | with_reducible apply s_drop | with_reducible apply s_if | with_reducible apply s_for | with_reducible apply s_and | with_reducible apply s_or | with_reducible apply s_not | with_reducible apply s_B | with_reducible apply s_mB | with_reducible apply s_addI | with_reducible apply s_subI | with_reducible apply s_cmpI | with_reducible apply s_eqI | with_reducible apply s_minI | with_reducible apply s_maxI | with_reducible apply s_meth | with_reducible apply s_Tr | with_reducible apply s_op | with_reducible apply s_c | with_reducible apply s_ifE | with_reducible apply s_andV | with_reducible apply s_orV | with_reducible apply s_notV | with_reducible apply s_b1 | with_reducible apply s_cons | with_reducible apply s_nil | with_reducible apply s_tup | with_reducible apply s_lst | with_reducible apply s_lstM | with_reducible apply s_call | with_reducible apply s_trB | with_reducible apply iteT | with_reducible apply iteF | with_reducible apply s_par | ((with_reducible apply s_var); case h => first | assumption | exact rfl) | (with_reducible refine ⟨by simp [sizeLine_eq], ?_⟩))
  with_reducible refine s_itemM ?_
  repeat (first | with_reducible refine s_seqN (by simp only [startR, List.map_cons, List.map_nil, List.length_cons, List.length_nil, List.replicate, List.cons_append, List.nil_append, List.getElem?_cons_zero, List.getElem?_cons_succ, List.set_cons_zero, List.set_cons_succ]; exact rfl) ?_ | with_reducible apply s_seq | with_reducible apply s_asg | with_reducible apply s_name | with_reducible apply s_next | with_reducible apply s_ret | with_reducible apply s_retN | with_reducible apply s_drop | with_reducible apply s_if | with_reducible apply s_for | with_reducible apply s_and | with_reducible apply s_or | with_reducible apply s_not | with_reducible apply s_B | with_reducible apply s_mB | with_reducible apply s_addI | with_reducible apply s_subI | with_reducible apply s_cmpI | with_reducible apply s_eqI | with_reducible apply s_minI | with_reducible apply s_maxI | with_reducible apply s_meth | with_reducible apply s_Tr | with_reducible apply s_op | with_reducible apply s_c | with_reducible apply s_ifE | with_reducible apply s_andV | with_reducible apply s_orV | with_reducible apply s_notV | with_reducible apply s_b1 | with_reducible apply s_cons | with_reducible apply s_nil | with_reducible apply s_tup | with_reducible apply s_lst | with_reducible apply s_lstM | with_reducible apply s_call | with_reducible apply s_trB | with_reducible apply iteT | with_reducible apply iteF | with_reducible apply s_par | ((with_reducible apply s_var); case h => first | assumption | exact rfl) | (with_reducible refine ⟨by simp [sizeLine_eq], ?_⟩))
  with_reducible refine s_slice ?_
  repeat (first | with_reducible refine s_seqN (by simp only [startR, List.map_cons, List.map_nil, List.length_cons, List.length_nil, List.replicate, List.cons_append, List.nil_append, List.getElem?_cons_zero, List.getElem?_cons_succ, List.set_cons_zero, List.set_cons_succ]; exact rfl) ?_ | with_reducible apply s_seq | with_reducible apply s_asg | with_reducible apply s_name | with_reducible apply s_next | with_reducible apply s_ret | with_reducible apply s_retN | with_reducible apply s_drop | with_reducible apply s_if | with_reducible apply s_for | with_reducible apply s_and | with_reducible apply s_or | with_reducible apply s_not | with_reducible apply s_B | with_reducible apply s_mB | with_reducible apply s_addI | with_reducible apply s_subI | with_reducible apply s_cmpI | with_reducible apply s_eqI | with_reducible apply s_minI | with_reducible apply s_maxI | with_reducible apply s_meth | with_reducible apply s_Tr | with_reducible apply s_op | with_reducible apply s_c | with_reducible apply s_ifE | with_reducible apply s_andV | with_reducible apply s_orV | with_reducible apply s_notV | with_reducible apply s_b1 | with_reducible apply s_cons | with_reducible apply s_nil | with_reducible apply s_tup | with_reducible apply s_lst | with_reducible apply s_lstM | with_reducible apply s_call | with_reducible apply s_trB | with_reducible apply iteT | with_reducible apply iteF | with_reducible apply s_par | ((with_reducible apply s_var); case h => first | assumption | exact rfl) | (with_reducible refine ⟨by simp [sizeLine_eq], ?_⟩))
  refine s_doN ?_
  refine s_doC ?_
  refine sl_head ?_
  refine s_addL (by rw [List.length_take, sizeLine_eq]; omega) ?_
  refine mItem_lst ?_
  refine dLoop_ind (fun rest ρ M' => ∃ (o3 o4 o5 : Option D), M' = M ∧ (∀ e ∈ rest, ∃ y, isPt e y ∧ okPt y) ∧ ρ = [some (objO (nO x)), some d, some (.lst es), o3, o4, o5, none]) ?_ ?_ _ _ _
    ⟨none, none, none, rfl, fun e he => (by
      rcases List.mem_append.mp he with he | he
      · exact hes e he
      · exact hes e (List.mem_of_mem_take he)), rfl⟩
  · rintro e rest ρ M' K hK ⟨o3, o4, o5, rfl, hr, rfl⟩
    obtain ⟨y, he, hy⟩ := hr e List.mem_cons_self
    refine ⟨trivial, ?_⟩
    repeat (first | with_reducible refine s_seqN (by simp only [startR, List.map_cons, List.map_nil, List.length_cons, List.length_nil, List.replicate, List.cons_append, List.nil_append, List.getElem?_cons_zero, List.getElem?_cons_succ, List.set_cons_zero, List.set_cons_succ]; exact rfl) ?_ | with_reducible apply s_seq | with_reducible apply s_asg | with_reducible apply s_name | with_reducible apply s_next | with_reducible apply s_ret | with_reducible apply s_retN | with_reducible apply s_drop | with_reducible apply s_if | with_reducible apply s_for | with_reducible apply s_and | with_reducible apply s_or | with_reducible apply s_not | with_reducible apply s_B | with_reducible apply s_mB | with_reducible apply s_addI | with_reducible apply s_subI | with_reducible apply s_cmpI | with_reducible apply s_eqI | with_reducible apply s_minI | with_reducible apply s_maxI | with_reducible apply s_meth | with_reducible apply s_Tr | with_reducible apply s_op | with_reducible apply s_c | with_reducible apply s_ifE | with_reducible apply s_andV | with_reducible apply s_orV | with_reducible apply s_notV | with_reducible apply s_b1 | with_reducible apply s_cons | with_reducible apply s_nil | with_reducible apply s_tup | with_reducible apply s_lst | with_reducible apply s_lstM | with_reducible apply s_call | with_reducible apply s_trB | with_reducible apply iteT | with_reducible apply iteF | with_reducible apply s_par | ((with_reducible apply s_var); case h => first | assumption | exact rfl) | (with_reducible refine ⟨by simp [sizeLine_eq], ?_⟩))
    refine s_mkO ?_
    repeat (first | with_reducible refine s_seqN (by simp only [startR, List.map_cons, List.map_nil, List.length_cons, List.length_nil, List.replicate, List.cons_append, List.nil_append, List.getElem?_cons_zero, List.getElem?_cons_succ, List.set_cons_zero, List.set_cons_succ]; exact rfl) ?_ | with_reducible apply s_seq | with_reducible apply s_asg | with_reducible apply s_name | with_reducible apply s_next | with_reducible apply s_ret | with_reducible apply s_retN | with_reducible apply s_drop | with_reducible apply s_if | with_reducible apply s_for | with_reducible apply s_and | with_reducible apply s_or | with_reducible apply s_not | with_reducible apply s_B | with_reducible apply s_mB | with_reducible apply s_addI | with_reducible apply s_subI | with_reducible apply s_cmpI | with_reducible apply s_eqI | with_reducible apply s_minI | with_reducible apply s_maxI | with_reducible apply s_meth | with_reducible apply s_Tr | with_reducible apply s_op | with_reducible apply s_c | with_reducible apply s_ifE | with_reducible apply s_andV | with_reducible apply s_orV | with_reducible apply s_notV | with_reducible apply s_b1 | with_reducible apply s_cons | with_reducible apply s_nil | with_reducible apply s_tup | with_reducible apply s_lst | with_reducible apply s_lstM | with_reducible apply s_call | with_reducible apply s_trB | with_reducible apply iteT | with_reducible apply iteF | with_reducible apply s_par | ((with_reducible apply s_var); case h => first | assumption | exact rfl) | (with_reducible refine ⟨by simp [sizeLine_eq], ?_⟩))
    refine s_mk ?_
    repeat (first | with_reducible refine s_seqN (by simp only [startR, List.map_cons, List.map_nil, List.length_cons, List.length_nil, List.replicate, List.cons_append, List.nil_append, List.getElem?_cons_zero, List.getElem?_cons_succ, List.set_cons_zero, List.set_cons_succ]; exact rfl) ?_ | with_reducible apply s_seq | with_reducible apply s_asg | with_reducible apply s_name | with_reducible apply s_next | with_reducible apply s_ret | with_reducible apply s_retN | with_reducible apply s_drop | with_reducible apply s_if | with_reducible apply s_for | with_reducible apply s_and | with_reducible apply s_or | with_reducible apply s_not | with_reducible apply s_B | with_reducible apply s_mB | with_reducible apply s_addI | with_reducible apply s_subI | with_reducible apply s_cmpI | with_reducible apply s_eqI | with_reducible apply s_minI | with_reducible apply s_maxI | with_reducible apply s_meth | with_reducible apply s_Tr | with_reducible apply s_op | with_reducible apply s_c | with_reducible apply s_ifE | with_reducible apply s_andV | with_reducible apply s_orV | with_reducible apply s_notV | with_reducible apply s_b1 | with_reducible apply s_cons | with_reducible apply s_nil | with_reducible apply s_tup | with_reducible apply s_lst | with_reducible apply s_lstM | with_reducible apply s_call | with_reducible apply s_trB | with_reducible apply iteT | with_reducible apply iteF | with_reducible apply s_par | ((with_reducible apply s_var); case h => first | assumption | exact rfl) | (with_reducible refine ⟨by simp [sizeLine_eq], ?_⟩))
    refine ix_pt0 he ?_
    refine mkC_ok rfl (okS_R hy.a) (by have := hy.a.1; omega) ?_
    refine s_mk ?_
    repeat (first | with_reducible refine s_seqN (by simp only [startR, List.map_cons, List.map_nil, List.length_cons, List.length_nil, List.replicate, List.cons_append, List.nil_append, List.getElem?_cons_zero, List.getElem?_cons_succ, List.set_cons_zero, List.set_cons_succ]; exact rfl) ?_ | with_reducible apply s_seq | with_reducible apply s_asg | with_reducible apply s_name | with_reducible apply s_next | with_reducible apply s_ret | with_reducible apply s_retN | with_reducible apply s_drop | with_reducible apply s_if | with_reducible apply s_for | with_reducible apply s_and | with_reducible apply s_or | with_reducible apply s_not | with_reducible apply s_B | with_reducible apply s_mB | with_reducible apply s_addI | with_reducible apply s_subI | with_reducible apply s_cmpI | with_reducible apply s_eqI | with_reducible apply s_minI | with_reducible apply s_maxI | with_reducible apply s_meth | with_reducible apply s_Tr | with_reducible apply s_op | with_reducible apply s_c | with_reducible apply s_ifE | with_reducible apply s_andV | with_reducible apply s_orV | with_reducible apply s_notV | with_reducible apply s_b1 | with_reducible apply s_cons | with_reducible apply s_nil | with_reducible apply s_tup | with_reducible apply s_lst | with_reducible apply s_lstM | with_reducible apply s_call | with_reducible apply s_trB | with_reducible apply iteT | with_reducible apply iteF | with_reducible apply s_par | ((with_reducible apply s_var); case h => first | assumption | exact rfl) | (with_reducible refine ⟨by simp [sizeLine_eq], ?_⟩))
    refine ix_pt1 he ?_
    refine mkC_ok rfl (okS_R hy.b) (by have := hy.b.1; omega) ?_
    repeat (first | with_reducible refine s_seqN (by simp only [startR, List.map_cons, List.map_nil, List.length_cons, List.length_nil, List.replicate, List.cons_append, List.nil_append, List.getElem?_cons_zero, List.getElem?_cons_succ, List.set_cons_zero, List.set_cons_succ]; exact rfl) ?_ | with_reducible apply s_seq | with_reducible apply s_asg | with_reducible apply s_name | with_reducible apply s_next | with_reducible apply s_ret | with_reducible apply s_retN | with_reducible apply s_drop | with_reducible apply s_if | with_reducible apply s_for | with_reducible apply s_and | with_reducible apply s_or | with_reducible apply s_not | with_reducible apply s_B | with_reducible apply s_mB | with_reducible apply s_addI | with_reducible apply s_subI | with_reducible apply s_cmpI | with_reducible apply s_eqI | with_reducible apply s_minI | with_reducible apply s_maxI | with_reducible apply s_meth | with_reducible apply s_Tr | with_reducible apply s_op | with_reducible apply s_c | with_reducible apply s_ifE | with_reducible apply s_andV | with_reducible apply s_orV | with_reducible apply s_notV | with_reducible apply s_b1 | with_reducible apply s_cons | with_reducible apply s_nil | with_reducible apply s_tup | with_reducible apply s_lst | with_reducible apply s_lstM | with_reducible apply s_call | with_reducible apply s_trB | with_reducible apply iteT | with_reducible apply iteF | with_reducible apply s_par | ((with_reducible apply s_var); case h => first | assumption | exact rfl) | (with_reducible refine ⟨by simp [sizeLine_eq], ?_⟩))
    refine ix_pt2 he ?_
    repeat (first | with_reducible refine s_seqN (by simp only [startR, List.map_cons, List.map_nil, List.length_cons, List.length_nil, List.replicate, List.cons_append, List.nil_append, List.getElem?_cons_zero, List.getElem?_cons_succ, List.set_cons_zero, List.set_cons_succ]; exact rfl) ?_ | with_reducible apply s_seq | with_reducible apply s_asg | with_reducible apply s_name | with_reducible apply s_next | with_reducible apply s_ret | with_reducible apply s_retN | with_reducible apply s_drop | with_reducible apply s_if | with_reducible apply s_for | with_reducible apply s_and | with_reducible apply s_or | with_reducible apply s_not | with_reducible apply s_B | with_reducible apply s_mB | with_reducible apply s_addI | with_reducible apply s_subI | with_reducible apply s_cmpI | with_reducible apply s_eqI | with_reducible apply s_minI | with_reducible apply s_maxI | with_reducible apply s_meth | with_reducible apply s_Tr | with_reducible apply s_op | with_reducible apply s_c | with_reducible apply s_ifE | with_reducible apply s_andV | with_reducible apply s_orV | with_reducible apply s_notV | with_reducible apply s_b1 | with_reducible apply s_cons | with_reducible apply s_nil | with_reducible apply s_tup | with_reducible apply s_lst | with_reducible apply s_lstM | with_reducible apply s_call | with_reducible apply s_trB | with_reducible apply iteT | with_reducible apply iteF | with_reducible apply s_par | ((with_reducible apply s_var); case h => first | assumption | exact rfl) | (with_reducible refine ⟨by simp [sizeLine_eq], ?_⟩))
    refine mkO_ok (o := nO y) ?_
    repeat (first | with_reducible refine s_seqN (by simp only [startR, List.map_cons, List.map_nil, List.length_cons, List.length_nil, List.replicate, List.cons_append, List.nil_append, List.getElem?_cons_zero, List.getElem?_cons_succ, List.set_cons_zero, List.set_cons_succ]; exact rfl) ?_ | with_reducible apply s_seq | with_reducible apply s_asg | with_reducible apply s_name | with_reducible apply s_next | with_reducible apply s_ret | with_reducible apply s_retN | with_reducible apply s_drop | with_reducible apply s_if | with_reducible apply s_for | with_reducible apply s_and | with_reducible apply s_or | with_reducible apply s_not | with_reducible apply s_B | with_reducible apply s_mB | with_reducible apply s_addI | with_reducible apply s_subI | with_reducible apply s_cmpI | with_reducible apply s_eqI | with_reducible apply s_minI | with_reducible apply s_maxI | with_reducible apply s_meth | with_reducible apply s_Tr | with_reducible apply s_op | with_reducible apply s_c | with_reducible apply s_ifE | with_reducible apply s_andV | with_reducible apply s_orV | with_reducible apply s_notV | with_reducible apply s_b1 | with_reducible apply s_cons | with_reducible apply s_nil | with_reducible apply s_tup | with_reducible apply s_lst | with_reducible apply s_lstM | with_reducible apply s_call | with_reducible apply s_trB | with_reducible apply iteT | with_reducible apply iteF | with_reducible apply s_par | ((with_reducible apply s_var); case h => first | assumption | exact rfl) | (with_reducible refine ⟨by simp [sizeLine_eq], ?_⟩))
    with_reducible refine s_lc ?_
    with_reducible refine s_itemM ?_
    repeat (first | with_reducible refine s_seqN (by simp only [startR, List.map_cons, List.map_nil, List.length_cons, List.length_nil, List.replicate, List.cons_append, List.nil_append, List.getElem?_cons_zero, List.getElem?_cons_succ, List.set_cons_zero, List.set_cons_succ]; exact rfl) ?_ | with_reducible apply s_seq | with_reducible apply s_asg | with_reducible apply s_name | with_reducible apply s_next | with_reducible apply s_ret | with_reducible apply s_retN | with_reducible apply s_drop | with_reducible apply s_if | with_reducible apply s_for | with_reducible apply s_and | with_reducible apply s_or | with_reducible apply s_not | with_reducible apply s_B | with_reducible apply s_mB | with_reducible apply s_addI | with_reducible apply s_subI | with_reducible apply s_cmpI | with_reducible apply s_eqI | with_reducible apply s_minI | with_reducible apply s_maxI | with_reducible apply s_meth | with_reducible apply s_Tr | with_reducible apply s_op | with_reducible apply s_c | with_reducible apply s_ifE | with_reducible apply s_andV | with_reducible apply s_orV | with_reducible apply s_notV | with_reducible apply s_b1 | with_reducible apply s_cons | with_reducible apply s_nil | with_reducible apply s_tup | with_reducible apply s_lst | with_reducible apply s_lstM | with_reducible apply s_call | with_reducible apply s_trB | with_reducible apply iteT | with_reducible apply iteF | with_reducible apply s_par | ((with_reducible apply s_var); case h => first | assumption | exact rfl) | (with_reducible refine ⟨by simp [sizeLine_eq], ?_⟩))
    refine ⟨d, x, rfl, hd, hx, ?_⟩
    refine mItem_lst ?_
    intro p hp
    refine dLc_filtM (c := fun r => decide (r ∉ allR y)) (h := repD) hp (fun _ => trivial) _ _ (fun r hr acc Kt Kf k1 k2 => ?_) (by rw [sizeLine_eq]; simp; omega) ?_
    · simp only [wipeR, List.foldl, startR, List.map_cons, List.map_nil, List.length_cons, List.length_nil, List.replicate, List.cons_append, List.nil_append, List.getElem?_cons_zero, List.getElem?_cons_succ, List.set_cons_zero, List.set_cons_succ, sizeLine_eq, Nat.reduceAdd, Nat.reduceLeDiff, Nat.reduceLT, Nat.zero_le, true_and]
      repeat (first | with_reducible refine s_seqN (by simp only [startR, List.map_cons, List.map_nil, List.length_cons, List.length_nil, List.replicate, List.cons_append, List.nil_append, List.getElem?_cons_zero, List.getElem?_cons_succ, List.set_cons_zero, List.set_cons_succ]; exact rfl) ?_ | with_reducible apply s_seq | with_reducible apply s_asg | with_reducible apply s_name | with_reducible apply s_next | with_reducible apply s_ret | with_reducible apply s_retN | with_reducible apply s_drop | with_reducible apply s_if | with_reducible apply s_for | with_reducible apply s_and | with_reducible apply s_or | with_reducible apply s_not | with_reducible apply s_B | with_reducible apply s_mB | with_reducible apply s_addI | with_reducible apply s_subI | with_reducible apply s_cmpI | with_reducible apply s_eqI | with_reducible apply s_minI | with_reducible apply s_maxI | with_reducible apply s_meth | with_reducible apply s_Tr | with_reducible apply s_op | with_reducible apply s_c | with_reducible apply s_ifE | with_reducible apply s_andV | with_reducible apply s_orV | with_reducible apply s_notV | with_reducible apply s_b1 | with_reducible apply s_cons | with_reducible apply s_nil | with_reducible apply s_tup | with_reducible apply s_lst | with_reducible apply s_lstM | with_reducible apply s_call | with_reducible apply s_trB | with_reducible apply iteT | with_reducible apply iteF | with_reducible apply s_par | ((with_reducible apply s_var); case h => first | assumption | exact rfl) | (with_reducible refine ⟨by simp [sizeLine_eq], ?_⟩))
      refine ⟨e, y, rfl, he, hy, ?_⟩
      refine s_inReps ?_
      repeat (first | with_reducible refine s_seqN (by simp only [startR, List.map_cons, List.map_nil, List.length_cons, List.length_nil, List.replicate, List.cons_append, List.nil_append, List.getElem?_cons_zero, List.getElem?_cons_succ, List.set_cons_zero, List.set_cons_succ]; exact rfl) ?_ | with_reducible apply s_seq | with_reducible apply s_asg | with_reducible apply s_name | with_reducible apply s_next | with_reducible apply s_ret | with_reducible apply s_retN | with_reducible apply s_drop | with_reducible apply s_if | with_reducible apply s_for | with_reducible apply s_and | with_reducible apply s_or | with_reducible apply s_not | with_reducible apply s_B | with_reducible apply s_mB | with_reducible apply s_addI | with_reducible apply s_subI | with_reducible apply s_cmpI | with_reducible apply s_eqI | with_reducible apply s_minI | with_reducible apply s_maxI | with_reducible apply s_meth | with_reducible apply s_Tr | with_reducible apply s_op | with_reducible apply s_c | with_reducible apply s_ifE | with_reducible apply s_andV | with_reducible apply s_orV | with_reducible apply s_notV | with_reducible apply s_b1 | with_reducible apply s_cons | with_reducible apply s_nil | with_reducible apply s_tup | with_reducible apply s_lst | with_reducible apply s_lstM | with_reducible apply s_call | with_reducible apply s_trB | with_reducible apply iteT | with_reducible apply iteF | with_reducible apply s_par | ((with_reducible apply s_var); case h => first | assumption | exact rfl) | (with_reducible refine ⟨by simp [sizeLine_eq], ?_⟩))
      refine s_ite (fun hc => ?_) fun hc => ?_
      · repeat (first | with_reducible refine s_seqN (by simp only [startR, List.map_cons, List.map_nil, List.length_cons, List.length_nil, List.replicate, List.cons_append, List.nil_append, List.getElem?_cons_zero, List.getElem?_cons_succ, List.set_cons_zero, List.set_cons_succ]; exact rfl) ?_ | with_reducible apply s_seq | with_reducible apply s_asg | with_reducible apply s_name | with_reducible apply s_next | with_reducible apply s_ret | with_reducible apply s_retN | with_reducible apply s_drop | with_reducible apply s_if | with_reducible apply s_for | with_reducible apply s_and | with_reducible apply s_or | with_reducible apply s_not | with_reducible apply s_B | with_reducible apply s_mB | with_reducible apply s_addI | with_reducible apply s_subI | with_reducible apply s_cmpI | with_reducible apply s_eqI | with_reducible apply s_minI | with_reducible apply s_maxI | with_reducible apply s_meth | with_reducible apply s_Tr | with_reducible apply s_op | with_reducible apply s_c | with_reducible apply s_ifE | with_reducible apply s_andV | with_reducible apply s_orV | with_reducible apply s_notV | with_reducible apply s_b1 | with_reducible apply s_cons | with_reducible apply s_nil | with_reducible apply s_tup | with_reducible apply s_lst | with_reducible apply s_lstM | with_reducible apply s_call | with_reducible apply s_trB | with_reducible apply iteT | with_reducible apply iteF | with_reducible apply s_par | ((with_reducible apply s_var); case h => first | assumption | exact rfl) | (with_reducible refine ⟨by simp [sizeLine_eq], ?_⟩))
        exact k1 (by simpa using hc)
      · exact k2 (by simpa using hc)
    rw [List.nil_append]
    repeat (first | with_reducible refine s_seqN (by simp only [startR, List.map_cons, List.map_nil, List.length_cons, List.length_nil, List.replicate, List.cons_append, List.nil_append, List.getElem?_cons_zero, List.getElem?_cons_succ, List.set_cons_zero, List.set_cons_succ]; exact rfl) ?_ | with_reducible apply s_seq | with_reducible apply s_asg | with_reducible apply s_name | with_reducible apply s_next | with_reducible apply s_ret | with_reducible apply s_retN | with_reducible apply s_drop | with_reducible apply s_if | with_reducible apply s_for | with_reducible apply s_and | with_reducible apply s_or | with_reducible apply s_not | with_reducible apply s_B | with_reducible apply s_mB | with_reducible apply s_addI | with_reducible apply s_subI | with_reducible apply s_cmpI | with_reducible apply s_eqI | with_reducible apply s_minI | with_reducible apply s_maxI | with_reducible apply s_meth | with_reducible apply s_Tr | with_reducible apply s_op | with_reducible apply s_c | with_reducible apply s_ifE | with_reducible apply s_andV | with_reducible apply s_orV | with_reducible apply s_notV | with_reducible apply s_b1 | with_reducible apply s_cons | with_reducible apply s_nil | with_reducible apply s_tup | with_reducible apply s_lst | with_reducible apply s_lstM | with_reducible apply s_call | with_reducible apply s_trB | with_reducible apply iteT | with_reducible apply iteF | with_reducible apply s_par | ((with_reducible apply s_var); case h => first | assumption | exact rfl) | (with_reducible refine ⟨by simp [sizeLine_eq], ?_⟩))
    refine s_eqRepsN ?_
    repeat (first | with_reducible refine s_seqN (by simp only [startR, List.map_cons, List.map_nil, List.length_cons, List.length_nil, List.replicate, List.cons_append, List.nil_append, List.getElem?_cons_zero, List.getElem?_cons_succ, List.set_cons_zero, List.set_cons_succ]; exact rfl) ?_ | with_reducible apply s_seq | with_reducible apply s_asg | with_reducible apply s_name | with_reducible apply s_next | with_reducible apply s_ret | with_reducible apply s_retN | with_reducible apply s_drop | with_reducible apply s_if | with_reducible apply s_for | with_reducible apply s_and | with_reducible apply s_or | with_reducible apply s_not | with_reducible apply s_B | with_reducible apply s_mB | with_reducible apply s_addI | with_reducible apply s_subI | with_reducible apply s_cmpI | with_reducible apply s_eqI | with_reducible apply s_minI | with_reducible apply s_maxI | with_reducible apply s_meth | with_reducible apply s_Tr | with_reducible apply s_op | with_reducible apply s_c | with_reducible apply s_ifE | with_reducible apply s_andV | with_reducible apply s_orV | with_reducible apply s_notV | with_reducible apply s_b1 | with_reducible apply s_cons | with_reducible apply s_nil | with_reducible apply s_tup | with_reducible apply s_lst | with_reducible apply s_lstM | with_reducible apply s_call | with_reducible apply s_trB | with_reducible apply iteT | with_reducible apply iteF | with_reducible apply s_par | ((with_reducible apply s_var); case h => first | assumption | exact rfl) | (with_reducible refine ⟨by simp [sizeLine_eq], ?_⟩))
    refine ⟨mOk_within, ?_⟩
    repeat (first | with_reducible refine s_seqN (by simp only [startR, List.map_cons, List.map_nil, List.length_cons, List.length_nil, List.replicate, List.cons_append, List.nil_append, List.getElem?_cons_zero, List.getElem?_cons_succ, List.set_cons_zero, List.set_cons_succ]; exact rfl) ?_ | with_reducible apply s_seq | with_reducible apply s_asg | with_reducible apply s_name | with_reducible apply s_next | with_reducible apply s_ret | with_reducible apply s_retN | with_reducible apply s_drop | with_reducible apply s_if | with_reducible apply s_for | with_reducible apply s_and | with_reducible apply s_or | with_reducible apply s_not | with_reducible apply s_B | with_reducible apply s_mB | with_reducible apply s_addI | with_reducible apply s_subI | with_reducible apply s_cmpI | with_reducible apply s_eqI | with_reducible apply s_minI | with_reducible apply s_maxI | with_reducible apply s_meth | with_reducible apply s_Tr | with_reducible apply s_op | with_reducible apply s_c | with_reducible apply s_ifE | with_reducible apply s_andV | with_reducible apply s_orV | with_reducible apply s_notV | with_reducible apply s_b1 | with_reducible apply s_cons | with_reducible apply s_nil | with_reducible apply s_tup | with_reducible apply s_lst | with_reducible apply s_lstM | with_reducible apply s_call | with_reducible apply s_trB | with_reducible apply iteT | with_reducible apply iteF | with_reducible apply s_par | ((with_reducible apply s_var); case h => first | assumption | exact rfl) | (with_reducible refine ⟨by simp [sizeLine_eq], ?_⟩))
    refine ⟨nO x, nO y, rfl, okO_n hx, okO_n hy, fun b hb => ?_⟩
    repeat (first | with_reducible refine s_seqN (by simp only [startR, List.map_cons, List.map_nil, List.length_cons, List.length_nil, List.replicate, List.cons_append, List.nil_append, List.getElem?_cons_zero, List.getElem?_cons_succ, List.set_cons_zero, List.set_cons_succ]; exact rfl) ?_ | with_reducible apply s_seq | with_reducible apply s_asg | with_reducible apply s_name | with_reducible apply s_next | with_reducible apply s_ret | with_reducible apply s_retN | with_reducible apply s_drop | with_reducible apply s_if | with_reducible apply s_for | with_reducible apply s_and | with_reducible apply s_or | with_reducible apply s_not | with_reducible apply s_B | with_reducible apply s_mB | with_reducible apply s_addI | with_reducible apply s_subI | with_reducible apply s_cmpI | with_reducible apply s_eqI | with_reducible apply s_minI | with_reducible apply s_maxI | with_reducible apply s_meth | with_reducible apply s_Tr | with_reducible apply s_op | with_reducible apply s_c | with_reducible apply s_ifE | with_reducible apply s_andV | with_reducible apply s_orV | with_reducible apply s_notV | with_reducible apply s_b1 | with_reducible apply s_cons | with_reducible apply s_nil | with_reducible apply s_tup | with_reducible apply s_lst | with_reducible apply s_lstM | with_reducible apply s_call | with_reducible apply s_trB | with_reducible apply iteT | with_reducible apply iteF | with_reducible apply s_par | ((with_reducible apply s_var); case h => first | assumption | exact rfl) | (with_reducible refine ⟨by simp [sizeLine_eq], ?_⟩))
    refine rcRepr_bool ?_
    repeat (first | with_reducible refine s_seqN (by simp only [startR, List.map_cons, List.map_nil, List.length_cons, List.length_nil, List.replicate, List.cons_append, List.nil_append, List.getElem?_cons_zero, List.getElem?_cons_succ, List.set_cons_zero, List.set_cons_succ]; exact rfl) ?_ | with_reducible apply s_seq | with_reducible apply s_asg | with_reducible apply s_name | with_reducible apply s_next | with_reducible apply s_ret | with_reducible apply s_retN | with_reducible apply s_drop | with_reducible apply s_if | with_reducible apply s_for | with_reducible apply s_and | with_reducible apply s_or | with_reducible apply s_not | with_reducible apply s_B | with_reducible apply s_mB | with_reducible apply s_addI | with_reducible apply s_subI | with_reducible apply s_cmpI | with_reducible apply s_eqI | with_reducible apply s_minI | with_reducible apply s_maxI | with_reducible apply s_meth | with_reducible apply s_Tr | with_reducible apply s_op | with_reducible apply s_c | with_reducible apply s_ifE | with_reducible apply s_andV | with_reducible apply s_orV | with_reducible apply s_notV | with_reducible apply s_b1 | with_reducible apply s_cons | with_reducible apply s_nil | with_reducible apply s_tup | with_reducible apply s_lst | with_reducible apply s_lstM | with_reducible apply s_call | with_reducible apply s_trB | with_reducible apply iteT | with_reducible apply iteF | with_reducible apply s_par | ((with_reducible apply s_var); case h => first | assumption | exact rfl) | (with_reducible refine ⟨by simp [sizeLine_eq], ?_⟩))
    refine rcRepr_bool ?_
    refine s_eqS ?_
    have eb := due_iff hx hy hb
    subst eb
    have e1 : (false != decide ((allR x).filter (fun r => decide (r ∉ allR y)) = [])) = dueB x y := by simp [dueB]
    rw [e1]
    refine s_iteF (by simp) ?_
    exact hK _ _ ⟨_, _, _, rfl, fun z hz => hr z (List.mem_cons_of_mem _ hz), rfl⟩
  · rintro ρ M' ⟨o3, o4, o5, rfl, hr, rfl⟩
    refine ⟨trivial, ?_⟩
    repeat (first | with_reducible refine s_seqN (by simp only [startR, List.map_cons, List.map_nil, List.length_cons, List.length_nil, List.replicate, List.cons_append, List.nil_append, List.getElem?_cons_zero, List.getElem?_cons_succ, List.set_cons_zero, List.set_cons_succ]; exact rfl) ?_ | with_reducible apply s_seq | with_reducible apply s_asg | with_reducible apply s_name | with_reducible apply s_next | with_reducible apply s_ret | with_reducible apply s_retN | with_reducible apply s_drop | with_reducible apply s_if | with_reducible apply s_for | with_reducible apply s_and | with_reducible apply s_or | with_reducible apply s_not | with_reducible apply s_B | with_reducible apply s_mB | with_reducible apply s_addI | with_reducible apply s_subI | with_reducible apply s_cmpI | with_reducible apply s_eqI | with_reducible apply s_minI | with_reducible apply s_maxI | with_reducible apply s_meth | with_reducible apply s_Tr | with_reducible apply s_op | with_reducible apply s_c | with_reducible apply s_ifE | with_reducible apply s_andV | with_reducible apply s_orV | with_reducible apply s_notV | with_reducible apply s_b1 | with_reducible apply s_cons | with_reducible apply s_nil | with_reducible apply s_tup | with_reducible apply s_lst | with_reducible apply s_lstM | with_reducible apply s_call | with_reducible apply s_trB | with_reducible apply iteT | with_reducible apply iteF | with_reducible apply s_par | ((with_reducible apply s_var); case h => first | assumption | exact rfl) | (with_reducible refine ⟨by simp [sizeLine_eq], ?_⟩))
    exact fin0 h
theorem late_bd {x : Pt} (h : okPt x) {m : Int} (hm : lateOf (fun t => inRng x.a t ∨ inRng x.b t) m) : m.natAbs < 10 ^ 12 := by
  have : 0 ≤ m ∧ m ≤ 40 := by
    refine ⟨hm.1, ?_⟩
    rcases hm.2.2 with e | ⟨z, hz, _, h2⟩ | ⟨z, hz, _, h2⟩
    · omega
    · have := h.a.2 z hz
      omega
    · have := h.b.2 z hz
      omega
  omega
theorem okS_nil : okS [] := ⟨by simp, by simp⟩
theorem s_range1 {ρ : Ro} {M : Store} {n : Int} {R : List D → (Store → Prop) → Store → Prop} (h0 : -1000000 ≤ n) (h1 : n ≤ 1000000) (k : R (rangeD 0 n.toNat) (fun _ => True) M) : dRange1 (daCons (dC (.int n)) daNil) ρ M R := by
  simp only [dRange1, daCons, daNil, dC]
  exact ⟨by omega, by omega, k⟩
theorem dLc_feed {L : Store → Prop} {g : DTG} {te : DTE} {p0 p : Addr} {ρ : Ro} (Pd : D → Prop) {Q : List D → Store → Prop} {M : Store} {f : Feed} {ds : List D} (hp0 : M p0 = none) (hp : M p = some (feedL f)) (hL : ∀ acc M', L (updM M' p0 (.lst acc)))
    (h : ∀ d ∈ ds, ∀ (M' : Store) (f : Feed) (Q : D → Store → Prop), M' p = some (feedL f) → (∀ v f', Pd v → Q v (updM M' p (feedL f'))) → g d ρ M' fun ρ2 M2 => te ρ2 M2 Q) (hl : ds.length ≤ 100000)
    (q : ∀ (out : List D) (f' : Feed), out.length = ds.length → (∀ v ∈ out, Pd v) → Q out (updM M p (feedL f'))) : dLcLoop L g dYes te p0 ρ ds [] M Q := by
  have hne : p ≠ p0 := fun e => by rw [e, hp0] at hp; cases hp
  have key : ∀ (ds acc : List D) (f : Feed), (∀ d ∈ ds, ∀ (M' : Store) (f : Feed) (Q : D → Store → Prop), M' p = some (feedL f) → (∀ v f', Pd v → Q v (updM M' p (feedL f'))) → g d ρ M' fun ρ2 M2 => te ρ2 M2 Q) → acc.length + ds.length ≤ 100000 → (∀ v ∈ acc, Pd v) →
      (∀ (out : List D) (f' : Feed), out.length = acc.length + ds.length → (∀ v ∈ out, Pd v) → Q out (updM M p (feedL f'))) → dLcLoop L g dYes te p0 ρ ds acc (updM M p (feedL f)) Q := by
    intro ds
    induction ds with
    | nil => exact fun acc f h hl ha q => ⟨hL acc _, q acc f (by simp) ha⟩
    | cons d ds ih =>
      intro acc f h hl ha q
      refine ⟨hL acc _, ?_⟩
      simp only [dYes, if_true]
      rw [List.length_cons] at hl
      refine h d List.mem_cons_self _ f _ ((updM_ne hne).trans updM_same) fun v f' hv => ⟨updM M p (feedL f'), ?_, (updM_ne (Ne.symm hne)).trans hp0, by rw [sizeLine_eq]; omega, ih (acc ++ [v]) f' (fun d hd => h d (List.mem_cons_of_mem _ hd)) (by simp; omega) (fun z hz => ?_) fun out f2 hl2 h2 => q out f2 (by rw [hl2, List.length_append, List.length_singleton, List.length_cons]; omega) h2⟩
      · rw [updM_comm (p := p0) (q := p) (Ne.symm hne), updM_updM]
      · rcases List.mem_append.mp hz with hz | hz
        · exact ha z hz
        · rw [List.mem_singleton.mp hz]
          exact hv
  have e : M = updM M p (feedL f) := (updM_self hp).symm
  rw [e]
  exact key ds [] f h (by simpa using hl) (by simp) fun out f' hl h => by simpa using q out f' (by simpa using hl) h
theorem q_law : Pure ["script", "k", "feed", "one", "near", "whole", "other", "first", "second", "time", "turn", "word"] sp_law t_law := by
  rintro ds M P PE ⟨ns, rfl, hn, h⟩
  unfold t_law
  simp only [dSeq, dFor, dRange1, dB1, daCons, daNil, dC, dVar, startR, List.map_cons, List.map_nil, List.length_cons, List.length_nil, List.replicate, List.cons_append, List.nil_append, List.getElem?_cons_zero, List.getElem?_cons_succ, List.set_cons_zero, List.set_cons_succ, sizeLine_eq, Nat.reduceAdd, Nat.reduceLeDiff, Nat.reduceLT, Nat.zero_le, true_and, rcLen, asS, asR, List.length_map, rdAdd_int, rdSub_int, rdMul_int, rdMod_int, rdDiv_int, rdPow_int, rdCmp_int, rdEq_int, rcMax_int, rcMin_int]
  refine ⟨by omega, by omega, ?_⟩
  refine dLoop_ind (fun rest ρ M' => ∃ (k : Nat) (lo : Int) (o1 o2 o3 o4 o5 o6 o7 o8 o9 o11 : Option D), rest = rangeD lo k ∧ 0 ≤ lo ∧ lo + k ≤ 63 ∧ ρ = [some (.fro (ns.map .int)), o1, o2, o3, o4, o5, o6, o7, o8, o9, none, o11]) ?_ ?_ _ _ _
    ⟨_, 0, none, none, none, none, none, none, none, none, none, none, rfl, by omega, by omega, rfl⟩
  · rintro d rest ρ M' K hK ⟨k, lo, o1, o2, o3, o4, o5, o6, o7, o8, o9, o11, e1, e2, e3, rfl⟩
    obtain ⟨k, rfl, rfl, rfl⟩ := rangeD_cons e1
    refine ⟨trivial, ?_⟩
    repeat (first | with_reducible refine s_seqN (by simp only [startR, List.map_cons, List.map_nil, List.length_cons, List.length_nil, List.replicate, List.cons_append, List.nil_append, List.getElem?_cons_zero, List.getElem?_cons_succ, List.set_cons_zero, List.set_cons_succ]; exact rfl) ?_ | with_reducible apply s_seq | with_reducible apply s_asg | with_reducible apply s_name | with_reducible apply s_next | with_reducible apply s_ret | with_reducible apply s_retN | with_reducible apply s_drop | with_reducible apply s_if | with_reducible apply s_for | with_reducible apply s_and | with_reducible apply s_or | with_reducible apply s_not | with_reducible apply s_B | with_reducible apply s_mB | with_reducible apply s_addI | with_reducible apply s_subI | with_reducible apply s_cmpI | with_reducible apply s_eqI | with_reducible apply s_minI | with_reducible apply s_maxI | with_reducible apply s_meth | with_reducible apply s_Tr | with_reducible apply s_op | with_reducible apply s_c | with_reducible apply s_ifE | with_reducible apply s_andV | with_reducible apply s_orV | with_reducible apply s_notV | with_reducible apply s_b1 | with_reducible apply s_cons | with_reducible apply s_nil | with_reducible apply s_tup | with_reducible apply s_lst | with_reducible apply s_lstM | with_reducible apply s_call | with_reducible apply s_trB | with_reducible apply iteT | with_reducible apply iteF | with_reducible apply s_par | ((with_reducible apply s_var); case h => first | assumption | exact rfl) | (with_reducible refine ⟨by simp [sizeLine_eq], ?_⟩))
    refine ⟨ns, lo, rfl, e2, by omega, fun p f hp => ?_⟩
    repeat (first | with_reducible refine s_seqN (by simp only [startR, List.map_cons, List.map_nil, List.length_cons, List.length_nil, List.replicate, List.cons_append, List.nil_append, List.getElem?_cons_zero, List.getElem?_cons_succ, List.set_cons_zero, List.set_cons_succ]; exact rfl) ?_ | with_reducible apply s_seq | with_reducible apply s_asg | with_reducible apply s_name | with_reducible apply s_next | with_reducible apply s_ret | with_reducible apply s_retN | with_reducible apply s_drop | with_reducible apply s_if | with_reducible apply s_for | with_reducible apply s_and | with_reducible apply s_or | with_reducible apply s_not | with_reducible apply s_B | with_reducible apply s_mB | with_reducible apply s_addI | with_reducible apply s_subI | with_reducible apply s_cmpI | with_reducible apply s_eqI | with_reducible apply s_minI | with_reducible apply s_maxI | with_reducible apply s_meth | with_reducible apply s_Tr | with_reducible apply s_op | with_reducible apply s_c | with_reducible apply s_ifE | with_reducible apply s_andV | with_reducible apply s_orV | with_reducible apply s_notV | with_reducible apply s_b1 | with_reducible apply s_cons | with_reducible apply s_nil | with_reducible apply s_tup | with_reducible apply s_lst | with_reducible apply s_lstM | with_reducible apply s_call | with_reducible apply s_trB | with_reducible apply iteT | with_reducible apply iteF | with_reducible apply s_par | ((with_reducible apply s_var); case h => first | assumption | exact rfl) | (with_reducible refine ⟨by simp [sizeLine_eq], ?_⟩))
    refine ⟨p, f, rfl, updM_same, fun x f1 kx => ?_⟩
    rw [updM_updM]
    repeat (first | with_reducible refine s_seqN (by simp only [startR, List.map_cons, List.map_nil, List.length_cons, List.length_nil, List.replicate, List.cons_append, List.nil_append, List.getElem?_cons_zero, List.getElem?_cons_succ, List.set_cons_zero, List.set_cons_succ]; exact rfl) ?_ | with_reducible apply s_seq | with_reducible apply s_name | with_reducible apply s_next | with_reducible apply s_ret | with_reducible apply s_retN | with_reducible apply s_drop | with_reducible apply s_if | with_reducible apply s_for | with_reducible apply s_and | with_reducible apply s_or | with_reducible apply s_not | with_reducible apply s_B | with_reducible apply s_mB | with_reducible apply s_addI | with_reducible apply s_subI | with_reducible apply s_cmpI | with_reducible apply s_eqI | with_reducible apply s_minI | with_reducible apply s_maxI | with_reducible apply s_meth | with_reducible apply s_Tr | with_reducible apply s_op | with_reducible apply s_c | with_reducible apply s_ifE | with_reducible apply s_andV | with_reducible apply s_orV | with_reducible apply s_notV | with_reducible apply s_b1 | with_reducible apply s_cons | with_reducible apply s_nil | with_reducible apply s_tup | with_reducible apply s_lst | with_reducible apply s_lstM | with_reducible apply s_call | with_reducible apply s_trB | with_reducible apply iteT | with_reducible apply iteF | with_reducible apply s_par | ((with_reducible apply s_var); case h => first | assumption | exact rfl) | (with_reducible refine ⟨by simp [sizeLine_eq], ?_⟩))
    refine s_asgG (fun v M2 => ∃ (y : Pt) (f' : Feed), v = .lst (ptL y) ∧ okPt y ∧ M2 p = some (feedL f')) ?_ fun nx => ?_
    · rintro v M2 ⟨y, f2, rfl, ky, hp2⟩
      have ix : isPt (.tup (ptL x)) x := .inl rfl
      have iy : isPt (.lst (ptL y)) y := .inr rfl
      repeat (first | with_reducible refine s_seqN (by simp only [startR, List.map_cons, List.map_nil, List.length_cons, List.length_nil, List.replicate, List.cons_append, List.nil_append, List.getElem?_cons_zero, List.getElem?_cons_succ, List.set_cons_zero, List.set_cons_succ]; exact rfl) ?_ | with_reducible apply s_seq | with_reducible apply s_asg | with_reducible apply s_name | with_reducible apply s_next | with_reducible apply s_ret | with_reducible apply s_retN | with_reducible apply s_drop | with_reducible apply s_if | with_reducible apply s_for | with_reducible apply s_and | with_reducible apply s_or | with_reducible apply s_not | with_reducible apply s_B | with_reducible apply s_mB | with_reducible apply s_addI | with_reducible apply s_subI | with_reducible apply s_cmpI | with_reducible apply s_eqI | with_reducible apply s_minI | with_reducible apply s_maxI | with_reducible apply s_meth | with_reducible apply s_Tr | with_reducible apply s_op | with_reducible apply s_c | with_reducible apply s_ifE | with_reducible apply s_andV | with_reducible apply s_orV | with_reducible apply s_notV | with_reducible apply s_b1 | with_reducible apply s_cons | with_reducible apply s_nil | with_reducible apply s_tup | with_reducible apply s_lst | with_reducible apply s_lstM | with_reducible apply s_call | with_reducible apply s_trB | with_reducible apply iteT | with_reducible apply iteF | with_reducible apply s_par | ((with_reducible apply s_var); case h => first | assumption | exact rfl) | (with_reducible refine ⟨by simp [sizeLine_eq], ?_⟩))
      refine s_mkO ?_
      repeat (first | with_reducible refine s_seqN (by simp only [startR, List.map_cons, List.map_nil, List.length_cons, List.length_nil, List.replicate, List.cons_append, List.nil_append, List.getElem?_cons_zero, List.getElem?_cons_succ, List.set_cons_zero, List.set_cons_succ]; exact rfl) ?_ | with_reducible apply s_seq | with_reducible apply s_asg | with_reducible apply s_name | with_reducible apply s_next | with_reducible apply s_ret | with_reducible apply s_retN | with_reducible apply s_drop | with_reducible apply s_if | with_reducible apply s_for | with_reducible apply s_and | with_reducible apply s_or | with_reducible apply s_not | with_reducible apply s_B | with_reducible apply s_mB | with_reducible apply s_addI | with_reducible apply s_subI | with_reducible apply s_cmpI | with_reducible apply s_eqI | with_reducible apply s_minI | with_reducible apply s_maxI | with_reducible apply s_meth | with_reducible apply s_Tr | with_reducible apply s_op | with_reducible apply s_c | with_reducible apply s_ifE | with_reducible apply s_andV | with_reducible apply s_orV | with_reducible apply s_notV | with_reducible apply s_b1 | with_reducible apply s_cons | with_reducible apply s_nil | with_reducible apply s_tup | with_reducible apply s_lst | with_reducible apply s_lstM | with_reducible apply s_call | with_reducible apply s_trB | with_reducible apply iteT | with_reducible apply iteF | with_reducible apply s_par | ((with_reducible apply s_var); case h => first | assumption | exact rfl) | (with_reducible refine ⟨by simp [sizeLine_eq], ?_⟩))
      refine s_mk ?_
      repeat (first | with_reducible refine s_seqN (by simp only [startR, List.map_cons, List.map_nil, List.length_cons, List.length_nil, List.replicate, List.cons_append, List.nil_append, List.getElem?_cons_zero, List.getElem?_cons_succ, List.set_cons_zero, List.set_cons_succ]; exact rfl) ?_ | with_reducible apply s_seq | with_reducible apply s_asg | with_reducible apply s_name | with_reducible apply s_next | with_reducible apply s_ret | with_reducible apply s_retN | with_reducible apply s_drop | with_reducible apply s_if | with_reducible apply s_for | with_reducible apply s_and | with_reducible apply s_or | with_reducible apply s_not | with_reducible apply s_B | with_reducible apply s_mB | with_reducible apply s_addI | with_reducible apply s_subI | with_reducible apply s_cmpI | with_reducible apply s_eqI | with_reducible apply s_minI | with_reducible apply s_maxI | with_reducible apply s_meth | with_reducible apply s_Tr | with_reducible apply s_op | with_reducible apply s_c | with_reducible apply s_ifE | with_reducible apply s_andV | with_reducible apply s_orV | with_reducible apply s_notV | with_reducible apply s_b1 | with_reducible apply s_cons | with_reducible apply s_nil | with_reducible apply s_tup | with_reducible apply s_lst | with_reducible apply s_lstM | with_reducible apply s_call | with_reducible apply s_trB | with_reducible apply iteT | with_reducible apply iteF | with_reducible apply s_par | ((with_reducible apply s_var); case h => first | assumption | exact rfl) | (with_reducible refine ⟨by simp [sizeLine_eq], ?_⟩))
      refine ix_pt0 ix ?_
      refine mkC_ok rfl (okS_R kx.a) (by have := kx.a.1; omega) ?_
      refine s_mk ?_
      repeat (first | with_reducible refine s_seqN (by simp only [startR, List.map_cons, List.map_nil, List.length_cons, List.length_nil, List.replicate, List.cons_append, List.nil_append, List.getElem?_cons_zero, List.getElem?_cons_succ, List.set_cons_zero, List.set_cons_succ]; exact rfl) ?_ | with_reducible apply s_seq | with_reducible apply s_asg | with_reducible apply s_name | with_reducible apply s_next | with_reducible apply s_ret | with_reducible apply s_retN | with_reducible apply s_drop | with_reducible apply s_if | with_reducible apply s_for | with_reducible apply s_and | with_reducible apply s_or | with_reducible apply s_not | with_reducible apply s_B | with_reducible apply s_mB | with_reducible apply s_addI | with_reducible apply s_subI | with_reducible apply s_cmpI | with_reducible apply s_eqI | with_reducible apply s_minI | with_reducible apply s_maxI | with_reducible apply s_meth | with_reducible apply s_Tr | with_reducible apply s_op | with_reducible apply s_c | with_reducible apply s_ifE | with_reducible apply s_andV | with_reducible apply s_orV | with_reducible apply s_notV | with_reducible apply s_b1 | with_reducible apply s_cons | with_reducible apply s_nil | with_reducible apply s_tup | with_reducible apply s_lst | with_reducible apply s_lstM | with_reducible apply s_call | with_reducible apply s_trB | with_reducible apply iteT | with_reducible apply iteF | with_reducible apply s_par | ((with_reducible apply s_var); case h => first | assumption | exact rfl) | (with_reducible refine ⟨by simp [sizeLine_eq], ?_⟩))
      refine ix_pt1 ix ?_
      refine mkC_ok rfl (okS_R kx.b) (by have := kx.b.1; omega) ?_
      repeat (first | with_reducible refine s_seqN (by simp only [startR, List.map_cons, List.map_nil, List.length_cons, List.length_nil, List.replicate, List.cons_append, List.nil_append, List.getElem?_cons_zero, List.getElem?_cons_succ, List.set_cons_zero, List.set_cons_succ]; exact rfl) ?_ | with_reducible apply s_seq | with_reducible apply s_asg | with_reducible apply s_name | with_reducible apply s_next | with_reducible apply s_ret | with_reducible apply s_retN | with_reducible apply s_drop | with_reducible apply s_if | with_reducible apply s_for | with_reducible apply s_and | with_reducible apply s_or | with_reducible apply s_not | with_reducible apply s_B | with_reducible apply s_mB | with_reducible apply s_addI | with_reducible apply s_subI | with_reducible apply s_cmpI | with_reducible apply s_eqI | with_reducible apply s_minI | with_reducible apply s_maxI | with_reducible apply s_meth | with_reducible apply s_Tr | with_reducible apply s_op | with_reducible apply s_c | with_reducible apply s_ifE | with_reducible apply s_andV | with_reducible apply s_orV | with_reducible apply s_notV | with_reducible apply s_b1 | with_reducible apply s_cons | with_reducible apply s_nil | with_reducible apply s_tup | with_reducible apply s_lst | with_reducible apply s_lstM | with_reducible apply s_call | with_reducible apply s_trB | with_reducible apply iteT | with_reducible apply iteF | with_reducible apply s_par | ((with_reducible apply s_var); case h => first | assumption | exact rfl) | (with_reducible refine ⟨by simp [sizeLine_eq], ?_⟩))
      refine ix_pt2 ix ?_
      repeat (first | with_reducible refine s_seqN (by simp only [startR, List.map_cons, List.map_nil, List.length_cons, List.length_nil, List.replicate, List.cons_append, List.nil_append, List.getElem?_cons_zero, List.getElem?_cons_succ, List.set_cons_zero, List.set_cons_succ]; exact rfl) ?_ | with_reducible apply s_seq | with_reducible apply s_asg | with_reducible apply s_name | with_reducible apply s_next | with_reducible apply s_ret | with_reducible apply s_retN | with_reducible apply s_drop | with_reducible apply s_if | with_reducible apply s_for | with_reducible apply s_and | with_reducible apply s_or | with_reducible apply s_not | with_reducible apply s_B | with_reducible apply s_mB | with_reducible apply s_addI | with_reducible apply s_subI | with_reducible apply s_cmpI | with_reducible apply s_eqI | with_reducible apply s_minI | with_reducible apply s_maxI | with_reducible apply s_meth | with_reducible apply s_Tr | with_reducible apply s_op | with_reducible apply s_c | with_reducible apply s_ifE | with_reducible apply s_andV | with_reducible apply s_orV | with_reducible apply s_notV | with_reducible apply s_b1 | with_reducible apply s_cons | with_reducible apply s_nil | with_reducible apply s_tup | with_reducible apply s_lst | with_reducible apply s_lstM | with_reducible apply s_call | with_reducible apply s_trB | with_reducible apply iteT | with_reducible apply iteF | with_reducible apply s_par | ((with_reducible apply s_var); case h => first | assumption | exact rfl) | (with_reducible refine ⟨by simp [sizeLine_eq], ?_⟩))
      refine mkO_ok (o := nO x) ?_
      repeat (first | with_reducible refine s_seqN (by simp only [startR, List.map_cons, List.map_nil, List.length_cons, List.length_nil, List.replicate, List.cons_append, List.nil_append, List.getElem?_cons_zero, List.getElem?_cons_succ, List.set_cons_zero, List.set_cons_succ]; exact rfl) ?_ | with_reducible apply s_seq | with_reducible apply s_asg | with_reducible apply s_name | with_reducible apply s_next | with_reducible apply s_ret | with_reducible apply s_retN | with_reducible apply s_drop | with_reducible apply s_if | with_reducible apply s_for | with_reducible apply s_and | with_reducible apply s_or | with_reducible apply s_not | with_reducible apply s_B | with_reducible apply s_mB | with_reducible apply s_addI | with_reducible apply s_subI | with_reducible apply s_cmpI | with_reducible apply s_eqI | with_reducible apply s_minI | with_reducible apply s_maxI | with_reducible apply s_meth | with_reducible apply s_Tr | with_reducible apply s_op | with_reducible apply s_c | with_reducible apply s_ifE | with_reducible apply s_andV | with_reducible apply s_orV | with_reducible apply s_notV | with_reducible apply s_b1 | with_reducible apply s_cons | with_reducible apply s_nil | with_reducible apply s_tup | with_reducible apply s_lst | with_reducible apply s_lstM | with_reducible apply s_call | with_reducible apply s_trB | with_reducible apply iteT | with_reducible apply iteF | with_reducible apply s_par | ((with_reducible apply s_var); case h => first | assumption | exact rfl) | (with_reducible refine ⟨by simp [sizeLine_eq], ?_⟩))
      refine ⟨p, f2, rfl, hp2, fun z f3 kz => ?_⟩
      repeat (first | with_reducible refine s_seqN (by simp only [startR, List.map_cons, List.map_nil, List.length_cons, List.length_nil, List.replicate, List.cons_append, List.nil_append, List.getElem?_cons_zero, List.getElem?_cons_succ, List.set_cons_zero, List.set_cons_succ]; exact rfl) ?_ | with_reducible apply s_seq | with_reducible apply s_asg | with_reducible apply s_name | with_reducible apply s_next | with_reducible apply s_ret | with_reducible apply s_retN | with_reducible apply s_drop | with_reducible apply s_if | with_reducible apply s_for | with_reducible apply s_and | with_reducible apply s_or | with_reducible apply s_not | with_reducible apply s_B | with_reducible apply s_mB | with_reducible apply s_addI | with_reducible apply s_subI | with_reducible apply s_cmpI | with_reducible apply s_eqI | with_reducible apply s_minI | with_reducible apply s_maxI | with_reducible apply s_meth | with_reducible apply s_Tr | with_reducible apply s_op | with_reducible apply s_c | with_reducible apply s_ifE | with_reducible apply s_andV | with_reducible apply s_orV | with_reducible apply s_notV | with_reducible apply s_b1 | with_reducible apply s_cons | with_reducible apply s_nil | with_reducible apply s_tup | with_reducible apply s_lst | with_reducible apply s_lstM | with_reducible apply s_call | with_reducible apply s_trB | with_reducible apply iteT | with_reducible apply iteF | with_reducible apply s_par | ((with_reducible apply s_var); case h => first | assumption | exact rfl) | (with_reducible refine ⟨by simp [sizeLine_eq], ?_⟩))
      refine ix_pt0 ix ?_
      repeat (first | with_reducible refine s_seqN (by simp only [startR, List.map_cons, List.map_nil, List.length_cons, List.length_nil, List.replicate, List.cons_append, List.nil_append, List.getElem?_cons_zero, List.getElem?_cons_succ, List.set_cons_zero, List.set_cons_succ]; exact rfl) ?_ | with_reducible apply s_seq | with_reducible apply s_asg | with_reducible apply s_name | with_reducible apply s_next | with_reducible apply s_ret | with_reducible apply s_retN | with_reducible apply s_drop | with_reducible apply s_if | with_reducible apply s_for | with_reducible apply s_and | with_reducible apply s_or | with_reducible apply s_not | with_reducible apply s_B | with_reducible apply s_mB | with_reducible apply s_addI | with_reducible apply s_subI | with_reducible apply s_cmpI | with_reducible apply s_eqI | with_reducible apply s_minI | with_reducible apply s_maxI | with_reducible apply s_meth | with_reducible apply s_Tr | with_reducible apply s_op | with_reducible apply s_c | with_reducible apply s_ifE | with_reducible apply s_andV | with_reducible apply s_orV | with_reducible apply s_notV | with_reducible apply s_b1 | with_reducible apply s_cons | with_reducible apply s_nil | with_reducible apply s_tup | with_reducible apply s_lst | with_reducible apply s_lstM | with_reducible apply s_call | with_reducible apply s_trB | with_reducible apply iteT | with_reducible apply iteF | with_reducible apply s_par | ((with_reducible apply s_var); case h => first | assumption | exact rfl) | (with_reducible refine ⟨by simp [sizeLine_eq], ?_⟩))
      refine ⟨.tup (ptL x), x, _, rfl, ix, kx, by simp, fun e he => ?_, ?_⟩
      · simp only [List.mem_cons, List.not_mem_nil, or_false] at he
        rcases he with rfl | rfl | rfl | rfl | rfl
        · exact ⟨x, ix, kx⟩
        · exact ⟨y, iy, ky⟩
        · exact ⟨z, .inl rfl, kz⟩
        · exact ⟨⟨[], [], false⟩, .inl rfl, okS_nil, okS_nil⟩
        · exact ⟨⟨x.a, [(0, 40)], true⟩, .inl rfl, kx.a, by simp, fun q hq => (by rw [List.mem_singleton.mp hq]; decide)⟩
      repeat (first | with_reducible refine s_seqN (by simp only [startR, List.map_cons, List.map_nil, List.length_cons, List.length_nil, List.replicate, List.cons_append, List.nil_append, List.getElem?_cons_zero, List.getElem?_cons_succ, List.set_cons_zero, List.set_cons_succ]; exact rfl) ?_ | with_reducible apply s_seq | with_reducible apply s_asg | with_reducible apply s_name | with_reducible apply s_next | with_reducible apply s_ret | with_reducible apply s_retN | with_reducible apply s_drop | with_reducible apply s_if | with_reducible apply s_for | with_reducible apply s_and | with_reducible apply s_or | with_reducible apply s_not | with_reducible apply s_B | with_reducible apply s_mB | with_reducible apply s_addI | with_reducible apply s_subI | with_reducible apply s_cmpI | with_reducible apply s_eqI | with_reducible apply s_minI | with_reducible apply s_maxI | with_reducible apply s_meth | with_reducible apply s_Tr | with_reducible apply s_op | with_reducible apply s_c | with_reducible apply s_ifE | with_reducible apply s_andV | with_reducible apply s_orV | with_reducible apply s_notV | with_reducible apply s_b1 | with_reducible apply s_cons | with_reducible apply s_nil | with_reducible apply s_tup | with_reducible apply s_lst | with_reducible apply s_lstM | with_reducible apply s_call | with_reducible apply s_trB | with_reducible apply iteT | with_reducible apply iteF | with_reducible apply s_par | ((with_reducible apply s_var); case h => first | assumption | exact rfl) | (with_reducible refine ⟨by simp [sizeLine_eq], ?_⟩))
      try (refine s_iteF rfl ?_)
      repeat (first | with_reducible refine s_seqN (by simp only [startR, List.map_cons, List.map_nil, List.length_cons, List.length_nil, List.replicate, List.cons_append, List.nil_append, List.getElem?_cons_zero, List.getElem?_cons_succ, List.set_cons_zero, List.set_cons_succ]; exact rfl) ?_ | with_reducible apply s_seq | with_reducible apply s_asg | with_reducible apply s_name | with_reducible apply s_next | with_reducible apply s_ret | with_reducible apply s_retN | with_reducible apply s_drop | with_reducible apply s_if | with_reducible apply s_for | with_reducible apply s_and | with_reducible apply s_or | with_reducible apply s_not | with_reducible apply s_B | with_reducible apply s_mB | with_reducible apply s_addI | with_reducible apply s_subI | with_reducible apply s_cmpI | with_reducible apply s_eqI | with_reducible apply s_minI | with_reducible apply s_maxI | with_reducible apply s_meth | with_reducible apply s_Tr | with_reducible apply s_op | with_reducible apply s_c | with_reducible apply s_ifE | with_reducible apply s_andV | with_reducible apply s_orV | with_reducible apply s_notV | with_reducible apply s_b1 | with_reducible apply s_cons | with_reducible apply s_nil | with_reducible apply s_tup | with_reducible apply s_lst | with_reducible apply s_lstM | with_reducible apply s_call | with_reducible apply s_trB | with_reducible apply iteT | with_reducible apply iteF | with_reducible apply s_par | ((with_reducible apply s_var); case h => first | assumption | exact rfl) | (with_reducible refine ⟨by simp [sizeLine_eq], ?_⟩))
      with_reducible refine s_itemM ?_
      repeat (first | with_reducible refine s_seqN (by simp only [startR, List.map_cons, List.map_nil, List.length_cons, List.length_nil, List.replicate, List.cons_append, List.nil_append, List.getElem?_cons_zero, List.getElem?_cons_succ, List.set_cons_zero, List.set_cons_succ]; exact rfl) ?_ | with_reducible apply s_seq | with_reducible apply s_asg | with_reducible apply s_name | with_reducible apply s_next | with_reducible apply s_ret | with_reducible apply s_retN | with_reducible apply s_drop | with_reducible apply s_if | with_reducible apply s_for | with_reducible apply s_and | with_reducible apply s_or | with_reducible apply s_not | with_reducible apply s_B | with_reducible apply s_mB | with_reducible apply s_addI | with_reducible apply s_subI | with_reducible apply s_cmpI | with_reducible apply s_eqI | with_reducible apply s_minI | with_reducible apply s_maxI | with_reducible apply s_meth | with_reducible apply s_Tr | with_reducible apply s_op | with_reducible apply s_c | with_reducible apply s_ifE | with_reducible apply s_andV | with_reducible apply s_orV | with_reducible apply s_notV | with_reducible apply s_b1 | with_reducible apply s_cons | with_reducible apply s_nil | with_reducible apply s_tup | with_reducible apply s_lst | with_reducible apply s_lstM | with_reducible apply s_call | with_reducible apply s_trB | with_reducible apply iteT | with_reducible apply iteF | with_reducible apply s_par | ((with_reducible apply s_var); case h => first | assumption | exact rfl) | (with_reducible refine ⟨by simp [sizeLine_eq], ?_⟩))
      refine ⟨p, f3, rfl, updM_same, fun w f4 kw => ?_⟩
      rw [updM_updM]
      repeat (first | with_reducible refine s_seqN (by simp only [startR, List.map_cons, List.map_nil, List.length_cons, List.length_nil, List.replicate, List.cons_append, List.nil_append, List.getElem?_cons_zero, List.getElem?_cons_succ, List.set_cons_zero, List.set_cons_succ]; exact rfl) ?_ | with_reducible apply s_seq | with_reducible apply s_asg | with_reducible apply s_name | with_reducible apply s_next | with_reducible apply s_ret | with_reducible apply s_retN | with_reducible apply s_drop | with_reducible apply s_if | with_reducible apply s_for | with_reducible apply s_and | with_reducible apply s_or | with_reducible apply s_not | with_reducible apply s_B | with_reducible apply s_mB | with_reducible apply s_addI | with_reducible apply s_subI | with_reducible apply s_cmpI | with_reducible apply s_eqI | with_reducible apply s_minI | with_reducible apply s_maxI | with_reducible apply s_meth | with_reducible apply s_Tr | with_reducible apply s_op | with_reducible apply s_c | with_reducible apply s_ifE | with_reducible apply s_andV | with_reducible apply s_orV | with_reducible apply s_notV | with_reducible apply s_b1 | with_reducible apply s_cons | with_reducible apply s_nil | with_reducible apply s_tup | with_reducible apply s_lst | with_reducible apply s_lstM | with_reducible apply s_call | with_reducible apply s_trB | with_reducible apply iteT | with_reducible apply iteF | with_reducible apply s_par | ((with_reducible apply s_var); case h => first | assumption | exact rfl) | (with_reducible refine ⟨by simp [sizeLine_eq], ?_⟩))
      refine ix_pt0 ix ?_
      repeat (first | with_reducible refine s_seqN (by simp only [startR, List.map_cons, List.map_nil, List.length_cons, List.length_nil, List.replicate, List.cons_append, List.nil_append, List.getElem?_cons_zero, List.getElem?_cons_succ, List.set_cons_zero, List.set_cons_succ]; exact rfl) ?_ | with_reducible apply s_seq | with_reducible apply s_asg | with_reducible apply s_name | with_reducible apply s_next | with_reducible apply s_ret | with_reducible apply s_retN | with_reducible apply s_drop | with_reducible apply s_if | with_reducible apply s_for | with_reducible apply s_and | with_reducible apply s_or | with_reducible apply s_not | with_reducible apply s_B | with_reducible apply s_mB | with_reducible apply s_addI | with_reducible apply s_subI | with_reducible apply s_cmpI | with_reducible apply s_eqI | with_reducible apply s_minI | with_reducible apply s_maxI | with_reducible apply s_meth | with_reducible apply s_Tr | with_reducible apply s_op | with_reducible apply s_c | with_reducible apply s_ifE | with_reducible apply s_andV | with_reducible apply s_orV | with_reducible apply s_notV | with_reducible apply s_b1 | with_reducible apply s_cons | with_reducible apply s_nil | with_reducible apply s_tup | with_reducible apply s_lst | with_reducible apply s_lstM | with_reducible apply s_call | with_reducible apply s_trB | with_reducible apply iteT | with_reducible apply iteF | with_reducible apply s_par | ((with_reducible apply s_var); case h => first | assumption | exact rfl) | (with_reducible refine ⟨by simp [sizeLine_eq], ?_⟩))
      refine ⟨x.a, rfl, kx.a, fun S1 k1 s1 => ?_⟩
      repeat (first | with_reducible refine s_seqN (by simp only [startR, List.map_cons, List.map_nil, List.length_cons, List.length_nil, List.replicate, List.cons_append, List.nil_append, List.getElem?_cons_zero, List.getElem?_cons_succ, List.set_cons_zero, List.set_cons_succ]; exact rfl) ?_ | with_reducible apply s_seq | with_reducible apply s_asg | with_reducible apply s_name | with_reducible apply s_next | with_reducible apply s_ret | with_reducible apply s_retN | with_reducible apply s_drop | with_reducible apply s_if | with_reducible apply s_for | with_reducible apply s_and | with_reducible apply s_or | with_reducible apply s_not | with_reducible apply s_B | with_reducible apply s_mB | with_reducible apply s_addI | with_reducible apply s_subI | with_reducible apply s_cmpI | with_reducible apply s_eqI | with_reducible apply s_minI | with_reducible apply s_maxI | with_reducible apply s_meth | with_reducible apply s_Tr | with_reducible apply s_op | with_reducible apply s_c | with_reducible apply s_ifE | with_reducible apply s_andV | with_reducible apply s_orV | with_reducible apply s_notV | with_reducible apply s_b1 | with_reducible apply s_cons | with_reducible apply s_nil | with_reducible apply s_tup | with_reducible apply s_lst | with_reducible apply s_lstM | with_reducible apply s_call | with_reducible apply s_trB | with_reducible apply iteT | with_reducible apply iteF | with_reducible apply s_par | ((with_reducible apply s_var); case h => first | assumption | exact rfl) | (with_reducible refine ⟨by simp [sizeLine_eq], ?_⟩))
      refine ix_pt1 ix ?_
      repeat (first | with_reducible refine s_seqN (by simp only [startR, List.map_cons, List.map_nil, List.length_cons, List.length_nil, List.replicate, List.cons_append, List.nil_append, List.getElem?_cons_zero, List.getElem?_cons_succ, List.set_cons_zero, List.set_cons_succ]; exact rfl) ?_ | with_reducible apply s_seq | with_reducible apply s_asg | with_reducible apply s_name | with_reducible apply s_next | with_reducible apply s_ret | with_reducible apply s_retN | with_reducible apply s_drop | with_reducible apply s_if | with_reducible apply s_for | with_reducible apply s_and | with_reducible apply s_or | with_reducible apply s_not | with_reducible apply s_B | with_reducible apply s_mB | with_reducible apply s_addI | with_reducible apply s_subI | with_reducible apply s_cmpI | with_reducible apply s_eqI | with_reducible apply s_minI | with_reducible apply s_maxI | with_reducible apply s_meth | with_reducible apply s_Tr | with_reducible apply s_op | with_reducible apply s_c | with_reducible apply s_ifE | with_reducible apply s_andV | with_reducible apply s_orV | with_reducible apply s_notV | with_reducible apply s_b1 | with_reducible apply s_cons | with_reducible apply s_nil | with_reducible apply s_tup | with_reducible apply s_lst | with_reducible apply s_lstM | with_reducible apply s_call | with_reducible apply s_trB | with_reducible apply iteT | with_reducible apply iteF | with_reducible apply s_par | ((with_reducible apply s_var); case h => first | assumption | exact rfl) | (with_reducible refine ⟨by simp [sizeLine_eq], ?_⟩))
      refine ⟨x.b, rfl, kx.b, fun S2 k2 s2 => ?_⟩
      repeat (first | with_reducible refine s_seqN (by simp only [startR, List.map_cons, List.map_nil, List.length_cons, List.length_nil, List.replicate, List.cons_append, List.nil_append, List.getElem?_cons_zero, List.getElem?_cons_succ, List.set_cons_zero, List.set_cons_succ]; exact rfl) ?_ | with_reducible apply s_seq | with_reducible apply s_asg | with_reducible apply s_name | with_reducible apply s_next | with_reducible apply s_ret | with_reducible apply s_retN | with_reducible apply s_drop | with_reducible apply s_if | with_reducible apply s_for | with_reducible apply s_and | with_reducible apply s_or | with_reducible apply s_not | with_reducible apply s_B | with_reducible apply s_mB | with_reducible apply s_addI | with_reducible apply s_subI | with_reducible apply s_cmpI | with_reducible apply s_eqI | with_reducible apply s_minI | with_reducible apply s_maxI | with_reducible apply s_meth | with_reducible apply s_Tr | with_reducible apply s_op | with_reducible apply s_c | with_reducible apply s_ifE | with_reducible apply s_andV | with_reducible apply s_orV | with_reducible apply s_notV | with_reducible apply s_b1 | with_reducible apply s_cons | with_reducible apply s_nil | with_reducible apply s_tup | with_reducible apply s_lst | with_reducible apply s_lstM | with_reducible apply s_call | with_reducible apply s_trB | with_reducible apply iteT | with_reducible apply iteF | with_reducible apply s_par | ((with_reducible apply s_var); case h => first | assumption | exact rfl) | (with_reducible refine ⟨by simp [sizeLine_eq], ?_⟩))
      refine ix_pt2 ix ?_
      repeat (first | with_reducible refine s_seqN (by simp only [startR, List.map_cons, List.map_nil, List.length_cons, List.length_nil, List.replicate, List.cons_append, List.nil_append, List.getElem?_cons_zero, List.getElem?_cons_succ, List.set_cons_zero, List.set_cons_succ]; exact rfl) ?_ | with_reducible apply s_seq | with_reducible apply s_asg | with_reducible apply s_name | with_reducible apply s_next | with_reducible apply s_ret | with_reducible apply s_retN | with_reducible apply s_drop | with_reducible apply s_if | with_reducible apply s_for | with_reducible apply s_and | with_reducible apply s_or | with_reducible apply s_not | with_reducible apply s_B | with_reducible apply s_mB | with_reducible apply s_addI | with_reducible apply s_subI | with_reducible apply s_cmpI | with_reducible apply s_eqI | with_reducible apply s_minI | with_reducible apply s_maxI | with_reducible apply s_meth | with_reducible apply s_Tr | with_reducible apply s_op | with_reducible apply s_c | with_reducible apply s_ifE | with_reducible apply s_andV | with_reducible apply s_orV | with_reducible apply s_notV | with_reducible apply s_b1 | with_reducible apply s_cons | with_reducible apply s_nil | with_reducible apply s_tup | with_reducible apply s_lst | with_reducible apply s_lstM | with_reducible apply s_call | with_reducible apply s_trB | with_reducible apply iteT | with_reducible apply iteF | with_reducible apply s_par | ((with_reducible apply s_var); case h => first | assumption | exact rfl) | (with_reducible refine ⟨by simp [sizeLine_eq], ?_⟩))
      refine mItem_lst ?_
      refine dLoop_ind (fun rest ρ M3 => ∃ (f : Feed) (o6 o7 o8 o9 o11 : Option D), M3 p = some (feedL f) ∧ (∀ e ∈ rest, ∃ y, isPt e y ∧ okPt y) ∧ ρ = [some (.fro (ns.map .int)), some (.int lo), some (.ref p), some (.tup (ptL x)), some (.lst (ptL y)), some (objO (nO x)), o6, o7, o8, o9, none, o11]) ?_ ?_ _ _ _
        ⟨f4, _, _, _, _, _, updM_same, fun e he => ?_, rfl⟩
      · rintro d6 rest ρ M3 K3 hK3 ⟨f5, o6, o7, o8, o9, o11, hp3, hes, rfl⟩
        obtain ⟨u, iu, ku⟩ := hes d6 List.mem_cons_self
        have hes' : ∀ e ∈ rest, ∃ y, isPt e y ∧ okPt y := fun e he => hes e (List.mem_cons_of_mem _ he)
        clear hes hp2
        refine ⟨trivial, ?_⟩
        repeat (first | with_reducible refine s_seqN (by simp only [startR, List.map_cons, List.map_nil, List.length_cons, List.length_nil, List.replicate, List.cons_append, List.nil_append, List.getElem?_cons_zero, List.getElem?_cons_succ, List.set_cons_zero, List.set_cons_succ]; exact rfl) ?_ | with_reducible apply s_seq | with_reducible apply s_asg | with_reducible apply s_name | with_reducible apply s_next | with_reducible apply s_ret | with_reducible apply s_retN | with_reducible apply s_drop | with_reducible apply s_if | with_reducible apply s_for | with_reducible apply s_and | with_reducible apply s_or | with_reducible apply s_not | with_reducible apply s_B | with_reducible apply s_mB | with_reducible apply s_addI | with_reducible apply s_subI | with_reducible apply s_cmpI | with_reducible apply s_eqI | with_reducible apply s_minI | with_reducible apply s_maxI | with_reducible apply s_meth | with_reducible apply s_Tr | with_reducible apply s_op | with_reducible apply s_c | with_reducible apply s_ifE | with_reducible apply s_andV | with_reducible apply s_orV | with_reducible apply s_notV | with_reducible apply s_b1 | with_reducible apply s_cons | with_reducible apply s_nil | with_reducible apply s_tup | with_reducible apply s_lst | with_reducible apply s_lstM | with_reducible apply s_call | with_reducible apply s_trB | with_reducible apply iteT | with_reducible apply iteF | with_reducible apply s_par | ((with_reducible apply s_var); case h => first | assumption | exact rfl) | (with_reducible refine ⟨by simp [sizeLine_eq], ?_⟩))
        refine s_mkO ?_
        repeat (first | with_reducible refine s_seqN (by simp only [startR, List.map_cons, List.map_nil, List.length_cons, List.length_nil, List.replicate, List.cons_append, List.nil_append, List.getElem?_cons_zero, List.getElem?_cons_succ, List.set_cons_zero, List.set_cons_succ]; exact rfl) ?_ | with_reducible apply s_seq | with_reducible apply s_asg | with_reducible apply s_name | with_reducible apply s_next | with_reducible apply s_ret | with_reducible apply s_retN | with_reducible apply s_drop | with_reducible apply s_if | with_reducible apply s_for | with_reducible apply s_and | with_reducible apply s_or | with_reducible apply s_not | with_reducible apply s_B | with_reducible apply s_mB | with_reducible apply s_addI | with_reducible apply s_subI | with_reducible apply s_cmpI | with_reducible apply s_eqI | with_reducible apply s_minI | with_reducible apply s_maxI | with_reducible apply s_meth | with_reducible apply s_Tr | with_reducible apply s_op | with_reducible apply s_c | with_reducible apply s_ifE | with_reducible apply s_andV | with_reducible apply s_orV | with_reducible apply s_notV | with_reducible apply s_b1 | with_reducible apply s_cons | with_reducible apply s_nil | with_reducible apply s_tup | with_reducible apply s_lst | with_reducible apply s_lstM | with_reducible apply s_call | with_reducible apply s_trB | with_reducible apply iteT | with_reducible apply iteF | with_reducible apply s_par | ((with_reducible apply s_var); case h => first | assumption | exact rfl) | (with_reducible refine ⟨by simp [sizeLine_eq], ?_⟩))
        refine s_mk ?_
        repeat (first | with_reducible refine s_seqN (by simp only [startR, List.map_cons, List.map_nil, List.length_cons, List.length_nil, List.replicate, List.cons_append, List.nil_append, List.getElem?_cons_zero, List.getElem?_cons_succ, List.set_cons_zero, List.set_cons_succ]; exact rfl) ?_ | with_reducible apply s_seq | with_reducible apply s_asg | with_reducible apply s_name | with_reducible apply s_next | with_reducible apply s_ret | with_reducible apply s_retN | with_reducible apply s_drop | with_reducible apply s_if | with_reducible apply s_for | with_reducible apply s_and | with_reducible apply s_or | with_reducible apply s_not | with_reducible apply s_B | with_reducible apply s_mB | with_reducible apply s_addI | with_reducible apply s_subI | with_reducible apply s_cmpI | with_reducible apply s_eqI | with_reducible apply s_minI | with_reducible apply s_maxI | with_reducible apply s_meth | with_reducible apply s_Tr | with_reducible apply s_op | with_reducible apply s_c | with_reducible apply s_ifE | with_reducible apply s_andV | with_reducible apply s_orV | with_reducible apply s_notV | with_reducible apply s_b1 | with_reducible apply s_cons | with_reducible apply s_nil | with_reducible apply s_tup | with_reducible apply s_lst | with_reducible apply s_lstM | with_reducible apply s_call | with_reducible apply s_trB | with_reducible apply iteT | with_reducible apply iteF | with_reducible apply s_par | ((with_reducible apply s_var); case h => first | assumption | exact rfl) | (with_reducible refine ⟨by simp [sizeLine_eq], ?_⟩))
        refine ix_pt0 ix ?_
        refine mkC_ok rfl (okS_R kx.a) (by have := kx.a.1; omega) ?_
        refine s_mk ?_
        repeat (first | with_reducible refine s_seqN (by simp only [startR, List.map_cons, List.map_nil, List.length_cons, List.length_nil, List.replicate, List.cons_append, List.nil_append, List.getElem?_cons_zero, List.getElem?_cons_succ, List.set_cons_zero, List.set_cons_succ]; exact rfl) ?_ | with_reducible apply s_seq | with_reducible apply s_asg | with_reducible apply s_name | with_reducible apply s_next | with_reducible apply s_ret | with_reducible apply s_retN | with_reducible apply s_drop | with_reducible apply s_if | with_reducible apply s_for | with_reducible apply s_and | with_reducible apply s_or | with_reducible apply s_not | with_reducible apply s_B | with_reducible apply s_mB | with_reducible apply s_addI | with_reducible apply s_subI | with_reducible apply s_cmpI | with_reducible apply s_eqI | with_reducible apply s_minI | with_reducible apply s_maxI | with_reducible apply s_meth | with_reducible apply s_Tr | with_reducible apply s_op | with_reducible apply s_c | with_reducible apply s_ifE | with_reducible apply s_andV | with_reducible apply s_orV | with_reducible apply s_notV | with_reducible apply s_b1 | with_reducible apply s_cons | with_reducible apply s_nil | with_reducible apply s_tup | with_reducible apply s_lst | with_reducible apply s_lstM | with_reducible apply s_call | with_reducible apply s_trB | with_reducible apply iteT | with_reducible apply iteF | with_reducible apply s_par | ((with_reducible apply s_var); case h => first | assumption | exact rfl) | (with_reducible refine ⟨by simp [sizeLine_eq], ?_⟩))
        refine ix_pt1 ix ?_
        refine mkC_ok rfl (okS_R kx.b) (by have := kx.b.1; omega) ?_
        repeat (first | with_reducible refine s_seqN (by simp only [startR, List.map_cons, List.map_nil, List.length_cons, List.length_nil, List.replicate, List.cons_append, List.nil_append, List.getElem?_cons_zero, List.getElem?_cons_succ, List.set_cons_zero, List.set_cons_succ]; exact rfl) ?_ | with_reducible apply s_seq | with_reducible apply s_asg | with_reducible apply s_name | with_reducible apply s_next | with_reducible apply s_ret | with_reducible apply s_retN | with_reducible apply s_drop | with_reducible apply s_if | with_reducible apply s_for | with_reducible apply s_and | with_reducible apply s_or | with_reducible apply s_not | with_reducible apply s_B | with_reducible apply s_mB | with_reducible apply s_addI | with_reducible apply s_subI | with_reducible apply s_cmpI | with_reducible apply s_eqI | with_reducible apply s_minI | with_reducible apply s_maxI | with_reducible apply s_meth | with_reducible apply s_Tr | with_reducible apply s_op | with_reducible apply s_c | with_reducible apply s_ifE | with_reducible apply s_andV | with_reducible apply s_orV | with_reducible apply s_notV | with_reducible apply s_b1 | with_reducible apply s_cons | with_reducible apply s_nil | with_reducible apply s_tup | with_reducible apply s_lst | with_reducible apply s_lstM | with_reducible apply s_call | with_reducible apply s_trB | with_reducible apply iteT | with_reducible apply iteF | with_reducible apply s_par | ((with_reducible apply s_var); case h => first | assumption | exact rfl) | (with_reducible refine ⟨by simp [sizeLine_eq], ?_⟩))
        refine ix_pt2 ix ?_
        repeat (first | with_reducible refine s_seqN (by simp only [startR, List.map_cons, List.map_nil, List.length_cons, List.length_nil, List.replicate, List.cons_append, List.nil_append, List.getElem?_cons_zero, List.getElem?_cons_succ, List.set_cons_zero, List.set_cons_succ]; exact rfl) ?_ | with_reducible apply s_seq | with_reducible apply s_asg | with_reducible apply s_name | with_reducible apply s_next | with_reducible apply s_ret | with_reducible apply s_retN | with_reducible apply s_drop | with_reducible apply s_if | with_reducible apply s_for | with_reducible apply s_and | with_reducible apply s_or | with_reducible apply s_not | with_reducible apply s_B | with_reducible apply s_mB | with_reducible apply s_addI | with_reducible apply s_subI | with_reducible apply s_cmpI | with_reducible apply s_eqI | with_reducible apply s_minI | with_reducible apply s_maxI | with_reducible apply s_meth | with_reducible apply s_Tr | with_reducible apply s_op | with_reducible apply s_c | with_reducible apply s_ifE | with_reducible apply s_andV | with_reducible apply s_orV | with_reducible apply s_notV | with_reducible apply s_b1 | with_reducible apply s_cons | with_reducible apply s_nil | with_reducible apply s_tup | with_reducible apply s_lst | with_reducible apply s_lstM | with_reducible apply s_call | with_reducible apply s_trB | with_reducible apply iteT | with_reducible apply iteF | with_reducible apply s_par | ((with_reducible apply s_var); case h => first | assumption | exact rfl) | (with_reducible refine ⟨by simp [sizeLine_eq], ?_⟩))
        refine mkO_ok (o := nO x) ?_
        repeat (first | with_reducible refine s_seqN (by simp only [startR, List.map_cons, List.map_nil, List.length_cons, List.length_nil, List.replicate, List.cons_append, List.nil_append, List.getElem?_cons_zero, List.getElem?_cons_succ, List.set_cons_zero, List.set_cons_succ]; exact rfl) ?_ | with_reducible apply s_seq | with_reducible apply s_asg | with_reducible apply s_name | with_reducible apply s_next | with_reducible apply s_ret | with_reducible apply s_retN | with_reducible apply s_drop | with_reducible apply s_if | with_reducible apply s_for | with_reducible apply s_and | with_reducible apply s_or | with_reducible apply s_not | with_reducible apply s_B | with_reducible apply s_mB | with_reducible apply s_addI | with_reducible apply s_subI | with_reducible apply s_cmpI | with_reducible apply s_eqI | with_reducible apply s_minI | with_reducible apply s_maxI | with_reducible apply s_meth | with_reducible apply s_Tr | with_reducible apply s_op | with_reducible apply s_c | with_reducible apply s_ifE | with_reducible apply s_andV | with_reducible apply s_orV | with_reducible apply s_notV | with_reducible apply s_b1 | with_reducible apply s_cons | with_reducible apply s_nil | with_reducible apply s_tup | with_reducible apply s_lst | with_reducible apply s_lstM | with_reducible apply s_call | with_reducible apply s_trB | with_reducible apply iteT | with_reducible apply iteF | with_reducible apply s_par | ((with_reducible apply s_var); case h => first | assumption | exact rfl) | (with_reducible refine ⟨by simp [sizeLine_eq], ?_⟩))
        refine s_mkO ?_
        repeat (first | with_reducible refine s_seqN (by simp only [startR, List.map_cons, List.map_nil, List.length_cons, List.length_nil, List.replicate, List.cons_append, List.nil_append, List.getElem?_cons_zero, List.getElem?_cons_succ, List.set_cons_zero, List.set_cons_succ]; exact rfl) ?_ | with_reducible apply s_seq | with_reducible apply s_asg | with_reducible apply s_name | with_reducible apply s_next | with_reducible apply s_ret | with_reducible apply s_retN | with_reducible apply s_drop | with_reducible apply s_if | with_reducible apply s_for | with_reducible apply s_and | with_reducible apply s_or | with_reducible apply s_not | with_reducible apply s_B | with_reducible apply s_mB | with_reducible apply s_addI | with_reducible apply s_subI | with_reducible apply s_cmpI | with_reducible apply s_eqI | with_reducible apply s_minI | with_reducible apply s_maxI | with_reducible apply s_meth | with_reducible apply s_Tr | with_reducible apply s_op | with_reducible apply s_c | with_reducible apply s_ifE | with_reducible apply s_andV | with_reducible apply s_orV | with_reducible apply s_notV | with_reducible apply s_b1 | with_reducible apply s_cons | with_reducible apply s_nil | with_reducible apply s_tup | with_reducible apply s_lst | with_reducible apply s_lstM | with_reducible apply s_call | with_reducible apply s_trB | with_reducible apply iteT | with_reducible apply iteF | with_reducible apply s_par | ((with_reducible apply s_var); case h => first | assumption | exact rfl) | (with_reducible refine ⟨by simp [sizeLine_eq], ?_⟩))
        refine s_mk ?_
        repeat (first | with_reducible refine s_seqN (by simp only [startR, List.map_cons, List.map_nil, List.length_cons, List.length_nil, List.replicate, List.cons_append, List.nil_append, List.getElem?_cons_zero, List.getElem?_cons_succ, List.set_cons_zero, List.set_cons_succ]; exact rfl) ?_ | with_reducible apply s_seq | with_reducible apply s_asg | with_reducible apply s_name | with_reducible apply s_next | with_reducible apply s_ret | with_reducible apply s_retN | with_reducible apply s_drop | with_reducible apply s_if | with_reducible apply s_for | with_reducible apply s_and | with_reducible apply s_or | with_reducible apply s_not | with_reducible apply s_B | with_reducible apply s_mB | with_reducible apply s_addI | with_reducible apply s_subI | with_reducible apply s_cmpI | with_reducible apply s_eqI | with_reducible apply s_minI | with_reducible apply s_maxI | with_reducible apply s_meth | with_reducible apply s_Tr | with_reducible apply s_op | with_reducible apply s_c | with_reducible apply s_ifE | with_reducible apply s_andV | with_reducible apply s_orV | with_reducible apply s_notV | with_reducible apply s_b1 | with_reducible apply s_cons | with_reducible apply s_nil | with_reducible apply s_tup | with_reducible apply s_lst | with_reducible apply s_lstM | with_reducible apply s_call | with_reducible apply s_trB | with_reducible apply iteT | with_reducible apply iteF | with_reducible apply s_par | ((with_reducible apply s_var); case h => first | assumption | exact rfl) | (with_reducible refine ⟨by simp [sizeLine_eq], ?_⟩))
        refine ix_pt0 iu ?_
        refine mkC_ok rfl (okS_R ku.a) (by have := ku.a.1; omega) ?_
        refine s_mk ?_
        repeat (first | with_reducible refine s_seqN (by simp only [startR, List.map_cons, List.map_nil, List.length_cons, List.length_nil, List.replicate, List.cons_append, List.nil_append, List.getElem?_cons_zero, List.getElem?_cons_succ, List.set_cons_zero, List.set_cons_succ]; exact rfl) ?_ | with_reducible apply s_seq | with_reducible apply s_asg | with_reducible apply s_name | with_reducible apply s_next | with_reducible apply s_ret | with_reducible apply s_retN | with_reducible apply s_drop | with_reducible apply s_if | with_reducible apply s_for | with_reducible apply s_and | with_reducible apply s_or | with_reducible apply s_not | with_reducible apply s_B | with_reducible apply s_mB | with_reducible apply s_addI | with_reducible apply s_subI | with_reducible apply s_cmpI | with_reducible apply s_eqI | with_reducible apply s_minI | with_reducible apply s_maxI | with_reducible apply s_meth | with_reducible apply s_Tr | with_reducible apply s_op | with_reducible apply s_c | with_reducible apply s_ifE | with_reducible apply s_andV | with_reducible apply s_orV | with_reducible apply s_notV | with_reducible apply s_b1 | with_reducible apply s_cons | with_reducible apply s_nil | with_reducible apply s_tup | with_reducible apply s_lst | with_reducible apply s_lstM | with_reducible apply s_call | with_reducible apply s_trB | with_reducible apply iteT | with_reducible apply iteF | with_reducible apply s_par | ((with_reducible apply s_var); case h => first | assumption | exact rfl) | (with_reducible refine ⟨by simp [sizeLine_eq], ?_⟩))
        refine ix_pt1 iu ?_
        refine mkC_ok rfl (okS_R ku.b) (by have := ku.b.1; omega) ?_
        repeat (first | with_reducible refine s_seqN (by simp only [startR, List.map_cons, List.map_nil, List.length_cons, List.length_nil, List.replicate, List.cons_append, List.nil_append, List.getElem?_cons_zero, List.getElem?_cons_succ, List.set_cons_zero, List.set_cons_succ]; exact rfl) ?_ | with_reducible apply s_seq | with_reducible apply s_asg | with_reducible apply s_name | with_reducible apply s_next | with_reducible apply s_ret | with_reducible apply s_retN | with_reducible apply s_drop | with_reducible apply s_if | with_reducible apply s_for | with_reducible apply s_and | with_reducible apply s_or | with_reducible apply s_not | with_reducible apply s_B | with_reducible apply s_mB | with_reducible apply s_addI | with_reducible apply s_subI | with_reducible apply s_cmpI | with_reducible apply s_eqI | with_reducible apply s_minI | with_reducible apply s_maxI | with_reducible apply s_meth | with_reducible apply s_Tr | with_reducible apply s_op | with_reducible apply s_c | with_reducible apply s_ifE | with_reducible apply s_andV | with_reducible apply s_orV | with_reducible apply s_notV | with_reducible apply s_b1 | with_reducible apply s_cons | with_reducible apply s_nil | with_reducible apply s_tup | with_reducible apply s_lst | with_reducible apply s_lstM | with_reducible apply s_call | with_reducible apply s_trB | with_reducible apply iteT | with_reducible apply iteF | with_reducible apply s_par | ((with_reducible apply s_var); case h => first | assumption | exact rfl) | (with_reducible refine ⟨by simp [sizeLine_eq], ?_⟩))
        refine ix_pt2 iu ?_
        repeat (first | with_reducible refine s_seqN (by simp only [startR, List.map_cons, List.map_nil, List.length_cons, List.length_nil, List.replicate, List.cons_append, List.nil_append, List.getElem?_cons_zero, List.getElem?_cons_succ, List.set_cons_zero, List.set_cons_succ]; exact rfl) ?_ | with_reducible apply s_seq | with_reducible apply s_asg | with_reducible apply s_name | with_reducible apply s_next | with_reducible apply s_ret | with_reducible apply s_retN | with_reducible apply s_drop | with_reducible apply s_if | with_reducible apply s_for | with_reducible apply s_and | with_reducible apply s_or | with_reducible apply s_not | with_reducible apply s_B | with_reducible apply s_mB | with_reducible apply s_addI | with_reducible apply s_subI | with_reducible apply s_cmpI | with_reducible apply s_eqI | with_reducible apply s_minI | with_reducible apply s_maxI | with_reducible apply s_meth | with_reducible apply s_Tr | with_reducible apply s_op | with_reducible apply s_c | with_reducible apply s_ifE | with_reducible apply s_andV | with_reducible apply s_orV | with_reducible apply s_notV | with_reducible apply s_b1 | with_reducible apply s_cons | with_reducible apply s_nil | with_reducible apply s_tup | with_reducible apply s_lst | with_reducible apply s_lstM | with_reducible apply s_call | with_reducible apply s_trB | with_reducible apply iteT | with_reducible apply iteF | with_reducible apply s_par | ((with_reducible apply s_var); case h => first | assumption | exact rfl) | (with_reducible refine ⟨by simp [sizeLine_eq], ?_⟩))
        refine mkO_ok (o := nO u) ?_
        repeat (first | with_reducible refine s_seqN (by simp only [startR, List.map_cons, List.map_nil, List.length_cons, List.length_nil, List.replicate, List.cons_append, List.nil_append, List.getElem?_cons_zero, List.getElem?_cons_succ, List.set_cons_zero, List.set_cons_succ]; exact rfl) ?_ | with_reducible apply s_seq | with_reducible apply s_asg | with_reducible apply s_name | with_reducible apply s_next | with_reducible apply s_ret | with_reducible apply s_retN | with_reducible apply s_drop | with_reducible apply s_if | with_reducible apply s_for | with_reducible apply s_and | with_reducible apply s_or | with_reducible apply s_not | with_reducible apply s_B | with_reducible apply s_mB | with_reducible apply s_addI | with_reducible apply s_subI | with_reducible apply s_cmpI | with_reducible apply s_eqI | with_reducible apply s_minI | with_reducible apply s_maxI | with_reducible apply s_meth | with_reducible apply s_Tr | with_reducible apply s_op | with_reducible apply s_c | with_reducible apply s_ifE | with_reducible apply s_andV | with_reducible apply s_orV | with_reducible apply s_notV | with_reducible apply s_b1 | with_reducible apply s_cons | with_reducible apply s_nil | with_reducible apply s_tup | with_reducible apply s_lst | with_reducible apply s_lstM | with_reducible apply s_call | with_reducible apply s_trB | with_reducible apply iteT | with_reducible apply iteF | with_reducible apply s_par | ((with_reducible apply s_var); case h => first | assumption | exact rfl) | (with_reducible refine ⟨by simp [sizeLine_eq], ?_⟩))
        refine ⟨_, _, x, u, rfl, ix, iu, kx, ku, ?_⟩
        repeat (first | with_reducible refine s_seqN (by simp only [startR, List.map_cons, List.map_nil, List.length_cons, List.length_nil, List.replicate, List.cons_append, List.nil_append, List.getElem?_cons_zero, List.getElem?_cons_succ, List.set_cons_zero, List.set_cons_succ]; exact rfl) ?_ | with_reducible apply s_seq | with_reducible apply s_asg | with_reducible apply s_name | with_reducible apply s_next | with_reducible apply s_ret | with_reducible apply s_retN | with_reducible apply s_drop | with_reducible apply s_if | with_reducible apply s_for | with_reducible apply s_and | with_reducible apply s_or | with_reducible apply s_not | with_reducible apply s_B | with_reducible apply s_mB | with_reducible apply s_addI | with_reducible apply s_subI | with_reducible apply s_cmpI | with_reducible apply s_eqI | with_reducible apply s_minI | with_reducible apply s_maxI | with_reducible apply s_meth | with_reducible apply s_Tr | with_reducible apply s_op | with_reducible apply s_c | with_reducible apply s_ifE | with_reducible apply s_andV | with_reducible apply s_orV | with_reducible apply s_notV | with_reducible apply s_b1 | with_reducible apply s_cons | with_reducible apply s_nil | with_reducible apply s_tup | with_reducible apply s_lst | with_reducible apply s_lstM | with_reducible apply s_call | with_reducible apply s_trB | with_reducible apply iteT | with_reducible apply iteF | with_reducible apply s_par | ((with_reducible apply s_var); case h => first | assumption | exact rfl) | (with_reducible refine ⟨by simp [sizeLine_eq], ?_⟩))
        try (refine s_iteF rfl ?_)
        repeat (first | with_reducible refine s_seqN (by simp only [startR, List.map_cons, List.map_nil, List.length_cons, List.length_nil, List.replicate, List.cons_append, List.nil_append, List.getElem?_cons_zero, List.getElem?_cons_succ, List.set_cons_zero, List.set_cons_succ]; exact rfl) ?_ | with_reducible apply s_seq | with_reducible apply s_asg | with_reducible apply s_name | with_reducible apply s_next | with_reducible apply s_ret | with_reducible apply s_retN | with_reducible apply s_drop | with_reducible apply s_if | with_reducible apply s_for | with_reducible apply s_and | with_reducible apply s_or | with_reducible apply s_not | with_reducible apply s_B | with_reducible apply s_mB | with_reducible apply s_addI | with_reducible apply s_subI | with_reducible apply s_cmpI | with_reducible apply s_eqI | with_reducible apply s_minI | with_reducible apply s_maxI | with_reducible apply s_meth | with_reducible apply s_Tr | with_reducible apply s_op | with_reducible apply s_c | with_reducible apply s_ifE | with_reducible apply s_andV | with_reducible apply s_orV | with_reducible apply s_notV | with_reducible apply s_b1 | with_reducible apply s_cons | with_reducible apply s_nil | with_reducible apply s_tup | with_reducible apply s_lst | with_reducible apply s_lstM | with_reducible apply s_call | with_reducible apply s_trB | with_reducible apply iteT | with_reducible apply iteF | with_reducible apply s_par | ((with_reducible apply s_var); case h => first | assumption | exact rfl) | (with_reducible refine ⟨by simp [sizeLine_eq], ?_⟩))
        refine ⟨_, _, u, x, rfl, iu, ix, ku, kx, ?_⟩
        repeat (first | with_reducible refine s_seqN (by simp only [startR, List.map_cons, List.map_nil, List.length_cons, List.length_nil, List.replicate, List.cons_append, List.nil_append, List.getElem?_cons_zero, List.getElem?_cons_succ, List.set_cons_zero, List.set_cons_succ]; exact rfl) ?_ | with_reducible apply s_seq | with_reducible apply s_asg | with_reducible apply s_name | with_reducible apply s_next | with_reducible apply s_ret | with_reducible apply s_retN | with_reducible apply s_drop | with_reducible apply s_if | with_reducible apply s_for | with_reducible apply s_and | with_reducible apply s_or | with_reducible apply s_not | with_reducible apply s_B | with_reducible apply s_mB | with_reducible apply s_addI | with_reducible apply s_subI | with_reducible apply s_cmpI | with_reducible apply s_eqI | with_reducible apply s_minI | with_reducible apply s_maxI | with_reducible apply s_meth | with_reducible apply s_Tr | with_reducible apply s_op | with_reducible apply s_c | with_reducible apply s_ifE | with_reducible apply s_andV | with_reducible apply s_orV | with_reducible apply s_notV | with_reducible apply s_b1 | with_reducible apply s_cons | with_reducible apply s_nil | with_reducible apply s_tup | with_reducible apply s_lst | with_reducible apply s_lstM | with_reducible apply s_call | with_reducible apply s_trB | with_reducible apply iteT | with_reducible apply iteF | with_reducible apply s_par | ((with_reducible apply s_var); case h => first | assumption | exact rfl) | (with_reducible refine ⟨by simp [sizeLine_eq], ?_⟩))
        try (refine s_iteF rfl ?_)
        repeat (first | with_reducible refine s_seqN (by simp only [startR, List.map_cons, List.map_nil, List.length_cons, List.length_nil, List.replicate, List.cons_append, List.nil_append, List.getElem?_cons_zero, List.getElem?_cons_succ, List.set_cons_zero, List.set_cons_succ]; exact rfl) ?_ | with_reducible apply s_seq | with_reducible apply s_asg | with_reducible apply s_name | with_reducible apply s_next | with_reducible apply s_ret | with_reducible apply s_retN | with_reducible apply s_drop | with_reducible apply s_if | with_reducible apply s_for | with_reducible apply s_and | with_reducible apply s_or | with_reducible apply s_not | with_reducible apply s_B | with_reducible apply s_mB | with_reducible apply s_addI | with_reducible apply s_subI | with_reducible apply s_cmpI | with_reducible apply s_eqI | with_reducible apply s_minI | with_reducible apply s_maxI | with_reducible apply s_meth | with_reducible apply s_Tr | with_reducible apply s_op | with_reducible apply s_c | with_reducible apply s_ifE | with_reducible apply s_andV | with_reducible apply s_orV | with_reducible apply s_notV | with_reducible apply s_b1 | with_reducible apply s_cons | with_reducible apply s_nil | with_reducible apply s_tup | with_reducible apply s_lst | with_reducible apply s_lstM | with_reducible apply s_call | with_reducible apply s_trB | with_reducible apply iteT | with_reducible apply iteF | with_reducible apply s_par | ((with_reducible apply s_var); case h => first | assumption | exact rfl) | (with_reducible refine ⟨by simp [sizeLine_eq], ?_⟩))
        refine s_fldO (i := 7) (o := nO x) rfl lookO_ok ?_
        refine s_mk ?_
        repeat (first | with_reducible refine s_seqN (by simp only [startR, List.map_cons, List.map_nil, List.length_cons, List.length_nil, List.replicate, List.cons_append, List.nil_append, List.getElem?_cons_zero, List.getElem?_cons_succ, List.set_cons_zero, List.set_cons_succ]; exact rfl) ?_ | with_reducible apply s_seq | with_reducible apply s_asg | with_reducible apply s_name | with_reducible apply s_next | with_reducible apply s_ret | with_reducible apply s_retN | with_reducible apply s_drop | with_reducible apply s_if | with_reducible apply s_for | with_reducible apply s_and | with_reducible apply s_or | with_reducible apply s_not | with_reducible apply s_B | with_reducible apply s_mB | with_reducible apply s_addI | with_reducible apply s_subI | with_reducible apply s_cmpI | with_reducible apply s_eqI | with_reducible apply s_minI | with_reducible apply s_maxI | with_reducible apply s_meth | with_reducible apply s_Tr | with_reducible apply s_op | with_reducible apply s_c | with_reducible apply s_ifE | with_reducible apply s_andV | with_reducible apply s_orV | with_reducible apply s_notV | with_reducible apply s_b1 | with_reducible apply s_cons | with_reducible apply s_nil | with_reducible apply s_tup | with_reducible apply s_lst | with_reducible apply s_lstM | with_reducible apply s_call | with_reducible apply s_trB | with_reducible apply iteT | with_reducible apply iteF | with_reducible apply s_par | ((with_reducible apply s_var); case h => first | assumption | exact rfl) | (with_reducible refine ⟨by simp [sizeLine_eq], ?_⟩))
        refine ix_pt0 ix ?_
        refine mkC_ok rfl (okS_R kx.a) (by have := kx.a.1; omega) ?_
        refine op_neT (a := (nO x).a) (b := norm x.a) ?_
        repeat (first | with_reducible refine s_seqN (by simp only [startR, List.map_cons, List.map_nil, List.length_cons, List.length_nil, List.replicate, List.cons_append, List.nil_append, List.getElem?_cons_zero, List.getElem?_cons_succ, List.set_cons_zero, List.set_cons_succ]; exact rfl) ?_ | with_reducible apply s_seq | with_reducible apply s_asg | with_reducible apply s_name | with_reducible apply s_next | with_reducible apply s_ret | with_reducible apply s_retN | with_reducible apply s_drop | with_reducible apply s_if | with_reducible apply s_for | with_reducible apply s_and | with_reducible apply s_or | with_reducible apply s_not | with_reducible apply s_B | with_reducible apply s_mB | with_reducible apply s_addI | with_reducible apply s_subI | with_reducible apply s_cmpI | with_reducible apply s_eqI | with_reducible apply s_minI | with_reducible apply s_maxI | with_reducible apply s_meth | with_reducible apply s_Tr | with_reducible apply s_op | with_reducible apply s_c | with_reducible apply s_ifE | with_reducible apply s_andV | with_reducible apply s_orV | with_reducible apply s_notV | with_reducible apply s_b1 | with_reducible apply s_cons | with_reducible apply s_nil | with_reducible apply s_tup | with_reducible apply s_lst | with_reducible apply s_lstM | with_reducible apply s_call | with_reducible apply s_trB | with_reducible apply iteT | with_reducible apply iteF | with_reducible apply s_par | ((with_reducible apply s_var); case h => first | assumption | exact rfl) | (with_reducible refine ⟨by simp [sizeLine_eq], ?_⟩))
        refine s_iteF (by simp [nO]) ?_
        repeat (first | with_reducible refine s_seqN (by simp only [startR, List.map_cons, List.map_nil, List.length_cons, List.length_nil, List.replicate, List.cons_append, List.nil_append, List.getElem?_cons_zero, List.getElem?_cons_succ, List.set_cons_zero, List.set_cons_succ]; exact rfl) ?_ | with_reducible apply s_seq | with_reducible apply s_asg | with_reducible apply s_name | with_reducible apply s_next | with_reducible apply s_ret | with_reducible apply s_retN | with_reducible apply s_drop | with_reducible apply s_if | with_reducible apply s_for | with_reducible apply s_and | with_reducible apply s_or | with_reducible apply s_not | with_reducible apply s_B | with_reducible apply s_mB | with_reducible apply s_addI | with_reducible apply s_subI | with_reducible apply s_cmpI | with_reducible apply s_eqI | with_reducible apply s_minI | with_reducible apply s_maxI | with_reducible apply s_meth | with_reducible apply s_Tr | with_reducible apply s_op | with_reducible apply s_c | with_reducible apply s_ifE | with_reducible apply s_andV | with_reducible apply s_orV | with_reducible apply s_notV | with_reducible apply s_b1 | with_reducible apply s_cons | with_reducible apply s_nil | with_reducible apply s_tup | with_reducible apply s_lst | with_reducible apply s_lstM | with_reducible apply s_call | with_reducible apply s_trB | with_reducible apply iteT | with_reducible apply iteF | with_reducible apply s_par | ((with_reducible apply s_var); case h => first | assumption | exact rfl) | (with_reducible refine ⟨by simp [sizeLine_eq], ?_⟩))
        refine s_fldO (i := 7) (o := nO x) rfl lookO_fail ?_
        refine s_mk ?_
        repeat (first | with_reducible refine s_seqN (by simp only [startR, List.map_cons, List.map_nil, List.length_cons, List.length_nil, List.replicate, List.cons_append, List.nil_append, List.getElem?_cons_zero, List.getElem?_cons_succ, List.set_cons_zero, List.set_cons_succ]; exact rfl) ?_ | with_reducible apply s_seq | with_reducible apply s_asg | with_reducible apply s_name | with_reducible apply s_next | with_reducible apply s_ret | with_reducible apply s_retN | with_reducible apply s_drop | with_reducible apply s_if | with_reducible apply s_for | with_reducible apply s_and | with_reducible apply s_or | with_reducible apply s_not | with_reducible apply s_B | with_reducible apply s_mB | with_reducible apply s_addI | with_reducible apply s_subI | with_reducible apply s_cmpI | with_reducible apply s_eqI | with_reducible apply s_minI | with_reducible apply s_maxI | with_reducible apply s_meth | with_reducible apply s_Tr | with_reducible apply s_op | with_reducible apply s_c | with_reducible apply s_ifE | with_reducible apply s_andV | with_reducible apply s_orV | with_reducible apply s_notV | with_reducible apply s_b1 | with_reducible apply s_cons | with_reducible apply s_nil | with_reducible apply s_tup | with_reducible apply s_lst | with_reducible apply s_lstM | with_reducible apply s_call | with_reducible apply s_trB | with_reducible apply iteT | with_reducible apply iteF | with_reducible apply s_par | ((with_reducible apply s_var); case h => first | assumption | exact rfl) | (with_reducible refine ⟨by simp [sizeLine_eq], ?_⟩))
        refine ix_pt1 ix ?_
        refine mkC_ok rfl (okS_R kx.b) (by have := kx.b.1; omega) ?_
        refine op_neT (a := (nO x).b) (b := norm x.b) ?_
        repeat (first | with_reducible refine s_seqN (by simp only [startR, List.map_cons, List.map_nil, List.length_cons, List.length_nil, List.replicate, List.cons_append, List.nil_append, List.getElem?_cons_zero, List.getElem?_cons_succ, List.set_cons_zero, List.set_cons_succ]; exact rfl) ?_ | with_reducible apply s_seq | with_reducible apply s_asg | with_reducible apply s_name | with_reducible apply s_next | with_reducible apply s_ret | with_reducible apply s_retN | with_reducible apply s_drop | with_reducible apply s_if | with_reducible apply s_for | with_reducible apply s_and | with_reducible apply s_or | with_reducible apply s_not | with_reducible apply s_B | with_reducible apply s_mB | with_reducible apply s_addI | with_reducible apply s_subI | with_reducible apply s_cmpI | with_reducible apply s_eqI | with_reducible apply s_minI | with_reducible apply s_maxI | with_reducible apply s_meth | with_reducible apply s_Tr | with_reducible apply s_op | with_reducible apply s_c | with_reducible apply s_ifE | with_reducible apply s_andV | with_reducible apply s_orV | with_reducible apply s_notV | with_reducible apply s_b1 | with_reducible apply s_cons | with_reducible apply s_nil | with_reducible apply s_tup | with_reducible apply s_lst | with_reducible apply s_lstM | with_reducible apply s_call | with_reducible apply s_trB | with_reducible apply iteT | with_reducible apply iteF | with_reducible apply s_par | ((with_reducible apply s_var); case h => first | assumption | exact rfl) | (with_reducible refine ⟨by simp [sizeLine_eq], ?_⟩))
        refine s_iteF (by simp [nO]) ?_
        repeat (first | with_reducible refine s_seqN (by simp only [startR, List.map_cons, List.map_nil, List.length_cons, List.length_nil, List.replicate, List.cons_append, List.nil_append, List.getElem?_cons_zero, List.getElem?_cons_succ, List.set_cons_zero, List.set_cons_succ]; exact rfl) ?_ | with_reducible apply s_seq | with_reducible apply s_asg | with_reducible apply s_name | with_reducible apply s_next | with_reducible apply s_ret | with_reducible apply s_retN | with_reducible apply s_drop | with_reducible apply s_if | with_reducible apply s_for | with_reducible apply s_and | with_reducible apply s_or | with_reducible apply s_not | with_reducible apply s_B | with_reducible apply s_mB | with_reducible apply s_addI | with_reducible apply s_subI | with_reducible apply s_cmpI | with_reducible apply s_eqI | with_reducible apply s_minI | with_reducible apply s_maxI | with_reducible apply s_meth | with_reducible apply s_Tr | with_reducible apply s_op | with_reducible apply s_c | with_reducible apply s_ifE | with_reducible apply s_andV | with_reducible apply s_orV | with_reducible apply s_notV | with_reducible apply s_b1 | with_reducible apply s_cons | with_reducible apply s_nil | with_reducible apply s_tup | with_reducible apply s_lst | with_reducible apply s_lstM | with_reducible apply s_call | with_reducible apply s_trB | with_reducible apply iteT | with_reducible apply iteF | with_reducible apply s_par | ((with_reducible apply s_var); case h => first | assumption | exact rfl) | (with_reducible refine ⟨by simp [sizeLine_eq], ?_⟩))
        refine s_fldO (i := 7) (o := nO x) rfl lookO_never ?_
        repeat (first | with_reducible refine s_seqN (by simp only [startR, List.map_cons, List.map_nil, List.length_cons, List.length_nil, List.replicate, List.cons_append, List.nil_append, List.getElem?_cons_zero, List.getElem?_cons_succ, List.set_cons_zero, List.set_cons_succ]; exact rfl) ?_ | with_reducible apply s_seq | with_reducible apply s_asg | with_reducible apply s_name | with_reducible apply s_next | with_reducible apply s_ret | with_reducible apply s_retN | with_reducible apply s_drop | with_reducible apply s_if | with_reducible apply s_for | with_reducible apply s_and | with_reducible apply s_or | with_reducible apply s_not | with_reducible apply s_B | with_reducible apply s_mB | with_reducible apply s_addI | with_reducible apply s_subI | with_reducible apply s_cmpI | with_reducible apply s_eqI | with_reducible apply s_minI | with_reducible apply s_maxI | with_reducible apply s_meth | with_reducible apply s_Tr | with_reducible apply s_op | with_reducible apply s_c | with_reducible apply s_ifE | with_reducible apply s_andV | with_reducible apply s_orV | with_reducible apply s_notV | with_reducible apply s_b1 | with_reducible apply s_cons | with_reducible apply s_nil | with_reducible apply s_tup | with_reducible apply s_lst | with_reducible apply s_lstM | with_reducible apply s_call | with_reducible apply s_trB | with_reducible apply iteT | with_reducible apply iteF | with_reducible apply s_par | ((with_reducible apply s_var); case h => first | assumption | exact rfl) | (with_reducible refine ⟨by simp [sizeLine_eq], ?_⟩))
        refine rcRepr_bool ?_
        repeat (first | with_reducible refine s_seqN (by simp only [startR, List.map_cons, List.map_nil, List.length_cons, List.length_nil, List.replicate, List.cons_append, List.nil_append, List.getElem?_cons_zero, List.getElem?_cons_succ, List.set_cons_zero, List.set_cons_succ]; exact rfl) ?_ | with_reducible apply s_seq | with_reducible apply s_asg | with_reducible apply s_name | with_reducible apply s_next | with_reducible apply s_ret | with_reducible apply s_retN | with_reducible apply s_drop | with_reducible apply s_if | with_reducible apply s_for | with_reducible apply s_and | with_reducible apply s_or | with_reducible apply s_not | with_reducible apply s_B | with_reducible apply s_mB | with_reducible apply s_addI | with_reducible apply s_subI | with_reducible apply s_cmpI | with_reducible apply s_eqI | with_reducible apply s_minI | with_reducible apply s_maxI | with_reducible apply s_meth | with_reducible apply s_Tr | with_reducible apply s_op | with_reducible apply s_c | with_reducible apply s_ifE | with_reducible apply s_andV | with_reducible apply s_orV | with_reducible apply s_notV | with_reducible apply s_b1 | with_reducible apply s_cons | with_reducible apply s_nil | with_reducible apply s_tup | with_reducible apply s_lst | with_reducible apply s_lstM | with_reducible apply s_call | with_reducible apply s_trB | with_reducible apply iteT | with_reducible apply iteF | with_reducible apply s_par | ((with_reducible apply s_var); case h => first | assumption | exact rfl) | (with_reducible refine ⟨by simp [sizeLine_eq], ?_⟩))
        refine ix_pt2 ix ?_
        repeat (first | with_reducible refine s_seqN (by simp only [startR, List.map_cons, List.map_nil, List.length_cons, List.length_nil, List.replicate, List.cons_append, List.nil_append, List.getElem?_cons_zero, List.getElem?_cons_succ, List.set_cons_zero, List.set_cons_succ]; exact rfl) ?_ | with_reducible apply s_seq | with_reducible apply s_asg | with_reducible apply s_name | with_reducible apply s_next | with_reducible apply s_ret | with_reducible apply s_retN | with_reducible apply s_drop | with_reducible apply s_if | with_reducible apply s_for | with_reducible apply s_and | with_reducible apply s_or | with_reducible apply s_not | with_reducible apply s_B | with_reducible apply s_mB | with_reducible apply s_addI | with_reducible apply s_subI | with_reducible apply s_cmpI | with_reducible apply s_eqI | with_reducible apply s_minI | with_reducible apply s_maxI | with_reducible apply s_meth | with_reducible apply s_Tr | with_reducible apply s_op | with_reducible apply s_c | with_reducible apply s_ifE | with_reducible apply s_andV | with_reducible apply s_orV | with_reducible apply s_notV | with_reducible apply s_b1 | with_reducible apply s_cons | with_reducible apply s_nil | with_reducible apply s_tup | with_reducible apply s_lst | with_reducible apply s_lstM | with_reducible apply s_call | with_reducible apply s_trB | with_reducible apply iteT | with_reducible apply iteF | with_reducible apply s_par | ((with_reducible apply s_var); case h => first | assumption | exact rfl) | (with_reducible refine ⟨by simp [sizeLine_eq], ?_⟩))
        refine rcRepr_bool ?_
        refine s_eqS ?_
        refine s_iteF (by simp [nO]) ?_
        repeat (first | with_reducible refine s_seqN (by simp only [startR, List.map_cons, List.map_nil, List.length_cons, List.length_nil, List.replicate, List.cons_append, List.nil_append, List.getElem?_cons_zero, List.getElem?_cons_succ, List.set_cons_zero, List.set_cons_succ]; exact rfl) ?_ | with_reducible apply s_seq | with_reducible apply s_asg | with_reducible apply s_name | with_reducible apply s_next | with_reducible apply s_ret | with_reducible apply s_retN | with_reducible apply s_drop | with_reducible apply s_for | with_reducible apply s_and | with_reducible apply s_or | with_reducible apply s_not | with_reducible apply s_B | with_reducible apply s_mB | with_reducible apply s_addI | with_reducible apply s_subI | with_reducible apply s_cmpI | with_reducible apply s_eqI | with_reducible apply s_minI | with_reducible apply s_maxI | with_reducible apply s_meth | with_reducible apply s_Tr | with_reducible apply s_op | with_reducible apply s_c | with_reducible apply s_ifE | with_reducible apply s_andV | with_reducible apply s_orV | with_reducible apply s_notV | with_reducible apply s_b1 | with_reducible apply s_cons | with_reducible apply s_nil | with_reducible apply s_tup | with_reducible apply s_lst | with_reducible apply s_lstM | with_reducible apply s_call | with_reducible apply s_trB | with_reducible apply iteT | with_reducible apply iteF | with_reducible apply s_par | ((with_reducible apply s_var); case h => first | assumption | exact rfl) | (with_reducible refine ⟨by simp [sizeLine_eq], ?_⟩))
        refine s_if2 ?_ fun nx => ?_
        · repeat (first | with_reducible refine s_seqN (by simp only [startR, List.map_cons, List.map_nil, List.length_cons, List.length_nil, List.replicate, List.cons_append, List.nil_append, List.getElem?_cons_zero, List.getElem?_cons_succ, List.set_cons_zero, List.set_cons_succ]; exact rfl) ?_ | with_reducible apply s_seq | with_reducible apply s_asg | with_reducible apply s_name | with_reducible apply s_next | with_reducible apply s_ret | with_reducible apply s_retN | with_reducible apply s_drop | with_reducible apply s_if | with_reducible apply s_for | with_reducible apply s_and | with_reducible apply s_or | with_reducible apply s_not | with_reducible apply s_B | with_reducible apply s_mB | with_reducible apply s_addI | with_reducible apply s_subI | with_reducible apply s_cmpI | with_reducible apply s_eqI | with_reducible apply s_minI | with_reducible apply s_maxI | with_reducible apply s_meth | with_reducible apply s_Tr | with_reducible apply s_op | with_reducible apply s_c | with_reducible apply s_ifE | with_reducible apply s_andV | with_reducible apply s_orV | with_reducible apply s_notV | with_reducible apply s_b1 | with_reducible apply s_cons | with_reducible apply s_nil | with_reducible apply s_tup | with_reducible apply s_lst | with_reducible apply s_lstM | with_reducible apply s_call | with_reducible apply s_trB | with_reducible apply iteT | with_reducible apply iteF | with_reducible apply s_par | ((with_reducible apply s_var); case h => first | assumption | exact rfl) | (with_reducible refine ⟨by simp [sizeLine_eq], ?_⟩))
          with_reducible refine s_itemM ?_
          with_reducible refine s_lc ?_
          refine s_range1 (by decide) (by decide) ?_
          intro p0 hp0
          simp only [wipeR, List.foldl, startR, List.map_cons, List.map_nil, List.length_cons, List.length_nil, List.replicate, List.cons_append, List.nil_append, List.getElem?_cons_zero, List.getElem?_cons_succ, List.set_cons_zero, List.set_cons_succ, sizeLine_eq, Nat.reduceAdd, Nat.reduceLeDiff, Nat.reduceLT, Nat.zero_le, true_and]
          refine dLc_feed (p := p) (f := f5) (fun v => ∃ t : Int, v = .int t) hp0 hp3 (fun acc M' => trivial) (fun d hd M4 f Q h4 k1 => ?_) (by decide) fun out f6 hl6 h6 => ?_
          · repeat (first | with_reducible refine s_seqN (by simp only [startR, List.map_cons, List.map_nil, List.length_cons, List.length_nil, List.replicate, List.cons_append, List.nil_append, List.getElem?_cons_zero, List.getElem?_cons_succ, List.set_cons_zero, List.set_cons_succ]; exact rfl) ?_ | with_reducible apply s_seq | with_reducible apply s_asg | with_reducible apply s_name | with_reducible apply s_next | with_reducible apply s_ret | with_reducible apply s_retN | with_reducible apply s_drop | with_reducible apply s_if | with_reducible apply s_for | with_reducible apply s_and | with_reducible apply s_or | with_reducible apply s_not | with_reducible apply s_B | with_reducible apply s_mB | with_reducible apply s_addI | with_reducible apply s_subI | with_reducible apply s_cmpI | with_reducible apply s_eqI | with_reducible apply s_minI | with_reducible apply s_maxI | with_reducible apply s_meth | with_reducible apply s_Tr | with_reducible apply s_op | with_reducible apply s_c | with_reducible apply s_ifE | with_reducible apply s_andV | with_reducible apply s_orV | with_reducible apply s_notV | with_reducible apply s_b1 | with_reducible apply s_cons | with_reducible apply s_nil | with_reducible apply s_tup | with_reducible apply s_lst | with_reducible apply s_lstM | with_reducible apply s_call | with_reducible apply s_trB | with_reducible apply iteT | with_reducible apply iteF | with_reducible apply s_par | ((with_reducible apply s_var); case h => first | assumption | exact rfl) | (with_reducible refine ⟨by simp [sizeLine_eq], ?_⟩))
            refine ⟨p, f, 26, rfl, h4, by decide, by decide, fun v f' v0 v1 => ?_⟩
            exact k1 _ _ ⟨v, rfl⟩
          refine mItem_lst ?_
          refine dLoop_ind (fun rest ρ M4 => ∃ (o9 o11 : Option D), M4 = updM M3 p (feedL f6) ∧ (∀ v ∈ rest, ∃ t : Int, v = .int t) ∧ ρ = [some (.fro (ns.map .int)), some (.int lo), some (.ref p), some (.tup (ptL x)), some (.lst (ptL y)), some (objO (nO x)), some d6, some (objO (nO x)), some (objO (nO u)), o9, none, o11]) ?_ ?_ _ _ _
            ⟨_, _, rfl, h6, rfl⟩
          · rintro d7 rest ρ M4 K4 hK4 ⟨o9, o11, rfl, h7, rfl⟩
            obtain ⟨t, rfl⟩ := h7 d7 List.mem_cons_self
            have h7' : ∀ v ∈ rest, ∃ t : Int, v = .int t := fun v hv => h7 v (List.mem_cons_of_mem _ hv)
            clear h7 h6 hl6
            refine ⟨trivial, ?_⟩
            repeat (first | with_reducible refine s_seqN (by simp only [startR, List.map_cons, List.map_nil, List.length_cons, List.length_nil, List.replicate, List.cons_append, List.nil_append, List.getElem?_cons_zero, List.getElem?_cons_succ, List.set_cons_zero, List.set_cons_succ]; exact rfl) ?_ | with_reducible apply s_seq | with_reducible apply s_asg | with_reducible apply s_name | with_reducible apply s_next | with_reducible apply s_ret | with_reducible apply s_retN | with_reducible apply s_drop | with_reducible apply s_if | with_reducible apply s_for | with_reducible apply s_and | with_reducible apply s_or | with_reducible apply s_not | with_reducible apply s_B | with_reducible apply s_mB | with_reducible apply s_addI | with_reducible apply s_subI | with_reducible apply s_cmpI | with_reducible apply s_eqI | with_reducible apply s_minI | with_reducible apply s_maxI | with_reducible apply s_meth | with_reducible apply s_Tr | with_reducible apply s_op | with_reducible apply s_c | with_reducible apply s_ifE | with_reducible apply s_andV | with_reducible apply s_orV | with_reducible apply s_notV | with_reducible apply s_b1 | with_reducible apply s_cons | with_reducible apply s_nil | with_reducible apply s_tup | with_reducible apply s_lst | with_reducible apply s_lstM | with_reducible apply s_call | with_reducible apply s_trB | with_reducible apply iteT | with_reducible apply iteF | with_reducible apply s_par | ((with_reducible apply s_var); case h => first | assumption | exact rfl) | (with_reducible refine ⟨by simp [sizeLine_eq], ?_⟩))
            with_reducible refine s_itemM ?_
            repeat (first | with_reducible refine s_seqN (by simp only [startR, List.map_cons, List.map_nil, List.length_cons, List.length_nil, List.replicate, List.cons_append, List.nil_append, List.getElem?_cons_zero, List.getElem?_cons_succ, List.set_cons_zero, List.set_cons_succ]; exact rfl) ?_ | with_reducible apply s_seq | with_reducible apply s_asg | with_reducible apply s_name | with_reducible apply s_next | with_reducible apply s_ret | with_reducible apply s_retN | with_reducible apply s_drop | with_reducible apply s_if | with_reducible apply s_for | with_reducible apply s_and | with_reducible apply s_or | with_reducible apply s_not | with_reducible apply s_B | with_reducible apply s_mB | with_reducible apply s_addI | with_reducible apply s_subI | with_reducible apply s_cmpI | with_reducible apply s_eqI | with_reducible apply s_minI | with_reducible apply s_maxI | with_reducible apply s_meth | with_reducible apply s_Tr | with_reducible apply s_op | with_reducible apply s_c | with_reducible apply s_ifE | with_reducible apply s_andV | with_reducible apply s_orV | with_reducible apply s_notV | with_reducible apply s_b1 | with_reducible apply s_cons | with_reducible apply s_nil | with_reducible apply s_tup | with_reducible apply s_lst | with_reducible apply s_lstM | with_reducible apply s_call | with_reducible apply s_trB | with_reducible apply iteT | with_reducible apply iteF | with_reducible apply s_par | ((with_reducible apply s_var); case h => first | assumption | exact rfl) | (with_reducible refine ⟨by simp [sizeLine_eq], ?_⟩))
            refine mItem_lst ?_
            have word : ∀ (w : Bool) (K5 : Ro → Store → Prop) (E : DEnds) (o11 : Option D), E.nx = K5 → K5 [some (.fro (ns.map .int)), some (.int lo), some (.ref p), some (.tup (ptL x)), some (.lst (ptL y)), some (objO (nO x)), some d6, some (objO (nO x)), some (objO (nO u)), some (.int t), none, some (.str (wordS w))] (updM M3 p (feedL f6)) → 
              dIf (dB (dOp (rdEq true) (dOp (rdOwnIn false "Outcomes" sp_Outcomes_contains) (dTup (daCons (dVar 11) (daCons (dVar 9) daNil))) (dVar 7)) (dOp (rdIn false) (dTup (daCons (dVar 11) (daCons (dVar 9) daNil))) (dCall sp_law_all (finW PE) [] (daCons (dVar 3) daNil))))) (dRet (dC (.bl false))) dNext E [some (.fro (ns.map .int)), some (.int lo), some (.ref p), some (.tup (ptL x)), some (.lst (ptL y)), some (objO (nO x)), some d6, some (objO (nO x)), some (objO (nO u)), some (.int t), none, some (.str (wordS w))] (updM M3 p (feedL f6)) := by
              intro w K5 E o11 hE hk
              repeat (first | with_reducible refine s_seqN (by simp only [startR, List.map_cons, List.map_nil, List.length_cons, List.length_nil, List.replicate, List.cons_append, List.nil_append, List.getElem?_cons_zero, List.getElem?_cons_succ, List.set_cons_zero, List.set_cons_succ]; exact rfl) ?_ | with_reducible apply s_seq | with_reducible apply s_asg | with_reducible apply s_name | with_reducible apply s_next | with_reducible apply s_ret | with_reducible apply s_retN | with_reducible apply s_drop | with_reducible apply s_if | with_reducible apply s_for | with_reducible apply s_and | with_reducible apply s_or | with_reducible apply s_not | with_reducible apply s_B | with_reducible apply s_mB | with_reducible apply s_addI | with_reducible apply s_subI | with_reducible apply s_cmpI | with_reducible apply s_eqI | with_reducible apply s_minI | with_reducible apply s_maxI | with_reducible apply s_meth | with_reducible apply s_Tr | with_reducible apply s_op | with_reducible apply s_c | with_reducible apply s_ifE | with_reducible apply s_andV | with_reducible apply s_orV | with_reducible apply s_notV | with_reducible apply s_b1 | with_reducible apply s_cons | with_reducible apply s_nil | with_reducible apply s_tup | with_reducible apply s_lst | with_reducible apply s_lstM | with_reducible apply s_call | with_reducible apply s_trB | with_reducible apply iteT | with_reducible apply iteF | with_reducible apply s_par | ((with_reducible apply s_var); case h => first | assumption | exact rfl) | (with_reducible refine ⟨by simp [sizeLine_eq], ?_⟩))
              refine opO_in (r := some (w, t)) (okO_n kx) fun b hb => ?_
              repeat (first | with_reducible refine s_seqN (by simp only [startR, List.map_cons, List.map_nil, List.length_cons, List.length_nil, List.replicate, List.cons_append, List.nil_append, List.getElem?_cons_zero, List.getElem?_cons_succ, List.set_cons_zero, List.set_cons_succ]; exact rfl) ?_ | with_reducible apply s_seq | with_reducible apply s_asg | with_reducible apply s_name | with_reducible apply s_next | with_reducible apply s_ret | with_reducible apply s_retN | with_reducible apply s_drop | with_reducible apply s_if | with_reducible apply s_for | with_reducible apply s_and | with_reducible apply s_or | with_reducible apply s_not | with_reducible apply s_B | with_reducible apply s_mB | with_reducible apply s_addI | with_reducible apply s_subI | with_reducible apply s_cmpI | with_reducible apply s_eqI | with_reducible apply s_minI | with_reducible apply s_maxI | with_reducible apply s_meth | with_reducible apply s_Tr | with_reducible apply s_op | with_reducible apply s_c | with_reducible apply s_ifE | with_reducible apply s_andV | with_reducible apply s_orV | with_reducible apply s_notV | with_reducible apply s_b1 | with_reducible apply s_cons | with_reducible apply s_nil | with_reducible apply s_tup | with_reducible apply s_lst | with_reducible apply s_lstM | with_reducible apply s_call | with_reducible apply s_trB | with_reducible apply iteT | with_reducible apply iteF | with_reducible apply s_par | ((with_reducible apply s_var); case h => first | assumption | exact rfl) | (with_reducible refine ⟨by simp [sizeLine_eq], ?_⟩))
              refine ⟨_, x, rfl, ix, kx, ?_⟩
              refine s_inReps (r := some (w, t)) ?_
              refine s_eqB ?_
              have e : b = decide (some (w, t) ∈ allR x) := by
                rw [Bool.eq_iff_iff, hb, decide_eq_true_eq, mem_all kx]
              rw [e]
              refine s_iteF (by simp) ?_
              rw [← hE] at hk
              repeat (first | with_reducible refine s_seqN (by simp only [startR, List.map_cons, List.map_nil, List.length_cons, List.length_nil, List.replicate, List.cons_append, List.nil_append, List.getElem?_cons_zero, List.getElem?_cons_succ, List.set_cons_zero, List.set_cons_succ]; exact rfl) ?_ | with_reducible apply s_seq | with_reducible apply s_asg | with_reducible apply s_name | with_reducible apply s_next | with_reducible apply s_ret | with_reducible apply s_retN | with_reducible apply s_drop | with_reducible apply s_if | with_reducible apply s_for | with_reducible apply s_and | with_reducible apply s_or | with_reducible apply s_not | with_reducible apply s_B | with_reducible apply s_mB | with_reducible apply s_addI | with_reducible apply s_subI | with_reducible apply s_cmpI | with_reducible apply s_eqI | with_reducible apply s_minI | with_reducible apply s_maxI | with_reducible apply s_meth | with_reducible apply s_Tr | with_reducible apply s_op | with_reducible apply s_c | with_reducible apply s_ifE | with_reducible apply s_andV | with_reducible apply s_orV | with_reducible apply s_notV | with_reducible apply s_b1 | with_reducible apply s_cons | with_reducible apply s_nil | with_reducible apply s_tup | with_reducible apply s_lst | with_reducible apply s_lstM | with_reducible apply s_call | with_reducible apply s_trB | with_reducible apply iteT | with_reducible apply iteF | with_reducible apply s_par | ((with_reducible apply s_var); case h => first | assumption | exact rfl) | (with_reducible refine ⟨by simp [sizeLine_eq], ?_⟩))
              exact hk
            refine ⟨trivial, ?_⟩
            refine s_name ?_
            refine word true _ _ none rfl ?_
            refine ⟨trivial, ?_⟩
            refine s_name ?_
            refine word false _ _ none rfl ?_
            refine ⟨trivial, ?_⟩
            exact hK4 _ _ ⟨_, _, rfl, h7', rfl⟩
          · rintro ρ M4 ⟨o9, o11, rfl, h7, rfl⟩
            refine ⟨trivial, ?_⟩
            repeat (first | with_reducible refine s_seqN (by simp only [startR, List.map_cons, List.map_nil, List.length_cons, List.length_nil, List.replicate, List.cons_append, List.nil_append, List.getElem?_cons_zero, List.getElem?_cons_succ, List.set_cons_zero, List.set_cons_succ]; exact rfl) ?_ | with_reducible apply s_seq | with_reducible apply s_asg | with_reducible apply s_name | with_reducible apply s_next | with_reducible apply s_ret | with_reducible apply s_retN | with_reducible apply s_drop | with_reducible apply s_if | with_reducible apply s_for | with_reducible apply s_and | with_reducible apply s_or | with_reducible apply s_not | with_reducible apply s_B | with_reducible apply s_mB | with_reducible apply s_addI | with_reducible apply s_subI | with_reducible apply s_cmpI | with_reducible apply s_eqI | with_reducible apply s_minI | with_reducible apply s_maxI | with_reducible apply s_meth | with_reducible apply s_Tr | with_reducible apply s_op | with_reducible apply s_c | with_reducible apply s_ifE | with_reducible apply s_andV | with_reducible apply s_orV | with_reducible apply s_notV | with_reducible apply s_b1 | with_reducible apply s_cons | with_reducible apply s_nil | with_reducible apply s_tup | with_reducible apply s_lst | with_reducible apply s_lstM | with_reducible apply s_call | with_reducible apply s_trB | with_reducible apply iteT | with_reducible apply iteF | with_reducible apply s_par | ((with_reducible apply s_var); case h => first | assumption | exact rfl) | (with_reducible refine ⟨by simp [sizeLine_eq], ?_⟩))
            refine opO_in (r := none) (okO_n kx) fun b hb => ?_
            repeat (first | with_reducible refine s_seqN (by simp only [startR, List.map_cons, List.map_nil, List.length_cons, List.length_nil, List.replicate, List.cons_append, List.nil_append, List.getElem?_cons_zero, List.getElem?_cons_succ, List.set_cons_zero, List.set_cons_succ]; exact rfl) ?_ | with_reducible apply s_seq | with_reducible apply s_asg | with_reducible apply s_name | with_reducible apply s_next | with_reducible apply s_ret | with_reducible apply s_retN | with_reducible apply s_drop | with_reducible apply s_if | with_reducible apply s_for | with_reducible apply s_and | with_reducible apply s_or | with_reducible apply s_not | with_reducible apply s_B | with_reducible apply s_mB | with_reducible apply s_addI | with_reducible apply s_subI | with_reducible apply s_cmpI | with_reducible apply s_eqI | with_reducible apply s_minI | with_reducible apply s_maxI | with_reducible apply s_meth | with_reducible apply s_Tr | with_reducible apply s_op | with_reducible apply s_c | with_reducible apply s_ifE | with_reducible apply s_andV | with_reducible apply s_orV | with_reducible apply s_notV | with_reducible apply s_b1 | with_reducible apply s_cons | with_reducible apply s_nil | with_reducible apply s_tup | with_reducible apply s_lst | with_reducible apply s_lstM | with_reducible apply s_call | with_reducible apply s_trB | with_reducible apply iteT | with_reducible apply iteF | with_reducible apply s_par | ((with_reducible apply s_var); case h => first | assumption | exact rfl) | (with_reducible refine ⟨by simp [sizeLine_eq], ?_⟩))
            refine ix_pt2 ix ?_
            refine s_eqB ?_
            have e : b = x.n := by
              rw [Bool.eq_iff_iff, hb]
              exact Iff.rfl
            rw [e]
            refine s_iteF (by simp) ?_
            repeat (first | with_reducible refine s_seqN (by simp only [startR, List.map_cons, List.map_nil, List.length_cons, List.length_nil, List.replicate, List.cons_append, List.nil_append, List.getElem?_cons_zero, List.getElem?_cons_succ, List.set_cons_zero, List.set_cons_succ]; exact rfl) ?_ | with_reducible apply s_seq | with_reducible apply s_asg | with_reducible apply s_name | with_reducible apply s_next | with_reducible apply s_ret | with_reducible apply s_retN | with_reducible apply s_drop | with_reducible apply s_if | with_reducible apply s_for | with_reducible apply s_and | with_reducible apply s_or | with_reducible apply s_not | with_reducible apply s_B | with_reducible apply s_mB | with_reducible apply s_addI | with_reducible apply s_subI | with_reducible apply s_cmpI | with_reducible apply s_eqI | with_reducible apply s_minI | with_reducible apply s_maxI | with_reducible apply s_meth | with_reducible apply s_Tr | with_reducible apply s_op | with_reducible apply s_c | with_reducible apply s_ifE | with_reducible apply s_andV | with_reducible apply s_orV | with_reducible apply s_notV | with_reducible apply s_b1 | with_reducible apply s_cons | with_reducible apply s_nil | with_reducible apply s_tup | with_reducible apply s_lst | with_reducible apply s_lstM | with_reducible apply s_call | with_reducible apply s_trB | with_reducible apply iteT | with_reducible apply iteF | with_reducible apply s_par | ((with_reducible apply s_var); case h => first | assumption | exact rfl) | (with_reducible refine ⟨by simp [sizeLine_eq], ?_⟩))
            refine opO_eqX ⟨_, rfl⟩ ?_
            repeat (first | with_reducible refine s_seqN (by simp only [startR, List.map_cons, List.map_nil, List.length_cons, List.length_nil, List.replicate, List.cons_append, List.nil_append, List.getElem?_cons_zero, List.getElem?_cons_succ, List.set_cons_zero, List.set_cons_succ]; exact rfl) ?_ | with_reducible apply s_seq | with_reducible apply s_asg | with_reducible apply s_name | with_reducible apply s_next | with_reducible apply s_ret | with_reducible apply s_retN | with_reducible apply s_drop | with_reducible apply s_if | with_reducible apply s_for | with_reducible apply s_and | with_reducible apply s_or | with_reducible apply s_not | with_reducible apply s_B | with_reducible apply s_mB | with_reducible apply s_addI | with_reducible apply s_subI | with_reducible apply s_cmpI | with_reducible apply s_eqI | with_reducible apply s_minI | with_reducible apply s_maxI | with_reducible apply s_meth | with_reducible apply s_Tr | with_reducible apply s_op | with_reducible apply s_c | with_reducible apply s_ifE | with_reducible apply s_andV | with_reducible apply s_orV | with_reducible apply s_notV | with_reducible apply s_b1 | with_reducible apply s_cons | with_reducible apply s_nil | with_reducible apply s_tup | with_reducible apply s_lst | with_reducible apply s_lstM | with_reducible apply s_call | with_reducible apply s_trB | with_reducible apply iteT | with_reducible apply iteF | with_reducible apply s_par | ((with_reducible apply s_var); case h => first | assumption | exact rfl) | (with_reducible refine ⟨by simp [sizeLine_eq], ?_⟩))
            refine opO_eqX ⟨_, rfl⟩ ?_
            repeat (first | with_reducible refine s_seqN (by simp only [startR, List.map_cons, List.map_nil, List.length_cons, List.length_nil, List.replicate, List.cons_append, List.nil_append, List.getElem?_cons_zero, List.getElem?_cons_succ, List.set_cons_zero, List.set_cons_succ]; exact rfl) ?_ | with_reducible apply s_seq | with_reducible apply s_asg | with_reducible apply s_name | with_reducible apply s_next | with_reducible apply s_ret | with_reducible apply s_retN | with_reducible apply s_drop | with_reducible apply s_if | with_reducible apply s_for | with_reducible apply s_and | with_reducible apply s_or | with_reducible apply s_not | with_reducible apply s_B | with_reducible apply s_mB | with_reducible apply s_addI | with_reducible apply s_subI | with_reducible apply s_cmpI | with_reducible apply s_eqI | with_reducible apply s_minI | with_reducible apply s_maxI | with_reducible apply s_meth | with_reducible apply s_Tr | with_reducible apply s_op | with_reducible apply s_c | with_reducible apply s_ifE | with_reducible apply s_andV | with_reducible apply s_orV | with_reducible apply s_notV | with_reducible apply s_b1 | with_reducible apply s_cons | with_reducible apply s_nil | with_reducible apply s_tup | with_reducible apply s_lst | with_reducible apply s_lstM | with_reducible apply s_call | with_reducible apply s_trB | with_reducible apply iteT | with_reducible apply iteF | with_reducible apply s_par | ((with_reducible apply s_var); case h => first | assumption | exact rfl) | (with_reducible refine ⟨by simp [sizeLine_eq], ?_⟩))
            refine opO_neX ⟨_, rfl⟩ ?_
            repeat (first | with_reducible refine s_seqN (by simp only [startR, List.map_cons, List.map_nil, List.length_cons, List.length_nil, List.replicate, List.cons_append, List.nil_append, List.getElem?_cons_zero, List.getElem?_cons_succ, List.set_cons_zero, List.set_cons_succ]; exact rfl) ?_ | with_reducible apply s_seq | with_reducible apply s_asg | with_reducible apply s_name | with_reducible apply s_next | with_reducible apply s_ret | with_reducible apply s_retN | with_reducible apply s_drop | with_reducible apply s_if | with_reducible apply s_for | with_reducible apply s_and | with_reducible apply s_or | with_reducible apply s_not | with_reducible apply s_B | with_reducible apply s_mB | with_reducible apply s_addI | with_reducible apply s_subI | with_reducible apply s_cmpI | with_reducible apply s_eqI | with_reducible apply s_minI | with_reducible apply s_maxI | with_reducible apply s_meth | with_reducible apply s_Tr | with_reducible apply s_op | with_reducible apply s_c | with_reducible apply s_ifE | with_reducible apply s_andV | with_reducible apply s_orV | with_reducible apply s_notV | with_reducible apply s_b1 | with_reducible apply s_cons | with_reducible apply s_nil | with_reducible apply s_tup | with_reducible apply s_lst | with_reducible apply s_lstM | with_reducible apply s_call | with_reducible apply s_trB | with_reducible apply iteT | with_reducible apply iteF | with_reducible apply s_par | ((with_reducible apply s_var); case h => first | assumption | exact rfl) | (with_reducible refine ⟨by simp [sizeLine_eq], ?_⟩))
            try (refine s_iteF rfl ?_)
            repeat (first | with_reducible refine s_seqN (by simp only [startR, List.map_cons, List.map_nil, List.length_cons, List.length_nil, List.replicate, List.cons_append, List.nil_append, List.getElem?_cons_zero, List.getElem?_cons_succ, List.set_cons_zero, List.set_cons_succ]; exact rfl) ?_ | with_reducible apply s_seq | with_reducible apply s_asg | with_reducible apply s_name | with_reducible apply s_next | with_reducible apply s_ret | with_reducible apply s_retN | with_reducible apply s_drop | with_reducible apply s_if | with_reducible apply s_for | with_reducible apply s_and | with_reducible apply s_or | with_reducible apply s_not | with_reducible apply s_B | with_reducible apply s_mB | with_reducible apply s_addI | with_reducible apply s_subI | with_reducible apply s_cmpI | with_reducible apply s_eqI | with_reducible apply s_minI | with_reducible apply s_maxI | with_reducible apply s_meth | with_reducible apply s_Tr | with_reducible apply s_op | with_reducible apply s_c | with_reducible apply s_ifE | with_reducible apply s_andV | with_reducible apply s_orV | with_reducible apply s_notV | with_reducible apply s_b1 | with_reducible apply s_cons | with_reducible apply s_nil | with_reducible apply s_tup | with_reducible apply s_lst | with_reducible apply s_lstM | with_reducible apply s_call | with_reducible apply s_trB | with_reducible apply iteT | with_reducible apply iteF | with_reducible apply s_par | ((with_reducible apply s_var); case h => first | assumption | exact rfl) | (with_reducible refine ⟨by simp [sizeLine_eq], ?_⟩))
            exact hK3 _ _ ⟨_, _, _, _, _, _, updM_same, hes', rfl⟩
        · repeat (first | with_reducible refine s_seqN (by simp only [startR, List.map_cons, List.map_nil, List.length_cons, List.length_nil, List.replicate, List.cons_append, List.nil_append, List.getElem?_cons_zero, List.getElem?_cons_succ, List.set_cons_zero, List.set_cons_succ]; exact rfl) ?_ | with_reducible apply s_seq | with_reducible apply s_asg | with_reducible apply s_name | with_reducible apply s_next | with_reducible apply s_ret | with_reducible apply s_retN | with_reducible apply s_drop | with_reducible apply s_if | with_reducible apply s_for | with_reducible apply s_and | with_reducible apply s_or | with_reducible apply s_not | with_reducible apply s_B | with_reducible apply s_mB | with_reducible apply s_addI | with_reducible apply s_subI | with_reducible apply s_cmpI | with_reducible apply s_eqI | with_reducible apply s_minI | with_reducible apply s_maxI | with_reducible apply s_meth | with_reducible apply s_Tr | with_reducible apply s_op | with_reducible apply s_c | with_reducible apply s_ifE | with_reducible apply s_andV | with_reducible apply s_orV | with_reducible apply s_notV | with_reducible apply s_b1 | with_reducible apply s_cons | with_reducible apply s_nil | with_reducible apply s_tup | with_reducible apply s_lst | with_reducible apply s_lstM | with_reducible apply s_call | with_reducible apply s_trB | with_reducible apply iteT | with_reducible apply iteF | with_reducible apply s_par | ((with_reducible apply s_var); case h => first | assumption | exact rfl) | (with_reducible refine ⟨by simp [sizeLine_eq], ?_⟩))
          refine ⟨mOk_worst, ?_⟩
          simp only [daNil]
          refine ⟨nO u, rfl, okO_n ku, fun h1 => ?_, fun h1 m hm => ?_⟩
          · have h1' : u.n = true := h1
            repeat (first | with_reducible refine s_seqN (by simp only [startR, List.map_cons, List.map_nil, List.length_cons, List.length_nil, List.replicate, List.cons_append, List.nil_append, List.getElem?_cons_zero, List.getElem?_cons_succ, List.set_cons_zero, List.set_cons_succ]; exact rfl) ?_ | with_reducible apply s_seq | with_reducible apply s_asg | with_reducible apply s_name | with_reducible apply s_next | with_reducible apply s_ret | with_reducible apply s_retN | with_reducible apply s_drop | with_reducible apply s_if | with_reducible apply s_for | with_reducible apply s_and | with_reducible apply s_or | with_reducible apply s_not | with_reducible apply s_B | with_reducible apply s_mB | with_reducible apply s_addI | with_reducible apply s_subI | with_reducible apply s_cmpI | with_reducible apply s_eqI | with_reducible apply s_minI | with_reducible apply s_maxI | with_reducible apply s_meth | with_reducible apply s_Tr | with_reducible apply s_op | with_reducible apply s_c | with_reducible apply s_ifE | with_reducible apply s_andV | with_reducible apply s_orV | with_reducible apply s_notV | with_reducible apply s_b1 | with_reducible apply s_cons | with_reducible apply s_nil | with_reducible apply s_tup | with_reducible apply s_lst | with_reducible apply s_lstM | with_reducible apply s_call | with_reducible apply s_trB | with_reducible apply iteT | with_reducible apply iteF | with_reducible apply s_par | ((with_reducible apply s_var); case h => first | assumption | exact rfl) | (with_reducible refine ⟨by simp [sizeLine_eq], ?_⟩))
            refine rcRepr_none ?_
            repeat (first | with_reducible refine s_seqN (by simp only [startR, List.map_cons, List.map_nil, List.length_cons, List.length_nil, List.replicate, List.cons_append, List.nil_append, List.getElem?_cons_zero, List.getElem?_cons_succ, List.set_cons_zero, List.set_cons_succ]; exact rfl) ?_ | with_reducible apply s_seq | with_reducible apply s_asg | with_reducible apply s_name | with_reducible apply s_next | with_reducible apply s_ret | with_reducible apply s_retN | with_reducible apply s_drop | with_reducible apply s_if | with_reducible apply s_for | with_reducible apply s_and | with_reducible apply s_or | with_reducible apply s_not | with_reducible apply s_B | with_reducible apply s_mB | with_reducible apply s_addI | with_reducible apply s_subI | with_reducible apply s_cmpI | with_reducible apply s_eqI | with_reducible apply s_minI | with_reducible apply s_maxI | with_reducible apply s_meth | with_reducible apply s_Tr | with_reducible apply s_op | with_reducible apply s_c | with_reducible apply s_ifE | with_reducible apply s_andV | with_reducible apply s_orV | with_reducible apply s_notV | with_reducible apply s_b1 | with_reducible apply s_cons | with_reducible apply s_nil | with_reducible apply s_tup | with_reducible apply s_lst | with_reducible apply s_lstM | with_reducible apply s_call | with_reducible apply s_trB | with_reducible apply iteT | with_reducible apply iteF | with_reducible apply s_par | ((with_reducible apply s_var); case h => first | assumption | exact rfl) | (with_reducible refine ⟨by simp [sizeLine_eq], ?_⟩))
            refine ⟨d6, u, rfl, iu, ku, fun h2 => ?_, fun h2 => absurd (h2.symm.trans h1') (by decide)⟩
            repeat (first | with_reducible refine s_seqN (by simp only [startR, List.map_cons, List.map_nil, List.length_cons, List.length_nil, List.replicate, List.cons_append, List.nil_append, List.getElem?_cons_zero, List.getElem?_cons_succ, List.set_cons_zero, List.set_cons_succ]; exact rfl) ?_ | with_reducible apply s_seq | with_reducible apply s_asg | with_reducible apply s_name | with_reducible apply s_next | with_reducible apply s_ret | with_reducible apply s_retN | with_reducible apply s_drop | with_reducible apply s_if | with_reducible apply s_for | with_reducible apply s_and | with_reducible apply s_or | with_reducible apply s_not | with_reducible apply s_B | with_reducible apply s_mB | with_reducible apply s_addI | with_reducible apply s_subI | with_reducible apply s_cmpI | with_reducible apply s_eqI | with_reducible apply s_minI | with_reducible apply s_maxI | with_reducible apply s_meth | with_reducible apply s_Tr | with_reducible apply s_op | with_reducible apply s_c | with_reducible apply s_ifE | with_reducible apply s_andV | with_reducible apply s_orV | with_reducible apply s_notV | with_reducible apply s_b1 | with_reducible apply s_cons | with_reducible apply s_nil | with_reducible apply s_tup | with_reducible apply s_lst | with_reducible apply s_lstM | with_reducible apply s_call | with_reducible apply s_trB | with_reducible apply iteT | with_reducible apply iteF | with_reducible apply s_par | ((with_reducible apply s_var); case h => first | assumption | exact rfl) | (with_reducible refine ⟨by simp [sizeLine_eq], ?_⟩))
            refine rcRepr_none ?_
            repeat (first | with_reducible refine s_seqN (by simp only [startR, List.map_cons, List.map_nil, List.length_cons, List.length_nil, List.replicate, List.cons_append, List.nil_append, List.getElem?_cons_zero, List.getElem?_cons_succ, List.set_cons_zero, List.set_cons_succ]; exact rfl) ?_ | with_reducible apply s_seq | with_reducible apply s_asg | with_reducible apply s_name | with_reducible apply s_next | with_reducible apply s_ret | with_reducible apply s_retN | with_reducible apply s_drop | with_reducible apply s_if | with_reducible apply s_for | with_reducible apply s_and | with_reducible apply s_or | with_reducible apply s_not | with_reducible apply s_B | with_reducible apply s_mB | with_reducible apply s_addI | with_reducible apply s_subI | with_reducible apply s_cmpI | with_reducible apply s_eqI | with_reducible apply s_minI | with_reducible apply s_maxI | with_reducible apply s_meth | with_reducible apply s_Tr | with_reducible apply s_op | with_reducible apply s_c | with_reducible apply s_ifE | with_reducible apply s_andV | with_reducible apply s_orV | with_reducible apply s_notV | with_reducible apply s_b1 | with_reducible apply s_cons | with_reducible apply s_nil | with_reducible apply s_tup | with_reducible apply s_lst | with_reducible apply s_lstM | with_reducible apply s_call | with_reducible apply s_trB | with_reducible apply iteT | with_reducible apply iteF | with_reducible apply s_par | ((with_reducible apply s_var); case h => first | assumption | exact rfl) | (with_reducible refine ⟨by simp [sizeLine_eq], ?_⟩))
            refine s_eqS ?_
            repeat (first | with_reducible refine s_seqN (by simp only [startR, List.map_cons, List.map_nil, List.length_cons, List.length_nil, List.replicate, List.cons_append, List.nil_append, List.getElem?_cons_zero, List.getElem?_cons_succ, List.set_cons_zero, List.set_cons_succ]; exact rfl) ?_ | with_reducible apply s_seq | with_reducible apply s_asg | with_reducible apply s_name | with_reducible apply s_next | with_reducible apply s_ret | with_reducible apply s_retN | with_reducible apply s_drop | with_reducible apply s_if | with_reducible apply s_for | with_reducible apply s_and | with_reducible apply s_or | with_reducible apply s_not | with_reducible apply s_B | with_reducible apply s_mB | with_reducible apply s_addI | with_reducible apply s_subI | with_reducible apply s_cmpI | with_reducible apply s_eqI | with_reducible apply s_minI | with_reducible apply s_maxI | with_reducible apply s_meth | with_reducible apply s_Tr | with_reducible apply s_op | with_reducible apply s_c | with_reducible apply s_ifE | with_reducible apply s_andV | with_reducible apply s_orV | with_reducible apply s_notV | with_reducible apply s_b1 | with_reducible apply s_cons | with_reducible apply s_nil | with_reducible apply s_tup | with_reducible apply s_lst | with_reducible apply s_lstM | with_reducible apply s_call | with_reducible apply s_trB | with_reducible apply iteT | with_reducible apply iteF | with_reducible apply s_par | ((with_reducible apply s_var); case h => first | assumption | exact rfl) | (with_reducible refine ⟨by simp [sizeLine_eq], ?_⟩))
            refine s_iteF (by simp) ?_
            exact nx
          · have h1' : u.n = false := h1
            have eu : ∀ t, (inRng (nO u).a t ∨ inRng (nO u).b t) ↔ (inRng u.a t ∨ inRng u.b t) := fun t => by
              show (inRng (norm u.a) t ∨ inRng (norm u.b) t) ↔ _
              rw [norm_in ku.a, norm_in ku.b]
            have hm2 : lateOf (fun t => inRng u.a t ∨ inRng u.b t) m := ⟨hm.1, fun t ht => hm.2.1 t ((eu t).mpr ht), hm.2.2.imp id (eu m).mp⟩
            repeat (first | with_reducible refine s_seqN (by simp only [startR, List.map_cons, List.map_nil, List.length_cons, List.length_nil, List.replicate, List.cons_append, List.nil_append, List.getElem?_cons_zero, List.getElem?_cons_succ, List.set_cons_zero, List.set_cons_succ]; exact rfl) ?_ | with_reducible apply s_seq | with_reducible apply s_asg | with_reducible apply s_name | with_reducible apply s_next | with_reducible apply s_ret | with_reducible apply s_retN | with_reducible apply s_drop | with_reducible apply s_if | with_reducible apply s_for | with_reducible apply s_and | with_reducible apply s_or | with_reducible apply s_not | with_reducible apply s_B | with_reducible apply s_mB | with_reducible apply s_addI | with_reducible apply s_subI | with_reducible apply s_cmpI | with_reducible apply s_eqI | with_reducible apply s_minI | with_reducible apply s_maxI | with_reducible apply s_meth | with_reducible apply s_Tr | with_reducible apply s_op | with_reducible apply s_c | with_reducible apply s_ifE | with_reducible apply s_andV | with_reducible apply s_orV | with_reducible apply s_notV | with_reducible apply s_b1 | with_reducible apply s_cons | with_reducible apply s_nil | with_reducible apply s_tup | with_reducible apply s_lst | with_reducible apply s_lstM | with_reducible apply s_call | with_reducible apply s_trB | with_reducible apply iteT | with_reducible apply iteF | with_reducible apply s_par | ((with_reducible apply s_var); case h => first | assumption | exact rfl) | (with_reducible refine ⟨by simp [sizeLine_eq], ?_⟩))
            refine rcRepr_int (late_bd ku hm2) ?_
            repeat (first | with_reducible refine s_seqN (by simp only [startR, List.map_cons, List.map_nil, List.length_cons, List.length_nil, List.replicate, List.cons_append, List.nil_append, List.getElem?_cons_zero, List.getElem?_cons_succ, List.set_cons_zero, List.set_cons_succ]; exact rfl) ?_ | with_reducible apply s_seq | with_reducible apply s_asg | with_reducible apply s_name | with_reducible apply s_next | with_reducible apply s_ret | with_reducible apply s_retN | with_reducible apply s_drop | with_reducible apply s_if | with_reducible apply s_for | with_reducible apply s_and | with_reducible apply s_or | with_reducible apply s_not | with_reducible apply s_B | with_reducible apply s_mB | with_reducible apply s_addI | with_reducible apply s_subI | with_reducible apply s_cmpI | with_reducible apply s_eqI | with_reducible apply s_minI | with_reducible apply s_maxI | with_reducible apply s_meth | with_reducible apply s_Tr | with_reducible apply s_op | with_reducible apply s_c | with_reducible apply s_ifE | with_reducible apply s_andV | with_reducible apply s_orV | with_reducible apply s_notV | with_reducible apply s_b1 | with_reducible apply s_cons | with_reducible apply s_nil | with_reducible apply s_tup | with_reducible apply s_lst | with_reducible apply s_lstM | with_reducible apply s_call | with_reducible apply s_trB | with_reducible apply iteT | with_reducible apply iteF | with_reducible apply s_par | ((with_reducible apply s_var); case h => first | assumption | exact rfl) | (with_reducible refine ⟨by simp [sizeLine_eq], ?_⟩))
            refine ⟨d6, u, rfl, iu, ku, fun h2 => absurd (h2.symm.trans h1') (by decide), fun h2 m' hm' => ?_⟩
            have em := late_uniq hm hm' eu
            subst em
            repeat (first | with_reducible refine s_seqN (by simp only [startR, List.map_cons, List.map_nil, List.length_cons, List.length_nil, List.replicate, List.cons_append, List.nil_append, List.getElem?_cons_zero, List.getElem?_cons_succ, List.set_cons_zero, List.set_cons_succ]; exact rfl) ?_ | with_reducible apply s_seq | with_reducible apply s_asg | with_reducible apply s_name | with_reducible apply s_next | with_reducible apply s_ret | with_reducible apply s_retN | with_reducible apply s_drop | with_reducible apply s_if | with_reducible apply s_for | with_reducible apply s_and | with_reducible apply s_or | with_reducible apply s_not | with_reducible apply s_B | with_reducible apply s_mB | with_reducible apply s_addI | with_reducible apply s_subI | with_reducible apply s_cmpI | with_reducible apply s_eqI | with_reducible apply s_minI | with_reducible apply s_maxI | with_reducible apply s_meth | with_reducible apply s_Tr | with_reducible apply s_op | with_reducible apply s_c | with_reducible apply s_ifE | with_reducible apply s_andV | with_reducible apply s_orV | with_reducible apply s_notV | with_reducible apply s_b1 | with_reducible apply s_cons | with_reducible apply s_nil | with_reducible apply s_tup | with_reducible apply s_lst | with_reducible apply s_lstM | with_reducible apply s_call | with_reducible apply s_trB | with_reducible apply iteT | with_reducible apply iteF | with_reducible apply s_par | ((with_reducible apply s_var); case h => first | assumption | exact rfl) | (with_reducible refine ⟨by simp [sizeLine_eq], ?_⟩))
            refine rcRepr_int (late_bd ku hm2) ?_
            repeat (first | with_reducible refine s_seqN (by simp only [startR, List.map_cons, List.map_nil, List.length_cons, List.length_nil, List.replicate, List.cons_append, List.nil_append, List.getElem?_cons_zero, List.getElem?_cons_succ, List.set_cons_zero, List.set_cons_succ]; exact rfl) ?_ | with_reducible apply s_seq | with_reducible apply s_asg | with_reducible apply s_name | with_reducible apply s_next | with_reducible apply s_ret | with_reducible apply s_retN | with_reducible apply s_drop | with_reducible apply s_if | with_reducible apply s_for | with_reducible apply s_and | with_reducible apply s_or | with_reducible apply s_not | with_reducible apply s_B | with_reducible apply s_mB | with_reducible apply s_addI | with_reducible apply s_subI | with_reducible apply s_cmpI | with_reducible apply s_eqI | with_reducible apply s_minI | with_reducible apply s_maxI | with_reducible apply s_meth | with_reducible apply s_Tr | with_reducible apply s_op | with_reducible apply s_c | with_reducible apply s_ifE | with_reducible apply s_andV | with_reducible apply s_orV | with_reducible apply s_notV | with_reducible apply s_b1 | with_reducible apply s_cons | with_reducible apply s_nil | with_reducible apply s_tup | with_reducible apply s_lst | with_reducible apply s_lstM | with_reducible apply s_call | with_reducible apply s_trB | with_reducible apply iteT | with_reducible apply iteF | with_reducible apply s_par | ((with_reducible apply s_var); case h => first | assumption | exact rfl) | (with_reducible refine ⟨by simp [sizeLine_eq], ?_⟩))
            refine s_eqS ?_
            repeat (first | with_reducible refine s_seqN (by simp only [startR, List.map_cons, List.map_nil, List.length_cons, List.length_nil, List.replicate, List.cons_append, List.nil_append, List.getElem?_cons_zero, List.getElem?_cons_succ, List.set_cons_zero, List.set_cons_succ]; exact rfl) ?_ | with_reducible apply s_seq | with_reducible apply s_asg | with_reducible apply s_name | with_reducible apply s_next | with_reducible apply s_ret | with_reducible apply s_retN | with_reducible apply s_drop | with_reducible apply s_if | with_reducible apply s_for | with_reducible apply s_and | with_reducible apply s_or | with_reducible apply s_not | with_reducible apply s_B | with_reducible apply s_mB | with_reducible apply s_addI | with_reducible apply s_subI | with_reducible apply s_cmpI | with_reducible apply s_eqI | with_reducible apply s_minI | with_reducible apply s_maxI | with_reducible apply s_meth | with_reducible apply s_Tr | with_reducible apply s_op | with_reducible apply s_c | with_reducible apply s_ifE | with_reducible apply s_andV | with_reducible apply s_orV | with_reducible apply s_notV | with_reducible apply s_b1 | with_reducible apply s_cons | with_reducible apply s_nil | with_reducible apply s_tup | with_reducible apply s_lst | with_reducible apply s_lstM | with_reducible apply s_call | with_reducible apply s_trB | with_reducible apply iteT | with_reducible apply iteF | with_reducible apply s_par | ((with_reducible apply s_var); case h => first | assumption | exact rfl) | (with_reducible refine ⟨by simp [sizeLine_eq], ?_⟩))
            refine s_iteF (by simp) ?_
            exact nx
      · rintro ρ M3 ⟨f5, o6, o7, o8, o9, o11, hp3, hes, rfl⟩
        exact ⟨trivial, hK _ _ ⟨k, lo + 1, _, _, _, _, _, _, _, _, _, _, rfl, by omega, by omega, rfl⟩⟩
      · simp only [List.mem_cons, List.not_mem_nil, or_false] at he
        rcases he with rfl | rfl | rfl | rfl
        · exact ⟨w, .inl rfl, kw⟩
        · exact ⟨y, iy, ky⟩
        · exact ⟨⟨S1, S2, x.n⟩, .inl rfl, k1, k2⟩
        · exact ⟨⟨[], [], false⟩, .inl rfl, okS_nil, okS_nil⟩
    · have ix : isPt (.tup (ptL x)) x := .inl rfl
      have kd : okS (x.a.drop 1) := ⟨by rw [List.length_drop]; have := kx.a.1; omega, fun z hz => kx.a.2 z (List.mem_of_mem_drop hz)⟩
      repeat (first | with_reducible refine s_seqN (by simp only [startR, List.map_cons, List.map_nil, List.length_cons, List.length_nil, List.replicate, List.cons_append, List.nil_append, List.getElem?_cons_zero, List.getElem?_cons_succ, List.set_cons_zero, List.set_cons_succ]; exact rfl) ?_ | with_reducible apply s_seq | with_reducible apply s_asg | with_reducible apply s_name | with_reducible apply s_next | with_reducible apply s_ret | with_reducible apply s_retN | with_reducible apply s_drop | with_reducible apply s_if | with_reducible apply s_for | with_reducible apply s_and | with_reducible apply s_or | with_reducible apply s_not | with_reducible apply s_B | with_reducible apply s_mB | with_reducible apply s_addI | with_reducible apply s_subI | with_reducible apply s_cmpI | with_reducible apply s_eqI | with_reducible apply s_minI | with_reducible apply s_maxI | with_reducible apply s_meth | with_reducible apply s_Tr | with_reducible apply s_op | with_reducible apply s_c | with_reducible apply s_ifE | with_reducible apply s_andV | with_reducible apply s_orV | with_reducible apply s_notV | with_reducible apply s_b1 | with_reducible apply s_cons | with_reducible apply s_nil | with_reducible apply s_tup | with_reducible apply s_lst | with_reducible apply s_lstM | with_reducible apply s_call | with_reducible apply s_trB | with_reducible apply iteT | with_reducible apply iteF | with_reducible apply s_par | ((with_reducible apply s_var); case h => first | assumption | exact rfl) | (with_reducible refine ⟨by simp [sizeLine_eq], ?_⟩))
      with_reducible refine s_slice ?_
      repeat (first | with_reducible refine s_seqN (by simp only [startR, List.map_cons, List.map_nil, List.length_cons, List.length_nil, List.replicate, List.cons_append, List.nil_append, List.getElem?_cons_zero, List.getElem?_cons_succ, List.set_cons_zero, List.set_cons_succ]; exact rfl) ?_ | with_reducible apply s_seq | with_reducible apply s_asg | with_reducible apply s_name | with_reducible apply s_next | with_reducible apply s_ret | with_reducible apply s_retN | with_reducible apply s_drop | with_reducible apply s_if | with_reducible apply s_for | with_reducible apply s_and | with_reducible apply s_or | with_reducible apply s_not | with_reducible apply s_B | with_reducible apply s_mB | with_reducible apply s_addI | with_reducible apply s_subI | with_reducible apply s_cmpI | with_reducible apply s_eqI | with_reducible apply s_minI | with_reducible apply s_maxI | with_reducible apply s_meth | with_reducible apply s_Tr | with_reducible apply s_op | with_reducible apply s_c | with_reducible apply s_ifE | with_reducible apply s_andV | with_reducible apply s_orV | with_reducible apply s_notV | with_reducible apply s_b1 | with_reducible apply s_cons | with_reducible apply s_nil | with_reducible apply s_tup | with_reducible apply s_lst | with_reducible apply s_lstM | with_reducible apply s_call | with_reducible apply s_trB | with_reducible apply iteT | with_reducible apply iteF | with_reducible apply s_par | ((with_reducible apply s_var); case h => first | assumption | exact rfl) | (with_reducible refine ⟨by simp [sizeLine_eq], ?_⟩))
      refine ix_pt0 ix ?_
      refine s_doC ?_
      refine s_doN ?_
      refine sl_tail ?_
      rw [← List.map_drop]
      repeat (first | with_reducible refine s_seqN (by simp only [startR, List.map_cons, List.map_nil, List.length_cons, List.length_nil, List.replicate, List.cons_append, List.nil_append, List.getElem?_cons_zero, List.getElem?_cons_succ, List.set_cons_zero, List.set_cons_succ]; exact rfl) ?_ | with_reducible apply s_seq | with_reducible apply s_asg | with_reducible apply s_name | with_reducible apply s_next | with_reducible apply s_ret | with_reducible apply s_retN | with_reducible apply s_drop | with_reducible apply s_if | with_reducible apply s_for | with_reducible apply s_and | with_reducible apply s_or | with_reducible apply s_not | with_reducible apply s_B | with_reducible apply s_mB | with_reducible apply s_addI | with_reducible apply s_subI | with_reducible apply s_cmpI | with_reducible apply s_eqI | with_reducible apply s_minI | with_reducible apply s_maxI | with_reducible apply s_meth | with_reducible apply s_Tr | with_reducible apply s_op | with_reducible apply s_c | with_reducible apply s_ifE | with_reducible apply s_andV | with_reducible apply s_orV | with_reducible apply s_notV | with_reducible apply s_b1 | with_reducible apply s_cons | with_reducible apply s_nil | with_reducible apply s_tup | with_reducible apply s_lst | with_reducible apply s_lstM | with_reducible apply s_call | with_reducible apply s_trB | with_reducible apply iteT | with_reducible apply iteF | with_reducible apply s_par | ((with_reducible apply s_var); case h => first | assumption | exact rfl) | (with_reducible refine ⟨by simp [sizeLine_eq], ?_⟩))
      refine ix_pt1 ix ?_
      repeat (first | with_reducible refine s_seqN (by simp only [startR, List.map_cons, List.map_nil, List.length_cons, List.length_nil, List.replicate, List.cons_append, List.nil_append, List.getElem?_cons_zero, List.getElem?_cons_succ, List.set_cons_zero, List.set_cons_succ]; exact rfl) ?_ | with_reducible apply s_seq | with_reducible apply s_asg | with_reducible apply s_name | with_reducible apply s_next | with_reducible apply s_ret | with_reducible apply s_retN | with_reducible apply s_drop | with_reducible apply s_if | with_reducible apply s_for | with_reducible apply s_and | with_reducible apply s_or | with_reducible apply s_not | with_reducible apply s_B | with_reducible apply s_mB | with_reducible apply s_addI | with_reducible apply s_subI | with_reducible apply s_cmpI | with_reducible apply s_eqI | with_reducible apply s_minI | with_reducible apply s_maxI | with_reducible apply s_meth | with_reducible apply s_Tr | with_reducible apply s_op | with_reducible apply s_c | with_reducible apply s_ifE | with_reducible apply s_andV | with_reducible apply s_orV | with_reducible apply s_notV | with_reducible apply s_b1 | with_reducible apply s_cons | with_reducible apply s_nil | with_reducible apply s_tup | with_reducible apply s_lst | with_reducible apply s_lstM | with_reducible apply s_call | with_reducible apply s_trB | with_reducible apply iteT | with_reducible apply iteF | with_reducible apply s_par | ((with_reducible apply s_var); case h => first | assumption | exact rfl) | (with_reducible refine ⟨by simp [sizeLine_eq], ?_⟩))
      refine ix_pt2 ix ?_
      repeat (first | with_reducible refine s_seqN (by simp only [startR, List.map_cons, List.map_nil, List.length_cons, List.length_nil, List.replicate, List.cons_append, List.nil_append, List.getElem?_cons_zero, List.getElem?_cons_succ, List.set_cons_zero, List.set_cons_succ]; exact rfl) ?_ | with_reducible apply s_seq | with_reducible apply s_asg | with_reducible apply s_name | with_reducible apply s_next | with_reducible apply s_ret | with_reducible apply s_retN | with_reducible apply s_drop | with_reducible apply s_if | with_reducible apply s_for | with_reducible apply s_and | with_reducible apply s_or | with_reducible apply s_not | with_reducible apply s_B | with_reducible apply s_mB | with_reducible apply s_addI | with_reducible apply s_subI | with_reducible apply s_cmpI | with_reducible apply s_eqI | with_reducible apply s_minI | with_reducible apply s_maxI | with_reducible apply s_meth | with_reducible apply s_Tr | with_reducible apply s_op | with_reducible apply s_c | with_reducible apply s_ifE | with_reducible apply s_andV | with_reducible apply s_orV | with_reducible apply s_notV | with_reducible apply s_b1 | with_reducible apply s_cons | with_reducible apply s_nil | with_reducible apply s_tup | with_reducible apply s_lst | with_reducible apply s_lstM | with_reducible apply s_call | with_reducible apply s_trB | with_reducible apply iteT | with_reducible apply iteF | with_reducible apply s_par | ((with_reducible apply s_var); case h => first | assumption | exact rfl) | (with_reducible refine ⟨by simp [sizeLine_eq], ?_⟩))
      refine s_ite (fun h1 => ?_) fun h1 => ?_
      · repeat (first | with_reducible refine s_seqN (by simp only [startR, List.map_cons, List.map_nil, List.length_cons, List.length_nil, List.replicate, List.cons_append, List.nil_append, List.getElem?_cons_zero, List.getElem?_cons_succ, List.set_cons_zero, List.set_cons_succ]; exact rfl) ?_ | with_reducible apply s_seq | with_reducible apply s_asg | with_reducible apply s_name | with_reducible apply s_next | with_reducible apply s_ret | with_reducible apply s_retN | with_reducible apply s_drop | with_reducible apply s_if | with_reducible apply s_for | with_reducible apply s_and | with_reducible apply s_or | with_reducible apply s_not | with_reducible apply s_B | with_reducible apply s_mB | with_reducible apply s_addI | with_reducible apply s_subI | with_reducible apply s_cmpI | with_reducible apply s_eqI | with_reducible apply s_minI | with_reducible apply s_maxI | with_reducible apply s_meth | with_reducible apply s_Tr | with_reducible apply s_op | with_reducible apply s_c | with_reducible apply s_ifE | with_reducible apply s_andV | with_reducible apply s_orV | with_reducible apply s_notV | with_reducible apply s_b1 | with_reducible apply s_cons | with_reducible apply s_nil | with_reducible apply s_tup | with_reducible apply s_lst | with_reducible apply s_lstM | with_reducible apply s_call | with_reducible apply s_trB | with_reducible apply iteT | with_reducible apply iteF | with_reducible apply s_par | ((with_reducible apply s_var); case h => first | assumption | exact rfl) | (with_reducible refine ⟨by simp [sizeLine_eq], ?_⟩))
        refine ⟨p, f1, 2, rfl, updM_same, by decide, by decide, fun v f2 v0 v2 => ?_⟩
        rw [updM_updM]
        repeat (first | with_reducible refine s_seqN (by simp only [startR, List.map_cons, List.map_nil, List.length_cons, List.length_nil, List.replicate, List.cons_append, List.nil_append, List.getElem?_cons_zero, List.getElem?_cons_succ, List.set_cons_zero, List.set_cons_succ]; exact rfl) ?_ | with_reducible apply s_seq | with_reducible apply s_asg | with_reducible apply s_name | with_reducible apply s_next | with_reducible apply s_ret | with_reducible apply s_retN | with_reducible apply s_drop | with_reducible apply s_if | with_reducible apply s_for | with_reducible apply s_and | with_reducible apply s_or | with_reducible apply s_not | with_reducible apply s_B | with_reducible apply s_mB | with_reducible apply s_addI | with_reducible apply s_subI | with_reducible apply s_cmpI | with_reducible apply s_eqI | with_reducible apply s_minI | with_reducible apply s_maxI | with_reducible apply s_meth | with_reducible apply s_Tr | with_reducible apply s_op | with_reducible apply s_c | with_reducible apply s_ifE | with_reducible apply s_andV | with_reducible apply s_orV | with_reducible apply s_notV | with_reducible apply s_b1 | with_reducible apply s_cons | with_reducible apply s_nil | with_reducible apply s_tup | with_reducible apply s_lst | with_reducible apply s_lstM | with_reducible apply s_call | with_reducible apply s_trB | with_reducible apply iteT | with_reducible apply iteF | with_reducible apply s_par | ((with_reducible apply s_var); case h => first | assumption | exact rfl) | (with_reducible refine ⟨by simp [sizeLine_eq], ?_⟩))
        exact nx _ _ ⟨⟨x.a.drop 1, x.b, _⟩, f2, rfl, ⟨kd, kx.b⟩, updM_same⟩
      · repeat (first | with_reducible refine s_seqN (by simp only [startR, List.map_cons, List.map_nil, List.length_cons, List.length_nil, List.replicate, List.cons_append, List.nil_append, List.getElem?_cons_zero, List.getElem?_cons_succ, List.set_cons_zero, List.set_cons_succ]; exact rfl) ?_ | with_reducible apply s_seq | with_reducible apply s_asg | with_reducible apply s_name | with_reducible apply s_next | with_reducible apply s_ret | with_reducible apply s_retN | with_reducible apply s_drop | with_reducible apply s_if | with_reducible apply s_for | with_reducible apply s_and | with_reducible apply s_or | with_reducible apply s_not | with_reducible apply s_B | with_reducible apply s_mB | with_reducible apply s_addI | with_reducible apply s_subI | with_reducible apply s_cmpI | with_reducible apply s_eqI | with_reducible apply s_minI | with_reducible apply s_maxI | with_reducible apply s_meth | with_reducible apply s_Tr | with_reducible apply s_op | with_reducible apply s_c | with_reducible apply s_ifE | with_reducible apply s_andV | with_reducible apply s_orV | with_reducible apply s_notV | with_reducible apply s_b1 | with_reducible apply s_cons | with_reducible apply s_nil | with_reducible apply s_tup | with_reducible apply s_lst | with_reducible apply s_lstM | with_reducible apply s_call | with_reducible apply s_trB | with_reducible apply iteT | with_reducible apply iteF | with_reducible apply s_par | ((with_reducible apply s_var); case h => first | assumption | exact rfl) | (with_reducible refine ⟨by simp [sizeLine_eq], ?_⟩))
        exact nx _ _ ⟨⟨x.a.drop 1, x.b, _⟩, f1, rfl, ⟨kd, kx.b⟩, updM_same⟩
  · rintro ρ M' ⟨k, lo, o1, o2, o3, o4, o5, o6, o7, o8, o9, o11, e1, e2, e3, rfl⟩
    refine ⟨trivial, ?_⟩
    repeat (first | with_reducible refine s_seqN (by simp only [startR, List.map_cons, List.map_nil, List.length_cons, List.length_nil, List.replicate, List.cons_append, List.nil_append, List.getElem?_cons_zero, List.getElem?_cons_succ, List.set_cons_zero, List.set_cons_succ]; exact rfl) ?_ | with_reducible apply s_seq | with_reducible apply s_asg | with_reducible apply s_name | with_reducible apply s_next | with_reducible apply s_ret | with_reducible apply s_retN | with_reducible apply s_drop | with_reducible apply s_if | with_reducible apply s_for | with_reducible apply s_and | with_reducible apply s_or | with_reducible apply s_not | with_reducible apply s_B | with_reducible apply s_mB | with_reducible apply s_addI | with_reducible apply s_subI | with_reducible apply s_cmpI | with_reducible apply s_eqI | with_reducible apply s_minI | with_reducible apply s_maxI | with_reducible apply s_meth | with_reducible apply s_Tr | with_reducible apply s_op | with_reducible apply s_c | with_reducible apply s_ifE | with_reducible apply s_andV | with_reducible apply s_orV | with_reducible apply s_notV | with_reducible apply s_b1 | with_reducible apply s_cons | with_reducible apply s_nil | with_reducible apply s_tup | with_reducible apply s_lst | with_reducible apply s_lstM | with_reducible apply s_call | with_reducible apply s_trB | with_reducible apply iteT | with_reducible apply iteF | with_reducible apply s_par | ((with_reducible apply s_var); case h => first | assumption | exact rfl) | (with_reducible refine ⟨by simp [sizeLine_eq], ?_⟩))
    exact fin0 (h _)
end K


set_option Elab.async false
set_option linter.all false
set_option maxRecDepth 100000
set_option maxHeartbeats 0
namespace K
open PySem PySem.Spec PyProof.Rows L2 DL
section
variable {P : Program} {w : World} {K : PySem.W.Frag} {mg : Str → Option Value} {base : Heap}
theorem F_is_integer (m : Md fcs fn K mg) : Fn P w K mg base 1 dd0 ["value", "least", "most"] sp_is_integer := fn_mk m (memi 0) sc_is_integer (w_is_integer m ) (by
  intro ds M P E h
  simp only [sp_is_integer] at h
  repeat (with_reducible refine Exists.elim h fun _ h => ?_)
  rw [h.1]
  rfl) q_is_integer
theorem b_is_integer_0 : DflB dd0 ["value", "least", "most"] 3 1 := fun _ _ _ _ _ _ _ us its hu hi => match us, its, hu, hi with
  | [_, _, _], [_], _, _ => ⟨_, rfl, rfl⟩
theorem F_is_range (m : Md fcs fn K mg) : Fn P w K mg base 2 dd1 ["value", "least", "most"] sp_is_range := fn_mk m (memi 1) sc_is_range (w_is_range m (cal_dfl m (F_is_integer m) rfl (memi 3) (List.cons_ne_nil _ _) rfl b_is_integer_0 rfl)) (by
  intro ds M P E h
  simp only [sp_is_range] at h
  repeat (with_reducible refine Exists.elim h fun _ h => ?_)
  rw [h.1]
  rfl) q_is_range
theorem b_is_range_2 : DflB dd1 ["value", "least", "most"] 1 0 := fun _ _ _ _ _ _ _ us its hu hi => match us, its, hu, hi with
  | [_], [_, _], _, _ => ⟨_, rfl, rfl⟩
theorem F_Times_init (m : Md fcs fn K mg) : Fn P w K mg base 3 dd2 ["self", "ranges"] sp_Times_init := fn_mk m (memi 2) sc_Times_init (w_Times_init m (cal_dfl m (F_is_range m) rfl (memi 6) (List.cons_ne_nil _ _) rfl b_is_range_2 rfl)) (by
  intro ds M P E h
  simp only [sp_Times_init] at h
  repeat (with_reducible refine Exists.elim h fun _ h => ?_)
  rw [h.1]
  rfl) q_Times_init
theorem F_Times_eq (m : Md fcs fn K mg) : Fn P w K mg base 1 dd3 ["self", "other"] sp_Times_eq := fn_mk m (memi 3) sc_Times_eq (w_Times_eq m ) (by
  intro ds M P E h
  simp only [sp_Times_eq] at h
  repeat (with_reducible refine Exists.elim h fun _ h => ?_)
  rw [h.1]
  rfl) q_Times_eq
theorem F_Times_contains (m : Md fcs fn K mg) : Fn P w K mg base 1 dd4 ["self", "time"] sp_Times_contains := fn_mk m (memi 4) sc_Times_contains (w_Times_contains m ) (by
  intro ds M P E h
  simp only [sp_Times_contains] at h
  repeat (with_reducible refine Exists.elim h fun _ h => ?_)
  rw [h.1]
  rfl) q_Times_contains
theorem F_Times_and (m : Md fcs fn K mg) : Fn P w K mg base 5 dd5 ["self", "other"] sp_Times_and := fn_mk m (memi 5) sc_Times_and (w_Times_and m (mak_mk m (F_Times_init m) rfl (memi 13) (memi 14) rfl b_Times_init)) (by
  intro ds M P E h
  simp only [sp_Times_and] at h
  repeat (with_reducible refine Exists.elim h fun _ h => ?_)
  rw [h.1]
  rfl) q_Times_and
theorem F_Times_is_within (m : Md fcs fn K mg) : Fn P w K mg base 6 dd6 ["self", "other"] sp_Times_is_within := fn_mk m (memi 6) sc_Times_is_within (w_Times_is_within m (spc_mk m (F_Times_and m) rfl (memi 13) (memi 19) rfl b_Times_and) (spc_mk m (F_Times_eq m) rfl (memi 13) (memi 15) rfl b_Times_eq)) (by
  intro ds M P E h
  simp only [sp_Times_is_within] at h
  repeat (with_reducible refine Exists.elim h fun _ h => ?_)
  rw [h.1]
  rfl) q_Times_is_within
theorem F_Outcomes_init (m : Md fcs fn K mg) : Fn P w K mg base 1 dd7 ["self", "ok", "fail", "never"] sp_Outcomes_init := fn_mk m (memi 7) sc_Outcomes_init (w_Outcomes_init m ) (by
  intro ds M P E h
  simp only [sp_Outcomes_init] at h
  repeat (with_reducible refine Exists.elim h fun _ h => ?_)
  rw [h.1]
  rfl) q_Outcomes_init
theorem F_Outcomes_eq (m : Md fcs fn K mg) : Fn P w K mg base 1 dd8 ["self", "other"] sp_Outcomes_eq := fn_mk m (memi 8) sc_Outcomes_eq (w_Outcomes_eq m ) (by
  intro ds M P E h
  simp only [sp_Outcomes_eq] at h
  repeat (with_reducible refine Exists.elim h fun _ h => ?_)
  rw [h.1]
  rfl) q_Outcomes_eq
theorem F_Outcomes_contains (m : Md fcs fn K mg) : Fn P w K mg base 2 dd9 ["self", "outcome"] sp_Outcomes_contains := fn_mk m (memi 9) sc_Outcomes_contains (w_Outcomes_contains m (spc_mk m (F_Times_contains m) rfl (memi 13) (memi 17) rfl b_Times_contains)) (by
  intro ds M P E h
  simp only [sp_Outcomes_contains] at h
  repeat (with_reducible refine Exists.elim h fun _ h => ?_)
  rw [h.1]
  rfl) q_Outcomes_contains
theorem F_Outcomes_is_within (m : Md fcs fn K mg) : Fn P w K mg base 7 dd10 ["self", "other"] sp_Outcomes_is_within := fn_mk m (memi 10) sc_Outcomes_is_within (w_Outcomes_is_within m (met_mk m (F_Times_is_within m) rfl (memi 13) (memi 20) rfl b_Times_is_within)) (by
  intro ds M P E h
  simp only [sp_Outcomes_is_within] at h
  repeat (with_reducible refine Exists.elim h fun _ h => ?_)
  rw [h.1]
  rfl) q_Outcomes_is_within
theorem F_Outcomes_worst (m : Md fcs fn K mg) : Fn P w K mg base 1 dd11 ["self"] sp_Outcomes_worst := fn_mk m (memi 11) sc_Outcomes_worst (w_Outcomes_worst m ) (by
  intro ds M P E h
  simp only [sp_Outcomes_worst] at h
  repeat (with_reducible refine Exists.elim h fun _ h => ?_)
  rw [h.1]
  rfl) q_Outcomes_worst
theorem F_law_feed (m : Md fcs fn K mg) : Fn P w K mg base 1 dd12 ["script", "k"] sp_law_feed := fn_mk m (memi 12) sc_law_feed (w_law_feed m ) (by
  intro ds M P E h
  simp only [sp_law_feed] at h
  repeat (with_reducible refine Exists.elim h fun _ h => ?_)
  rw [h.1]
  rfl) q_law_feed
theorem F_law_take (m : Md fcs fn K mg) : Fn P w K mg base 1 dd13 ["feed", "size"] sp_law_take := fn_mk m (memi 13) sc_law_take (w_law_take m ) (by
  intro ds M P E h
  simp only [sp_law_take] at h
  repeat (with_reducible refine Exists.elim h fun _ h => ?_)
  rw [h.1]
  rfl) q_law_take
theorem F_law_pick (m : Md fcs fn K mg) : Fn P w K mg base 2 dd14 ["feed", "choices"] sp_law_pick := fn_mk m (memi 14) sc_law_pick (w_law_pick m (cal_mk m (F_law_take m) rfl (memi 34) rfl b_law_take)) (by
  intro ds M P E h
  simp only [sp_law_pick] at h
  repeat (with_reducible refine Exists.elim h fun _ h => ?_)
  rw [h.1]
  rfl) q_law_pick
theorem F_law_ranges (m : Md fcs fn K mg) : Fn P w K mg base 3 dd15 ["feed"] sp_law_ranges := fn_mk m (memi 15) sc_law_ranges (w_law_ranges m (cal_mk m (F_law_take m) rfl (memi 34) rfl b_law_take) (cal_mk m (F_law_pick m) rfl (memi 35) rfl b_law_pick)) (by
  intro ds M P E h
  simp only [sp_law_ranges] at h
  repeat (with_reducible refine Exists.elim h fun _ h => ?_)
  rw [h.1]
  rfl) q_law_ranges
theorem F_law_listed (m : Md fcs fn K mg) : Fn P w K mg base 1 dd16 ["ranges"] sp_law_listed := fn_mk m (memi 16) sc_law_listed (w_law_listed m ) (by
  intro ds M P E h
  simp only [sp_law_listed] at h
  repeat (with_reducible refine Exists.elim h fun _ h => ?_)
  rw [h.1]
  rfl) q_law_listed
theorem F_law_single (m : Md fcs fn K mg) : Fn P w K mg base 2 dd17 ["ranges"] sp_law_single := fn_mk m (memi 17) sc_law_single (w_law_single m (cal_mk m (F_law_listed m) rfl (memi 39) rfl b_law_listed)) (by
  intro ds M P E h
  simp only [sp_law_single] at h
  repeat (with_reducible refine Exists.elim h fun _ h => ?_)
  rw [h.1]
  rfl) q_law_single
theorem F_law_parts (m : Md fcs fn K mg) : Fn P w K mg base 4 dd18 ["feed"] sp_law_parts := fn_mk m (memi 18) sc_law_parts (w_law_parts m (cal_mk m (F_law_take m) rfl (memi 34) rfl b_law_take) (cal_mk m (F_law_ranges m) rfl (memi 37) rfl b_law_ranges)) (by
  intro ds M P E h
  simp only [sp_law_parts] at h
  repeat (with_reducible refine Exists.elim h fun _ h => ?_)
  rw [h.1]
  rfl) q_law_parts
theorem F_law_all (m : Md fcs fn K mg) : Fn P w K mg base 2 dd19 ["parts"] sp_law_all := fn_mk m (memi 19) sc_law_all (w_law_all m (cal_mk m (F_law_listed m) rfl (memi 39) rfl b_law_listed)) (by
  intro ds M P E h
  simp only [sp_law_all] at h
  repeat (with_reducible refine Exists.elim h fun _ h => ?_)
  rw [h.1]
  rfl) q_law_all
theorem F_law_worst (m : Md fcs fn K mg) : Fn P w K mg base 2 dd20 ["parts"] sp_law_worst := fn_mk m (memi 20) sc_law_worst (w_law_worst m (cal_mk m (F_law_listed m) rfl (memi 39) rfl b_law_listed)) (by
  intro ds M P E h
  simp only [sp_law_worst] at h
  repeat (with_reducible refine Exists.elim h fun _ h => ?_)
  rw [h.1]
  rfl) q_law_worst
theorem F_law_are_right (m : Md fcs fn K mg) : Fn P w K mg base 8 dd21 ["first", "second", "one", "other"] sp_law_are_right := fn_mk m (memi 21) sc_law_are_right (w_law_are_right m (cal_mk m (F_law_all m) rfl (memi 42) rfl b_law_all) (spc_mk m (F_Outcomes_eq m) rfl (memi 22) (memi 27) rfl b_Outcomes_eq) (met_mk m (F_Outcomes_is_within m) rfl (memi 22) (memi 30) rfl b_Outcomes_is_within)) (by
  intro ds M P E h
  simp only [sp_law_are_right] at h
  repeat (with_reducible refine Exists.elim h fun _ h => ?_)
  rw [h.1]
  rfl) q_law_are_right
theorem F_law_asked_on (m : Md fcs fn K mg) : Fn P w K mg base 8 dd22 ["first", "one", "others"] sp_law_asked_on := fn_mk m (memi 22) sc_law_asked_on (w_law_asked_on m (mak_mk m (F_Times_init m) rfl (memi 13) (memi 14) rfl b_Times_init) (mak_mk m (F_Outcomes_init m) rfl (memi 22) (memi 26) rfl b_Outcomes_init) (cal_mk m (F_law_all m) rfl (memi 42) rfl b_law_all) (met_mk m (F_Outcomes_is_within m) rfl (memi 22) (memi 30) rfl b_Outcomes_is_within)) (by
  intro ds M P E h
  simp only [sp_law_asked_on] at h
  repeat (with_reducible refine Exists.elim h fun _ h => ?_)
  rw [h.1]
  rfl) q_law_asked_on
theorem F_law (m : Md fcs fn K mg) : Fn P w K mg base 9 dd23 ["script"] sp_law := fn_mk m (memi 23) sc_law (w_law m (cal_mk m (F_law_feed m) rfl (memi 33) rfl b_law_feed) (cal_mk m (F_law_parts m) rfl (memi 41) rfl b_law_parts) (cal_mk m (F_law_take m) rfl (memi 34) rfl b_law_take) (mak_mk m (F_Times_init m) rfl (memi 13) (memi 14) rfl b_Times_init) (mak_mk m (F_Outcomes_init m) rfl (memi 22) (memi 26) rfl b_Outcomes_init) (cal_mk m (F_law_asked_on m) rfl (memi 47) rfl b_law_asked_on) (cal_mk m (F_law_single m) rfl (memi 40) rfl b_law_single) (cal_mk m (F_law_are_right m) rfl (memi 46) rfl b_law_are_right) (spc_mk m (F_Times_eq m) rfl (memi 13) (memi 15) rfl b_Times_eq) (met_mk m (F_Outcomes_worst m) rfl (memi 22) (memi 31) rfl b_Outcomes_worst) (cal_mk m (F_law_worst m) rfl (memi 43) rfl b_law_worst) (spc_mk m (F_Outcomes_contains m) rfl (memi 22) (memi 29) rfl b_Outcomes_contains) (cal_mk m (F_law_all m) rfl (memi 42) rfl b_law_all) (spc_mk m (F_Outcomes_eq m) rfl (memi 22) (memi 27) rfl b_Outcomes_eq)) (by
  intro ds M P E h
  simp only [sp_law] at h
  repeat (with_reducible refine Exists.elim h fun _ h => ?_)
  rw [h.1]
  rfl) q_law
end
abbrev R : PySem.W.OpenRow := PySem.W.OpenLaw.row PySem.Challenge.rw_callplans_k33_sets_of_outcomes
abbrev hk : PySem.W.Hook := He.hookX 5 [] fn [] [] (factsB fcs)
def ob (s : PySem.W.SharedT) : He.AlX := He.obsX 5 [] fn [] [] (factsB fcs) (HandSHeadRun.getT s)
theorem ob_eq (s : PySem.W.SharedT) : ob s = hk.obs s.abs := He.obsX_eq (HandSHeadRun.getT_eq s)
def loose : List Str := ["_wall", "__name__", "PlanError", "BadRange", "is_integer", "is_range", "Times", "NEVER", "Outcomes", "_law_feed", "_law_take", "_law_pick", "_law_ranges", "_law_listed", "_law_single", "_law_parts", "_law_all", "_law_worst", "_law_are_right", "_law_asked_on"]
theorem run (w : World) : HandSHeadRun.RunEq R (PySem.W.view R.prog [23]) hk ob 3000 loose w := by
  intro os
  kernel_rfl
theorem room_caller : Room 9 callerA := ⟨rfl, by decide, by decide⟩
theorem law_at {w : World} {mg : Str → Option Value} {fa : Addr} {h : Heap} (Y : hk.says w h) (G : h.Ns mainGlobals mg) (hm : mg ("law" : Str) = some (.ref fa)) :
    ∃ (K : PySem.W.Frag) (fd : FuncData) (sp : DSp), K.In h ∧ (∀ (s : Shared) (u : Value), BindsTo s fd ⟨[u], []⟩ [("script", u)]) ∧
        (∀ ns : List Int, ns.length ≤ 63 → (∀ z ∈ ns, Builtin.Int.intBits z ≤ 1048576) → sp [.fro (ns.map .int)] (fun _ => none) (fun d _ => d = .bl true) noX) ∧
        ∀ base : Heap, K.In base → base.Ns mainGlobals mg → FnG Pw w K mg base 9 fa fd ["script"] sp := by
  obtain ⟨K, KX, c⟩ := Y
  have m : Md fcs fn K mg := ⟨⟨h, KX, G⟩, c.more, c.t.d⟩
  have ea : He.ga K "law" = fa := by
    have := (m.glo "law" (memi 49)).symm.trans hm
    cases this
    rfl
  obtain ⟨fd, FD, _⟩ := (F_law (P := Pw) (w := w) (base := h) m).ex
  refine ⟨K, fd, sp_law, KX, fun s u => FD.bindsA (ps := ["script"]) b_law s [u] rfl, fun ns hn hb => ⟨ns, rfl, hn, fun _ => rfl⟩, fun base _ _ => ?_⟩
  obtain ⟨fd2, FD2, FG⟩ := (F_law (P := Pw) (w := w) (base := base) m).ex
  have e : fd2 = fd := by
    obtain ⟨oc, od, dV, kV, doc, pm, an, cdv, ct, osl, e1, lk, _⟩ := FD.ex
    obtain ⟨oc', od', dV', kV', doc', pm', an', cdv', ct', osl', e1', lk', _⟩ := FD2.ex
    rw [lk] at lk'
    cases lk'
    rfl
  rw [← ea, ← e]
  exact FG
end K
open PySem PySem.W PySem.Calls PyProof.Rows in
theorem PySem.Challenge.cw_callplans_k33_sets_of_outcomes_holds : PySem.Challenge.rw_callplans_k33_sets_of_outcomes.Holds := by
  w_on; o_law
  refine HandSHeadRun.head_any (r := OpenLaw.row PySem.Challenge.rw_callplans_k33_sets_of_outcomes) (q := view (OpenLaw.row PySem.Challenge.rw_callplans_k33_sets_of_outcomes).prog [23]) (H := K.hk) (ob := K.ob) (M := 3000) (loose := K.loose) (d := HandSHeadRun.topDef (OpenLaw.row PySem.Challenge.rw_callplans_k33_sets_of_outcomes).prog 23) (kwd := []) K.ob_eq
    (by kernel_rfl) (fun s => by kernel_rfl) K.run (by kernel_rfl) (by kernel_rfl) (by kernel_rfl) (by rfl) (by first | assumption | decide +kernel) (by decide +kernel) ⟨rfl, rfl, rfl, rfl, rfl, by decide +kernel⟩ ?hw ?hc
  case hw => w_witness2
  case hc =>
    refine DL.walk_G (l := PySem.Challenge.rw_callplans_k33_sets_of_outcomes) (n := 63) (k := 9) (x := "script") rfl (by decide) (by kernel_rfl) K.room_caller fun w mg fa h Y G hmg0 => ?_
    have hmg : mg ("law" : PySem.Str) = some (.ref fa) := by
      have e : (HandSHeadRun.topDef (OpenLaw.row PySem.Challenge.rw_callplans_k33_sets_of_outcomes).prog 23).name = ("law" : PySem.Str) := by kernel_rfl
      rw [← e]
      exact hmg0
    exact K.law_at Y G hmg


