import PyProof.Rows.All
import HandS.ForMost
import HandS.ForExc
import HandS.TryMany
import HandS.ExcInit
import HandS.Defaults
import HandS.HeadWalk
import HandS.HeadHook4
import HandS.Head2
import HandS.HeadEnd
import HandS.Flow
import HandS.Style
import HandS.Conv
import HandS.Codes
import HandS.FStr
import HandS.OwnEq
import HandS.Deep
import HandS.IsInst
import HandS.SortRule
import HandS.DictComp
import HandS.Wide
import HandS.TupAny
import HandS.NoneIn
import KE.SortData
import HandS.Zip
import HandS.Strs
import HandS.RaiseMore
import PyProof.ReprRoads
import PyProof.InstNe
import HandS.EndBits
import KE.KTupTruth
import HandS.Small
import PyProof.Rows.TupMore
import HandS.SetFor
import HandS.SortInts
import HandS.Dict
import HandS.MakeKwOnly
import HandS.TryOnly
import PyProof.RulesMatch
import PyProof.RulesMatchSeq
import PyProof.Rows.MatchSeqLen
import HandS.ReplaceLit
import HandS.Text
import HandS.ReplaceDef
import PyProof.StrBlock2
import PyProof.MeetsIn
import HandS.HeadNt
import HandS.ClsMeth
import HandS.ReplaceList
import PyProof.ListStr
import PySem.Challenge.RW_callplans_k11_texts_judged
set_option Elab.async false
set_option linter.all false
set_option maxRecDepth 100000
namespace DL
open PySem PySem.Spec PyProof.Rows L2

/-! ### data -/
inductive D where
  | non | bl (b : Bool) | int (i : Int) | str (x : Str)
  | tup (ds : List D) | lst (ds : List D) | dct (kvs : List (D × D)) | obj (c : Str) (fs : List (Str × D))
  | ref (a : Addr) | ty (n : String) | fro (ds : List D) | cls (c : Str)

structure SE where
  K : PySem.W.Frag
  mg : Str → Option Value

/-- a plain class of the text, by what the written part holds of it -/
def clsOkB (K : PySem.W.Frag) (C : Addr) : Bool :=
  PySem.W.makesIn K C && PySem.W.keepIn K (.ref C) && PySem.W.plainGet K C Str.empty && PySem.W.hasDictIn K C && PySem.W.plainOver K C &&
  PySem.W.findIn K (.ref C) "__setattr__" == some (some (.builtin "object.__setattr__")) &&
  PySem.W.findIn K (.ref C) "__class__" == some (some (.builtin "object.__class__")) &&
  PySem.W.specialIn K (.builtin "object.__class__") "__get__" == some (some (.builtin "getset_descriptor.__get__")) &&
  PySem.W.takesIn K (.builtin "object.__class__") == some true &&
  (match PySem.W.clsIn K C with
    | some cd => cd.mro == [.ref C, .type "object"]
    | none => false) &&
  PySem.W.typeIn K (.ref C) == some (.type "type")
/-- the class's own name -/
def clsNmB (K : PySem.W.Frag) (C : Addr) (c : Str) : Bool := match PySem.W.clsIn K C with
  | some cd => cd.name == c
  | none => false
structure ClsAt (S : SE) (c : Str) (C : Addr) : Prop where
  mg : S.mg c = some (.ref C)
  ok : clsOkB S.K C = true
  nm : clsNmB S.K C c = true

def keyD : Key → D
  | .inl i => .int i
  | .inr x => .str x

mutual
inductive Rep (S : SE) (F : Hp) : V → D → Prop
  | non : Rep S F .non .non
  | bl (b : Bool) : Rep S F (.bl b) (.bl b)
  | int (i : Int) : Rep S F (.int i) (.int i)
  | str (x : Str) : Rep S F (.str x) (.str x)
  | ty (n : String) : Rep S F (.ty n) (.ty n)
  | ref (a : Addr) : Rep S F (.ref a) (.ref a)
  | tup {a : Addr} {vs : List V} {ds : List D} (h : SqT S.K F a vs) (r : Reps S F vs ds) : Rep S F (.ref a) (.tup ds)
  | lst {a : Addr} {vs : List V} {ds : List D} (h : F a = some (.lst vs)) (r : Reps S F vs ds) : Rep S F (.ref a) (.lst ds)
  | fro {a : Addr} {vs : List V} {ds : List D} (h : SqL S.K F a vs) (r : Reps S F vs ds) : Rep S F (.ref a) (.fro ds)
  | dctK {a : Addr} {kvs : List (Key × V)} {gs : List (D × D)} (h : Rd F a (.dK kvs)) (r : RepK S F kvs gs) : Rep S F (.ref a) (.dct gs)
  | obj {a C dx : Addr} {c : Str} {vs : List (Str × V)} {gs : List (Str × D)} (h : F a = some (.ins C dx vs)) (hc : ClsAt S c C) (r : RepF S F vs gs) : Rep S F (.ref a) (.obj c gs)
  | cls {c : Str} {C : Addr} (h : ClsAt S c C) : Rep S F (.ref C) (.cls c)
inductive Reps (S : SE) (F : Hp) : List V → List D → Prop
  | nil : Reps S F [] []
  | cons {v : V} {d : D} {vs : List V} {ds : List D} (h : Rep S F v d) (t : Reps S F vs ds) : Reps S F (v :: vs) (d :: ds)
inductive RepK (S : SE) (F : Hp) : List (Key × V) → List (D × D) → Prop
  | nil : RepK S F [] []
  | cons {k : Key} {v : V} {d : D} {vs : List (Key × V)} {ds : List (D × D)} (h : Rep S F v d) (t : RepK S F vs ds) : RepK S F ((k, v) :: vs) ((keyD k, d) :: ds)
inductive RepT (S : SE) (F : Hp) : List (List Key × V) → List (D × D) → Prop
  | nil : RepT S F [] []
  | cons {k : List Key} {v : V} {d : D} {vs : List (List Key × V)} {ds : List (D × D)} (h : Rep S F v d) (t : RepT S F vs ds) : RepT S F ((k, v) :: vs) ((.tup (k.map keyD), d) :: ds)
inductive RepF (S : SE) (F : Hp) : List (Str × V) → List (Str × D) → Prop
  | nil : RepF S F [] []
  | cons {k : Str} {v : V} {d : D} {vs : List (Str × V)} {ds : List (Str × D)} (h : Rep S F v d) (t : RepF S F vs ds) : RepF S F ((k, v) :: vs) ((k, d) :: ds)
end

/-- the frozen heap grows -/
structure Le (F F' : Hp) : Prop where
  rd : ∀ a u, Rd F a u → Rd F' a u
  ins : ∀ a C dx fs, F a = some (.ins C dx fs) → F' a = some (.ins C dx fs)
  lst : ∀ a xs, F a = some (.lst xs) → F' a = some (.lst xs)
  dT : ∀ a xs, F a = some (.dT xs) → F' a = some (.dT xs)
theorem Le.refl (F : Hp) : Le F F := ⟨fun _ _ h => h, fun _ _ _ _ h => h, fun _ _ h => h, fun _ _ h => h⟩
theorem Le.trans {F G H : Hp} (a : Le F G) (b : Le G H) : Le F H := ⟨fun x u h => b.rd x u (a.rd x u h), fun x C dx fs h => b.ins x C dx fs (a.ins x C dx fs h), fun x xs h => b.lst x xs (a.lst x xs h), fun x xs h => b.dT x xs (a.dT x xs h)⟩
theorem Le.new {F : Hp} {p : Addr} {o : HO} (h : F p = none) : Le F (upd F p o) := by
  have k : ∀ a u, F a = some u → upd F p o a = some u := fun a u e => by rw [upd_ne (ne_of_none e h)]; exact e
  refine ⟨fun a u q => ?_, fun a C dx fs e => k a _ e, fun a xs e => k a _ e, fun a xs e => k a _ e⟩
  rcases q with e | ⟨ob, e⟩
  · exact .inl (k a _ e)
  · exact .inr ⟨ob, k a _ e⟩
theorem Le.sqL {K : PySem.W.Frag} {F F' : Hp} {a : Addr} {xs : List V} (l : Le F F') (h : SqL K F a xs) : SqL K F' a xs := by
  rcases h with h | h
  · exact .inl (l.rd _ _ h)
  · exact .inr h
theorem Le.sqT {K : PySem.W.Frag} {F F' : Hp} {a : Addr} {xs : List V} (l : Le F F') (h : SqT K F a xs) : SqT K F' a xs := by
  rcases h with h | h
  · exact .inl (l.rd _ _ h)
  · exact .inr h

mutual
theorem Rep.mono {S : SE} {F F' : Hp} (l : Le F F') : ∀ {v : V} {d : D}, Rep S F v d → Rep S F' v d
  | _, _, .non => .non
  | _, _, .bl b => .bl b
  | _, _, .int i => .int i
  | _, _, .str x => .str x
  | _, _, .ty n => .ty n
  | _, _, .ref a => .ref a
  | _, _, .tup h r => .tup (l.sqT h) (Reps.mono l r)
  | _, _, .lst h r => .lst (l.lst _ _ h) (Reps.mono l r)
  | _, _, .fro h r => .fro (l.sqL h) (Reps.mono l r)
  | _, _, .dctK h r => .dctK (l.rd _ _ h) (RepK.mono l r)
  | _, _, .obj h hc r => .obj (l.ins _ _ _ _ h) hc (RepF.mono l r)
  | _, _, .cls h => .cls h
theorem Reps.mono {S : SE} {F F' : Hp} (l : Le F F') : ∀ {v : List V} {d : List D}, Reps S F v d → Reps S F' v d
  | _, _, .nil => .nil
  | _, _, .cons h t => .cons (Rep.mono l h) (Reps.mono l t)
theorem RepK.mono {S : SE} {F F' : Hp} (l : Le F F') : ∀ {v : List (Key × V)} {d : List (D × D)}, RepK S F v d → RepK S F' v d
  | _, _, .nil => .nil
  | _, _, .cons h t => .cons (Rep.mono l h) (RepK.mono l t)
theorem RepT.mono {S : SE} {F F' : Hp} (l : Le F F') : ∀ {v : List (List Key × V)} {d : List (D × D)}, RepT S F v d → RepT S F' v d
  | _, _, .nil => .nil
  | _, _, .cons h t => .cons (Rep.mono l h) (RepT.mono l t)
theorem RepF.mono {S : SE} {F F' : Hp} (l : Le F F') : ∀ {v : List (Str × V)} {d : List (Str × D)}, RepF S F v d → RepF S F' v d
  | _, _, .nil => .nil
  | _, _, .cons h t => .cons (Rep.mono l h) (RepF.mono l t)
end
section
variable {S : SE} {F F' : Hp}
theorem Reps.len : ∀ {vs : List V} {ds : List D}, Reps S F vs ds → vs.length = ds.length
  | _, _, .nil => rfl
  | _, _, .cons _ t => congrArg Nat.succ (Reps.len t)
theorem Reps.get : ∀ {vs : List V} {ds : List D} {i : Nat} {d : D}, Reps S F vs ds → ds[i]? = some d → ∃ v, vs[i]? = some v ∧ Rep S F v d
  | _, _, _, _, .nil, e => by simp at e
  | _, _, 0, _, .cons r _, e => by simp at e; subst e; exact ⟨_, rfl, r⟩
  | _, _, i + 1, d, .cons _ t, e => by
    obtain ⟨v, h1, h2⟩ := Reps.get (i := i) (d := d) t (by simpa using e)
    exact ⟨v, by simpa using h1, h2⟩
theorem Reps.getV : ∀ {vs : List V} {ds : List D} {i : Nat} {v : V}, Reps S F vs ds → vs[i]? = some v → ∃ d, ds[i]? = some d ∧ Rep S F v d
  | _, _, _, _, .nil, e => by simp at e
  | _, _, 0, _, .cons r _, e => by simp at e; subst e; exact ⟨_, rfl, r⟩
  | _, _, i + 1, d, .cons _ t, e => by
    obtain ⟨v, h1, h2⟩ := Reps.getV (i := i) (v := d) t (by simpa using e)
    exact ⟨v, by simpa using h1, h2⟩
theorem Reps.append : ∀ {vs ws : List V} {ds es : List D}, Reps S F vs ds → Reps S F ws es → Reps S F (vs ++ ws) (ds ++ es)
  | _, _, _, _, .nil, s => s
  | _, _, _, _, .cons r t, s => .cons r (Reps.append t s)
theorem Reps.take : ∀ {vs : List V} {ds : List D} (n : Nat), Reps S F vs ds → Reps S F (vs.take n) (ds.take n)
  | _, _, 0, _ => .nil
  | _, _, _ + 1, .nil => .nil
  | _, _, n + 1, .cons r t => .cons r (Reps.take n t)
theorem Reps.drop : ∀ {vs : List V} {ds : List D} (n : Nat), Reps S F vs ds → Reps S F (vs.drop n) (ds.drop n)
  | _, _, 0, r => r
  | _, _, _ + 1, .nil => .nil
  | _, _, n + 1, .cons _ t => Reps.drop n t
theorem Reps.set : ∀ {vs : List V} {ds : List D} (n : Nat) {v : V} {d : D}, Rep S F v d → Reps S F vs ds → Reps S F (vs.set n v) (ds.set n d)
  | _, _, _, _, _, _, .nil => .nil
  | _, _, 0, _, _, r, .cons _ t => .cons r t
  | _, _, n + 1, _, _, r, .cons q t => .cons q (Reps.set n r t)
theorem Reps.reverse : ∀ {vs : List V} {ds : List D}, Reps S F vs ds → Reps S F vs.reverse ds.reverse
  | _, _, .nil => .nil
  | _, _, .cons r t => by rw [List.reverse_cons, List.reverse_cons]; exact (Reps.reverse t).append (.cons r .nil)
end

/-! ### mutable objects -/
inductive MO where
  | lst (ds : List D) | dct (kvs : List (D × D)) | ins (c : Str) (fs : List (Str × D))
abbrev Store := Addr → Option MO
def updM (M : Store) (p : Addr) (m : MO) : Store := fun b => if b = p then some m else M b
def delM (M : Store) (p : Addr) : Store := fun b => if b = p then none else M b
theorem updM_same {M : Store} {p : Addr} {m : MO} : updM M p m p = some m := if_pos rfl
theorem updM_ne {M : Store} {p b : Addr} {m : MO} (h : b ≠ p) : updM M p m b = M b := if_neg h
theorem updM_updM {M : Store} {p : Addr} {m n : MO} : updM (updM M p m) p n = updM M p n := by funext b; unfold updM; split <;> rfl
theorem delM_updM {M : Store} {p : Addr} {m : MO} (h : M p = none) : delM (updM M p m) p = M := by
  funext b; unfold delM updM
  by_cases e : b = p
  · rw [if_pos e, e, h]
  · rw [if_neg e, if_neg e]
theorem updM_self {M : Store} {p : Addr} {m : MO} (h : M p = some m) : updM M p m = M := by
  funext b; unfold updM; split
  · rename_i e; rw [e, h]
  · rfl
theorem updM_comm {M : Store} {p q : Addr} {m n : MO} (h : p ≠ q) : updM (updM M p m) q n = updM (updM M q n) p m := by
  funext b; unfold updM
  by_cases e1 : b = q
  · rw [if_pos e1, if_neg (fun e => h (e.symm.trans e1)), if_pos e1]
  · rw [if_neg e1, if_neg e1]
theorem delM_ne {M : Store} {p b : Addr} (h : b ≠ p) : delM M p b = M b := if_neg h
theorem delM_none {M : Store} {p : Addr} (h : M p = none) : delM M p = M := by
  funext b; unfold delM; split
  · rename_i e; rw [e, h]
  · rfl
theorem delM_updM_ne {M : Store} {p q : Addr} {m : MO} (h : p ≠ q) : delM (updM M p m) q = updM (delM M q) p m := by
  funext b
  show (if b = q then none else if b = p then some m else M b) = (if b = p then some m else if b = q then none else M b)
  by_cases e : b = q
  · rw [if_pos e, if_neg (fun z => h (z.symm.trans e)), if_pos e]
  · rw [if_neg e, if_neg e]
/-- M' holds no more than M -/
def SubM (M' M : Store) : Prop := ∀ a m, M' a = some m → M a = some m
theorem SubM.refl (M : Store) : SubM M M := fun _ _ h => h
theorem SubM.trans {A B C : Store} (a : SubM A B) (b : SubM B C) : SubM A C := fun x m h => b x m (a x m h)
theorem SubM.new {M : Store} {p : Addr} {m : MO} (h : M p = none) : SubM M (updM M p m) := fun a n e => by
  rw [updM_ne (fun z => by rw [z, h] at e; cases e)]; exact e
theorem SubM.dl {M : Store} {p : Addr} : SubM (delM M p) M := fun a n e => by
  unfold delM at e
  split at e
  · cases e
  · exact e

inductive RepM (S : SE) (F : Hp) : MO → HO → Prop
  | lst {vs : List V} {ds : List D} (r : Reps S F vs ds) : RepM S F (.lst ds) (.lst vs)
  | dctK {vs : List (Key × V)} {ds : List (D × D)} (r : RepK S F vs ds) : RepM S F (.dct ds) (.dK vs)
  | ins {C dx : Addr} {c : Str} {vs : List (Str × V)} {gs : List (Str × D)} (hc : ClsAt S c C) (r : RepF S F vs gs) : RepM S F (.ins c gs) (.ins C dx vs)
theorem RepM.mono {S : SE} {F F' : Hp} (l : Le F F') {m : MO} {o : HO} (h : RepM S F m o) : RepM S F' m o := by
  cases h with
  | lst r => exact .lst (r.mono l)
  | dctK r => exact .dctK (r.mono l)
  | ins hc r => exact .ins hc (r.mono l)

structure Good (S : SE) (F : Hp) (M : Store) (H : Hp) : Prop where
  sub : ∀ a o, F a = some o → H a = some o
  cel : ∀ a m, M a = some m → F a = none ∧ ∃ o, H a = some o ∧ RepM S F m o

section
variable {S : SE} {F F' H H' : Hp} {M : Store} {p : Addr} {o : HO} {m : MO}
theorem Good.freshF (g : Good S F M H) (h : H p = none) : F p = none := by
  cases e : F p with
  | none => rfl
  | some u => rw [g.sub _ _ e] at h; cases h
theorem Good.freshM (g : Good S F M H) (h : H p = none) : M p = none := by
  cases e : M p with
  | none => rfl
  | some u =>
    obtain ⟨_, o, q, _⟩ := g.cel _ _ e
    rw [q] at h; cases h
theorem Good.new (g : Good S F M H) (h : H p = none) : Good S (upd F p o) M (upd H p o) := by
  have f := g.freshF h
  refine ⟨fun a u e => ?_, fun a m e => ?_⟩
  · by_cases ha : a = p
    · subst ha; rw [upd_same] at e ⊢; exact e
    · rw [upd_ne ha] at e ⊢; exact g.sub _ _ e
  · obtain ⟨f1, u, h1, r⟩ := g.cel a m e
    have ha : a ≠ p := ne_of_none h1 h
    exact ⟨by rw [upd_ne ha]; exact f1, u, by rw [upd_ne ha]; exact h1, r.mono (Le.new f)⟩
theorem Good.newM (g : Good S F M H) (h : H p = none) (r : RepM S F m o) : Good S F (updM M p m) (upd H p o) := by
  have f := g.freshF h
  refine ⟨fun a u e => ?_, fun a n e => ?_⟩
  · rw [upd_ne (ne_of_none e f)]; exact g.sub _ _ e
  · by_cases ha : a = p
    · subst ha
      rw [updM_same] at e; cases e
      exact ⟨f, o, upd_same, r⟩
    · rw [updM_ne ha] at e
      obtain ⟨f1, u, h1, r1⟩ := g.cel a n e
      exact ⟨f1, u, by rw [upd_ne ha]; exact h1, r1⟩
theorem Good.set {m0 : MO} (g : Good S F M H) (h : M p = some m0) (r : RepM S F m o) : Good S F (updM M p m) (upd H p o) := by
  have f := (g.cel _ _ h).1
  refine ⟨fun a u e => ?_, fun a n e => ?_⟩
  · rw [upd_ne (ne_of_none e f)]; exact g.sub _ _ e
  · by_cases ha : a = p
    · subst ha
      rw [updM_same] at e; cases e
      exact ⟨f, o, upd_same, r⟩
    · rw [updM_ne ha] at e
      obtain ⟨f1, u, h1, r1⟩ := g.cel a n e
      exact ⟨f1, u, by rw [upd_ne ha]; exact h1, r1⟩
theorem Good.freeze (g : Good S F M H) (h : M p = some m) (ho : H p = some o) : Good S (upd F p o) (delM M p) H := by
  have f := (g.cel _ _ h).1
  refine ⟨fun a u e => ?_, fun a n e => ?_⟩
  · by_cases ha : a = p
    · subst ha; rw [upd_same] at e; rw [← e]; exact ho
    · rw [upd_ne ha] at e; exact g.sub _ _ e
  · by_cases ha : a = p
    · subst ha; unfold delM at e; rw [if_pos rfl] at e; cases e
    · rw [delM_ne ha] at e
      obtain ⟨f1, u, h1, r1⟩ := g.cel a n e
      exact ⟨by rw [upd_ne ha]; exact f1, u, h1, r1.mono (Le.new f)⟩
theorem Good.drop {M' : Store} (g : Good S F M H) (h : SubM M' M) : Good S F M' H := ⟨g.sub, fun a m e => g.cel a m (h a m e)⟩
theorem Good.rd (g : Good S F M H) {a : Addr} {u : HO} (h : Rd F a u) : Rd H a u := by
  rcases h with e | ⟨ob, e⟩
  · exact .inl (g.sub _ _ e)
  · exact .inr ⟨ob, g.sub _ _ e⟩
theorem Good.sqL (g : Good S F M H) {a : Addr} {xs : List V} (h : SqL S.K F a xs) : SqL S.K H a xs := by
  rcases h with h | h
  · exact .inl (g.rd h)
  · exact .inr h
theorem Good.sqT (g : Good S F M H) {a : Addr} {xs : List V} (h : SqT S.K F a xs) : SqT S.K H a xs := by
  rcases h with h | h
  · exact .inl (g.rd h)
  · exact .inr h
end

/-! ### slots -/
abbrev Ro := List (Option D)
inductive RelS (S : SE) (F : Hp) : Option V → Option D → Prop
  | none {v : Option V} : RelS S F v none
  | some {v : V} {d : D} (h : Rep S F v d) : RelS S F (some v) (some d)
inductive Slots (S : SE) (F : Hp) : L2.St → Ro → Prop
  | nil : Slots S F [] []
  | cons {v : Option V} {d : Option D} {vs : L2.St} {ds : Ro} (h : RelS S F v d) (t : Slots S F vs ds) : Slots S F (v :: vs) (d :: ds)
section
variable {S : SE} {F F' : Hp}
theorem Slots.mono (l : Le F F') : ∀ {σ : L2.St} {ρ : Ro}, Slots S F σ ρ → Slots S F' σ ρ
  | _, _, .nil => .nil
  | _, _, .cons .none t => .cons .none (Slots.mono l t)
  | _, _, .cons (.some h) t => .cons (.some (h.mono l)) (Slots.mono l t)
theorem Slots.get : ∀ {σ : L2.St} {ρ : Ro} {i : Nat} {d : D}, Slots S F σ ρ → ρ[i]? = some (some d) → ∃ v, σ[i]? = some (some v) ∧ Rep S F v d
  | _, _, _, _, .nil, e => by simp at e
  | _, _, 0, _, .cons r _, e => by
    simp at e; subst e
    cases r with
    | some h => exact ⟨_, rfl, h⟩
  | _, _, i + 1, d, .cons _ t, e => by
    obtain ⟨v, h1, h2⟩ := Slots.get (i := i) (d := d) t (by simpa using e)
    exact ⟨v, by simpa using h1, h2⟩
theorem Slots.set : ∀ {σ : L2.St} {ρ : Ro} (i : Nat) {v : V} {d : D}, Rep S F v d → Slots S F σ ρ → Slots S F (σ.set i (some v)) (ρ.set i (some d))
  | _, _, _, _, _, _, .nil => .nil
  | _, _, 0, _, _, r, .cons _ t => .cons (.some r) t
  | _, _, i + 1, _, _, r, .cons q t => .cons q (Slots.set i r t)
theorem Slots.setN : ∀ {σ : L2.St} {ρ : Ro} (i : Nat) {v : Option V}, Slots S F σ ρ → Slots S F (σ.set i v) (ρ.set i none)
  | _, _, _, _, .nil => .nil
  | _, _, 0, _, .cons _ t => .cons .none t
  | _, _, i + 1, _, .cons q t => .cons q (Slots.setN i t)
def wipeR (ρ : Ro) : List Nat → Ro
  | [] => ρ
  | v :: vs => (wipeR ρ vs).set v none
theorem Slots.wipe {σ : L2.St} {ρ : Ro} (h : Slots S F σ ρ) : ∀ vs : List Nat, Slots S F (L2.wipe σ vs) (wipeR ρ vs)
  | [] => h
  | v :: vs => (Slots.wipe h vs).setN v
def startR (N : List Str) (ds : List D) : Ro := ds.map some ++ List.replicate (N.length - ds.length) none
theorem Slots.start {N : List Str} {vs : List V} {ds : List D} (h : Reps S F vs ds) : Slots S F (L2.start N vs) (startR N ds) := by
  unfold L2.start startR
  rw [h.len]
  have tail : ∀ n : Nat, Slots S F (List.replicate n none) (List.replicate n none) := fun n => by
    induction n with
    | zero => exact .nil
    | succ n ih => rw [List.replicate_succ, List.replicate_succ]; exact .cons .none ih
  have : ∀ {vs : List V} {ds : List D} {a : L2.St} {b : Ro}, Reps S F vs ds → Slots S F a b → Slots S F (vs.map some ++ a) (ds.map some ++ b) := by
    intro vs ds a b h
    induction vs generalizing ds with
    | nil => cases h; exact fun t => t
    | cons v vs ih => cases h with | cons r t => exact fun q => .cons (.some r) (ih t q)
  exact this h (tail _)
end

/-! ### readings over data, brought down -/
abbrev DX := Str → List (Str × D) → Store → Prop
abbrev DWX := Str → List (Str × D) → Ro → Store → Prop
abbrev DTE := Ro → Store → (D → Store → Prop) → Prop
abbrev DTT := Ro → Store → (Bool → Store → Prop) → Prop
abbrev DTA := Ro → Store → (List D → Store → Prop) → Prop
structure DEnds where
  nx : Ro → Store → Prop
  rt : D → Store → Prop
  bk : Ro → Store → Prop := fun _ _ => False
  ct : Ro → Store → Prop := fun _ _ => False
abbrev DTS := DEnds → Ro → Store → Prop

section
variable (S : SE) (F0 : Hp)
/-- what an expression's reading over data says below -/
def low {α β : Type} (R : Hp → α → β → Prop) (t : Ro → Store → (β → Store → Prop) → Prop) : L2.St → Hp → (α → Hp → Prop) → Prop := fun σ H Q =>
  ∃ (ρ : Ro) (M : Store) (F : Hp) (P : β → Store → Prop), Le F0 F ∧ Slots S F σ ρ ∧ Good S F M H ∧ t ρ M P ∧
    ∀ v d M' F' H', Le F F' → Good S F' M' H' → R F' v d → P d M' → Q v H'
def lowS (t : DTS) : TS := fun E σ H => ∃ (ρ : Ro) (M : Store) (F : Hp) (D : DEnds), Le F0 F ∧ Slots S F σ ρ ∧ Good S F M H ∧ t D ρ M ∧
  (∀ σ' ρ' M' F' H', Le F F' → Slots S F' σ' ρ' → Good S F' M' H' → D.nx ρ' M' → E.nx σ' H') ∧
  (∀ v d M' F' H', Le F F' → Good S F' M' H' → Rep S F' v d → D.rt d M' → E.rt v H') ∧
  (∀ σ' ρ' M' F' H', Le F F' → Slots S F' σ' ρ' → Good S F' M' H' → D.bk ρ' M' → E.bk σ' H') ∧
  (∀ σ' ρ' M' F' H', Le F F' → Slots S F' σ' ρ' → Good S F' M' H' → D.ct ρ' M' → E.ct σ' H')
end
abbrev Cx.se (X : Cx) : SE := ⟨X.K, X.mg⟩
abbrev eqB : Hp → Bool → Bool → Prop := fun _ a b => a = b
structure DE (X : Cx) (F0 : Hp) (e : Expr) (t : DTE) : Prop where
  pe : PE X e (low (Cx.se X) F0 (fun F => Rep (Cx.se X) F) t)
structure DT (X : Cx) (F0 : Hp) (e : Expr) (t : DTT) : Prop where
  pt : PT X e (low (Cx.se X) F0 eqB t)
structure DW (X : Cx) (F0 : Hp) (e : Expr) (t : DTT) : Prop where
  pw : PW X e (low (Cx.se X) F0 eqB t)
structure DA (X : Cx) (F0 : Hp) (es : List Expr) (t : DTA) : Prop where
  pa : PA X es (low (Cx.se X) F0 (fun F => Reps (Cx.se X) F) t)
structure DS (X : Cx) (F0 : Hp) (st : Stmt) (t : DTS) : Prop where
  ps : PS X st (lowS (Cx.se X) F0 t)
structure DSs (X : Cx) (F0 : Hp) (st : List Stmt) (t : DTS) : Prop where
  pss : PSs X st (lowS (Cx.se X) F0 t)

theorem PE.weak {X : Cx} {e : Expr} {t u : TE} (h : PE X e t) (k : ∀ σ H Q, u σ H Q → t σ H Q) : PE X e u := ⟨fun pins s σ H Q I q => h.run pins s σ H Q I (k _ _ _ q)⟩
theorem PT.weak {X : Cx} {e : Expr} {t u : TT} (h : PT X e t) (k : ∀ σ H Q, u σ H Q → t σ H Q) : PT X e u := ⟨fun pins s σ H Q I q => h.run pins s σ H Q I (k _ _ _ q)⟩
theorem PW.weak {X : Cx} {e : Expr} {t u : TT} (h : PW X e t) (k : ∀ σ H Q, u σ H Q → t σ H Q) : PW X e u := ⟨fun w pins s σ H Q I q => h.run w pins s σ H Q I (k _ _ _ q)⟩
theorem PA.weak {X : Cx} {es : List Expr} {t u : TA} (h : PA X es t) (k : ∀ σ H Q, u σ H Q → t σ H Q) : PA X es u := ⟨fun pos pins s σ H Q I q => h.run pos pins s σ H Q I (k _ _ _ q)⟩
theorem PS.weak {X : Cx} {st : Stmt} {t u : TS} (h : PS X st t) (k : ∀ D σ H, u D σ H → t D σ H) : PS X st u := ⟨fun pins s σ H D I q => h.run pins s σ H D I (k _ _ _ q)⟩
theorem PSs.weak {X : Cx} {st : List Stmt} {t u : TS} (h : PSs X st t) (k : ∀ D σ H, u D σ H → t D σ H) : PSs X st u := ⟨fun pins s σ H D I q => h.run pins s σ H D I (k _ _ _ q)⟩
end DL


set_option Elab.async false
set_option linter.all false
set_option maxRecDepth 100000
namespace DL
open PySem PySem.Spec PyProof.Rows L2
section
variable {X : Cx} {F0 : Hp} {pos : Pos}

/-! ### names, constants -/
def dVar (i : Nat) : DTE := fun ρ M Q => match ρ[i]? with
  | some (some d) => Q d M
  | _ => False
def dC (d : D) : DTE := fun _ M Q => Q d M
theorem de_var {i : Nat} {x : Str} (hN : X.N[i]? = some x) (hv : Vis X.env.scope x) (hd : (x == ("__debug__" : Str)) = false := by decide) (hcd : (x == ("__classdict__" : Str)) = false := by decide) : DE X F0 (.Name x pos) (dVar i) := by
  refine ⟨PE.weak (pe_var hN hv hd hcd) fun σ H Q ⟨ρ, M, F, P, l0, sl, g, t, k⟩ => ?_⟩
  unfold dVar at t
  split at t
  · rename_i d e
    obtain ⟨v, e1, r⟩ := sl.get e
    exact ⟨v, e1, k v d M F H (Le.refl F) g r t⟩
  · exact t.elim
/-- the name in slot i -/
theorem dv (i : Nat) {x : Str} (hN : X.N[i]? = some x := by rfl) (hv : Vis X.env.scope x := by first | exact Or.inl rfl | exact Or.inr (Or.inl rfl) | exact Or.inr (Or.inr rfl)) (hd : (x == ("__debug__" : Str)) = false := by decide)
    (hcd : (x == ("__classdict__" : Str)) = false := by decide) : DE X F0 (.Name x pos) (dVar i) := de_var hN hv hd hcd
theorem de_of_const {e : Expr} {v : V} {d : D} (h : PE X e (tC v)) (r : ∀ F, Rep (Cx.se X) F v d) : DE X F0 e (dC d) :=
  ⟨PE.weak h fun σ H Q ⟨ρ, M, F, P, l0, sl, g, t, k⟩ => k v d M F H (Le.refl F) g (r F) t⟩
theorem de_int {i j} : DE X F0 (.Constant (.int i) j pos) (dC (.int i)) := de_of_const pe_int fun _ => .int _
theorem de_bl {b j} : DE X F0 (.Constant (.bool b) j pos) (dC (.bl b)) := de_of_const pe_bl fun _ => .bl _
theorem de_non {j} : DE X F0 (.Constant .none j pos) (dC .non) := de_of_const pe_non fun _ => .non
theorem de_str {x j} : DE X F0 (.Constant (.str x) j pos) (dC (.str x)) := de_of_const pe_str fun _ => .str _
/-- a constant of the module -/
def GC (S : SE) (x : Str) (d : D) : Prop := ∃ u v, S.mg x = some u ∧ RelV v u ∧ ∀ F, Rep S F v d
theorem de_glob {x : Str} {d : D} (c : GC (Cx.se X) x d) (hg : Gl X x := by rfl) (hd : (x == ("__debug__" : Str)) = false := by decide) : DE X F0 (.Name x pos) (dC d) := by
  obtain ⟨u, v, h1, h2, h3⟩ := c
  exact de_of_const (pe_glob hg h1 h2 hd) h3

/-! ### two expressions and an operator -/
abbrev DR2 := D → D → Store → (D → Store → Prop) → Prop
def low2 (S : SE) (F0 : Hp) (rd : DR2) : R2 := fun x y H Q => ∃ dx dy M F P, Le F0 F ∧ Good S F M H ∧ Rep S F x dx ∧ Rep S F y dy ∧ rd dx dy M P ∧ ∀ v d M' F' H', Le F F' → Good S F' M' H' → Rep S F' v d → P d M' → Q v H'
def DOp (X : Cx) (F0 : Hp) (f : Value → Value → Sem Value) (rd : DR2) : Prop := OpR X f (low2 (Cx.se X) F0 rd)
def dOp (rd : DR2) (ta tb : DTE) : DTE := fun ρ M Q => ta ρ M fun x M1 => tb ρ M1 fun y M2 => rd x y M2 Q
variable {a b : Expr} {ta tb : DTE}
theorem low_op {rd : DR2} {ta tb : DTE} {σ : L2.St} {H : Hp} {Q : VK} (h : low (Cx.se X) F0 (fun F => Rep (Cx.se X) F) (dOp rd ta tb) σ H Q) :
    tOp (low2 (Cx.se X) F0 rd) (low (Cx.se X) F0 (fun F => Rep (Cx.se X) F) ta) (low (Cx.se X) F0 (fun F => Rep (Cx.se X) F) tb) σ H Q := by
  obtain ⟨ρ, M, F, P, l0, sl, g, t, k⟩ := h
  exact ⟨ρ, M, F, _, l0, sl, g, t, fun x dx M1 F1 H1 l1 g1 r1 t1 => ⟨ρ, M1, F1, _, l0.trans l1, sl.mono l1, g1, t1, fun y dy M2 F2 H2 l2 g2 r2 t2 =>
    ⟨dx, dy, M2, F2, P, (l0.trans l1).trans l2, g2, r1.mono l2, r2, t2, fun v d M' F' H' l3 g3 r3 p => k v d M' F' H' ((l1.trans l2).trans l3) g3 r3 p⟩⟩⟩
theorem de_op {op : Operator} {rd : DR2} (ho : DOp X F0 (binaryOp op) rd) (ha : DE X F0 a ta) (hb : DE X F0 b tb) : DE X F0 (.BinOp a op b pos) (dOp rd ta tb) :=
  ⟨PE.weak (pe_op ho ha.pe hb.pe) fun _ _ _ h => low_op h⟩
theorem de_cmp {op : CmpOp} {rd : DR2} (ho : DOp X F0 (compareOp op) rd) (ha : DE X F0 a ta) (hb : DE X F0 b tb) (hm : behindInMarks op b = false := by first | exact nomark _ | rfl) : DE X F0 (.Compare a [op] [b] pos) (dOp rd ta tb) :=
  ⟨PE.weak (pe_cmpR ho ha.pe hb.pe hm) fun _ _ _ h => low_op h⟩
/-- a test by a value that is a bool -/
def dB (t : DTE) : DTT := fun ρ M Q => t ρ M fun x M1 => match x with
  | .bl b => Q b M1
  | _ => False
theorem low_test {t : DTE} {σ : L2.St} {H : Hp} {Q : Bool → Hp → Prop} (h : low (Cx.se X) F0 eqB (dB t) σ H Q) : low (Cx.se X) F0 (fun F => Rep (Cx.se X) F) t σ H fun x H' => ∃ k, x = .bl k ∧ Q k H' := by
  obtain ⟨ρ, M, F, P, l0, sl, g, t, k⟩ := h
  refine ⟨ρ, M, F, _, l0, sl, g, t, fun v d M' F' H' l g' r p => ?_⟩
  split at p
  · cases r; exact ⟨_, rfl, k _ _ M' F' H' l g' rfl p⟩
  · exact p.elim
theorem dt_cmp {op : CmpOp} {rd : DR2} (ho : DOp X F0 (compareOp op) rd) (ha : DE X F0 a ta) (hb : DE X F0 b tb) (hm : behindInMarks op b = false := by first | exact nomark _ | rfl) : DT X F0 (.Compare a [op] [b] pos) (dB (dOp rd ta tb)) := by
  refine ⟨PT.weak (pt_cmpR ho ha.pe hb.pe hm) fun σ H Q h => ?_⟩
  obtain ⟨ρ, M, F, P, l0, sl, g, t, k⟩ := h
  exact low_op (low_test ⟨ρ, M, F, P, l0, sl, g, t, k⟩)
theorem dt_val {e : Expr} {t : DTE} (h : DE X F0 e t) (he : ∀ whole, isTrue e X.env whole = (do let v ← whole; standAt e.pos; holding [v] (truthy v)) := by intro _; rfl) : DT X F0 e (dB t) :=
  ⟨PT.weak (pt_val h.pe he) fun _ _ _ q => low_test q⟩

/-! ### arithmetic -/
/-- a list that is no locked one: its items -/
def asL (M : Store) : D → Option (List D)
  | .lst ds => some ds
  | .ref a => match M a with
    | some (.lst ds) => some ds
    | _ => none
  | _ => none
theorem asL_at {S : SE} {F H : Hp} {M : Store} {d : D} {v : V} {ds : List D} (g : Good S F M H) (r : Rep S F v d) (h : asL M d = some ds) : ∃ a vs, v = .ref a ∧ H a = some (.lst vs) ∧ Reps S F vs ds := by
  cases d with
  | lst es =>
    cases h
    cases r with
    | lst q r => exact ⟨_, _, rfl, g.sub _ _ q, r⟩
  | ref a =>
    cases r
    have h' : (match M a with | some (.lst ds) => some ds | _ => none) = some ds := h
    split at h'
    · rename_i e
      cases h'
      obtain ⟨_, o, e, q⟩ := g.cel _ _ e
      cases q with
      | lst r => exact ⟨_, _, rfl, e, r⟩
    · cases h'
  | _ => cases h
/-- a list read: its items -/
def asR (M : Store) : D → Option (List D)
  | .fro ds => some ds
  | d => asL M d
theorem asR_at {S : SE} {F H : Hp} {M : Store} {d : D} {v : V} {ds : List D} (g : Good S F M H) (r : Rep S F v d) (h : asR M d = some ds) : ∃ a vs, v = .ref a ∧ SqL S.K H a vs ∧ Reps S F vs ds := by
  unfold asR at h
  split at h
  · cases h
    cases r with
    | fro q r => exact ⟨_, _, rfl, g.sqL q, r⟩
  · obtain ⟨a, vs, e, h1, h2⟩ := asL_at g r h
    exact ⟨a, vs, e, .inl (.inl h1), h2⟩
def asT : D → Option (List D)
  | .tup ds => some ds
  | _ => none
theorem asT_at {S : SE} {F H : Hp} {M : Store} {d : D} {v : V} {ds : List D} (g : Good S F M H) (r : Rep S F v d) (h : asT d = some ds) : ∃ a vs, v = .ref a ∧ SqT S.K H a vs ∧ Reps S F vs ds := by
  cases r with
  | tup q r => cases h; exact ⟨_, _, rfl, g.sqT q, r⟩
  | _ => cases h
def rdAdd : DR2 := fun x y M Q => match x, y with
  | .int i, .int j => Q (.int (i + j)) M
  | .str i, .str j => i.length + j.length ≤ sizeLine ∧ Q (.str (i ++ j)) M
  | .tup xs, .tup ys => xs.length + ys.length ≤ sizeLine ∧ Q (.tup (xs ++ ys)) M
  | x, y => match asL M x, asL M y with
    | some xs, some ys => xs.length + ys.length ≤ sizeLine ∧ Q (.lst (xs ++ ys)) M
    | _, _ => False
theorem do_add : DOp X F0 (binaryOp .Add) rdAdd := by
  intro pins s σ H x y v u Q I rx ry ⟨dx, dy, M, F, P, l0, g, hx, hy, t, k⟩
  unfold rdAdd at t
  split at t
  · cases hx; cases hy
    exact op_add pins s σ H _ _ v u Q I rx ry ⟨_, _, rfl, rfl, k _ _ M F H (Le.refl F) g (.int _) t⟩
  · cases hx; cases hy
    exact op_add_str pins s σ H _ _ v u Q I rx ry ⟨_, _, rfl, rfl, t.1, k _ _ M F H (Le.refl F) g (.str _) t.2⟩
  · obtain ⟨a, vs, rfl, h1, r1⟩ := asT_at g hx rfl
    obtain ⟨b, ws, rfl, h2, r2⟩ := asT_at g hy rfl
    refine op_catA pins s σ H _ _ v u Q I rx ry ⟨a, b, vs, ws, rfl, rfl, h1, h2, by rw [r1.len, r2.len]; exact t.1, fun e => ?_, fun e1 e2 => ?_, fun e1 e2 p hp => ?_⟩
    · subst e
      cases r1
      exact k _ _ M F H (Le.refl F) g hy t.2
    · subst e2
      cases r2
      rw [List.append_nil] at t
      exact k _ _ M F H (Le.refl F) g hx t.2
    · have f := g.freshF hp
      exact k _ _ M _ _ (Le.new f) (g.new hp) (.tup (.inl (.inl upd_same)) ((r1.append r2).mono (Le.new f))) t.2
  · split at t
    · rename_i xs ys e1 e2
      obtain ⟨a, vs, rfl, h1, r1⟩ := asL_at g hx e1
      obtain ⟨b, ws, rfl, h2, r2⟩ := asL_at g hy e2
      refine op_cat pins s σ H _ _ v u Q I rx ry ⟨a, b, vs, ws, rfl, rfl, h1, h2, by rw [r1.len, r2.len]; exact t.1, fun p hp => ?_⟩
      have f := g.freshF hp
      exact k _ _ M _ _ (Le.new f) (g.new hp) (.lst upd_same ((r1.append r2).mono (Le.new f))) t.2
    · exact t.elim
def rdI (c : Int → Int → Prop) (f : Int → Int → D) : DR2 := fun x y M Q => match x, y with
  | .int i, .int j => c i j ∧ Q (f i j) M
  | _, _ => False
theorem do_int {f : Value → Value → Sem Value} {C : Int → Int → Prop} {g : Int → Int → V} {h : Int → Int → D} (ho : OpR X f (rI C g)) (hr : ∀ i j F, Rep (Cx.se X) F (g i j) (h i j)) : DOp X F0 f (rdI C h) := by
  intro pins s σ H x y v u Q I rx ry ⟨dx, dy, M, F, P, l0, gd, hx, hy, t, k⟩
  unfold rdI at t
  split at t
  · cases hx; cases hy
    exact ho pins s σ H _ _ v u Q I rx ry ⟨_, _, rfl, rfl, t.1, k _ _ M F H (Le.refl F) gd (hr _ _ F) t.2⟩
  · exact t.elim
theorem do_int0 {f : Value → Value → Sem Value} {g : Int → Int → V} {h : Int → Int → D} (ho : OpR X f (rI0 g)) (hr : ∀ i j F, Rep (Cx.se X) F (g i j) (h i j)) : DOp X F0 f (rdI (fun _ _ => True) h) := by
  intro pins s σ H x y v u Q I rx ry ⟨dx, dy, M, F, P, l0, gd, hx, hy, t, k⟩
  unfold rdI at t
  split at t
  · cases hx; cases hy
    exact ho pins s σ H _ _ v u Q I rx ry ⟨_, _, rfl, rfl, k _ _ M F H (Le.refl F) gd (hr _ _ F) t.2⟩
  · exact t.elim
abbrev rdSub : DR2 := rdI (fun _ _ => True) fun i j => .int (i - j)
theorem do_sub : DOp X F0 (binaryOp .Sub) rdSub := do_int0 op_sub fun _ _ _ => .int _
abbrev rdDiv : DR2 := rdI CDivW fun i j => .int (i / j)
theorem do_div : DOp X F0 (binaryOp .FloorDiv) rdDiv := do_int op_fdivW fun _ _ _ => .int _
abbrev rdMod : DR2 := rdI (fun _ j => 0 < j) fun i j => .int (i % j)
theorem do_mod : DOp X F0 (binaryOp .Mod) rdMod := do_int op_mod fun _ _ _ => .int _
abbrev rdPow : DR2 := rdI CPow fun i j => .int (i ^ j.toNat)
theorem do_pow : DOp X F0 (binaryOp .Pow) rdPow := do_int op_pow fun _ _ _ => .int _
theorem Reps.rep {S : SE} {F : Hp} {vs : List V} {ds : List D} (h : Reps S F vs ds) : ∀ n : Nat, Reps S F (List.replicate n vs).flatten (List.replicate n ds).flatten
  | 0 => .nil
  | n + 1 => by
    rw [List.replicate_succ, List.replicate_succ, List.flatten_cons, List.flatten_cons]
    exact h.append (Reps.rep h n)
def rdMul : DR2 := fun x y M Q => match x, y with
  | .int i, .int j => (CMul i j ∨ CMulW i j) ∧ Q (.int (i * j)) M
  | x, .int k => match asL M x with
    | some xs => -(2 ^ 63) ≤ k ∧ k < 2 ^ 63 ∧ xs.length * k.toNat ≤ sizeLine ∧ Q (.lst (List.replicate k.toNat xs).flatten) M
    | none => False
  | _, _ => False
theorem do_mul : DOp X F0 (binaryOp .Mult) rdMul := by
  intro pins s σ H x y v u Q I rx ry ⟨dx, dy, M, F, P, l0, g, hx, hy, t, k⟩
  unfold rdMul at t
  split at t
  · cases hx; cases hy
    rcases t.1 with c | c
    · exact op_mul pins s σ H _ _ v u Q I rx ry ⟨_, _, rfl, rfl, c, k _ _ M F H (Le.refl F) g (.int _) t.2⟩
    · exact op_mulW pins s σ H _ _ v u Q I rx ry ⟨_, _, rfl, rfl, c, k _ _ M F H (Le.refl F) g (.int _) t.2⟩
  · cases hy
    split at t
    · rename_i xs e1
      obtain ⟨a, vs, rfl, h1, r1⟩ := asL_at g hx e1
      obtain ⟨t1, t2, t3, t4⟩ := t
      refine op_rep pins s σ H _ _ v u Q I rx ry ⟨a, _, vs, rfl, rfl, h1, t1, t2, by rw [r1.len]; exact t3, fun p hp => ?_⟩
      have f := g.freshF hp
      exact k _ _ M _ _ (Le.new f) (g.new hp) (.lst upd_same ((r1.rep _).mono (Le.new f))) t4
    · exact t.elim
  · exact t.elim
end
end DL


set_option Elab.async false
set_option linter.all false
set_option maxRecDepth 100000
namespace DL
open PySem PySem.Spec PyProof.Rows L2

/-! ### data that compare by value -/
mutual
def toP : D → Option PyData
  | .non => some .none
  | .bl b => some (.bool b)
  | .int i => some (.int i)
  | .str x => some (.str x)
  | .tup ds => (toPs ds).map .tuple
  | .lst ds => (toPs ds).map .list
  | .fro ds => (toPs ds).map .list
  | .dct _ => none
  | .obj _ _ => none
  | .ref _ => none
  | .ty _ => none
  | .cls _ => none
def toPs : List D → Option (List PyData)
  | [] => some []
  | d :: ds => match toP d, toPs ds with
    | some e, some es => some (e :: es)
    | _, _ => none
end
def toPM (M : Store) (d : D) : Option PyData := match asL M d with
  | some ds => (toPs ds).map .list
  | none => toP d
mutual
theorem rep_toP {S : SE} {F H : Hp} {M : Store} (g : Good S F M H) : ∀ {v : V} {d : D} {e : PyData}, Rep S F v d → toP d = some e → Dp S.K H v e
  | _, _, _, .non, h => by simp only [toP, Option.some.injEq] at h; subst h; exact .non
  | _, _, _, .bl b, h => by simp only [toP, Option.some.injEq] at h; subst h; exact .bl b
  | _, _, _, .int b, h => by simp only [toP, Option.some.injEq] at h; subst h; exact .int b
  | _, _, _, .str b, h => by simp only [toP, Option.some.injEq] at h; subst h; exact .str b
  | _, _, _, .ty b, h => by simp [toP] at h
  | _, _, _, .ref b, h => by simp [toP] at h
  | _, _, _, .tup q r, h => by
    simp only [toP, Option.map_eq_some_iff] at h
    obtain ⟨es, h1, rfl⟩ := h
    exact .tup (g.sqT q) (reps_toP g r h1)
  | _, _, _, .lst q r, h => by
    simp only [toP, Option.map_eq_some_iff] at h
    obtain ⟨es, h1, rfl⟩ := h
    exact .lst (.inl (.inl (g.sub _ _ q))) (reps_toP g r h1)
  | _, _, _, .fro q r, h => by
    simp only [toP, Option.map_eq_some_iff] at h
    obtain ⟨es, h1, rfl⟩ := h
    exact .lst (g.sqL q) (reps_toP g r h1)
  | _, _, _, .dctK _ _, h => by simp [toP] at h
  | _, _, _, .obj _ _ _, h => by simp [toP] at h
  | _, _, _, .cls _, h => by simp [toP] at h
theorem reps_toP {S : SE} {F H : Hp} {M : Store} (g : Good S F M H) : ∀ {v : List V} {d : List D} {e : List PyData}, Reps S F v d → toPs d = some e → DpAll S.K H v e
  | _, _, _, .nil, h => by simp only [toPs, Option.some.injEq] at h; subst h; exact .nil
  | _, _, _, .cons r t, h => by
    simp only [toPs] at h
    split at h
    · rename_i e es h1 h2
      cases h
      exact .cons (rep_toP g r h1) (reps_toP g t h2)
    · cases h
end
theorem rep_toPM {S : SE} {F H : Hp} {M : Store} (g : Good S F M H) {v : V} {d : D} {e : PyData} (r : Rep S F v d) (h : toPM M d = some e) : Dp S.K H v e := by
  unfold toPM at h
  split at h
  · rename_i ds e1
    obtain ⟨a, vs, rfl, h1, r1⟩ := asL_at g r e1
    obtain ⟨es, h2, rfl⟩ := Option.map_eq_some_iff.mp h
    exact .lst (.inl (.inl h1)) (reps_toP g r1 h2)
  · exact rep_toP g r h

def okP (d : PyData) : Prop := SeqAt.shaped d = true
section
variable {X : Cx} {F0 : Hp} {pos : Pos} {a b c : Expr} {ta tb tc : DTE}
/-- x == y, x != y of data -/
def rdEq (neg : Bool) : DR2 := fun x y M Q => match x, y with
  | .str a, .str b => Q (.bl (neg != decide (a = b))) M
  | .int a, .int b => Q (.bl (neg != decide (a = b))) M
  | x, y => match toPM M x, toPM M y with
    | some d, some e => okP d ∧ okP e ∧ Q (.bl (neg != PyData.eqv d e)) M
    | _, _ => False
theorem room64 {k : Nat} {A : Around} (hr : Room k A) : A.units + 64 < cLine := hr.units
theorem room65 {k : Nat} {A : Around} (hr : Room k A) : A.units + 65 < cLine := by have := hr.un; omega
theorem do_eq {k : Nat} (hr : Room k X.A) : DOp X F0 (compareOp .Eq) (rdEq false) := by
  intro pins s σ H x y v u Q I rx ry ⟨dx, dy, M, F, P, l0, g, hx, hy, t, k⟩
  unfold rdEq at t
  split at t
  · cases hx; cases hy
    refine op_eq pins s σ H _ _ v u Q I rx ry ⟨rfl, ?_⟩
    refine k _ _ M F H (Le.refl F) g (.bl _) ?_
    simpa using t
  · cases hx; cases hy
    refine op_eq pins s σ H _ _ v u Q I rx ry ⟨rfl, ?_⟩
    refine k _ _ M F H (Le.refl F) g (.bl _) ?_
    simpa using t
  split at t
  · rename_i d e e1 e2
    refine op_eqD hr.units pins s σ H _ _ v u Q I rx ry ⟨d, e, rep_toPM g hx e1, rep_toPM g hy e2, t.1, t.2.1, ?_⟩
    have q := t.2.2
    rw [Bool.false_bne] at q
    exact k _ _ M F H (Le.refl F) g (.bl _) q
  · exact t.elim
theorem do_ne {k : Nat} (hr : Room k X.A) : DOp X F0 (compareOp .NotEq) (rdEq true) := by
  intro pins s σ H x y v u Q I rx ry ⟨dx, dy, M, F, P, l0, g, hx, hy, t, k⟩
  unfold rdEq at t
  split at t
  · cases hx; cases hy
    refine op_ne pins s σ H _ _ v u Q I rx ry ⟨rfl, ?_⟩
    refine k _ _ M F H (Le.refl F) g (.bl _) ?_
    simpa using t
  · cases hx; cases hy
    refine op_ne pins s σ H _ _ v u Q I rx ry ⟨rfl, ?_⟩
    refine k _ _ M F H (Le.refl F) g (.bl _) ?_
    simpa using t
  split at t
  · rename_i d e e1 e2
    refine op_neD hr.units pins s σ H _ _ v u Q I rx ry ⟨d, e, rep_toPM g hx e1, rep_toPM g hy e2, t.1, t.2.1, ?_⟩
    have q := t.2.2
    rw [Bool.true_bne] at q
    exact k _ _ M F H (Le.refl F) g (.bl _) q
  · exact t.elim
/-- x in y, of a list, a tuple of data, of a text (one sign) -/
def rdIn (neg : Bool) : DR2 := fun x y M Q => match x, y with
  | .str a, .str b => ∃ c, a = ⟨#[c]⟩ ∧ Q (.bl (neg != decide (c ∈ b.cps.toList))) M
  | x, y => match toPM M x, toPM M y with
    | some d, some (.list es) => okP d ∧ okP (.list es) ∧ Q (.bl (neg != es.any fun z => PyData.eqv z d)) M
    | some d, some (.tuple es) => okP d ∧ okP (.tuple es) ∧ Q (.bl (neg != es.any fun z => PyData.eqv z d)) M
    | _, _ => False
theorem room_in {d : PyData} {es : List PyData} {n : Nat} (h : okP d) (hu : n + 65 < cLine) : n + 1 + min (PyData.depthAll es) d.depth < cLine := by
  have h' : (d.canLay0 && decide (d.depth ≤ 64)) = true := h
  have h2 : d.depth ≤ 64 := of_decide_eq_true (Bool.and_eq_true_iff.mp h').2
  omega
theorem lay_all {es : List PyData} (h : okP (.tuple es) ∨ okP (.list es)) : PyData.canLayAll0 es = true := by
  have key : ∀ d : PyData, okP d → d.canLay0 = true := fun d h => (Bool.and_eq_true_iff.mp (show (d.canLay0 && decide (d.depth ≤ 64)) = true from h)).1
  rcases h with h | h
  · have := key _ h
    simpa only [PyData.canLay0] using this
  · have := key _ h
    simpa only [PyData.canLay0] using this
theorem lay_one {d : PyData} (h : okP d) : d.canLay0 = true := (Bool.and_eq_true_iff.mp (show (d.canLay0 && decide (d.depth ≤ 64)) = true from h)).1
theorem do_in {k : Nat} (hr : Room k X.A) : DOp X F0 (compareOp .In) (rdIn false) := by
  intro pins s σ H x y v u Q I rx ry ⟨dx, dy, M, F, P, l0, g, hx, hy, t, k⟩
  unfold rdIn at t
  split at t
  · cases hx; cases hy
    obtain ⟨c, rfl, q⟩ := t
    rw [Bool.false_bne] at q
    exact op_in_sign pins s σ H _ _ v u Q I rx ry ⟨c, _, rfl, rfl, k _ _ M F H (Le.refl F) g (.bl _) q⟩
  · split at t
    · rename_i d es e1 e2
      obtain ⟨t1, t2, q⟩ := t
      rw [Bool.false_bne] at q
      obtain ⟨as, r1⟩ := Dp.reads I _ _ v (rep_toPM g hx e1) rx
      obtain ⟨bs, r2⟩ := Dp.reads I _ _ u (rep_toPM g hy e2) ry
      exact SeqAt.in_list_reads r2 r1 (lay_all (.inr t2)) (lay_one t1) (room_in t1 (room65 hr)) ⟨.bl _, H, I, rfl, k _ _ M F H (Le.refl F) g (.bl _) q⟩
    · rename_i d es e1 e2
      obtain ⟨t1, t2, q⟩ := t
      rw [Bool.false_bne] at q
      obtain ⟨as, r1⟩ := Dp.reads I _ _ v (rep_toPM g hx e1) rx
      obtain ⟨bs, r2⟩ := Dp.reads I _ _ u (rep_toPM g hy e2) ry
      exact SeqAt.in_tuple_reads r2 r1 (lay_all (.inl t2)) (lay_one t1) (room_in t1 (room65 hr)) ⟨.bl _, H, I, rfl, k _ _ M F H (Le.refl F) g (.bl _) q⟩
    · exact t.elim
theorem do_notIn {k : Nat} (hr : Room k X.A) : DOp X F0 (compareOp .NotIn) (rdIn true) := by
  intro pins s σ H x y v u Q I rx ry ⟨dx, dy, M, F, P, l0, g, hx, hy, t, k⟩
  unfold rdIn at t
  split at t
  · cases hx; cases hy
    obtain ⟨c, rfl, q⟩ := t
    rw [Bool.true_bne] at q
    exact op_notIn_sign pins s σ H _ _ v u Q I rx ry ⟨c, _, rfl, rfl, k _ _ M F H (Le.refl F) g (.bl _) q⟩
  · split at t
    · rename_i d es e1 e2
      obtain ⟨t1, t2, q⟩ := t
      rw [Bool.true_bne] at q
      obtain ⟨as, r1⟩ := Dp.reads I _ _ v (rep_toPM g hx e1) rx
      obtain ⟨bs, r2⟩ := Dp.reads I _ _ u (rep_toPM g hy e2) ry
      exact SeqAt.notIn_list_reads r2 r1 (lay_all (.inr t2)) (lay_one t1) (room_in t1 (room65 hr)) ⟨.bl _, H, I, rfl, k _ _ M F H (Le.refl F) g (.bl _) q⟩
    · rename_i d es e1 e2
      obtain ⟨t1, t2, q⟩ := t
      rw [Bool.true_bne] at q
      obtain ⟨as, r1⟩ := Dp.reads I _ _ v (rep_toPM g hx e1) rx
      obtain ⟨bs, r2⟩ := Dp.reads I _ _ u (rep_toPM g hy e2) ry
      exact SeqAt.notIn_tuple_reads r2 r1 (lay_all (.inl t2)) (lay_one t1) (room_in t1 (room65 hr)) ⟨.bl _, H, I, rfl, k _ _ M F H (Le.refl F) g (.bl _) q⟩
    · exact t.elim
/-- orders of ints -/
abbrev rdCmp (p : Int → Int → Bool) : DR2 := rdI (fun _ _ => True) fun i j => .bl (p i j)
theorem do_lt : DOp X F0 (compareOp .Lt) (rdCmp fun i j => decide (i < j)) := do_int0 op_lt fun _ _ _ => .bl _
theorem do_le : DOp X F0 (compareOp .LtE) (rdCmp fun i j => decide (i ≤ j)) := do_int0 op_le fun _ _ _ => .bl _
theorem do_gt : DOp X F0 (compareOp .Gt) (rdCmp fun i j => decide (j < i)) := do_int0 op_gt fun _ _ _ => .bl _
theorem do_ge : DOp X F0 (compareOp .GtE) (rdCmp fun i j => decide (j ≤ i)) := do_int0 op_ge fun _ _ _ => .bl _
/-- x is None, x is not None; True -/
def isNonD : D → Bool
  | .non => true
  | _ => false
def rdIs (neg : Bool) : DR2 := fun x y M Q => match x, y with
  | .bl i, .bl j => Q (.bl (neg != decide (i = j))) M
  | x, .non => Q (.bl (neg != isNonD x)) M
  | _, _ => False
theorem isNonD_rep {S : SE} {F : Hp} {v : V} {d : D} (r : Rep S F v d) : decide (v = V.non) = isNonD d := by
  cases r <;> rfl
theorem do_is : DOp X F0 (compareOp .Is) (rdIs false) := by
  intro pins s σ H x y v u Q I rx ry ⟨dx, dy, M, F, P, l0, g, hx, hy, t, k⟩
  unfold rdIs at t
  split at t
  · cases hx; cases hy
    rw [Bool.false_bne] at t
    exact op_isBl pins s σ H _ _ v u Q I rx ry ⟨_, _, rfl, rfl, k _ _ M F H (Le.refl F) g (.bl _) t⟩
  · cases hy
    rw [Bool.false_bne] at t
    exact op_isN pins s σ H _ _ v u Q I rx ry ⟨rfl, by rw [isNonD_rep hx]; exact k _ _ M F H (Le.refl F) g (.bl _) t⟩
  · exact t.elim
theorem do_isNot : DOp X F0 (compareOp .IsNot) (rdIs true) := by
  intro pins s σ H x y v u Q I rx ry ⟨dx, dy, M, F, P, l0, g, hx, hy, t, k⟩
  unfold rdIs at t
  split at t
  · cases hx; cases hy
    rw [Bool.true_bne] at t
    exact op_notBl pins s σ H _ _ v u Q I rx ry ⟨_, _, rfl, rfl, k _ _ M F H (Le.refl F) g (.bl _) t⟩
  · cases hy
    rw [Bool.true_bne] at t
    exact op_notN pins s σ H _ _ v u Q I rx ry ⟨rfl, by rw [isNonD_rep hx]; exact k _ _ M F H (Le.refl F) g (.bl _) t⟩
  · exact t.elim
/-- a op b op c -/
def dChain (r r' : DR2) (ta tb tc : DTE) : DTE := fun ρ M Q => ta ρ M fun x M1 => tb ρ M1 fun y M2 => r x y M2 fun z M3 => match z with
  | .bl true => tc ρ M3 fun w M4 => r' y w M4 Q
  | .bl false => Q (.bl false) M3
  | _ => False
theorem low_chain {r r' : DR2} {σ : L2.St} {H : Hp} {Q : VK} (h : low (Cx.se X) F0 (fun F => Rep (Cx.se X) F) (dChain r r' ta tb tc) σ H Q) :
    tChain (low2 (Cx.se X) F0 r) (low2 (Cx.se X) F0 r') (low (Cx.se X) F0 (fun F => Rep (Cx.se X) F) ta) (low (Cx.se X) F0 (fun F => Rep (Cx.se X) F) tb) (low (Cx.se X) F0 (fun F => Rep (Cx.se X) F) tc) σ H Q := by
  obtain ⟨ρ, M, F, P, l0, sl, g, t, k⟩ := h
  exact ⟨ρ, M, F, _, l0, sl, g, t, fun x dx M1 F1 H1 l1 g1 r1 t1 => ⟨ρ, M1, F1, _, l0.trans l1, sl.mono l1, g1, t1, fun y dy M2 F2 H2 l2 g2 r2 t2 =>
    ⟨dx, dy, M2, F2, _, (l0.trans l1).trans l2, g2, r1.mono l2, r2, t2, fun z dz M3 F3 H3 l3 g3 r3 t3 => by
      split at t3
      · cases r3
        exact ⟨true, rfl, iteT ⟨ρ, M3, F3, _, ((l0.trans l1).trans l2).trans l3, ((sl.mono l1).mono l2).mono l3, g3, t3, fun z dz M4 F4 H4 l4 g4 r4 t4 =>
          ⟨dy, dz, M4, F4, P, (((l0.trans l1).trans l2).trans l3).trans l4, g4, (r2.mono l3).mono l4, r4, t4, fun v d M' F' H' l5 g5 r5 p => k v d M' F' H' ((((l1.trans l2).trans l3).trans l4).trans l5) g5 r5 p⟩⟩⟩
      · cases r3
        exact ⟨false, rfl, iteF (k _ _ M3 F3 H3 ((l1.trans l2).trans l3) g3 (.bl _) t3)⟩
      · exact t3.elim⟩⟩⟩
theorem de_chain {op op' : CmpOp} {r r' : DR2} (ho : DOp X F0 (compareOp op) r) (ho' : DOp X F0 (compareOp op') r') (ha : DE X F0 a ta) (hb : DE X F0 b tb) (hc : DE X F0 c tc)
    (hm : lastMarks [op, op'] [b, c] = false := by with_unfolding_all rfl) : DE X F0 (.Compare a [op, op'] [b, c] pos) (dChain r r' ta tb tc) :=
  ⟨PE.weak (pe_chain ho ho' ha.pe hb.pe hc.pe hm) fun _ _ _ h => low_chain h⟩
theorem dt_chain {op op' : CmpOp} {r r' : DR2} (ho : DOp X F0 (compareOp op) r) (ho' : DOp X F0 (compareOp op') r') (ha : DE X F0 a ta) (hb : DE X F0 b tb) (hc : DE X F0 c tc)
    (hm : lastMarks [op, op'] [b, c] = false := by with_unfolding_all rfl) : DT X F0 (.Compare a [op, op'] [b, c] pos) (dB (dChain r r' ta tb tc)) :=
  ⟨PT.weak (pt_chain ho ho' ha.pe hb.pe hc.pe hm) fun _ _ _ h => low_chain (low_test h)⟩

/-! ### truth; and, or, not, if -/
abbrev DTr := D → Store → (Bool → Store → Prop) → Prop
def lowTr (S : SE) (F0 : Hp) (tr : DTr) : V → Hp → (Bool → Hp → Prop) → Prop := fun x H Q => ∃ d M F P, Le F0 F ∧ Good S F M H ∧ Rep S F x d ∧ tr d M P ∧ ∀ b M' F' H', Le F F' → Good S F' M' H' → P b M' → Q b H'
def DTru (X : Cx) (F0 : Hp) (tr : DTr) : Prop := TruR X (lowTr (Cx.se X) F0 tr)
/-- the truth of plain values -/
def trP : DTr := fun d M Q => match d with
  | .bl b => Q b M
  | .non => Q false M
  | .int i => Q (i != 0) M
  | .str y => y.length ≤ sizeLine ∧ Q ((y.length : Int) != 0) M
  | .tup ds => Q (!ds.isEmpty) M
  | d => match asR M d with
    | some ds => Q (!ds.isEmpty) M
    | none => False
theorem reps_empty {S : SE} {F : Hp} {vs : List V} {ds : List D} (r : Reps S F vs ds) : (!vs.isEmpty) = !ds.isEmpty := by cases r <;> rfl
theorem tru_plain : DTru X F0 trP := by
  intro pins s σ H x v Q I rx ⟨d, M, F, P, l0, g, hx, t, k⟩
  unfold trP at t
  have fin : ∀ b, TruV X.K x H b → P b M → wpAny (model X.prog X.w) X.A (truthy v) (TP X pins σ Q) X.xe s := fun b h p => tru_ok pins s σ H x v Q I rx ⟨b, h, k b M F H (Le.refl F) g p⟩
  split at t
  · cases hx; exact fin _ rfl t
  · cases hx; exact fin _ rfl t
  · cases hx; exact fin _ rfl t
  · cases hx; exact fin _ ⟨t.1, rfl⟩ t.2
  · obtain ⟨a, vs, rfl, h1, r1⟩ := asT_at g hx rfl
    exact fin _ (.inr (.inl ⟨vs, h1, (reps_empty r1).symm⟩)) t
  · split at t
    · rename_i ds e
      obtain ⟨a, vs, rfl, h1, r1⟩ := asR_at g hx e
      exact fin _ (.inl ⟨vs, h1, (reps_empty r1).symm⟩) t
    · exact t.elim
def dTr (tr : DTr) (t : DTE) : DTT := fun ρ M Q => t ρ M fun x M1 => tr x M1 Q
/-- an expression by its value's truth -/
theorem dt_tr {tr : DTr} (hr : DTru X F0 tr) (ha : DE X F0 a ta) (he : ∀ whole, isTrue a X.env whole = (do let v ← whole; standAt a.pos; holding [v] (truthy v)) := by intro _; rfl) : DT X F0 a (dTr tr ta) := by
  refine ⟨⟨fun pins s σ H Q I h => isTrue_plain ?_ (he _)⟩⟩
  obtain ⟨ρ, M, F, P, l0, sl, g, t, k⟩ := h
  refine thn (ha.pe.run pins s σ H (lowTr (Cx.se X) F0 tr · · Q) I ⟨ρ, M, F, _, l0, sl, g, t, fun v d M' F' H' l g' r p => ⟨d, M', F', P, l0.trans l, g', r, p, fun b M2 F2 H2 l2 g2 p2 => k b b M2 F2 H2 (l.trans l2) g2 rfl p2⟩⟩) fun v s1 ⟨x, H1, I1, r1, q1⟩ => ?_
  exact hr pins s1 σ H1 x v Q I1 r1 q1
variable {pA pB : DTT} {rest : List Expr}
def dAnd (t u : DTT) : DTT := fun ρ M Q => t ρ M fun b M1 => if b = true then u ρ M1 Q else Q false M1
def dOr (t u : DTT) : DTT := fun ρ M Q => t ρ M fun b M1 => if b = true then Q true M1 else u ρ M1 Q
def dNot (t : DTT) : DTT := fun ρ M Q => t ρ M fun b M1 => Q (!b) M1
theorem dw_and1 (ha : DT X F0 a pA) : DW X F0 (.BoolOp .And [a] pos) pA := ⟨pw_and1 ha.pt⟩
theorem dw_or1 (ha : DT X F0 a pA) : DW X F0 (.BoolOp .Or [a] pos) pA := ⟨pw_or1 ha.pt⟩
theorem dw_and (ha : DT X F0 a pA) (hb : DW X F0 (.BoolOp .And (b :: rest) pos) pB) : DW X F0 (.BoolOp .And (a :: b :: rest) pos) (dAnd pA pB) := by
  refine ⟨PW.weak (pw_and ha.pt hb.pw) fun σ H Q ⟨ρ, M, F, P, l0, sl, g, t, k⟩ => ⟨ρ, M, F, _, l0, sl, g, t, fun v d M1 F1 H1 l1 g1 r1 p => ?_⟩⟩
  cases r1
  cases v with
  | true => exact ⟨ρ, M1, F1, P, l0.trans l1, sl.mono l1, g1, p, fun v d M' F' H' l g' r p => k v d M' F' H' (l1.trans l) g' r p⟩
  | false => exact k _ _ M1 F1 H1 l1 g1 rfl p
theorem dw_or (ha : DT X F0 a pA) (hb : DW X F0 (.BoolOp .Or (b :: rest) pos) pB) : DW X F0 (.BoolOp .Or (a :: b :: rest) pos) (dOr pA pB) := by
  refine ⟨PW.weak (pw_or ha.pt hb.pw) fun σ H Q ⟨ρ, M, F, P, l0, sl, g, t, k⟩ => ⟨ρ, M, F, _, l0, sl, g, t, fun v d M1 F1 H1 l1 g1 r1 p => ?_⟩⟩
  cases r1
  cases v with
  | true => exact k _ _ M1 F1 H1 l1 g1 rfl p
  | false => exact ⟨ρ, M1, F1, P, l0.trans l1, sl.mono l1, g1, p, fun v d M' F' H' l g' r p => k v d M' F' H' (l1.trans l) g' r p⟩
theorem dt_w (h : DW X F0 a pA) : DT X F0 a pA := ⟨h.pw.pt⟩
theorem dt_not (ha : DT X F0 a pA) : DT X F0 (.UnaryOp .Not a pos) (dNot pA) :=
  ⟨PT.weak (pt_not ha.pt) fun σ H Q ⟨ρ, M, F, P, l0, sl, g, t, k⟩ => ⟨ρ, M, F, _, l0, sl, g, t, fun v d M1 F1 H1 l1 g1 r1 p => k _ _ M1 F1 H1 l1 g1 (by cases r1; rfl) p⟩⟩
/-- as values -/
def dAndV (tr : DTr) (ta tb : DTE) : DTE := fun ρ M Q => ta ρ M fun x M1 => tr x M1 fun b M2 => if b = true then tb ρ M2 Q else Q x M2
def dOrV (tr : DTr) (ta tb : DTE) : DTE := fun ρ M Q => ta ρ M fun x M1 => tr x M1 fun b M2 => if b = true then Q x M2 else tb ρ M2 Q
def dNotV (tr : DTr) (ta : DTE) : DTE := fun ρ M Q => ta ρ M fun x M1 => tr x M1 fun b M2 => Q (.bl (!b)) M2
theorem de_one {op} (h : DE X F0 a ta) : DE X F0 (.BoolOp op [a] pos) ta := ⟨pe_one h.pe⟩
theorem de_and {tr : DTr} (hr : DTru X F0 tr) (ha : DE X F0 a ta) (hb : DE X F0 (.BoolOp .And (b :: rest) pos) tb) : DE X F0 (.BoolOp .And (a :: b :: rest) pos) (dAndV tr ta tb) := by
  refine ⟨⟨fun pins s σ H Q I ⟨ρ, M, F, P, l0, sl, g, t, k⟩ => ?_⟩⟩
  refine BoolOp_and (thn (ha.pe.run pins s σ H (fun x H1 => ∃ d M1 F1, Le F F1 ∧ Good (Cx.se X) F1 M1 H1 ∧ Rep (Cx.se X) F1 x d ∧ tr d M1 fun b M2 => if b = true then tb ρ M2 P else P d M2) I
    ⟨ρ, M, F, _, l0, sl, g, t, fun v d M' F' H' l g' r p => ⟨d, M', F', l, g', r, p⟩⟩) fun v s1 ⟨x, H1, I1, r1, d, M1, F1, l1, g1, rd, q1⟩ => ?_)
  refine thn (hr pins s1 σ H1 x v (fun b H2 => ∃ M2 F2, Le F1 F2 ∧ Good (Cx.se X) F2 M2 H2 ∧ if b = true then tb ρ M2 P else P d M2) I1 r1 ⟨d, M1, F1, _, l0.trans l1, g1, rd, q1, fun b M2 F2 H2 l2 g2 p => ⟨M2, F2, l2, g2, p⟩⟩) fun b s2 ⟨H2, I2, M2, F2, l2, g2, q2⟩ => ?_
  cases b with
  | true => exact hb.pe.run pins s2 σ H2 Q I2 ⟨ρ, M2, F2, P, (l0.trans l1).trans l2, sl.mono (l1.trans l2), g2, q2, fun v d M' F' H' l g' r p => k v d M' F' H' ((l1.trans l2).trans l) g' r p⟩
  | false => exact ⟨x, H2, I2, r1, k x d M2 F2 H2 (l1.trans l2) g2 (rd.mono l2) q2⟩
theorem de_or {tr : DTr} (hr : DTru X F0 tr) (ha : DE X F0 a ta) (hb : DE X F0 (.BoolOp .Or (b :: rest) pos) tb) : DE X F0 (.BoolOp .Or (a :: b :: rest) pos) (dOrV tr ta tb) := by
  refine ⟨⟨fun pins s σ H Q I ⟨ρ, M, F, P, l0, sl, g, t, k⟩ => ?_⟩⟩
  refine BoolOp_or (thn (ha.pe.run pins s σ H (fun x H1 => ∃ d M1 F1, Le F F1 ∧ Good (Cx.se X) F1 M1 H1 ∧ Rep (Cx.se X) F1 x d ∧ tr d M1 fun b M2 => if b = true then P d M2 else tb ρ M2 P) I
    ⟨ρ, M, F, _, l0, sl, g, t, fun v d M' F' H' l g' r p => ⟨d, M', F', l, g', r, p⟩⟩) fun v s1 ⟨x, H1, I1, r1, d, M1, F1, l1, g1, rd, q1⟩ => ?_)
  refine thn (hr pins s1 σ H1 x v (fun b H2 => ∃ M2 F2, Le F1 F2 ∧ Good (Cx.se X) F2 M2 H2 ∧ if b = true then P d M2 else tb ρ M2 P) I1 r1 ⟨d, M1, F1, _, l0.trans l1, g1, rd, q1, fun b M2 F2 H2 l2 g2 p => ⟨M2, F2, l2, g2, p⟩⟩) fun b s2 ⟨H2, I2, M2, F2, l2, g2, q2⟩ => ?_
  cases b with
  | false => exact hb.pe.run pins s2 σ H2 Q I2 ⟨ρ, M2, F2, P, (l0.trans l1).trans l2, sl.mono (l1.trans l2), g2, q2, fun v d M' F' H' l g' r p => k v d M' F' H' ((l1.trans l2).trans l) g' r p⟩
  | true => exact ⟨x, H2, I2, r1, k x d M2 F2 H2 (l1.trans l2) g2 (rd.mono l2) q2⟩
theorem de_not {tr : DTr} (hr : DTru X F0 tr) (ha : DE X F0 a ta) : DE X F0 (.UnaryOp .Not a pos) (dNotV tr ta) := by
  refine ⟨⟨fun pins s σ H Q I ⟨ρ, M, F, P, l0, sl, g, t, k⟩ => ?_⟩⟩
  refine UnaryOp_ (thn (ha.pe.run pins s σ H (fun x H1 => ∃ d M1 F1, Le F F1 ∧ Good (Cx.se X) F1 M1 H1 ∧ Rep (Cx.se X) F1 x d ∧ tr d M1 fun b M2 => P (.bl (!b)) M2) I
    ⟨ρ, M, F, _, l0, sl, g, t, fun v d M' F' H' l g' r p => ⟨d, M', F', l, g', r, p⟩⟩) fun v s1 ⟨x, H1, I1, r1, d, M1, F1, l1, g1, rd, q1⟩ => ?_)
  refine not_of (thn (hr pins s1 σ H1 x v (fun b H2 => Q (.bl (!b)) H2) I1 r1 ⟨d, M1, F1, _, l0.trans l1, g1, rd, q1, fun b M2 F2 H2 l2 g2 p => k _ _ M2 F2 H2 (l1.trans l2) g2 (.bl _) p⟩) fun b s2 ⟨H2, I2, q2⟩ => ⟨V.bl (!b), H2, I2, rfl, q2⟩)
def dIfE (t : DTT) (ta tb : DTE) : DTE := fun ρ M Q => t ρ M fun b M1 => if b = true then ta ρ M1 Q else tb ρ M1 Q
theorem de_if (hc : DT X F0 c pA) (ha : DE X F0 a ta) (hb : DE X F0 b tb) : DE X F0 (.IfExp c a b pos) (dIfE pA ta tb) := by
  refine ⟨PE.weak (pe_ifExp hc.pt ha.pe hb.pe) fun σ H Q ⟨ρ, M, F, P, l0, sl, g, t, k⟩ => ⟨ρ, M, F, _, l0, sl, g, t, fun v d M1 F1 H1 l1 g1 r1 p => ?_⟩⟩
  cases r1
  cases v with
  | true => exact iteT ⟨ρ, M1, F1, P, l0.trans l1, sl.mono l1, g1, p, fun v d M' F' H' l g' r p => k v d M' F' H' (l1.trans l) g' r p⟩
  | false => exact iteF ⟨ρ, M1, F1, P, l0.trans l1, sl.mono l1, g1, p, fun v d M' F' H' l g' r p => k v d M' F' H' (l1.trans l) g' r p⟩
def dNeg (ta : DTE) : DTE := fun ρ M Q => ta ρ M fun x M1 => match x with
  | .int i => Q (.int (-i)) M1
  | _ => False
theorem de_neg (ha : DE X F0 a ta) : DE X F0 (.UnaryOp .USub a pos) (dNeg ta) := by
  refine ⟨PE.weak (pe_un un_neg ha.pe) fun σ H Q ⟨ρ, M, F, P, l0, sl, g, t, k⟩ => ⟨ρ, M, F, _, l0, sl, g, t, fun v d M1 F1 H1 l1 g1 r1 p => ?_⟩⟩
  split at p
  · cases r1; exact ⟨_, rfl, k _ _ M1 F1 H1 l1 g1 (.int _) p⟩
  · exact p.elim
end
end DL


set_option Elab.async false
set_option linter.all false
set_option maxRecDepth 100000
namespace DL
open PySem PySem.Spec PyProof.Rows L2

/-! ### targets -/
abbrev DTG := D → Ro → Store → (Ro → Store → Prop) → Prop
abbrev DTGs := List D → Ro → Store → (Ro → Store → Prop) → Prop
def lowG (S : SE) (F0 : Hp) (vs : List Nat) (t : DTG) : TG := fun v σ H Q => ∃ d ρ M F P, Le F0 F ∧ Rep S F v d ∧ Slots S F σ ρ ∧ Good S F M H ∧ t d ρ M P ∧
  ∀ σ' ρ' M' F' H', (vs ≠ [] → L2.wipe σ' vs = L2.wipe σ vs) → Le F F' → Slots S F' σ' ρ' → Good S F' M' H' → P ρ' M' → Q σ' H'
def lowGs (S : SE) (F0 : Hp) (vs : List Nat) (t : DTGs) : TGs := fun v σ H Q => ∃ d ρ M F P, Le F0 F ∧ Reps S F v d ∧ Slots S F σ ρ ∧ Good S F M H ∧ t d ρ M P ∧
  ∀ σ' ρ' M' F' H', (vs ≠ [] → L2.wipe σ' vs = L2.wipe σ vs) → Le F F' → Slots S F' σ' ρ' → Good S F' M' H' → P ρ' M' → Q σ' H'
/-- a target; vs: the slots that it may change (none said: any) -/
structure DG (X : Cx) (F0 : Hp) (vs : List Nat) (tg : Expr) (t : DTG) : Prop where
  pg : PG X tg (lowG (Cx.se X) F0 vs t)
structure DGs (X : Cx) (F0 : Hp) (vs : List Nat) (tg : List Expr) (t : DTGs) : Prop where
  pgs : PGs X tg (lowGs (Cx.se X) F0 vs t)
def dgName (i : Nat) : DTG := fun d ρ M Q => Q (ρ.set i (some d)) M
def dgNil : DTGs := fun ds ρ M Q => match ds with
  | [] => Q ρ M
  | _ :: _ => False
def dgCons (t : DTG) (u : DTGs) : DTGs := fun ds ρ M Q => match ds with
  | d :: r => t d ρ M fun ρ1 M1 => u r ρ1 M1 Q
  | [] => False
/-- the items of a tuple or list -/
def asS (M : Store) : D → Option (List D)
  | .tup ds => some ds
  | d => asR M d
def dgTup (n : Nat) (t : DTGs) : DTG := fun d ρ M Q => match asS M d with
  | some ds => ds.length = n ∧ t ds ρ M Q
  | none => False
theorem asS_at {S : SE} {F H : Hp} {M : Store} {d : D} {v : V} {ds : List D} (g : Good S F M H) (r : Rep S F v d) (h : asS M d = some ds) : ∃ a vs, v = .ref a ∧ (SqL S.K H a vs ∨ SqT S.K H a vs) ∧ Reps S F vs ds := by
  unfold asS at h
  split at h
  · obtain ⟨a, vs, e, h1, h2⟩ := asT_at g r h
    exact ⟨a, vs, e, .inr h1, h2⟩
  · obtain ⟨a, vs, e, h1, h2⟩ := asR_at g r h
    exact ⟨a, vs, e, .inl h1, h2⟩
theorem wipe_set {σ : L2.St} {i : Nat} {v : Option V} : ∀ {vs : List Nat}, i ∈ vs → L2.wipe (σ.set i v) vs = L2.wipe σ vs
  | j :: vs, h => by
    show (L2.wipe (σ.set i v) vs).set j none = (L2.wipe σ vs).set j none
    by_cases hm : i ∈ vs
    · rw [wipe_set hm]
    · have e : j = i := by
        rcases List.mem_cons.mp h with e | e
        · exact e.symm
        · exact absurd e hm
      subst e
      have key : ∀ ws : List Nat, L2.wipe (σ.set j v) ws = (L2.wipe σ ws).set j (if j ∈ ws then none else v) := by
        intro ws
        induction ws with
        | nil => simp [L2.wipe]
        | cons k ws ih =>
          show (L2.wipe (σ.set j v) ws).set k none = ((L2.wipe σ ws).set k none).set j _
          rw [ih]
          by_cases ek : k = j
          · subst ek
            simp
          · rw [List.set_comm _ _ (Ne.symm ek)]
            congr 1
            by_cases e2 : j ∈ ws
            · simp [e2]
            · have : ¬ j = k := fun z => ek z.symm
              simp [e2, this]
      rw [key, if_neg hm, List.set_set]
section
variable {X : Cx} {F0 : Hp} {vs : List Nat} {pos : Pos}
theorem dg_name {i : Nat} {x : Str} (hN : X.N.Nodup) (hi : X.N[i]? = some x) (hx : Loc X.env.scope x) (hvs : vs ≠ [] → i ∈ vs) (hf : X.fn x = true ∨ X.env.scope.names.lookup x = some .local := by first | exact .inl rfl | exact .inr rfl) : DG X F0 vs (.Name x pos) (dgName i) := by
  refine ⟨⟨fun pins s σ H v u Q I r ⟨d, ρ, M, F, P, l0, rd, sl, g, t, k⟩ => (pg_name hN hi hx hf).run pins s σ H v u Q I r ?_⟩⟩
  exact k _ _ M F H (fun h => wipe_set (hvs h)) (Le.refl F) (sl.set i rd) g t
theorem dgs_nil : DGs X F0 vs [] dgNil := by
  refine ⟨⟨fun pins s σ H v u Q I r ⟨d, ρ, M, F, P, l0, rd, sl, g, t, k⟩ => pgs_nil.run pins s σ H v u Q I r ?_⟩⟩
  cases rd with
  | nil => exact ⟨rfl, k _ _ M F H (fun _ => rfl) (Le.refl F) sl g t⟩
  | cons _ _ => exact t.elim
theorem dgs_cons {e : Expr} {es : List Expr} {t : DTG} {u : DTGs} (h1 : DG X F0 vs e t) (h2 : DGs X F0 vs es u)
    (hs : (assignEach (e :: es) X.env).map (·.2) = assign e X.env :: (assignEach es X.env).map (·.2) := by rfl) : DGs X F0 vs (e :: es) (dgCons t u) := by
  refine ⟨⟨fun pins s σ H v w Q I r ⟨d, ρ, M, F, P, l0, rd, sl, g, t, k⟩ => (pgs_cons h1.pg h2.pgs hs).run pins s σ H v w Q I r ?_⟩⟩
  cases rd with
  | nil => exact t.elim
  | cons ra rr =>
    exact ⟨_, _, rfl, _, ρ, M, F, _, l0, ra, sl, g, t, fun σ1 ρ1 M1 F1 H1 w1 l1 s1 g1 p1 => ⟨_, ρ1, M1, F1, P, l0.trans l1, rr.mono l1, s1, g1, p1, fun σ' ρ' M' F' H' w2 l2 s2 g2 p2 =>
      k σ' ρ' M' F' H' (fun z => (w2 z).trans (w1 z)) (l1.trans l2) s2 g2 p2⟩⟩
theorem dg_tup {es : List Expr} {k : Nat} {t : DTGs} {n : Nat} (hc : X.calm = true) (h : DGs X F0 vs es t)
    (hn : (assignEach es X.env).length = n := by rfl) (hst : (assignEach es X.env).findIdx? (·.1) = none := by rfl) : DG X F0 vs (.Tuple es k pos) (dgTup n t) := by
  refine ⟨⟨fun pins s σ H v u Q I r ⟨d, ρ, M, F, P, l0, rd, sl, g, tt, kk⟩ => ?_⟩⟩
  unfold dgTup at tt
  split at tt
  · rename_i ds e
    obtain ⟨a, ws, rfl, hq, rs⟩ := asS_at g rd e
    rcases hq with hq | hq
    · refine (pg_lst hc h.pgs hn hst).run pins s σ H _ u Q I r ⟨a, ws, rfl, hq, by rw [rs.len]; exact tt.1, ds, ρ, M, F, P, l0, rs, sl, g, tt.2, kk⟩
    · refine (pg_tup hc h.pgs hn hst).run pins s σ H _ u Q I r ⟨a, ws, rfl, hq, by rw [rs.len]; exact tt.1, ds, ρ, M, F, P, l0, rs, sl, g, tt.2, kk⟩
  · exact tt.elim
/-! o[i] = v -/
abbrev DSet := D → D → D → Store → (Store → Prop) → Prop
def lowSet (S : SE) (F0 : Hp) (t : DSet) : TSet := fun o i v H Q => ∃ do_ di dv M F P, Le F0 F ∧ Rep S F o do_ ∧ Rep S F i di ∧ Rep S F v dv ∧ Good S F M H ∧ t do_ di dv M P ∧
  ∀ M' F' H', Le F F' → Good S F' M' H' → P M' → Q H'
def DSetR (X : Cx) (F0 : Hp) (t : DSet) : Prop := PSet X (lowSet (Cx.se X) F0 t)
def rdSetL : DSet := fun o i v M Q => match o, i with
  | .ref a, .int j => match M a with
    | some (.lst ds) => match ixN ds.length j with
      | some n => Q (updM M a (.lst (ds.set n v)))
      | none => False
    | _ => False
  | _, _ => False
theorem ds_list : DSetR X F0 rdSetL := by
  intro pins s σ H o i v ov iv u Q I ro ri rv ⟨d1, d2, d3, M, F, P, l0, h1, h2, h3, g, t, k⟩
  unfold rdSetL at t
  split at t
  · cases h1; cases h2
    split at t
    · rename_i ds e
      obtain ⟨f, ob, hH, rm⟩ := g.cel _ _ e
      cases rm with
      | lst rs =>
        split at t
        · rename_i n en
          refine set_list pins s σ H _ _ v ov iv u Q I ro ri rv ⟨_, _, _, n, rfl, rfl, hH, by rw [rs.len]; exact en, ?_⟩
          exact k _ F _ (Le.refl F) (g.set e (.lst (rs.set n h3))) t
        · exact t.elim
    · exact t.elim
  · exact t.elim
variable {o i : Expr} {to ti : DTE}
def dgSub (to ti : DTE) (t : DSet) : DTG := fun d ρ M Q => to ρ M fun o M1 => ti ρ M1 fun i M2 => t o i d M2 fun M3 => Q ρ M3
theorem dg_sub {t : DSet} (ho : DE X F0 o to) (hi : DE X F0 i ti) (hs : DSetR X F0 t)
    (ha : ∀ v, assign (.Subscript o i pos) X.env v = (do
      let ov ← holding [v] (eval o X.env)
      let iv ← holding [v, ov] (eval i X.env)
      standAt pos
      holding [v, ov, iv] (setItem ov iv v)
      release [v, ov, iv] []) := by intro _; rfl) : DG X F0 vs (.Subscript o i pos) (dgSub to ti t) := by
  refine ⟨⟨fun pins s σ H v u Q I r ⟨d, ρ, M, F, P, l0, rd, sl, g, t, k⟩ => (pg_sub ho.pe hi.pe hs ha).run pins s σ H v u Q I r ?_⟩⟩
  exact ⟨ρ, M, F, _, l0, sl, g, t, fun v1 d1 M1 F1 H1 l1 g1 r1 p1 => ⟨ρ, M1, F1, _, l0.trans l1, sl.mono l1, g1, p1, fun v2 d2 M2 F2 H2 l2 g2 r2 p2 =>
    ⟨d1, d2, d, M2, F2, _, (l0.trans l1).trans l2, r1.mono l2, r2, rd.mono (l1.trans l2), g2, p2, fun M3 F3 H3 l3 g3 p3 => k σ ρ M3 F3 H3 (fun _ => rfl) ((l1.trans l2).trans l3) (sl.mono ((l1.trans l2).trans l3)) g3 p3⟩⟩⟩
end

/-! ### statements -/
section
variable {X : Cx} {F0 : Hp} {pos : Pos} {e : Expr} {te : DTE} {st : Stmt} {rest : List Stmt} {t u : DTS}
def dNext : DTS := fun D ρ M => D.nx ρ M
def dSeq (t u : DTS) : DTS := fun D ρ M => t { D with nx := u D } ρ M
theorem dss_nil : DSs X F0 [] dNext := ⟨PSs.weak pss_nil fun E σ H ⟨ρ, M, F, D, l0, sl, g, t, k1, k2, k3, k4⟩ => k1 σ ρ M F H (Le.refl F) sl g t⟩
theorem dss_cons (h1 : DS X F0 st t) (h2 : DSs X F0 rest u) : DSs X F0 (st :: rest) (dSeq t u) := by
  refine ⟨PSs.weak (pss_cons h1.ps h2.pss) fun E σ H ⟨ρ, M, F, D, l0, sl, g, tt, k1, k2, k3, k4⟩ => ?_⟩
  refine ⟨ρ, M, F, { D with nx := u D }, l0, sl, g, tt, fun σ' ρ' M' F' H' l s' g' p => ?_, k2, k3, k4⟩
  exact ⟨ρ', M', F', D, l0.trans l, s', g', p, fun a b c d e f => k1 a b c d e (l.trans f), fun a b c d e f => k2 a b c d e (l.trans f), fun a b c d e f => k3 a b c d e (l.trans f), fun a b c d e f => k4 a b c d e (l.trans f)⟩
theorem dss_one (h1 : DS X F0 st t) : DSs X F0 [st] t := ⟨pss_one h1.ps⟩
theorem ds_pass : DS X F0 (.Pass pos) dNext := ⟨PS.weak ps_pass fun E σ H ⟨ρ, M, F, D, l0, sl, g, t, k1, k2, k3, k4⟩ => k1 σ ρ M F H (Le.refl F) sl g t⟩
def dBreak : DTS := fun D ρ M => D.bk ρ M
def dCont : DTS := fun D ρ M => D.ct ρ M
theorem ds_break : DS X F0 (.Break pos) dBreak := ⟨PS.weak ps_break fun E σ H ⟨ρ, M, F, D, l0, sl, g, t, k1, k2, k3, k4⟩ => k3 σ ρ M F H (Le.refl F) sl g t⟩
theorem ds_cont : DS X F0 (.Continue pos) dCont := ⟨PS.weak ps_continue fun E σ H ⟨ρ, M, F, D, l0, sl, g, t, k1, k2, k3, k4⟩ => k4 σ ρ M F H (Le.refl F) sl g t⟩
def dDrop (te : DTE) : DTS := fun D ρ M => te ρ M fun _ M1 => D.nx ρ M1
theorem ds_expr (he : DE X F0 e te) (hs : swapsWith e none pos.line X.env = pure false := by rfl) : DS X F0 (.Expr e pos) (dDrop te) :=
  ⟨PS.weak (ps_expr he.pe hs) fun E σ H ⟨ρ, M, F, D, l0, sl, g, t, k1, k2, k3, k4⟩ => ⟨ρ, M, F, _, l0, sl, g, t, fun v d M' F' H' l g' r p => k1 σ ρ M' F' H' l (sl.mono l) g' p⟩⟩
def dRet (te : DTE) : DTS := fun D ρ M => te ρ M D.rt
theorem ds_ret (he : DE X F0 e te) : DS X F0 (.Return (some e) pos) (dRet te) :=
  ⟨PS.weak (ps_ret he.pe) fun E σ H ⟨ρ, M, F, D, l0, sl, g, t, k1, k2, k3, k4⟩ => ⟨ρ, M, F, _, l0, sl, g, t, fun v d M' F' H' l g' r p => k2 v d M' F' H' l g' r p⟩⟩
def dRetN : DTS := fun D ρ M => D.rt .non M
theorem ds_retN : DS X F0 (.Return none pos) dRetN :=
  ⟨PS.weak ps_retN fun E σ H ⟨ρ, M, F, D, l0, sl, g, t, k1, k2, k3, k4⟩ => k2 _ _ M F H (Le.refl F) g .non t⟩
def dIf (c : DTT) (t u : DTS) : DTS := fun D ρ M => c ρ M fun b M1 => if b = true then t D ρ M1 else u D ρ M1
theorem ds_if {c : Expr} {a b : List Stmt} {tc : DTT} (hc : DT X F0 c tc) (ha : DSs X F0 a t) (hb : DSs X F0 b u) : DS X F0 (.If c a b pos) (dIf tc t u) := by
  refine ⟨PS.weak (ps_if hc.pt ha.pss hb.pss) fun E σ H ⟨ρ, M, F, D, l0, sl, g, t, k1, k2, k3, k4⟩ => ⟨ρ, M, F, _, l0, sl, g, t, fun v d M' F' H' l g' r p => ?_⟩⟩
  cases r
  have fin : ∀ w : DTS, w D ρ M' → lowS (Cx.se X) F0 w E σ H' := fun w q => ⟨ρ, M', F', D, l0.trans l, sl.mono l, g', q, fun a b c d e f => k1 a b c d e (l.trans f), fun a b c d e f => k2 a b c d e (l.trans f), fun a b c d e f => k3 a b c d e (l.trans f), fun a b c d e f => k4 a b c d e (l.trans f)⟩
  cases v with
  | true => exact iteT (fin _ p)
  | false => exact iteF (fin _ p)
/-- target = value -/
def dAsg (te : DTE) (g : DTG) : DTS := fun D ρ M => te ρ M fun x M1 => g x ρ M1 D.nx
theorem low_asg {te : DTE} {g : DTG} {E : Ends} {σ : L2.St} {H : Hp} (h : lowS (Cx.se X) F0 (dAsg te g) E σ H) : tAsg (low (Cx.se X) F0 (fun F => Rep (Cx.se X) F) te) (lowG (Cx.se X) F0 [] g) E σ H := by
  obtain ⟨ρ, M, F, D, l0, sl, g, t, k1, k2, k3, k4⟩ := h
  exact ⟨ρ, M, F, _, l0, sl, g, t, fun v d M1 F1 H1 l1 g1 r1 p1 => ⟨d, ρ, M1, F1, _, l0.trans l1, r1, sl.mono l1, g1, p1, fun σ' ρ' M' F' H' _ l2 s2 g2 p2 => k1 σ' ρ' M' F' H' (l1.trans l2) s2 g2 p2⟩⟩
theorem ds_asg {tg : Expr} {g : DTG} (he : DE X F0 e te) (hg : DG X F0 [] tg g) (hs : swapsWithSole [tg] e pos.line X.env = pure false := by rfl) (hw : swappedStores [tg] e X.env = pure none := by rfl)
    (h1 : (assignEach [tg] X.env).map (·.2) = [assign tg X.env] := by rfl) : DS X F0 (.Assign [tg] e pos) (dAsg te g) :=
  ⟨PS.weak (ps_asg he.pe hg.pg hs hw h1) fun E σ H h => low_asg h⟩
/-- name = value -/
theorem ds_set {i : Nat} {x : Str} {pos' : Pos} (hN : X.N.Nodup) (hi : X.N[i]? = some x) (hx : Loc X.env.scope x) (he : DE X F0 e te) (hs : swapsWith e (some (.Name x pos')) pos.line X.env = pure false := by rfl)
    (hf : X.fn x = true ∨ X.env.scope.names.lookup x = some .local := by first | exact .inl rfl | exact .inr rfl | assumption) : DS X F0 (.Assign [.Name x pos'] e pos) (dAsg te (dgName i)) := by
  refine ⟨PS.weak (ps_set hN hi hx he.pe hs hf) fun E σ H ⟨ρ, M, F, D, l0, sl, g, t, k1, k2, k3, k4⟩ => ?_⟩
  exact ⟨ρ, M, F, _, l0, sl, g, t, fun v d M1 F1 H1 l1 g1 r1 p1 => k1 _ _ M1 F1 H1 l1 ((sl.mono l1).set i r1) g1 p1⟩
/-- a, b = x, y -/
def dPar (i j : Nat) (ta : DTA) : DTS := fun D ρ M => ta ρ M fun ds M1 => match ds with
  | [v, w] => D.nx ((ρ.set i (some v)).set j (some w)) M1
  | _ => False
theorem ds_par {i j : Nat} {x y : Str} {a b : Expr} {ta : DTA} {px py pt : Pos} {kt k2 pt2} (hc : X.calm = true) (hN : X.N.Nodup) (hi : X.N[i]? = some x) (hj : X.N[j]? = some y) (hij : i ≠ j)
    (hx : X.env.scope.names.lookup x = some .local) (hy : X.env.scope.names.lookup y = some .local) (ha : DA X F0 [a, b] ta)
    (hw : swappedStores [.Tuple [.Name x px, .Name y py] kt pt] (.Tuple [a, b] k2 pt2) X.env = pure (some [x, y]) := by rfl)
    (hs : swapsWithSole [.Tuple [.Name x px, .Name y py] kt pt] (.Tuple [a, b] k2 pt2) pos.line X.env = pure false := by rfl) :
    DS X F0 (.Assign [.Tuple [.Name x px, .Name y py] kt pt] (.Tuple [a, b] k2 pt2) pos) (dPar i j ta) := by
  refine ⟨PS.weak (ps_par hc hN hi hj hij hx hy ha.pa hw hs) fun E σ H ⟨ρ, M, F, D, l0, sl, g, t, k1, k2, k3, k4⟩ => ⟨ρ, M, F, _, l0, sl, g, t, fun v d M1 F1 H1 l1 g1 r1 p1 => ?_⟩⟩
  split at p1
  · cases r1 with
    | cons ra rr => cases rr with
      | cons rb rz =>
        cases rz
        exact ⟨_, _, rfl, k1 _ _ M1 F1 H1 l1 (((sl.mono l1).set i ra).set j rb) g1 p1⟩
  · exact p1.elim
/-- name op= value -/
def lowIp (S : SE) (F0 : Hp) (t : DR2) : TIp := low2 S F0 t
def DIp (X : Cx) (F0 : Hp) (op : Operator) (t : DR2) : Prop := PIp X op (low2 (Cx.se X) F0 t)
def dAug (i : Nat) (te : DTE) (ti : DR2) : DTS := fun D ρ M => match ρ[i]? with
  | some (some x) => te ρ M fun y M1 => ti x y M1 fun z M2 => D.nx (ρ.set i (some z)) M2
  | _ => False
theorem ds_aug {i : Nat} {x : Str} {op : Operator} {ti : DR2} {pos' : Pos} (hN : X.N.Nodup) (hi : X.N[i]? = some x) (hx : Loc X.env.scope x) (he : DE X F0 e te) (ho : DIp X F0 op ti)
    (hf : X.fn x = true ∨ X.env.scope.names.lookup x = some .local := by first | exact .inl rfl | exact .inr rfl | assumption) : DS X F0 (.AugAssign (.Name x pos') op e pos) (dAug i te ti) := by
  refine ⟨PS.weak (ps_aug hN hi hx he.pe ho hf) fun E σ H ⟨ρ, M, F, D, l0, sl, g, t, k1, k2, k3, k4⟩ => ?_⟩
  unfold dAug at t
  split at t
  · rename_i d e1
    obtain ⟨v, e2, r⟩ := sl.get e1
    exact ⟨v, e2, ρ, M, F, _, l0, sl, g, t, fun w d1 M1 F1 H1 l1 g1 r1 p1 => ⟨d, d1, M1, F1, _, l0.trans l1, g1, r.mono l1, r1, p1, fun z d2 M2 F2 H2 l2 g2 r2 p2 =>
      k1 _ _ M2 F2 H2 (l1.trans l2) ((sl.mono (l1.trans l2)).set i r2) g2 p2⟩⟩
  · exact t.elim
theorem di_of {op : Operator} {rd : DR2} (h : DOp X F0 (inplaceOp op) rd) : DIp X F0 op rd := h
/-! the in-place operators on ints, texts, tuples; lists that stand in M are extended in place -/
def rdIAdd : DR2 := fun x y M Q => match x, y with
  | .int i, .int j => Q (.int (i + j)) M
  | .str i, .str j => i.length + j.length ≤ sizeLine ∧ Q (.str (i ++ j)) M
  | .ref a, y => match M a, asL M y with
    | some (.lst xs), some ys => xs.length + ys.length ≤ sizeLine ∧ Q (.ref a) (updM M a (.lst (xs ++ ys)))
    | _, _ => False
  | _, _ => False
theorem dip_add : DIp X F0 .Add rdIAdd := by
  intro pins s σ H x y v u Q I rx ry ⟨dx, dy, M, F, P, l0, g, hx, hy, t, k⟩
  unfold rdIAdd at t
  split at t
  · cases hx; cases hy
    exact iop_add pins s σ H _ _ v u Q I rx ry ⟨_, _, rfl, rfl, k _ _ M F H (Le.refl F) g (.int _) t⟩
  · cases hx; cases hy
    exact iop_add_str pins s σ H _ _ v u Q I rx ry ⟨_, _, rfl, rfl, t.1, k _ _ M F H (Le.refl F) g (.str _) t.2⟩
  · cases hx
    split at t
    · rename_i xs ys e1 e2
      obtain ⟨f, ob, hH, rm⟩ := g.cel _ _ e1
      cases rm with
      | lst rs =>
        obtain ⟨b, ws, rfl, h2, r2⟩ := asL_at g hy e2
        exact iop_ext pins s σ H _ _ v u Q I rx ry ⟨_, b, _, ws, rfl, rfl, hH, h2, by rw [rs.len, r2.len]; exact t.1, k _ _ _ F _ (Le.refl F) (g.set e1 (.lst (rs.append r2))) (.ref _) t.2⟩
    · exact t.elim
  · exact t.elim
theorem dip_mul : DIp X F0 .Mult (rdI CMul fun i j => .int (i * j)) := di_of (do_int iop_mul fun _ _ _ => .int _)
theorem dip_sub : DIp X F0 .Sub rdSub := di_of (do_int0 iop_sub fun _ _ _ => .int _)

/-! ### arguments, displays -/
def daNil : DTA := fun _ M Q => Q [] M
def daCons (ta : DTE) (tr : DTA) : DTA := fun ρ M Q => ta ρ M fun x M1 => tr ρ M1 fun xs M2 => Q (x :: xs) M2
theorem da_nil : DA X F0 [] daNil := ⟨PA.weak pa_nil fun σ H Q ⟨ρ, M, F, P, l0, sl, g, t, k⟩ => k _ _ M F H (Le.refl F) g .nil t⟩
theorem da_cons {es : List Expr} {tr : DTA} (ha : DE X F0 e te) (hr : DA X F0 es tr) (hs : starEach (e :: es) X.env = (false, eval e X.env) :: starEach es X.env := by rfl) : DA X F0 (e :: es) (daCons te tr) :=
  ⟨PA.weak (pa_cons ha.pe hr.pa hs) fun σ H Q ⟨ρ, M, F, P, l0, sl, g, t, k⟩ => ⟨ρ, M, F, _, l0, sl, g, t, fun v d M1 F1 H1 l1 g1 r1 p1 => ⟨ρ, M1, F1, _, l0.trans l1, sl.mono l1, g1, p1, fun vs ds M2 F2 H2 l2 g2 r2 p2 =>
    k _ _ M2 F2 H2 (l1.trans l2) g2 (.cons (r1.mono l2) r2) p2⟩⟩⟩
variable {es : List Expr} {ta : DTA}
def dTup (ta : DTA) : DTE := fun ρ M Q => ta ρ M fun ds M1 => ds.length ≤ sizeLine ∧ Q (.tup ds) M1
def dLst (ta : DTA) : DTE := fun ρ M Q => ta ρ M fun ds M1 => ds.length ≤ sizeLine ∧ Q (.lst ds) M1
def dLstM (ta : DTA) : DTE := fun ρ M Q => ta ρ M fun ds M1 => ds.length ≤ sizeLine ∧ ∀ p, M1 p = none → Q (.ref p) (updM M1 p (.lst ds))
theorem de_tup {x1} (h : DA X F0 es ta) : DE X F0 (.Tuple es x1 pos) (dTup ta) :=
  ⟨PE.weak (pe_tup h.pa) fun σ H Q ⟨ρ, M, F, P, l0, sl, g, t, k⟩ => ⟨ρ, M, F, _, l0, sl, g, t, fun v d M1 F1 H1 l1 g1 r1 p1 => ⟨by rw [r1.len]; exact p1.1, fun p hp =>
    k _ _ M1 _ _ (l1.trans (Le.new (g1.freshF hp))) (g1.new hp) (.tup (.inl (.inl upd_same)) (r1.mono (Le.new (g1.freshF hp)))) p1.2⟩⟩⟩
theorem de_lst (h : DA X F0 es ta) : DE X F0 (.List es pos) (dLst ta) :=
  ⟨PE.weak (pe_lst h.pa) fun σ H Q ⟨ρ, M, F, P, l0, sl, g, t, k⟩ => ⟨ρ, M, F, _, l0, sl, g, t, fun v d M1 F1 H1 l1 g1 r1 p1 => ⟨by rw [r1.len]; exact p1.1, fun p hp =>
    k _ _ M1 _ _ (l1.trans (Le.new (g1.freshF hp))) (g1.new hp) (.lst upd_same (r1.mono (Le.new (g1.freshF hp)))) p1.2⟩⟩⟩
theorem de_lstM (h : DA X F0 es ta) : DE X F0 (.List es pos) (dLstM ta) :=
  ⟨PE.weak (pe_lst h.pa) fun σ H Q ⟨ρ, M, F, P, l0, sl, g, t, k⟩ => ⟨ρ, M, F, _, l0, sl, g, t, fun v d M1 F1 H1 l1 g1 r1 p1 => ⟨by rw [r1.len]; exact p1.1, fun p hp =>
    k _ _ _ F1 _ l1 (g1.newM hp (.lst r1)) (.ref p) (p1.2 p (g1.freshM hp))⟩⟩⟩
/-- a mutable object becomes a value -/
def dFrz (te : DTE) : DTE := fun ρ M Q => te ρ M fun x M1 => match x with
  | .ref a => match M1 a with
    | some (.lst ds) => Q (.lst ds) (delM M1 a)
    | some (.dct kvs) => Q (.dct kvs) (delM M1 a)
    | some (.ins c fs) => Q (.obj c fs) (delM M1 a)
    | none => False
  | x => Q x M1
theorem de_frz (h : DE X F0 e te) : DE X F0 e (dFrz te) := by
  refine ⟨PE.weak h.pe fun σ H Q ⟨ρ, M, F, P, l0, sl, g, t, k⟩ => ⟨ρ, M, F, _, l0, sl, g, t, fun v d M1 F1 H1 l1 g1 r1 p1 => ?_⟩⟩
  split at p1
  · cases r1
    split at p1
    · rename_i e1
      obtain ⟨f, ob, hH, rm⟩ := g1.cel _ _ e1
      cases rm with
      | lst rs => exact k _ _ _ _ H1 (l1.trans (Le.new f)) (g1.freeze e1 hH) (.lst upd_same (rs.mono (Le.new f))) p1
    · rename_i e1
      obtain ⟨f, ob, hH, rm⟩ := g1.cel _ _ e1
      cases rm with
      | dctK rs => exact k _ _ _ _ H1 (l1.trans (Le.new f)) (g1.freeze e1 hH) (.dctK (.inl upd_same) (rs.mono (Le.new f))) p1
    · rename_i e1
      obtain ⟨f, ob, hH, rm⟩ := g1.cel _ _ e1
      cases rm with
      | ins hc rs => exact k _ _ _ _ H1 (l1.trans (Le.new f)) (g1.freeze e1 hH) (.obj upd_same hc (rs.mono (Le.new f))) p1
    · exact p1.elim
  · exact k v _ M1 F1 H1 l1 g1 r1 p1
end

/-! ### what is walked -/
/-- the iterator J yields just ds while L holds of the store -/
def Walks (S : SE) (F0 : Hp) (J : It) (ds : List D) (L : Store → Prop) : Prop := ∀ i H F M, Le F0 F → Good S F M H → L M →
  (i < ds.length → J.go i H ∧ ∀ x H', J.yld i H x H' → ∃ F' d, Le F F' ∧ Good S F' M H' ∧ ds[i]? = some d ∧ Rep S F' x d) ∧ (i = ds.length → J.stop i H)
abbrev DTI := Ro → Store → (List D → (Store → Prop) → Store → Prop) → Prop
def lowI (S : SE) (F0 : Hp) (t : DTI) : TI := fun σ H R => ∃ ρ M F P, Le F0 F ∧ Slots S F σ ρ ∧ Good S F M H ∧ t ρ M P ∧
  ∀ ds L J M' F' H', Le F F' → Good S F' M' H' → Walks S F' J ds L → P ds L M' → R J H'
structure DI (X : Cx) (F0 : Hp) (tg iter : Expr) (t : DTI) : Prop where
  pi : PI X tg iter (lowI (Cx.se X) F0 t)
/-- what keeps a list as it is -/
def Held (d : D) (ds : List D) : Store → Prop := match d with
  | .ref a => fun M => M a = some (.lst ds)
  | _ => fun _ => True
def dItem (te : DTE) : DTI := fun ρ M R => te ρ M fun x M1 => match asS M1 x with
  | some ds => R ds (Held x ds) M1
  | none => False
theorem walks_list {S : SE} {F0 : Hp} {a : Addr} {d : D} {ds : List D} (hr : ∀ H F M, Le F0 F → Good S F M H → Held d ds M → ∃ vs, SqL S.K H a vs ∧ Reps S F vs ds) (inj : True) : Walks S F0 (Itl S.K a) ds (Held d ds) := by
  intro i H F M l g h
  obtain ⟨vs, hq, r⟩ := hr H F M l g h
  refine ⟨fun hi => ⟨?_, fun x H' y => ?_⟩, fun e => ⟨vs, hq, by rw [r.len]; omega⟩⟩
  · obtain ⟨v, hv, _⟩ := r.get (List.getElem?_eq_getElem hi)
    exact ⟨vs, v, hq, hv⟩
  · obtain ⟨rfl, y⟩ := y
    obtain ⟨d, hd, rd⟩ := r.getV (y vs hq)
    exact ⟨F, d, Le.refl F, g, hd, rd⟩
theorem walks_tup {S : SE} {F0 : Hp} {a : Addr} {ds : List D} {L : Store → Prop} (hr : ∀ H F M, Le F0 F → Good S F M H → L M → ∃ vs, SqT S.K H a vs ∧ Reps S F vs ds) : Walks S F0 (Itt S.K a) ds L := by
  intro i H F M l g h
  obtain ⟨vs, hq, r⟩ := hr H F M l g h
  refine ⟨fun hi => ⟨?_, fun x H' y => ?_⟩, fun e => ⟨vs, hq, by rw [r.len]; omega⟩⟩
  · obtain ⟨v, hv, _⟩ := r.get (List.getElem?_eq_getElem hi)
    exact ⟨vs, v, hq, hv⟩
  · obtain ⟨rfl, y⟩ := y
    obtain ⟨d, hd, rd⟩ := r.getV (y vs hq)
    exact ⟨F, d, Le.refl F, g, hd, rd⟩
section
variable {X : Cx} {F0 : Hp} {tg e : Expr} {te : DTE} {pos : Pos}
theorem di_seq (he : DE X F0 e te) : DI X F0 tg e (dItem te) := by
  refine ⟨⟨fun pins s σ H R I ⟨ρ, M, F, P, l0, sl, g, t, k⟩ => ?_⟩⟩
  refine thn (he.pe.run pins s σ H (fun x H1 => ∃ d M1 F1, Le F F1 ∧ Good (Cx.se X) F1 M1 H1 ∧ Rep (Cx.se X) F1 x d ∧ (match asS M1 d with | some ds => P ds (Held d ds) M1 | none => False)) I
    ⟨ρ, M, F, _, l0, sl, g, t, fun v d M1 F1 H1 l1 g1 r1 p1 => ⟨d, M1, F1, l1, g1, r1, p1⟩⟩) fun u s1 ⟨x, H1, I1, ru, d, M1, F1, l1, g1, r1, p1⟩ => ?_
  split at p1
  · rename_i ds ed
    have tuple : ∀ a vs, x = .ref a → SqT X.K H1 a vs → Reps (Cx.se X) F1 vs ds → (∀ H' F' M', Le F1 F' → Good (Cx.se X) F' M' H' → Held d ds M' → ∃ vs, SqT X.K H' a vs ∧ Reps (Cx.se X) F' vs ds) → wpAny (model X.prog X.w) X.A (pyIter u) (PIE X pins σ tg R) X.xe s1 := fun a vs ex hq rs hr => by
      subst ex
      cases ru
      obtain ⟨its, rv, p, hz⟩ := I1.tuple hq
      refine wpAny_pyIter_tuple (show s1.heap.IsTuple a its.toArray from p) ?_
      refine ⟨s1.heap.objs.size, [s1.heap.objs.size], _, _, H1, rfl, I1.kept (t' := s1.toks) fun b o e => Heap.get?_push_of_some _ e, turn_tuple a _, ⟨_, Heap.get?_push_size _ rfl, rfl, rfl⟩, fun b hb => ?_, k ds _ _ M1 F1 H1 l1 g1 (walks_tup hr) p1⟩
      have e : b = s1.heap.objs.size := by simpa using hb
      rw [e]
      exact I1.fpOk (Nat.le_refl _) (I1.hok.fresh (Nat.le_refl _))
    have list : ∀ a vs, x = .ref a → SqL X.K H1 a vs → Reps (Cx.se X) F1 vs ds → (∀ H' F' M', Le F1 F' → Good (Cx.se X) F' M' H' → Held d ds M' → ∃ vs, SqL X.K H' a vs ∧ Reps (Cx.se X) F' vs ds) → wpAny (model X.prog X.w) X.A (pyIter u) (PIE X pins σ tg R) X.xe s1 := fun a vs ex hq rs hr => by
      subst ex
      cases ru
      obtain ⟨its, rv, p, hz⟩ := I1.list hq
      refine wpAny_pyIter_list p.isList ?_
      refine ⟨s1.heap.objs.size, [s1.heap.objs.size], _, _, H1, rfl, I1.kept (t' := s1.toks) fun b o e => Heap.get?_push_of_some _ e, turn_list a _, ⟨_, Heap.get?_push_size _ rfl, rfl, rfl⟩, fun b hb => ?_, k ds _ _ M1 F1 H1 l1 g1 (walks_list hr trivial) p1⟩
      have e : b = s1.heap.objs.size := by simpa using hb
      rw [e]
      exact I1.fpOk (Nat.le_refl _) (I1.hok.fresh (Nat.le_refl _))
    cases d with
    | tup es =>
      cases ed
      cases r1 with
      | tup hq rs => exact tuple _ _ rfl (g1.sqT hq) rs fun H' F' M' l g' _ => ⟨_, g'.sqT (l.sqT hq), rs.mono l⟩
    | lst es =>
      cases ed
      cases r1 with
      | lst hq rs => exact list _ _ rfl (.inl (.inl (g1.sub _ _ hq))) rs fun H' F' M' l g' _ => ⟨_, .inl (.inl (g'.sub _ _ (l.lst _ _ hq))), rs.mono l⟩
    | fro es =>
      cases ed
      cases r1 with
      | fro hq rs => exact list _ _ rfl (g1.sqL hq) rs fun H' F' M' l g' _ => ⟨_, g'.sqL (l.sqL hq), rs.mono l⟩
    | ref a =>
      obtain ⟨b, vs, ex, hq, rs⟩ := asR_at g1 r1 ed
      subst ex
      cases r1
      refine list _ _ rfl hq rs fun H' F' M' l g' hl => ?_
      obtain ⟨_, ob, hH, rm⟩ := g'.cel a (.lst ds) hl
      cases rm with
      | lst rs => exact ⟨_, .inl (.inl hH), rs⟩
    | _ => cases ed
  · exact p1.elim
/-! range -/
def rangeD (lo : Int) (n : Nat) : List D := (List.range n).map fun (i : Nat) => .int (lo + (i : Int))
theorem rangeD_len (lo : Int) (n : Nat) : (rangeD lo n).length = n := by simp [rangeD]
theorem walks_range {S : SE} {lo : Int} {n : Nat} {L : Store → Prop} : Walks S F0 (Itr lo n) (rangeD lo n) L := by
  intro i H F M l g h
  rw [rangeD_len]
  refine ⟨fun hi => ⟨hi, fun x H' y => ?_⟩, fun e => Nat.le_of_eq e.symm⟩
  obtain ⟨rfl, rfl⟩ := y
  exact ⟨F, .int (lo + i), Le.refl F, g, by simp [rangeD, hi], .int _⟩
def dRange1 (ta : DTA) : DTI := fun ρ M R => ta ρ M fun ds M1 => match ds with
  | [.int j] => -(2 ^ 62) ≤ j ∧ j < 2 ^ 62 ∧ R (rangeD 0 j.toNat) (fun _ => True) M1
  | _ => False
def dRange2 (ta : DTA) : DTI := fun ρ M R => ta ρ M fun ds M1 => match ds with
  | [.int i, .int j] => (-(2 ^ 62) ≤ i ∧ i < 2 ^ 62 ∧ -(2 ^ 62) ≤ j ∧ j < 2 ^ 62) ∧ R (rangeD i (j - i).toNat) (fun _ => True) M1
  | _ => False
theorem di_range1 {a : Expr} {ta : DTA} {p : Pos} (hm : X.mg "range" = none) (ha : DA X F0 [a] ta) (hg : Gl X "range" := by rfl) (hs : starEach [a] X.env = [(false, eval a X.env)] := by rfl) : DI X F0 tg (.Call (.Name "range" p) [a] [] pos) (dRange1 ta) := by
  refine ⟨⟨fun pins s σ H R I ⟨ρ, M, F, P, l0, sl, g, t, k⟩ => (pi_range1 hg hm ha.pa hs).run pins s σ H R I ⟨ρ, M, F, _, l0, sl, g, t, fun v d M1 F1 H1 l1 g1 r1 p1 => ?_⟩⟩⟩
  split at p1
  · cases r1 with
    | cons ra rz =>
      cases ra; cases rz
      exact ⟨_, rfl, p1.1, p1.2.1, k _ _ _ M1 F1 H1 l1 g1 walks_range p1.2.2⟩
  · exact p1.elim
theorem di_range2 {a b : Expr} {ta : DTA} {p : Pos} (hm : X.mg "range" = none) (ha : DA X F0 [a, b] ta) (hg : Gl X "range" := by rfl) (hs : starEach [a, b] X.env = [(false, eval a X.env), (false, eval b X.env)] := by rfl) (hs2 : starEach [b] X.env = [(false, eval b X.env)] := by rfl) :
    DI X F0 tg (.Call (.Name "range" p) [a, b] [] pos) (dRange2 ta) := by
  refine ⟨⟨fun pins s σ H R I ⟨ρ, M, F, P, l0, sl, g, t, k⟩ => (pi_range2 hg hm ha.pa hs hs2).run pins s σ H R I ⟨ρ, M, F, _, l0, sl, g, t, fun v d M1 F1 H1 l1 g1 r1 p1 => ?_⟩⟩⟩
  split at p1
  · cases r1 with
    | cons ra rz =>
      cases ra
      cases rz with
      | cons rb rz =>
        cases rb; cases rz
        exact ⟨_, _, rfl, p1.1, k _ _ _ M1 F1 H1 l1 g1 walks_range p1.2⟩
  · exact p1.elim
end

/-! ### for, while -/
def dLoop (L : Store → Prop) (g : DTG) (tb : DTS) : List D → DTS
  | [] => fun D ρ M => L M ∧ D.nx ρ M
  | d :: ds => fun D ρ M => L M ∧ g d ρ M fun ρ1 M1 => tb { D with nx := dLoop L g tb ds D, ct := dLoop L g tb ds D, bk := D.nx } ρ1 M1
def dFor (ti : DTI) (g : DTG) (tb : DTS) : DTS := fun D ρ M => ti ρ M fun ds L M1 => dLoop L g tb ds D ρ M1
section
variable {X : Cx} {F0 : Hp} {tg iter : Expr} {body : List Stmt} {pos : Pos} {ti : DTI} {g : DTG} {tb : DTS}
theorem ds_for (hp : PassesOwn (model X.prog X.w) X.A X.env X.xe) (hc : X.calm = true) (hi : DI X F0 tg iter ti) (hg : DG X F0 [] tg g) (hb : DSs X F0 body tb)
    (hs : ∀ x, foldedSetIterable iter X.env x = pure x := by intro _; rfl) : DS X F0 (.For tg iter body [] pos) (dFor ti g tb) := by
  refine ⟨PS.weak (ps_for hp hc hi.pi hg.pg hb.pss hs) fun E σ H ⟨ρ, M, F, D, l0, sl, gd, t, k1, k2, k3, k4⟩ => ?_⟩
  refine ⟨ρ, M, F, _, l0, sl, gd, t, fun ds L J M1 F1 H1 l1 g1 wk p1 => ?_⟩
  refine ⟨fun i m σ' H' => ∃ ρ' M' F', Le F1 F' ∧ Slots (Cx.se X) F' σ' ρ' ∧ Good (Cx.se X) F' M' H' ∧ dLoop L g tb (ds.drop i) D ρ' M' ∧ i ≤ ds.length ∧ m = ds.length - i,
    ⟨ds.length, ρ, M1, F1, Le.refl F1, sl.mono l1, g1, p1, Nat.zero_le _, rfl⟩, fun i m σ' H' ⟨ρ', M', F', l', s', g', q, hi, hm⟩ => ?_⟩
  by_cases hlt : i < ds.length
  · right
    have hd : ds.drop i = ds[i] :: ds.drop (i + 1) := List.drop_eq_getElem_cons hlt
    rw [hd] at q
    have hL : L M' := q.1
    obtain ⟨w1, w2⟩ := wk i H' F' M' l' g' hL
    obtain ⟨go, yl⟩ := w1 hlt
    refine ⟨go, fun σ2 H2 => ∃ ρ2 M2 F2, Le F1 F2 ∧ Slots (Cx.se X) F2 σ2 ρ2 ∧ Good (Cx.se X) F2 M2 H2 ∧ dLoop L g tb (ds.drop (i + 1)) D ρ2 M2, fun σ2 H2 ⟨ρ2, M2, F2, a1, a2, a3, a4⟩ => ⟨m - 1, by omega, ρ2, M2, F2, a1, a2, a3, a4, hlt, by omega⟩, fun x H2 y => ?_⟩
    obtain ⟨F2, d, l2, g2, ed, rd⟩ := yl x H2 y
    have ed' : d = ds[i] := by rw [List.getElem?_eq_getElem hlt] at ed; exact (Option.some.inj ed).symm
    subst ed'
    refine ⟨_, ρ', M', F2, _, l0.trans (l1.trans (l'.trans l2)), rd, s'.mono l2, g2, q.2, fun σ3 ρ3 M3 F3 H3 _ l3 s3 g3 p3 => ?_⟩
    have L13 : Le F1 F3 := l'.trans (l2.trans l3)
    refine ⟨ρ3, M3, F3, _, l0.trans (l1.trans L13), s3, g3, p3, fun σ4 ρ4 M4 F4 H4 l4 s4 g4 p4 => ⟨ρ4, M4, F4, L13.trans l4, s4, g4, p4⟩, fun a b c d e f => k2 a b c d e ((l1.trans L13).trans f), fun a b c d e f => k1 a b c d e ((l1.trans L13).trans f), fun σ4 ρ4 M4 F4 H4 l4 s4 g4 p4 => ⟨ρ4, M4, F4, L13.trans l4, s4, g4, p4⟩⟩
  · left
    have hi' : i = ds.length := by omega
    have hd : ds.drop i = [] := by rw [hi']; exact List.drop_length
    rw [hd] at q
    exact ⟨(wk i H' F' M' l' g' q.1).2 hi', k1 σ' ρ' M' F' H' (l1.trans l') s' g' q.2⟩
/-- while: W holds ahead of every test, by a measure -/
def dWhile (tc : DTT) (tb : DTS) : DTS := fun D ρ M => ∃ W : Nat → Ro → Store → Prop, (∃ m, W m ρ M) ∧ ∀ m ρ M, W m ρ M → tc ρ M fun b M1 => if b = true then
  tb { D with nx := fun ρ' M' => ∃ m', m' < m ∧ W m' ρ' M', ct := fun ρ' M' => ∃ m', m' < m ∧ W m' ρ' M', bk := D.nx } ρ M1 else D.nx ρ M1
theorem ds_while {c : Expr} {tc : DTT} (hp : PassesOwn (model X.prog X.w) X.A X.env X.xe) (hc : DT X F0 c tc) (hb : DSs X F0 body tb) : DS X F0 (.While c body [] pos) (dWhile tc tb) := by
  refine ⟨PS.weak (ps_while hp hc.pt hb.pss) fun E σ H ⟨ρ, M, F, D, l0, sl, gd, ⟨W, ⟨m0, w0⟩, turn⟩, k1, k2, k3, k4⟩ => ?_⟩
  refine ⟨fun m σ' H' => ∃ ρ' M' F', Le F F' ∧ Slots (Cx.se X) F' σ' ρ' ∧ Good (Cx.se X) F' M' H' ∧ W m ρ' M', ⟨m0, ρ, M, F, Le.refl F, sl, gd, w0⟩, fun m σ' H' ⟨ρ', M', F', l', s', g', w'⟩ => ?_⟩
  refine ⟨ρ', M', F', _, l0.trans l', s', g', turn m ρ' M' w', fun v d M1 F1 H1 l1 g1 r1 p1 => ?_⟩
  cases r1
  cases v with
  | false => exact iteF (k1 σ' ρ' M1 F1 H1 (l'.trans l1) (s'.mono l1) g1 p1)
  | true =>
    refine iteT ⟨fun σ2 H2 => ∃ m' ρ2 M2 F2, m' < m ∧ Le F F2 ∧ Slots (Cx.se X) F2 σ2 ρ2 ∧ Good (Cx.se X) F2 M2 H2 ∧ W m' ρ2 M2, fun σ2 H2 ⟨m', ρ2, M2, F2, h1, h2⟩ => ⟨m', h1, ρ2, M2, F2, h2⟩, ?_⟩
    have l2 := l'.trans l1
    exact ⟨ρ', M1, F1, _, l0.trans l2, s'.mono l1, g1, p1, fun a b c d e f s4 g4 ⟨m', h1, h2⟩ => ⟨m', b, c, d, h1, l2.trans f, s4, g4, h2⟩, fun a b c d e f => k2 a b c d e (l2.trans f), fun a b c d e f => k1 a b c d e (l2.trans f), fun a b c d e f s4 g4 ⟨m', h1, h2⟩ => ⟨m', b, c, d, h1, l2.trans f, s4, g4, h2⟩⟩
end
end DL


set_option Elab.async false
set_option linter.all false
set_option maxRecDepth 100000
namespace DL
open PySem PySem.Spec PyProof.Rows L2

/-! ### room, with nothing being shown -/
structure Rm (k : Nat) (A : Around) : Prop where
  room : Room k A
  gd : A.guards = some []
theorem Rm.mono {j k : Nat} {A : Around} (r : Rm k A) (h : j ≤ k) : Rm j A := ⟨r.room.mono h, r.gd⟩
theorem Rm.deeper {k : Nat} {A : Around} (r : Rm (k + 1) A) (env : Env) : Rm k (A.deeper env) := ⟨r.room.deeper env, r.gd⟩
theorem Rm.in1 {k : Nat} {A : Around} (r : Rm (k + 1) A) : Rm k A.in1 := ⟨r.room.in1, r.gd⟩
theorem make_guards {A : Around} {C : Addr} {us : List Value} {kw : List (Str × Value)} : (A.under (.builtin "type.__call__" ⟨.ref C :: us, kw⟩)).guards = A.guards := by
  simp [Around.under, Code.guards, Code.isGuard, guardIds, pushGuards]
theorem Rm.make {k : Nat} {A : Around} (r : Rm (k + 1) A) (C : Addr) (us : List Value) (kw : List (Str × Value)) : Rm k (A.under (.builtin "type.__call__" ⟨.ref C :: us, kw⟩)) :=
  ⟨r.room.make C us kw, by rw [make_guards]; exact r.gd⟩

/-! ### exceptions over data -/
/-- an exception's class and fields -/
def RepX (S : SE) (F H : Hp) (cls : Value) (dx : Option Addr) (c : Str) (fs : List (Str × D)) : Prop :=
  ∃ C, cls = .ref C ∧ S.mg c = some (.ref C) ∧ (fs = [] ∨ ∃ d vs, dx = some d ∧ H d = some (.xd vs) ∧ RepF S F vs fs)
def lowW (S : SE) (F0 : Hp) (W : DWX) : WX := fun cls d σ H => ∃ c fs ρ M F, Le F0 F ∧ Slots S F σ ρ ∧ Good S F M H ∧ RepX S F H cls d c fs ∧ W c fs ρ M

/-! ### what a def promises over data -/
abbrev DSp := List D → Store → (D → Store → Prop) → DX → Prop
def lowSp (S : SE) (sp : DSp) : Sp := fun vs H Q E => ∃ (ds : List D) (M : Store) (F : Hp) (P : D → Store → Prop) (PE : DX), Reps S F vs ds ∧ Good S F M H ∧ sp ds M P PE ∧
  (∀ v d M' F' H', Le F F' → Good S F' M' H' → Rep S F' v d → P d M' → Q v H') ∧
  (∀ cls dx c fs M' F' H', Le F F' → Good S F' M' H' → RepX S F' H' cls dx c fs → PE c fs M' → E cls dx H')
/-- the end of a body: some cells may be dropped -/
def finP (P : D → Store → Prop) : D → Store → Prop := fun d M' => ∃ M'', SubM M'' M' ∧ P d M''
def finW (PE : DX) : DWX := fun c fs _ M' => ∃ M'', SubM M'' M' ∧ PE c fs M''
structure FnG (P : Program) (w : World) (K : PySem.W.Frag) (mg : Str → Option Value) (base : Heap) (k : Nat) (f : Addr) (fd : FuncData) (ps : List Str) (sp : DSp) : Prop where
  len : ∀ ds M P E, sp ds M P E → ds.length = ps.length
  run : ∀ (A : Around) (outer : List Env) (s : Shared) (H : Hp) (args : Args) (us : List Value) (vs : List V) (Q : VK) (E : XK), Rm k A → Env0 P w K mg base A outer s H → BindsTo s fd args (ps.zip us) → Vals vs us → lowSp ⟨K, mg⟩ sp vs H Q E →
    codeAny (model P w) A (.call (.ref f) args) (CR (L2.CX P w) outer P w H s Q E) s
theorem FnG.mono {P : Program} {w : World} {K : PySem.W.Frag} {mg : Str → Option Value} {base : Heap} {j k : Nat} {f : Addr} {fd : FuncData} {ps : List Str} {sp : DSp} (F : FnG P w K mg base j f fd ps sp) (h : j ≤ k) : FnG P w K mg base k f fd ps sp :=
  ⟨F.len, fun A outer s H args us vs Q E hr => F.run A outer s H args us vs Q E (hr.mono h)⟩
theorem FnG.imp {P : Program} {w : World} {K : PySem.W.Frag} {mg : Str → Option Value} {base : Heap} {k : Nat} {f : Addr} {fd : FuncData} {ps : List Str} {sp sp' : DSp} (F : FnG P w K mg base k f fd ps sp) (h : ∀ ds M P E, sp' ds M P E → sp ds M P E) : FnG P w K mg base k f fd ps sp' :=
  ⟨fun ds M P E q => F.len ds M P E (h _ _ _ _ q), fun A outer s H args us vs Q E hr he hb hv ⟨ds, M, F1, P, PE, h1, h2, h3, h4, h5⟩ => F.run A outer s H args us vs Q E hr he hb hv ⟨ds, M, F1, P, PE, h1, h2, h _ _ _ _ h3, h4, h5⟩⟩

section
variable {P : Program} {w : World} {K : PySem.W.Frag} {mg : Str → Option Value} {base : Heap}
/-- THE RULE for a def: d, the derivation of its body's reading t; q, what the reading says -/
theorem fnG_of {k : Nat} {f : Addr} {name qual : Str} {params : Arguments} {body : List Stmt} {scope : Scope} {dV kV doc pm cdv ct oc : Value} {an od : Option Addr} {osl : Array (Option Value)} {N ps : List Str} {sp : DSp}
    (lk : K.lookup f = some ⟨oc, od, .func (PySem.W.fnOf name qual params body scope dV kV doc pm an cdv ct), osl⟩) (hcd : PySem.W.codeIn K cdv qual = true) (Sc : FnScope N ps scope) (len : ∀ ds M P E, sp ds M P E → ds.length = ps.length)
    (t : DWX → DTS)
    (d : ∀ (A : Around) (outer : List Env) (s : Shared) (H : Hp) (E : XK) (F0 : Hp) (W : DWX), Rm k (A.deeper (envOfC qual scope s.heap.objs.size f cdv)) → Takes (cxOf (L2.CX P w) P w K mg base N qual scope f cdv A outer s H E) (lowW ⟨K, mg⟩ F0 W) →
      DSs (cxOf (L2.CX P w) P w K mg base N qual scope f cdv A outer s H E) F0 body (t W))
    (q : ∀ ds M P PE, sp ds M P PE → t (finW PE) { nx := fun _ M' => finP P .non M', rt := finP P } (startR N ds) M) :
    FnG P w K mg base (k + 1) f (PySem.W.fnOf name qual params body scope dV kV doc pm an cdv ct) ps sp := by
  refine ⟨len, fun A outer s H args us vs Q E hr e0 hb r hsp => ?_⟩
  obtain ⟨ds, M, F, PP, PE, rs, g, hs, hQ, hE⟩ := id hsp
  have lv : vs.length = ps.length := rs.len.trans (len _ _ _ _ hs)
  have KX : K.In s.heap := e0.mod.kin.keeps fun b o e => (e0.bs b o e).1
  have lim : s.heap.NoLimit := e0.mod.nolimit.keeps fun b o e => (e0.bs b o e).1
  have kinds : ∀ y ∈ ps.zip us, scope.names.lookup y.1 = some .local ∨ (scope.names.lookup y.1 = some .cell ∧ ((cellsFrom (s.heap.objs.size + 1) scope.names []).lookup y.1).isSome = true) := fun y hy =>
    (Sc.par y.1 (List.of_mem_zip (a := y.1) (b := y.2) hy).1).imp id fun q => ⟨q, PySem.W.cellsFrom_some _ _ _ (.inl q)⟩
  refine codeAny_call_function hr.room.depth (KX _ _ lk) rfl Sc.co Sc.gen rfl (PySem.W.codeRec_of KX hcd) (hb _ _ _ _ ?_)
  refine wpAny_newFunctionEnv_cells Sc.kind kinds fun env he s1 x => ?_
  subst he
  refine ⟨lim.keeps x.toInCall.keep, codeAny_func ?_⟩
  have tk : Takes (cxOf (L2.CX P w) P w K mg base N qual scope f cdv A outer s H E) (lowW ⟨K, mg⟩ F (finW PE)) :=
    Takes.imp (takes_of rfl rfl rfl rfl) fun cls dx σ' H' ⟨c, fs, ρ, M', F', l, _, g', rx, M'', sub, p⟩ => hE cls dx c fs M'' F' H' l (g'.drop sub) rx p
  have I : Inv (cxOf (L2.CX P w) P w K mg base N qual scope f cdv A outer s H E) [] (L2.start N vs) H s1 := inv_start Sc hr.room.hd e0 lv r x
  have dd := d A outer s H E F (finW PE) (hr.deeper _) tk
  have hq := q ds M PP PE hs
  have fin : ∀ v d M' F' H', Le F F' → Good ⟨K, mg⟩ F' M' H' → Rep ⟨K, mg⟩ F' v d → finP PP d M' → Q v H' := fun v d M' F' H' l g' rv ⟨M'', sub, p⟩ => hQ v d M'' F' H' l (g'.drop sub) rv p
  refine wpAny_mono (dd.pss.run [] s1 (L2.start N vs) H { nx := fun _ H' => Q .non H', rt := Q } I ⟨startR N ds, M, F, _, Le.refl F, Slots.start rs, g, hq,
    fun σ' ρ' M' F' H' l _ g' p => fin .non .non M' F' H' l g' .non p, fun v d M' F' H' l g' rv p => fin v d M' F' H' l g' rv p, fun _ _ _ _ _ _ _ _ z => z.elim, fun _ _ _ _ _ _ _ _ z => z.elim⟩) (fun fl s' hs' => ?_) fun e s' hs' => hs'
  cases fl with
  | ret u =>
    obtain ⟨v, σ', H', J, rv, qv⟩ := hs'
    exact ⟨v, H', J.os, J.bare, J.base, J.hok, rv, qv⟩
  | next =>
    obtain ⟨σ', H', J, qv⟩ := hs'
    exact ⟨V.non, H', J.os, J.bare, J.base, J.hok, rfl, qv⟩
  | brk =>
    obtain ⟨_, _, _, z⟩ := hs'
    exact z.elim
  | cont =>
    obtain ⟨_, _, _, z⟩ := hs'
    exact z.elim

/-- a def that is called by its name: sp, its promise; dfl, the defaults that fill up -/
structure Cal (P : Program) (w : World) (K : PySem.W.Frag) (mg : Str → Option Value) (base : Heap) (k : Nat) (x : Str) (sp : DSp) (dfl : List D) : Prop where
  ex : ∃ f fd ps ds dvs, mg x = some (.ref f) ∧ PySem.W.keepIn K (.ref f) = true ∧ FnG P w K mg base k f fd ps sp ∧ Binds K fd ps ds ∧ Vals dvs ds ∧ ∀ F, Reps ⟨K, mg⟩ F dvs dfl
/-- a method of the class c -/
structure Met (P : Program) (w : World) (K : PySem.W.Frag) (mg : Str → Option Value) (base : Heap) (k : Nat) (c m : Str) (sp : DSp) (dfl : List D) : Prop where
  ex : ∃ C f fd ps ds dvs, mg c = some (.ref C) ∧ Cls K C ∧ Meth K C m f ∧ FnG P w K mg base k f fd ps sp ∧ Binds K fd ps ds ∧ Vals dvs ds ∧ ∀ F, Reps ⟨K, mg⟩ F dvs dfl
/-- a class that is called -/
structure Mak (P : Program) (w : World) (K : PySem.W.Frag) (mg : Str → Option Value) (base : Heap) (k : Nat) (c : Str) (sp : DSp) (dfl : List D) : Prop where
  ex : ∃ C f fd ps ds dvs, ClsAt ⟨K, mg⟩ c C ∧ Mk K C f ∧ FnG P w K mg base k f fd ps sp ∧ Binds K fd ps ds ∧ Vals dvs ds ∧ ∀ F, Reps ⟨K, mg⟩ F dvs dfl
end

section
variable {X : Cx} {F0 : Hp} {W : DWX} {k j : Nat} {x m : Str} {sp : DSp} {dfl : List D} {p pos apos : Pos} {e o : Expr} {es : List Expr} {ta : DTA} {to te : DTE}
/-- the callee runs -/
theorem runG {fd : FuncData} {ps : List Str} {f : Addr} {ds : List Value} {dvs : List V} {pins : List (Addr × Obj)} {σ : L2.St} {H : Hp} {s : Shared} {Q : VK} {us : List Value} {vs : List V} {E : XK} (F : FnG X.prog X.w X.K X.mg X.base k f fd ps sp) (hr : Rm k X.A) (hb : Binds X.K fd ps ds) (hd : Vals dvs ds)
    (hx : PassesAt (L2.CX X.prog X.w) X σ E) (I : Inv X pins σ H s) (r : Vals vs us) (h : lowSp (Cx.se X) sp (vs ++ dvs) H Q E) : wpAny (model X.prog X.w) X.A (call (.ref f) us) (EP X pins σ Q) X.xe s := by
  have r2 : Vals (vs ++ dvs) (us ++ ds) := r.append hd
  have hl : (us ++ ds).length = ps.length := by
    obtain ⟨es, M, F1, P, PE, h1, h2, h3, _⟩ := id h
    rw [← r2.length, h1.len]
    exact F.len _ _ _ _ h3
  refine wpAny_call (codeAny_mono (F.run X.A X.stack s H ⟨us, []⟩ (us ++ ds) (vs ++ dvs) Q E hr I.env0 (hb s us I.kIn hl) r2 h) fun r s' hq => ?_)
  cases r with
  | error e => exact hx pins H s e s' I hq
  | ok fl =>
    cases fl with
    | ret u => exact I.after hq
    | next => exact hq.elim
    | brk => exact hq.elim
    | cont => exact hq.elim
/-- at the slots σ, with the data ρ: what a callee's exception must meet -/
def wE (S : SE) (F0 : Hp) (W : DWX) (σ : L2.St) : XK := fun cls d H => lowW S F0 W cls d σ H
theorem low_sp {ds : List D} {M : Store} {F : Hp} {vs : List V} {σ : L2.St} {ρ : Ro} {H : Hp} {Q : VK} {P : D → Store → Prop} {S : SE} (l0 : Le F0 F) (sl : Slots S F σ ρ) (g : Good S F M H) (r : Reps S F vs ds) (h : sp ds M P fun c fs M2 => W c fs ρ M2)
    (k : ∀ v d M' F' H', Le F F' → Good S F' M' H' → Rep S F' v d → P d M' → Q v H') : lowSp S sp vs H Q (wE S F0 W σ) :=
  ⟨ds, M, F, P, _, r, g, h, k, fun cls dx c fs M' F' H' l g' rx w => ⟨c, fs, ρ, M', F', l0.trans l, sl.mono l, g', rx, w⟩⟩

def dCall (sp : DSp) (W : DWX) (dfl : List D) (ta : DTA) : DTE := fun ρ M Q => ta ρ M fun ds M1 => sp (ds ++ dfl) M1 Q fun c fs M2 => W c fs ρ M2
theorem de_call (c : Cal X.prog X.w X.K X.mg X.base k x sp dfl) (hr : Rm j X.A) (hk : k ≤ j) (tk : Takes X (lowW (Cx.se X) F0 W)) (ha : DA X F0 (e :: es) ta) (hg : Gl X x := by rfl) (hdb : (x == ("__debug__" : Str)) = false := by decide)
    (he : starEach (e :: es) X.env = (false, eval e X.env) :: starEach es X.env := by rfl) (hpl : (backTo pos (starEach es X.env)).any (·.1) = false := by rfl) : DE X F0 (.Call (.Name x p) (e :: es) [] pos) (dCall sp W dfl ta) := by
  obtain ⟨f, fd, ps, ds, dvs, hm, hkp, F, hb, hd, hR⟩ := c.ex
  refine ⟨⟨fun pins s σ H Q I ⟨ρ, M, F1, P, l0, sl, g, t, k⟩ => ?_⟩⟩
  refine wpAny_Call_Name_kw (ld_glob I hg hm ?_ hdb)
  refine PySem.W.callWith_K (h₀ := X.base) I.ok.mod.kin hkp (thn (ha.pa.run pos pins s σ H (fun vs H1 => lowSp (Cx.se X) sp (vs ++ dvs) H1 Q (wE (Cx.se X) F0 W σ)) I
    ⟨ρ, M, F1, _, l0, sl, g, t, fun vs es M2 F2 H2 l2 g2 r2 p2 => low_sp (l0.trans l2) (sl.mono l2) g2 (r2.append (hR F2)) p2 fun v d M' F' H' l3 => k v d M' F' H' (l2.trans l3)⟩) fun us s1 ⟨vs, H1, I1, r, q⟩ => ⟨I1.kIn, ?_⟩) he hpl
  exact runG F (hr.mono hk) hb hd (passAt tk σ) I1 r q
theorem de_call0 (c : Cal X.prog X.w X.K X.mg X.base k x sp dfl) (hr : Rm j X.A) (hk : k ≤ j) (tk : Takes X (lowW (Cx.se X) F0 W)) (hg : Gl X x := by rfl) (hdb : (x == ("__debug__" : Str)) = false := by decide) : DE X F0 (.Call (.Name x p) [] [] pos) (dCall sp W dfl daNil) := by
  obtain ⟨f, fd, ps, ds, dvs, hm, hkp, F, hb, hd, hR⟩ := c.ex
  refine ⟨⟨fun pins s σ H Q I ⟨ρ, M, F1, P, l0, sl, g, t, k⟩ => ?_⟩⟩
  refine wpAny_Call_Name_kw (ld_glob I hg hm ?_ hdb)
  exact PySem.W.callWith_K0 I.kIn hkp (runG (us := []) (vs := []) F (hr.mono hk) hb hd (passAt tk σ) I .nil (low_sp l0 sl g (hR F1) t fun v d M' F' H' l3 => k v d M' F' H' l3))

/-! objects -/
/-- x is an instance of c; its fields -/
def asO (M : Store) (c : Str) : D → Option (List (Str × D))
  | .obj c' fs => if c' = c then some fs else none
  | .ref a => match M a with
    | some (.ins c' fs) => if c' = c then some fs else none
    | _ => none
  | _ => none
theorem asO_at {S : SE} {F H : Hp} {M : Store} {c : Str} {d : D} {v : V} {fs : List (Str × D)} (g : Good S F M H) (r : Rep S F v d) (h : asO M c d = some fs) : ∃ a C dx vs, v = .ref a ∧ H a = some (.ins C dx vs) ∧ ClsAt S c C ∧ RepF S F vs fs := by
  cases d with
  | obj c' gs =>
    have h' : (if c' = c then some gs else none) = some fs := h
    split at h'
    · rename_i e
      subst e
      cases h'
      cases r with
      | obj q hc rf => exact ⟨_, _, _, _, rfl, g.sub _ _ q, hc, rf⟩
    · cases h'
  | ref a =>
    cases r
    have h' : (match M a with | some (.ins c' fs) => if c' = c then some fs else none | _ => none) = some fs := h
    split at h'
    · rename_i e1
      split at h'
      · rename_i e
        subst e
        cases h'
        obtain ⟨_, o, e, q⟩ := g.cel _ _ e1
        cases q with
        | ins hc rf => exact ⟨_, _, _, _, rfl, e, hc, rf⟩
      · cases h'
    · cases h'
  | _ => cases h
theorem repF_look {S : SE} {F : Hp} {f : Str} : ∀ {vs : List (Str × V)} {fs : List (Str × D)}, RepF S F vs fs → (∀ d, fs.lookup f = some d → ∃ v, vs.lookup f = some v ∧ Rep S F v d) ∧ (fs.lookup f = none → vs.lookup f = none)
  | _, _, .nil => ⟨fun d h => by simp at h, fun _ => rfl⟩
  | _, _, .cons (k := k) (vs := vs) (ds := ds) h t => by
    have ih := repF_look (f := f) t
    simp only [List.lookup_cons]
    cases f == k with
    | true => exact ⟨fun d e => by cases e; exact ⟨_, rfl, h⟩, fun e => by cases e⟩
    | false => exact ih
theorem ClsAt.cls {S : SE} {c : Str} {C : Addr} (h : ClsAt S c C) : Cls S.K C := by
  have k := h.ok
  unfold clsOkB at k
  simp only [Bool.and_eq_true, beq_iff_eq] at k
  obtain ⟨⟨⟨⟨⟨⟨⟨⟨⟨⟨k1, k2⟩, k3⟩, k4⟩, k5⟩, k6⟩, k7⟩, k8⟩, k9⟩, k10⟩, k11⟩ := k
  exact ⟨k3, k4, k5, k6⟩
/-- o.f: the class c has no attribute of that name -/
def FldOk (S : SE) (c f : Str) : Prop := ∀ C, S.mg c = some (.ref C) → NoAttr S.K C f
def dFld (c f : Str) (to : DTE) : DTE := fun ρ M Q => to ρ M fun x M1 => match asO M1 c x with
  | some fs => match fs.lookup f with
    | some d => Q d M1
    | none => False
  | none => False
theorem de_fld {c f : Str} (ho : DE X F0 o to) (hf : FldOk (Cx.se X) c f) (hb : attributeBase o f X.env (eval o X.env) = eval o X.env := by rfl) : DE X F0 (.Attribute o f pos) (dFld c f to) := by
  refine ⟨PE.weak (pe_fld ho.pe hb) fun σ H Q ⟨ρ, M, F, P, l0, sl, g, t, k⟩ => ⟨ρ, M, F, _, l0, sl, g, t, fun v d M1 F1 H1 l1 g1 r1 p1 => ?_⟩⟩
  split at p1
  · rename_i fs e
    obtain ⟨a, C, dx, vs, rfl, h1, h2, h3⟩ := asO_at g1 r1 e
    split at p1
    · rename_i d' e'
      obtain ⟨v', e2, r2⟩ := (repF_look h3).1 _ e'
      exact ⟨a, C, dx, vs, v', rfl, h1, h2.cls, hf C h2.mg, e2, k _ _ M1 F1 H1 l1 g1 r2 p1⟩
    · exact p1.elim
  · exact p1.elim
/-- o.m(..) -/
def dMeth (c m : Str) (sp : DSp) (W : DWX) (dfl : List D) (to : DTE) (ta : DTA) : DTE := fun ρ M Q => to ρ M fun x M1 => (match asO M1 c x with
  | some fs => fs.lookup m = none
  | none => False) ∧ ta ρ M1 fun ds M2 => sp (x :: (ds ++ dfl)) M2 Q fun c fs M3 => W c fs ρ M3
theorem de_meth {c : Str} {pl : Sem Bool} (h : Met X.prog X.w X.K X.mg X.base k c m sp dfl) (hr : Rm j X.A) (hk : k ≤ j) (tk : Takes X (lowW (Cx.se X) F0 W)) (ho : DE X F0 o to) (ha : DA X F0 (e :: es) ta)
    (hst : starEach (e :: es) X.env = (false, eval e X.env) :: starEach es X.env := by rfl) (hpl : (backTo pos (starEach es X.env)).any (·.1) = false := by rfl)
    (ht : eval (.Call (.Attribute o m apos) (e :: es) [] pos) X.env = (do
      let ov ← eval o X.env
      standAt apos.atName
      let (f, first) ← holding [ov] (getMethod ov m pl)
      callWith pos f first (backTo pos (starEach (e :: es) X.env)) (backToKw pos (keywordEach [] X.env))) := by rfl) : DE X F0 (.Call (.Attribute o m apos) (e :: es) [] pos) (dMeth c m sp W dfl to ta) := by
  obtain ⟨C, f, fd, ps, ds, dvs, hm, hc, hM, F, hb, hd, hR⟩ := h.ex
  refine ⟨⟨fun pins s σ H Q I ⟨ρ, M, F1, P, l0, sl, g, t, k⟩ => ?_⟩⟩
  refine PySem.W.methodCall_KW (pl := pl) (thn (ho.pe.run pins s σ H (fun x H1 => ∃ d M1 F2, Le F1 F2 ∧ Good (Cx.se X) F2 M1 H1 ∧ Rep (Cx.se X) F2 x d ∧ (match asO M1 c d with | some fs => fs.lookup m = none | none => False) ∧ ta ρ M1 fun ds M2 => sp (d :: (ds ++ dfl)) M2 P fun c fs M3 => W c fs ρ M3) I
    ⟨ρ, M, F1, _, l0, sl, g, t, fun v d M1 F2 H2 l2 g2 r2 p2 => ⟨d, M1, F2, l2, g2, r2, p2⟩⟩) fun u s1 ⟨x, H1, I1, rx, d, M1, F2, l2, g2, r2, p1, p2⟩ => ?_) ht
  split at p1
  · rename_i fs e
    obtain ⟨a, C', dx, vs, rfl, h1, h2, h3⟩ := asO_at g2 r2 e
    have eC : C' = C := by
      have := h2.mg.symm.trans hm
      cases this; rfl
    subst eC
    cases (show u = Value.ref a from rx)
    refine getmeth_ok I1 h1 hc hM ((repF_look h3).2 p1) ?_
    refine PySem.W.callWith_K (first := [.ref a]) (h₀ := X.base) I.ok.mod.kin hM.kp (thn (ha.pa.run pos pins s1 σ H1 (fun ws H2 => lowSp (Cx.se X) sp (.ref a :: (ws ++ dvs)) H2 Q (wE (Cx.se X) F0 W σ)) I1
      ⟨ρ, M1, F2, _, l0.trans l2, sl.mono l2, g2, p2, fun ws es M3 F3 H3 l3 g3 r3 p3 => low_sp (l0.trans (l2.trans l3)) (sl.mono (l2.trans l3)) g3 (.cons (r2.mono l3) (r3.append (hR F3))) p3 fun v d M' F' H' l4 => k v d M' F' H' ((l2.trans l3).trans l4)⟩) fun us s2 ⟨ws, H2, I2, r, q⟩ => ⟨I2.kIn, ?_⟩) hst hpl
    exact runG (us := .ref a :: us) (vs := .ref a :: ws) F (hr.mono hk) hb hd (passAt tk σ) I2 (.cons rfl r) q
  · exact p1.elim
theorem de_meth0 {c : Str} {pl : Sem Bool} (h : Met X.prog X.w X.K X.mg X.base k c m sp dfl) (hr : Rm j X.A) (hk : k ≤ j) (tk : Takes X (lowW (Cx.se X) F0 W)) (ho : DE X F0 o to)
    (ht : eval (.Call (.Attribute o m apos) [] [] pos) X.env = (do
      let ov ← eval o X.env
      standAt apos.atName
      let (f, first) ← holding [ov] (getMethod ov m pl)
      callWith pos f first (backTo pos (starEach [] X.env)) (backToKw pos (keywordEach [] X.env))) := by rfl) : DE X F0 (.Call (.Attribute o m apos) [] [] pos) (dMeth c m sp W dfl to daNil) := by
  obtain ⟨C, f, fd, ps, ds, dvs, hm, hc, hM, F, hb, hd, hR⟩ := h.ex
  refine ⟨⟨fun pins s σ H Q I ⟨ρ, M, F1, P, l0, sl, g, t, k⟩ => ?_⟩⟩
  refine PySem.W.methodCall_KW (pl := pl) (thn (ho.pe.run pins s σ H (fun x H1 => ∃ d M1 F2, Le F1 F2 ∧ Good (Cx.se X) F2 M1 H1 ∧ Rep (Cx.se X) F2 x d ∧ (match asO M1 c d with | some fs => fs.lookup m = none | none => False) ∧ sp (d :: ([] ++ dfl)) M1 P fun c fs M3 => W c fs ρ M3) I
    ⟨ρ, M, F1, _, l0, sl, g, t, fun v d M1 F2 H2 l2 g2 r2 p2 => ⟨d, M1, F2, l2, g2, r2, p2⟩⟩) fun u s1 ⟨x, H1, I1, rx, d, M1, F2, l2, g2, r2, p1, p2⟩ => ?_) ht
  split at p1
  · rename_i fs e
    obtain ⟨a, C', dx, vs, rfl, h1, h2, h3⟩ := asO_at g2 r2 e
    have eC : C' = C := by
      have := h2.mg.symm.trans hm
      cases this; rfl
    subst eC
    cases (show u = Value.ref a from rx)
    refine getmeth_ok I1 h1 hc hM ((repF_look h3).2 p1) ?_
    exact PySem.W.callWith_K0 (first := [.ref a]) I1.kIn hM.kp (runG (us := [.ref a]) (vs := [.ref a]) F (hr.mono hk) hb hd (passAt tk σ) I1 (.cons rfl .nil)
      (low_sp (l0.trans l2) (sl.mono l2) g2 (.cons r2 (hR F2)) p2 fun v d M' F' H' l4 => k v d M' F' H' (l2.trans l4)))
  · exact p1.elim
/-- C(..): an instance, its __init__; then it stands in M -/
def dMakeM (c : Str) (sp : DSp) (W : DWX) (dfl : List D) (ta : DTA) : DTE := fun ρ M Q => ta ρ M fun ds M1 => ∀ p, M1 p = none → sp (.ref p :: (ds ++ dfl)) (updM M1 p (.ins c [])) (fun v M2 => v = .non ∧ Q (.ref p) M2) fun c fs M2 => W c fs ρ M2
theorem Good.over {S : SE} {F H : Hp} {M : Store} {p : Addr} {o : HO} (g : Good S F M H) (h : H p = none) : Good S F M (upd H p o) :=
  ⟨fun a u e => by rw [upd_ne (ne_of_none (g.sub _ _ e) h)]; exact g.sub _ _ e, fun a m e => by
    obtain ⟨f, u, h1, r⟩ := g.cel a m e
    exact ⟨f, u, by rw [upd_ne (ne_of_none h1 h)]; exact h1, r⟩⟩
theorem run_makeG {c : Str} {C f : Addr} {fd : FuncData} {ps : List Str} {ds : List Value} {dvs : List V} {pins : List (Addr × Obj)} {σ : L2.St} {H : Hp} {s : Shared} {Q : VK} {us : List Value} {vs : List V} {E : XK} (Mk' : Mk X.K C f) (F : FnG X.prog X.w X.K X.mg X.base k f fd ps sp) (hr : Rm (k + 1) X.A)
    (hb : Binds X.K fd ps ds) (hd : Vals dvs ds) (hx : PassesAt (L2.CX X.prog X.w) X σ E) (I : Inv X pins σ H s) (r : Vals vs us)
    (h : ∀ x dx, H x = none → H dx = none → dx ≠ x → lowSp (Cx.se X) sp (.ref x :: (vs ++ dvs)) (upd (upd H dx (.own x)) x (.ins C dx [])) (fun v H2 => v = .non ∧ Q (.ref x) H2) E) :
    wpAny (model X.prog X.w) X.A (call (.ref C) us) (EP X pins σ Q) X.xe s := by
  have hq := h (s.heap.objs.size + 1) s.heap.objs.size (I.hok.fresh (Nat.le_succ _)) (I.hok.fresh (Nat.le_refl _)) (Nat.ne_of_lt (Nat.lt_succ_self _))
  have I2 := Inv.made (C := C) I
  have r2 : Vals (V.ref (s.heap.objs.size + 1) :: (vs ++ dvs)) (Value.ref (s.heap.objs.size + 1) :: (us ++ ds)) := .cons rfl (r.append hd)
  have hl : (Value.ref (s.heap.objs.size + 1) :: us ++ ds).length = ps.length := by
    obtain ⟨es, M, F1, P, PE, h1, h2, h3, _⟩ := id hq
    have e := r2.length
    rw [h1.len, F.len _ _ _ _ h3] at e
    exact e.symm
  refine wpAny_call (make_map (f := f) I.kIn Mk'.makes Mk'.init (beq_iff_eq.mp Mk'.fn) (codeAny_mono (F.run _ X.stack _ _ ⟨Value.ref (s.heap.objs.size + 1) :: us, []⟩ (Value.ref (s.heap.objs.size + 1) :: (us ++ ds)) _ _ E (hr.make C us [])
    (I2.env0.make C us []) (hb _ (Value.ref (s.heap.objs.size + 1) :: us) I2.kIn hl) r2 hq) fun r s' hq' => ?_))
  cases r with
  | error e => exact hx pins _ _ e s' I2 hq'
  | ok fl =>
    cases fl with
    | ret u =>
      obtain ⟨v, H', I3, rv, ev, q3⟩ := I2.after hq'
      subst ev
      exact ⟨rv, ⟨V.ref (s.heap.objs.size + 1), H', I3, rfl, q3⟩⟩
    | next => exact hq'.elim
    | brk => exact hq'.elim
    | cont => exact hq'.elim
theorem low_make {c : Str} {C : Addr} {ds : List D} {dvs : List V} {M : Store} {F : Hp} {vs : List V} {σ : L2.St} {ρ : Ro} {H : Hp} {Q : VK} {P : D → Store → Prop} {S : SE} (l0 : Le F0 F) (sl : Slots S F σ ρ) (g : Good S F M H) (r : Reps S F (vs ++ dvs) (ds ++ dfl)) (hc : ClsAt S c C)
    (h : ∀ p, M p = none → sp (.ref p :: (ds ++ dfl)) (updM M p (.ins c [])) (fun v M2 => v = .non ∧ P (.ref p) M2) fun c fs M2 => W c fs ρ M2)
    (k : ∀ v d M' F' H', Le F F' → Good S F' M' H' → Rep S F' v d → P d M' → Q v H') : ∀ x dx, H x = none → H dx = none → dx ≠ x →
    lowSp S sp (.ref x :: (vs ++ dvs)) (upd (upd H dx (.own x)) x (.ins C dx [])) (fun v H2 => v = .non ∧ Q (.ref x) H2) (wE S F0 W σ) := fun x dx hx hdx hne => by
  have hx' : upd H dx (.own x) x = none := by rw [upd_ne (Ne.symm hne)]; exact hx
  refine ⟨.ref x :: (ds ++ dfl), updM M x (.ins c []), F, _, _, .cons (.ref x) r, (g.over hdx).newM hx' (.ins hc .nil), h x (g.freshM hx), fun v d M' F' H' l g' rv ⟨e, p⟩ => ?_, fun cls dx' c' fs M' F' H' l g' rx w => ⟨c', fs, ρ, M', F', l0.trans l, sl.mono l, g', rx, w⟩⟩
  subst e
  cases rv
  exact ⟨rfl, k _ _ M' F' H' l g' (.ref x) p⟩
theorem de_makeM {c : Str} (h : Mak X.prog X.w X.K X.mg X.base k c sp dfl) (hr : Rm j X.A) (hk : k + 1 ≤ j) (tk : Takes X (lowW (Cx.se X) F0 W)) (ha : DA X F0 (e :: es) ta) (hg : Gl X c := by rfl) (hdb : (c == ("__debug__" : Str)) = false := by decide)
    (he : starEach (e :: es) X.env = (false, eval e X.env) :: starEach es X.env := by rfl) (hpl : (backTo pos (starEach es X.env)).any (·.1) = false := by rfl) : DE X F0 (.Call (.Name c p) (e :: es) [] pos) (dMakeM c sp W dfl ta) := by
  obtain ⟨C, f, fd, ps, ds, dvs, hc, hM, F, hb, hd, hR⟩ := h.ex
  refine ⟨⟨fun pins s σ H Q I ⟨ρ, M, F1, P, l0, sl, g, t, k⟩ => ?_⟩⟩
  refine wpAny_Call_Name_kw (ld_glob I hg hc.mg ?_ hdb)
  refine PySem.W.callWith_K (h₀ := X.base) I.ok.mod.kin hM.kp (thn (ha.pa.run pos pins s σ H (fun vs H1 => ∀ x dx, H1 x = none → H1 dx = none → dx ≠ x → lowSp (Cx.se X) sp (.ref x :: (vs ++ dvs)) (upd (upd H1 dx (.own x)) x (.ins C dx [])) (fun v H2 => v = .non ∧ Q (.ref x) H2) (wE (Cx.se X) F0 W σ)) I
    ⟨ρ, M, F1, _, l0, sl, g, t, fun vs es M2 F2 H2 l2 g2 r2 p2 => low_make (l0.trans l2) (sl.mono l2) g2 (r2.append (hR F2)) hc p2 fun v d M' F' H' l3 => k v d M' F' H' (l2.trans l3)⟩) fun us s1 ⟨vs, H1, I1, r, q⟩ => ⟨I1.kIn, ?_⟩) he hpl
  exact run_makeG (c := c) hM F (hr.mono hk) hb hd (passAt tk σ) I1 r q
theorem de_makeM0 {c : Str} (h : Mak X.prog X.w X.K X.mg X.base k c sp dfl) (hr : Rm j X.A) (hk : k + 1 ≤ j) (tk : Takes X (lowW (Cx.se X) F0 W)) (hg : Gl X c := by rfl) (hdb : (c == ("__debug__" : Str)) = false := by decide) : DE X F0 (.Call (.Name c p) [] [] pos) (dMakeM c sp W dfl daNil) := by
  obtain ⟨C, f, fd, ps, ds, dvs, hc, hM, F, hb, hd, hR⟩ := h.ex
  refine ⟨⟨fun pins s σ H Q I ⟨ρ, M, F1, P, l0, sl, g, t, k⟩ => ?_⟩⟩
  refine wpAny_Call_Name_kw (ld_glob I hg hc.mg ?_ hdb)
  exact PySem.W.callWith_K0 I.kIn hM.kp (run_makeG (c := c) (us := []) (vs := []) hM F (hr.mono hk) hb hd (passAt tk σ) I .nil (low_make (vs := []) (ds := []) l0 sl g (hR F1) hc t fun v d M' F' H' l3 => k v d M' F' H' l3))
end
end DL


set_option Elab.async false
set_option linter.all false
set_option maxRecDepth 100000
namespace DL
open PySem PySem.Spec PyProof.Rows L2

/-! ### fields stored, raise -/
def dput (f : Str) (d : D) : List (Str × D) → List (Str × D)
  | [] => [(f, d)]
  | (g, e) :: r => if g = f then (f, d) :: r else (g, e) :: dput f d r
theorem repF_put {S : SE} {F : Hp} {f : Str} {v : V} {d : D} (r : Rep S F v d) : ∀ {vs : List (Str × V)} {fs : List (Str × D)}, RepF S F vs fs → RepF S F (putF f v vs) (dput f d fs)
  | _, _, .nil => .cons r .nil
  | _, _, .cons (k := k) h t => by
    show RepF S F (if k = f then (k, v) :: _ else _) (if k = f then _ else _)
    by_cases e : k = f
    · rw [if_pos e, if_pos e, e]; exact .cons r t
    · rw [if_neg e, if_neg e]; exact .cons h (repF_put r t)
theorem repF_len {S : SE} {F : Hp} : ∀ {vs : List (Str × V)} {fs : List (Str × D)}, RepF S F vs fs → vs.length = fs.length
  | _, _, .nil => rfl
  | _, _, .cons _ t => congrArg Nat.succ (repF_len t)
section
variable {X : Cx} {F0 : Hp} {W : DWX} {k j : Nat} {x m : Str} {sp : DSp} {dfl : List D} {p pos pos' apos : Pos} {e o : Expr} {es : List Expr} {ta : DTA} {to te : DTE}
/-- o.f = e -/
def dSetFld (c f : Str) (to te : DTE) : DTS := fun D ρ M => te ρ M fun d M1 => to ρ M1 fun x M2 => match x with
  | .ref a => match M2 a with
    | some (.ins c' fs) => c' = c ∧ fs.length < 1000 ∧ D.nx ρ (updM M2 a (.ins c (dput f d fs)))
    | _ => False
  | _ => False
theorem ds_fld {c f : Str} (ho : DE X F0 o to) (he : DE X F0 e te) (hf : FldOk (Cx.se X) c f) (hs : swapsWith e (some (.Attribute o f pos')) pos.line X.env = pure false := by rfl) : DS X F0 (.Assign [.Attribute o f pos'] e pos) (dSetFld c f to te) := by
  refine ⟨PS.weak (ps_fld ho.pe he.pe hs) fun E σ H ⟨ρ, M, F, D, l0, sl, g, t, k1, k2, k3, k4⟩ => ?_⟩
  refine ⟨ρ, M, F, _, l0, sl, g, t, fun v d M1 F1 H1 l1 g1 r1 p1 => ⟨ρ, M1, F1, _, l0.trans l1, sl.mono l1, g1, p1, fun w dx M2 F2 H2 l2 g2 r2 p2 => ?_⟩⟩
  split at p2
  · cases r2
    split at p2
    · rename_i c' fs e1
      obtain ⟨rfl, hl, q⟩ := p2
      obtain ⟨_, ob, hH, rm⟩ := g2.cel _ _ e1
      cases rm with
      | ins hc rf =>
        exact ⟨_, _, _, _, rfl, hH, hc.cls, hf _ hc.mg, by rw [repF_len rf]; exact hl, k1 _ _ _ F2 _ (l1.trans l2) (sl.mono (l1.trans l2)) (g2.set e1 (.ins hc (repF_put (r1.mono l2) rf))) q⟩
    · exact p2.elim
  · exact p2.elim
/-- o.f op= e (ints) -/
def dAugFld (c f : Str) (rd : DR2) (to te : DTE) : DTS := fun D ρ M => to ρ M fun x M1 => match x with
  | .ref a => match M1 a with
    | some (.ins c' fs) => c' = c ∧ match fs.lookup f with
      | some d => te ρ M1 fun y M2 => rd d y M2 fun z M3 => match M3 a with
        | some (.ins c'' fs') => c'' = c ∧ fs'.length < 1000 ∧ D.nx ρ (updM M3 a (.ins c (dput f z fs')))
        | _ => False
      | none => False
    | _ => False
  | _ => False
theorem ds_augfld {c f : Str} {op : Operator} {rd : DR2} (ho : DE X F0 o to) (he : DE X F0 e te) (hop : DIp X F0 op rd) (hf : FldOk (Cx.se X) c f) : DS X F0 (.AugAssign (.Attribute o f pos') op e pos) (dAugFld c f rd to te) := by
  have hop' : InOp X op (low2 (Cx.se X) F0 rd) := fun pins s σ H x y u v Q I rx ry q => hop pins s σ H x y u v Q I rx ry q
  refine ⟨PS.weak (ps_fldaug ho.pe he.pe hop') fun E σ H ⟨ρ, M, F, D, l0, sl, g, t, k1, k2, k3, k4⟩ => ?_⟩
  refine ⟨ρ, M, F, _, l0, sl, g, t, fun v d M1 F1 H1 l1 g1 r1 p1 => ?_⟩
  split at p1
  · cases r1
    split at p1
    · rename_i c' fs e1
      obtain ⟨rfl, q⟩ := p1
      obtain ⟨_, ob, hH, rm⟩ := g1.cel _ _ e1
      cases rm with
      | ins hc rf =>
        split at q
        · rename_i d' e'
          obtain ⟨v', e2, r2⟩ := (repF_look rf).1 _ e'
          refine ⟨_, _, _, _, v', rfl, hH, hc.cls, hf _ hc.mg, e2, ρ, M1, F1, _, l0.trans l1, sl.mono l1, g1, q, fun w dw M2 F2 H2 l2 g2 rw p2 => ⟨d', dw, M2, F2, _, l0.trans (l1.trans l2), g2, r2.mono l2, rw, p2, fun z dz M3 F3 H3 l3 g3 rz p3 => ?_⟩⟩
          split at p3
          · rename_i c'' fs' e3
            obtain ⟨rfl, hl, q3⟩ := p3
            obtain ⟨_, ob3, hH3, rm3⟩ := g3.cel _ _ e3
            cases rm3 with
            | ins hc3 rf3 =>
              have eC := hc3.mg.symm.trans hc.mg
              cases eC
              exact ⟨_, _, hH3, by rw [repF_len rf3]; exact hl, k1 _ _ _ F3 _ ((l1.trans l2).trans l3) (sl.mono ((l1.trans l2).trans l3)) (g3.set e3 (.ins hc3 (repF_put rz rf3))) q3⟩
          · exact p3.elim
        · exact q.elim
    · exact p1.elim
  · exact p1.elim
/-- an exception class of the text without own __init__ -/
structure Exc0 (K : PySem.W.Frag) (mg : Str → Option Value) (c : Str) : Prop where
  ex : ∃ C, mg c = some (.ref C) ∧ PySem.W.excIn K C [.type "ValueError", .type "Exception", .type "BaseException", .type "object"] "ValueError.__new__" = true ∧ PySem.W.keepIn K (.ref C) = true ∧
    PySem.W.subIn K (.ref C) (.type "BaseException") = some true ∧ PySem.W.typeIn K (.ref C) = some (.type "type")
theorem pmk0 {C : Addr} {bmB : List Value} {B newId initId : String} (F : ExcBaseFacts B newId initId bmB) (q : PySem.W.excIn X.K C bmB newId = true) (gC : X.mg x = some (.ref C)) (kC : PySem.W.keepIn X.K (.ref C) = true) (r : Raises X (.ref C)) (hg : Gl X x)
    (hdb : (x == ("__debug__" : Str)) = false := by decide) : PMk X (.Call (.Name x p) [] [] pos) (fun _ H Q => Q (.ref C) none H) := by
  intro pins s σ H Q I h
  refine wpAny_Call_Name_kw (ld_glob I hg gC ?_ hdb)
  refine PySem.W.callWith_K0 I.kIn kC ?_
  obtain ⟨bm, N, nm, qn, bs, hdct, sn, sub, ab, col, dd, k0, k1, k2, k3, k5, mN, hC, hN, hni, T⟩ := exc_obj I.kIn q
  refine wpAny_call_exc_subT (rest := []) F T hC hN hni (fun h' e hm => ?_) (Nat.zero_le _)
  exact mk_of I hm r h (I.hok.gone hm.new)
def dRaise0 (W : DWX) (c : Str) : DTS := fun _ ρ M => W c [] ρ M
theorem ds_raise0 {c : Str} (hc : X.calm = true) (tk : Takes X (lowW (Cx.se X) F0 W)) (h : Exc0 X.K X.mg c) (hg : Gl X c := by rfl) (hdb : (c == ("__debug__" : Str)) = false := by decide) : DS X F0 (.Raise (some (.Call (.Name c p) [] [] pos')) none pos) (dRaise0 W c) := by
  obtain ⟨C, h1, h2, h3, h4, h5⟩ := h.ex
  refine ⟨PS.weak (ps_raise hc tk (pmk0 PySem.F.excBase_ValueError h2 h1 h3 (raises_own h4 h5) hg hdb)) fun E σ H ⟨ρ, M, F, D, l0, sl, g, t, k1, k2, k3, k4⟩ => ?_⟩
  exact ⟨c, [], ρ, M, F, l0, sl, g, ⟨C, rfl, h1, .inl rfl⟩, t⟩

/-! ### subscripts, slices -/
/-- x[i] of lists, tuples, texts -/
def rdIx : DR2 := fun x y M Q => match x, y with
  | .str z, .int i => z.length ≤ sizeLine ∧ match atI z.cps.toList i with
    | some c => Q (.str ⟨#[c]⟩) M
    | none => False
  | x, .int i => match asS M x with
    | some ds => match (ixN ds.length i).bind fun j => ds[j]? with
      | some d => Q d M
      | none => False
    | none => False
  | _, _ => False
theorem reps_at {S : SE} {F : Hp} {vs : List V} {ds : List D} {i : Int} {d : D} (r : Reps S F vs ds) (h : ((ixN ds.length i).bind fun j => ds[j]?) = some d) : ∃ v, atI vs i = some v ∧ Rep S F v d := by
  obtain ⟨j, h1, h2⟩ := Option.bind_eq_some_iff.mp h
  obtain ⟨v, h3, h4⟩ := r.get h2
  refine ⟨v, ?_, h4⟩
  unfold atI
  rw [r.len, h1]
  exact h3
def DIx (X : Cx) (F0 : Hp) (rd : DR2) : Prop := IxR X (low2 (Cx.se X) F0 rd)
theorem dx_seq : DIx X F0 rdIx := by
  intro value slice pins s σ H x y v u Q I rx ry ⟨dx, dy, M, F, P, l0, g, hx, hy, t, k⟩ hs
  unfold rdIx at t
  split at t
  · cases hx; cases hy
    obtain ⟨t1, t2⟩ := t
    split at t2
    · rename_i c e
      exact ix_str value slice pins s σ H _ _ v u Q I rx ry ⟨_, _, c, rfl, rfl, t1, e, k _ _ M F H (Le.refl F) g (.str _) t2⟩ hs
    · exact t2.elim
  · cases hy
    split at t
    · rename_i ds e
      obtain ⟨a, vs, rfl, h1, r1⟩ := asS_at g hx e
      split at t
      · rename_i d e'
        obtain ⟨w, h2, r2⟩ := reps_at r1 e'
        rcases h1 with h1 | h1
        · exact ix_list value slice pins s σ H _ _ v u Q I rx ry ⟨a, vs, _, w, rfl, rfl, h1, h2, k _ _ M F H (Le.refl F) g r2 t⟩ hs
        · exact ix_tup value slice pins s σ H _ _ v u Q I rx ry ⟨a, vs, _, w, rfl, rfl, h1, h2, k _ _ M F H (Le.refl F) g r2 t⟩ hs
      · exact t.elim
    · exact t.elim
  · exact t.elim
theorem de_ix {a b : Expr} {tA tB : DTE} {rd : DR2} (h : DIx X F0 rd) (ha : DE X F0 a tA) (hb : DE X F0 b tB) (hs : PlainIx b := by exact fun _ _ => rfl) : DE X F0 (.Subscript a b pos) (dOp rd tA tB) :=
  ⟨PE.weak (pe_ix h ha.pe hb.pe hs) fun _ _ _ q => low_op q⟩
/-! slices -/
abbrev DTO := Ro → Store → (Option Int → Store → Prop) → Prop
structure DO (X : Cx) (F0 : Hp) (e : Option Expr) (t : DTO) : Prop where
  po : PO X e (low (Cx.se X) F0 (fun _ (a b : Option Int) => a = b) t)
def doNone : DTO := fun _ M Q => Q none M
def doSome (te : DTE) : DTO := fun ρ M Q => te ρ M fun x M1 => match x with
  | .int i => Q (some i) M1
  | _ => False
theorem PO.weak {e : Option Expr} {t u : L2.St → Hp → (Option Int → Hp → Prop) → Prop} (h : PO X e t) (k : ∀ σ H Q, u σ H Q → t σ H Q) : PO X e u := ⟨fun pins s σ H Q I q => h.run pins s σ H Q I (k _ _ _ q)⟩
theorem do_none : DO X F0 none doNone := ⟨PO.weak po_none fun σ H Q ⟨ρ, M, F, P, l0, sl, g, t, k⟩ => k none none M F H (Le.refl F) g rfl t⟩
theorem do_some (he : DE X F0 e te) : DO X F0 (some e) (doSome te) :=
  ⟨PO.weak (po_some he.pe) fun σ H Q ⟨ρ, M, F, P, l0, sl, g, t, k⟩ => ⟨ρ, M, F, _, l0, sl, g, t, fun v d M1 F1 H1 l1 g1 r1 p1 => by
    split at p1
    · cases r1; exact ⟨_, rfl, k _ _ M1 F1 H1 l1 g1 rfl p1⟩
    · exact p1.elim⟩⟩
def cutD (ds : List D) (lo hi : Option Int) : List D := (ds.drop (HT.sIx ds.length 0 lo)).take (HT.sIx ds.length ds.length hi - HT.sIx ds.length 0 lo)
theorem reps_cut {S : SE} {F : Hp} {vs : List V} {ds : List D} (r : Reps S F vs ds) (lo hi : Option Int) : Reps S F (cutV vs lo hi) (cutD ds lo hi) := by
  unfold cutV cutD
  rw [r.len]
  exact (r.drop _).take _
def rdSl (x : D) (lo hi : Option Int) (M : Store) (Q : D → Store → Prop) : Prop := match x with
  | .tup ds => Q (.tup (cutD ds lo hi)) M
  | .str z => z.length ≤ sizeLine ∧ Q (.str (cutS z lo hi)) M
  | x => match asR M x with
    | some ds => Q (.lst (cutD ds lo hi)) M
    | none => False
def dSlice (te : DTE) (tl th : DTO) : DTE := fun ρ M Q => te ρ M fun x M1 => tl ρ M1 fun l M2 => th ρ M2 fun h M3 => rdSl x l h M3 Q
def lowSl (S : SE) (F0 : Hp) : V → Option Int → Option Int → Hp → VK → Prop := fun x lo hi H Q => ∃ d M F P, Le F0 F ∧ Good S F M H ∧ Rep S F x d ∧ rdSl d lo hi M P ∧ ∀ v d M' F' H', Le F F' → Good S F' M' H' → Rep S F' v d → P d M' → Q v H'
theorem sl_any : SlR X (lowSl (Cx.se X) F0) := by
  intro pins s σ H x v vl vu lo hi sl Q I rx hs pl pu ⟨d, M, F, P, l0, g, hx, t, k⟩
  unfold rdSl at t
  split at t
  · obtain ⟨a, vs, rfl, h1, r1⟩ := asT_at g hx rfl
    refine sl_tupA pins s σ H _ v vl vu lo hi sl Q I rx hs pl pu ⟨a, vs, rfl, h1, fun hw => ?_, fun hw p hp => ?_⟩
    · rename_i ds
      have e : cutD ds lo hi = ds := by
        unfold cutD
        rw [← r1.len, hw.1, hw.2, Nat.sub_zero, List.drop_zero]
        exact List.take_of_length_le (by rw [r1.len]; exact Nat.le_refl _)
      rw [e] at t
      exact k _ _ M F H (Le.refl F) g hx t
    · have f := g.freshF hp
      exact k _ _ M _ _ (Le.new f) (g.new hp) (.tup (.inl (.inl upd_same)) ((reps_cut r1 lo hi).mono (Le.new f))) t
  · cases hx
    exact sl_str pins s σ H _ v vl vu lo hi sl Q I rx hs pl pu ⟨_, rfl, t.1, k _ _ M F H (Le.refl F) g (.str _) t.2⟩
  · split at t
    · rename_i ds e
      obtain ⟨a, vs, rfl, h1, r1⟩ := asR_at g hx e
      refine sl_list pins s σ H _ v vl vu lo hi sl Q I rx hs pl pu ⟨a, vs, rfl, h1, fun p hp => ?_⟩
      have f := g.freshF hp
      exact k _ _ M _ _ (Le.new f) (g.new hp) (.lst upd_same ((reps_cut r1 lo hi).mono (Le.new f))) t
    · exact t.elim
theorem de_slice {lo hi : Option Expr} {tl th : DTO} {p2 : Pos} (he : DE X F0 e te) (hl : DO X F0 lo tl) (hh : DO X F0 hi th) : DE X F0 (.Subscript e (.Slice lo hi none p2) pos) (dSlice te tl th) :=
  ⟨PE.weak (pe_slice (sl_any (F0 := F0)) he.pe hl.po hh.po) fun σ H Q ⟨ρ, M, F, P, l0, sl, g, t, k⟩ => ⟨ρ, M, F, _, l0, sl, g, t, fun v d M1 F1 H1 l1 g1 r1 p1 => ⟨ρ, M1, F1, _, l0.trans l1, sl.mono l1, g1, p1, fun a b M2 F2 H2 l2 g2 r2 p2 => by
    cases r2
    exact ⟨ρ, M2, F2, _, (l0.trans l1).trans l2, sl.mono (l1.trans l2), g2, p2, fun a' b' M3 F3 H3 l3 g3 r3 p3 => by
      cases r3
      exact ⟨d, M3, F3, P, ((l0.trans l1).trans l2).trans l3, g3, r1.mono (l2.trans l3), p3, fun v d M' F' H' l4 => k v d M' F' H' (((l1.trans l2).trans l3).trans l4)⟩⟩⟩⟩⟩
/-- xs[::-1] -/
def dRev (te : DTE) : DTE := fun ρ M Q => te ρ M fun x M1 => match asR M1 x with
  | some ds => Q (.lst ds.reverse) M1
  | none => False
theorem de_rev {k : Nat} {p1 p2 p3 : Pos} (he : DE X F0 e te) : DE X F0 (.Subscript e (.Slice none none (some (.UnaryOp .USub (.Constant (.int 1) k p1) p2)) p3) pos) (dRev te) :=
  ⟨PE.weak (pe_revL he.pe) fun σ H Q ⟨ρ, M, F, P, l0, sl, g, t, k⟩ => ⟨ρ, M, F, _, l0, sl, g, t, fun v d M1 F1 H1 l1 g1 r1 p1 => by
    split at p1
    · rename_i ds e
      obtain ⟨a, vs, rfl, h1, rs⟩ := asR_at g1 r1 e
      refine ⟨a, vs, rfl, h1, fun p hp => ?_⟩
      have f := g1.freshF hp
      exact k _ _ M1 _ _ (l1.trans (Le.new f)) (g1.new hp) (.lst upd_same (rs.reverse.mono (Le.new f))) p1
    · exact p1.elim⟩⟩

/-! ### calls of built-ins by their names -/
abbrev DCl := List D → Store → (D → Store → Prop) → Prop
def lowC (S : SE) (F0 : Hp) (rd : DCl) : List V → Hp → VK → Prop := fun xs H Q => ∃ ds M F P, Le F0 F ∧ Good S F M H ∧ Reps S F xs ds ∧ rd ds M P ∧ ∀ v d M' F' H', Le F F' → Good S F' M' H' → Rep S F' v d → P d M' → Q v H'
def DCallR (X : Cx) (F0 : Hp) (f : Value) (rd : DCl) : Prop := CallR X f (lowC (Cx.se X) F0 rd)
def dB1 (rd : DCl) (ta : DTA) : DTE := fun ρ M Q => ta ρ M fun ds M1 => rd ds M1 Q
theorem low_cb {rd : DCl} {σ : L2.St} {H : Hp} {Q : VK} (h : low (Cx.se X) F0 (fun F => Rep (Cx.se X) F) (dB1 rd ta) σ H Q) : tCB (lowC (Cx.se X) F0 rd) (low (Cx.se X) F0 (fun F => Reps (Cx.se X) F) ta) σ H Q := by
  obtain ⟨ρ, M, F, P, l0, sl, g, t, k⟩ := h
  exact ⟨ρ, M, F, _, l0, sl, g, t, fun v d M1 F1 H1 l1 g1 r1 p1 => ⟨d, M1, F1, P, l0.trans l1, g1, r1, p1, fun v d M' F' H' l4 => k v d M' F' H' (l1.trans l4)⟩⟩
theorem de_b {rd : DCl} {id : String} (h : DCallR X F0 (.builtin id) rd) (hm : X.mg x = none) (ha : DA X F0 (e :: es) ta) (hv : bootBuiltins x = some (.builtin id) := by decide +kernel) (hg : Gl X x := by rfl) (hn : x ≠ "__name__" := by decide) (hdb : (x == ("__debug__" : Str)) = false := by decide)
    (he : starEach (e :: es) X.env = (false, eval e X.env) :: starEach es X.env := by rfl) (hpl : (backTo pos (starEach es X.env)).any (·.1) = false := by rfl) : DE X F0 (.Call (.Name x p) (e :: es) [] pos) (dB1 rd ta) :=
  ⟨PE.weak (pe_callB h hg hm hv ha.pa hn hdb he hpl) fun _ _ _ q => low_cb q⟩
theorem de_ty {rd : DCl} {T : String} (h : DCallR X F0 (.type T) rd) (hm : X.mg x = none) (ha : DA X F0 (e :: es) ta) (hv : bootBuiltins x = some (.type T) := by decide +kernel) (hg : Gl X x := by rfl) (hn : x ≠ "__name__" := by decide) (hdb : (x == ("__debug__" : Str)) = false := by decide)
    (he : starEach (e :: es) X.env = (false, eval e X.env) :: starEach es X.env := by rfl) (hpl : (backTo pos (starEach es X.env)).any (·.1) = false := by rfl) : DE X F0 (.Call (.Name x p) (e :: es) [] pos) (dB1 rd ta) :=
  ⟨PE.weak (pe_callTy h hg hm hv ha.pa hn hdb he hpl) fun _ _ _ q => low_cb q⟩
/-- a built-in's name, a class's name as a value -/
theorem de_tyname {T : String} (hm : X.mg x = none) (hv : bootBuiltins x = some (.type T) := by decide +kernel) (hg : Gl X x := by rfl) (hn : x ≠ "__name__" := by decide) (hd : (x == ("__debug__" : Str)) = false := by decide) : DE X F0 (.Name x pos) (dC (.ty T)) :=
  de_of_const (v := .ty T) (pe_bltn hg hm hv rfl hn hd) fun _ => .ty T
theorem de_cls {c : Str} (h : ∃ C, ClsAt (Cx.se X) c C) (hg : Gl X c := by rfl) (hd : (c == ("__debug__" : Str)) = false := by decide) : DE X F0 (.Name c pos) (dC (.cls c)) := by
  obtain ⟨C, hc⟩ := h
  exact de_of_const (v := .ref C) (pe_glob hg hc.mg rfl hd) fun _ => .cls hc
end
section
variable {X : Cx} {F0 : Hp}
def rcAbs : DCl := fun ds M Q => match ds with
  | [.int i] => Q (.int (if i < 0 then -i else i)) M
  | _ => False
theorem dc_abs : DCallR X F0 (.builtin "abs") rcAbs := by
  intro pins s σ H xs us Q I r ⟨ds, M, F, P, l0, g, rs, t, k⟩
  unfold rcAbs at t
  split at t
  · cases rs with
    | cons a b =>
      cases a; cases b
      exact call_abs pins s σ H _ us Q I r ⟨_, rfl, k _ _ M F H (Le.refl F) g (.int _) t⟩
  · exact t.elim
/-- the greater of two ints; the greatest of a list of ints -/
def toIs : List D → Option (List Int)
  | [] => some []
  | .int i :: r => (toIs r).map (i :: ·)
  | _ :: _ => none
theorem reps_ints {S : SE} {F : Hp} : ∀ {vs : List V} {ds : List D} {ns : List Int}, Reps S F vs ds → toIs ds = some ns → vs = ns.map V.int
  | _, [], ns, .nil, h => by cases h; rfl
  | _, d :: ds, ns, .cons a r, h => by
    cases d with
    | int i =>
      obtain ⟨ms, h1, rfl⟩ := Option.map_eq_some_iff.mp (show (toIs ds).map (i :: ·) = some ns from h)
      cases a
      rw [reps_ints r h1]; rfl
    | _ => cases h
theorem toIs_map : ∀ ns : List Int, toIs (ns.map D.int) = some ns
  | [] => rfl
  | n :: ns => by show (toIs (ns.map D.int)).map (n :: ·) = _; rw [toIs_map ns]; rfl
def rcMax : DCl := fun ds M Q => match ds with
  | [.int i, .int j] => Q (.int (if j > i then j else i)) M
  | [x] => match asR M x with
    | some es => match toIs es with
      | some ns => 0 < ns.length ∧ ∀ m, m ∈ ns → (∀ y, y ∈ ns → y ≤ m) → Q (.int m) M
      | none => False
    | none => False
  | _ => False
theorem dc_max (hc : X.calm = true) : DCallR X F0 (.builtin "max") rcMax := by
  intro pins s σ H xs us Q I r ⟨ds, M, F, P, l0, g, rs, t, k⟩
  unfold rcMax at t
  split at t
  · cases rs with
    | cons a b =>
      cases a
      cases b with
      | cons a b =>
        cases a; cases b
        exact call_max2 hc pins s σ H _ us Q I r ⟨_, _, rfl, k _ _ M F H (Le.refl F) g (.int _) t⟩
  · split at t
    · rename_i es e
      split at t
      · rename_i ns e2
        cases rs with
        | cons a b =>
          cases b
          obtain ⟨l, vs, rfl, h1, r1⟩ := asR_at g a e
          have ev := reps_ints r1 e2
          subst ev
          exact cr_max hc pins s σ H _ us Q I r ⟨l, ns, rfl, h1, t.1, fun m hm hle => k _ _ M F H (Le.refl F) g (.int _) (t.2 m hm hle)⟩
      · exact t.elim
    · exact t.elim
  · exact t.elim
def rcMin : DCl := fun ds M Q => match ds with
  | [.int i, .int j] => Q (.int (if j < i then j else i)) M
  | [x] => match asR M x with
    | some es => match toIs es with
      | some ns => 0 < ns.length ∧ ∀ m, m ∈ ns → (∀ y, y ∈ ns → m ≤ y) → Q (.int m) M
      | none => False
    | none => False
  | _ => False
theorem dc_min (hc : X.calm = true) : DCallR X F0 (.builtin "min") rcMin := by
  intro pins s σ H xs us Q I r ⟨ds, M, F, P, l0, g, rs, t, k⟩
  unfold rcMin at t
  split at t
  · cases rs with
    | cons a b =>
      cases a
      cases b with
      | cons a b =>
        cases a; cases b
        exact call_min2 hc pins s σ H _ us Q I r ⟨_, _, rfl, k _ _ M F H (Le.refl F) g (.int _) t⟩
  · split at t
    · rename_i es e
      split at t
      · rename_i ns e2
        cases rs with
        | cons a b =>
          cases b
          obtain ⟨l, vs, rfl, h1, r1⟩ := asR_at g a e
          have ev := reps_ints r1 e2
          subst ev
          exact cr_min hc pins s σ H _ us Q I r ⟨l, ns, rfl, h1, t.1, fun m hm hle => k _ _ M F H (Le.refl F) g (.int _) (t.2 m hm hle)⟩
      · exact t.elim
    · exact t.elim
  · exact t.elim
def rcSum : DCl := fun ds M Q => match ds with
  | [x] => match asR M x with
    | some es => match toIs es with
      | some ns => Q (.int ns.sum) M
      | none => False
    | none => False
  | _ => False
theorem dc_sum (hc : X.calm = true) : DCallR X F0 (.builtin "sum") rcSum := by
  intro pins s σ H xs us Q I r ⟨ds, M, F, P, l0, g, rs, t, k⟩
  unfold rcSum at t
  split at t
  · split at t
    · rename_i es e
      split at t
      · rename_i ns e2
        cases rs with
        | cons a b =>
          cases b
          obtain ⟨l, vs, rfl, h1, r1⟩ := asR_at g a e
          have ev := reps_ints r1 e2
          subst ev
          exact cr_sum hc pins s σ H _ us Q I r ⟨l, ns, rfl, h1, k _ _ M F H (Le.refl F) g (.int _) t⟩
      · exact t.elim
    · exact t.elim
  · exact t.elim
def toBs : List D → Option (List Bool)
  | [] => some []
  | .bl i :: r => (toBs r).map (i :: ·)
  | _ :: _ => none
theorem reps_bls {S : SE} {F : Hp} : ∀ {vs : List V} {ds : List D} {ns : List Bool}, Reps S F vs ds → toBs ds = some ns → vs = ns.map V.bl
  | _, [], ns, .nil, h => by cases h; rfl
  | _, d :: ds, ns, .cons a r, h => by
    cases d with
    | bl i =>
      obtain ⟨ms, h1, rfl⟩ := Option.map_eq_some_iff.mp (show (toBs ds).map (i :: ·) = some ns from h)
      cases a
      rw [reps_bls r h1]; rfl
    | _ => cases h
theorem toBs_map : ∀ ns : List Bool, toBs (ns.map D.bl) = some ns
  | [] => rfl
  | n :: ns => by show (toBs (ns.map D.bl)).map (n :: ·) = _; rw [toBs_map ns]; rfl
def rcAll : DCl := fun ds M Q => match ds with
  | [x] => match asR M x with
    | some es => match toBs es with
      | some bs => Q (.bl (bs.all id)) M
      | none => False
    | none => False
  | _ => False
def rcAny : DCl := fun ds M Q => match ds with
  | [x] => match asR M x with
    | some es => match toBs es with
      | some bs => Q (.bl (bs.any id)) M
      | none => False
    | none => False
  | _ => False
theorem dc_all (hc : X.calm = true) : DCallR X F0 (.builtin "all") rcAll := by
  intro pins s σ H xs us Q I r ⟨ds, M, F, P, l0, g, rs, t, k⟩
  unfold rcAll at t
  split at t
  · split at t
    · rename_i es e
      split at t
      · rename_i ns e2
        cases rs with
        | cons a b =>
          cases b
          obtain ⟨l, vs, rfl, h1, r1⟩ := asR_at g a e
          have ev := reps_bls r1 e2
          subst ev
          exact cr_all hc pins s σ H _ us Q I r ⟨l, ns, rfl, h1, k _ _ M F H (Le.refl F) g (.bl _) t⟩
      · exact t.elim
    · exact t.elim
  · exact t.elim
theorem dc_any (hc : X.calm = true) : DCallR X F0 (.builtin "any") rcAny := by
  intro pins s σ H xs us Q I r ⟨ds, M, F, P, l0, g, rs, t, k⟩
  unfold rcAny at t
  split at t
  · split at t
    · rename_i es e
      split at t
      · rename_i ns e2
        cases rs with
        | cons a b =>
          cases b
          obtain ⟨l, vs, rfl, h1, r1⟩ := asR_at g a e
          have ev := reps_bls r1 e2
          subst ev
          exact cr_any hc pins s σ H _ us Q I r ⟨l, ns, rfl, h1, k _ _ M F H (Le.refl F) g (.bl _) t⟩
      · exact t.elim
    · exact t.elim
  · exact t.elim
/-- len of lists, tuples, texts, dicts -/
def rcLen : DCl := fun ds M Q => match ds with
  | [.str z] => z.length ≤ sizeLine ∧ Q (.int z.length) M
  | [x] => match asS M x with
    | some es => Q (.int es.length) M
    | none => False
  | _ => False
theorem dc_len : DCallR X F0 (.builtin "len") rcLen := by
  intro pins s σ H xs us Q I r ⟨ds, M, F, P, l0, g, rs, t, k⟩
  unfold rcLen at t
  split at t
  · cases rs with
    | cons a b =>
      cases a; cases b
      exact call_len_str pins s σ H _ us Q I r ⟨_, rfl, t.1, k _ _ M F H (Le.refl F) g (.int _) t.2⟩
  · split at t
    · rename_i es e
      cases rs with
      | cons a b =>
        cases b
        obtain ⟨l, vs, rfl, h1, r1⟩ := asS_at g a e
        exact call_len_seq pins s σ H _ us Q I r ⟨l, vs, rfl, h1, by rw [r1.len]; exact k _ _ M F H (Le.refl F) g (.int _) t⟩
    · exact t.elim
  · exact t.elim
/-- list(x), tuple(x) of lists, tuples -/
def rcList : DCl := fun ds M Q => match ds with
  | [x] => match asS M x with
    | some es => Q (.lst es) M
    | none => False
  | _ => False
def rcListM : DCl := fun ds M Q => match ds with
  | [x] => match asS M x with
    | some es => ∀ p, M p = none → Q (.ref p) (updM M p (.lst es))
    | none => False
  | _ => False
def rcTuple : DCl := fun ds M Q => match ds with
  | [.tup es] => Q (.tup es) M
  | [x] => match asR M x with
    | some es => Q (.tup es) M
    | none => False
  | _ => False
theorem dc_list : DCallR X F0 (.type "list") rcList := by
  intro pins s σ H xs us Q I r ⟨ds, M, F, P, l0, g, rs, t, k⟩
  unfold rcList at t
  split at t
  · split at t
    · rename_i es e
      cases rs with
      | cons a b =>
        cases b
        obtain ⟨l, vs, rfl, h1, r1⟩ := asS_at g a e
        refine call_list_of pins s σ H _ us Q I r ⟨l, vs, rfl, h1, fun p hp => ?_⟩
        have f := g.freshF hp
        exact k _ _ M _ _ (Le.new f) (g.new hp) (.lst upd_same (r1.mono (Le.new f))) t
    · exact t.elim
  · exact t.elim
theorem dc_listM : DCallR X F0 (.type "list") rcListM := by
  intro pins s σ H xs us Q I r ⟨ds, M, F, P, l0, g, rs, t, k⟩
  unfold rcListM at t
  split at t
  · split at t
    · rename_i es e
      cases rs with
      | cons a b =>
        cases b
        obtain ⟨l, vs, rfl, h1, r1⟩ := asS_at g a e
        exact call_list_of pins s σ H _ us Q I r ⟨l, vs, rfl, h1, fun p hp => k _ _ _ F _ (Le.refl F) (g.newM hp (.lst r1)) (.ref p) (t p (g.freshM hp))⟩
    · exact t.elim
  · exact t.elim
theorem dc_tuple : DCallR X F0 (.type "tuple") rcTuple := by
  intro pins s σ H xs us Q I r ⟨ds, M, F, P, l0, g, rs, t, k⟩
  unfold rcTuple at t
  split at t
  · cases rs with
    | cons a b =>
      cases b
      obtain ⟨l, vs, rfl, h1, r1⟩ := asT_at g a rfl
      exact call_tuple_of pins s σ H _ us Q I r ⟨l, vs, rfl, .inr ⟨h1, k _ _ M F H (Le.refl F) g a t⟩⟩
  · split at t
    · rename_i es e
      cases rs with
      | cons a b =>
        cases b
        obtain ⟨l, vs, rfl, h1, r1⟩ := asR_at g a e
        refine call_tuple_of pins s σ H _ us Q I r ⟨l, vs, rfl, .inl ⟨h1, fun p hp => ?_⟩⟩
        have f := g.freshF hp
        exact k _ _ M _ _ (Le.new f) (g.new hp) (.tup (.inl (.inl upd_same)) (r1.mono (Le.new f))) t
    · exact t.elim
  · exact t.elim
end
end DL


set_option Elab.async false
set_option linter.all false
set_option maxRecDepth 100000
namespace DL
open PySem PySem.Spec PyProof.Rows L2

/-! ### isinstance -/
inductive TyD where
  | b (n : String) | own (c : Str)
def tyD (M : Store) : D → Option TyD
  | .non => some (.b "NoneType")
  | .bl _ => some (.b "bool")
  | .int _ => some (.b "int")
  | .str _ => some (.b "str")
  | .tup _ => some (.b "tuple")
  | .lst _ => some (.b "list")
  | .fro _ => some (.b "list")
  | .obj c _ => some (.own c)
  | .ref a => match M a with
    | some (.lst _) => some (.b "list")
    | some (.dct _) => some (.b "dict")
    | some (.ins c _) => some (.own c)
    | none => none
  | .dct _ => some (.b "dict")
  | .ty _ => none
  | .cls _ => none
def isiB (t : String) (n : String) : Option Bool :=
  if n = "int" ∨ n = "bool" ∨ n = "str" ∨ n = "tuple" ∨ n = "list" ∨ n = "dict" then some (decide (t = n) || (decide (t = "bool") && decide (n = "int"))) else none
def isiD : TyD → D → Option Bool
  | .b t, .ty n => isiB t n
  | .own _, .ty n => if n = "int" ∨ n = "bool" ∨ n = "str" ∨ n = "tuple" ∨ n = "list" ∨ n = "dict" then some false else none
  | .b _, .cls _ => some false
  | .own c, .cls c' => some (decide (c = c'))
  | _, _ => none
def rcIsi : DCl := fun ds M Q => match ds with
  | [x, c] => match tyD M x with
    | some t => match isiD t c with
      | some b => Q (.bl b) M
      | none => False
    | none => False
  | _ => False
def knownT (t : String) : Prop := t = "NoneType" ∨ t = "bool" ∨ t = "int" ∨ t = "str" ∨ t = "tuple" ∨ t = "list" ∨ t = "dict"
theorem isiB_ok {K : PySem.W.Frag} {t n : String} {b : Bool} (ht : knownT t) (h : isiB t n = some b) : PySem.W.kitOne K (.type t) (.type n) = some b := by
  apply kit_ty
  unfold isiB at h
  split at h
  · rename_i hn
    cases h
    rcases ht with rfl | rfl | rfl | rfl | rfl | rfl | rfl <;> rcases hn with rfl | rfl | rfl | rfl | rfl | rfl <;> decide +kernel
  · cases h
theorem mro_known {t : String} (ht : knownT t) : ∃ l, PySem.fastBuiltinMro t = some l ∧ l.all (fun v => match v with | .type _ => true | _ => false) = true := by
  rcases ht with rfl | rfl | rfl | rfl | rfl | rfl | rfl <;> exact ⟨_, rfl, by decide +kernel⟩
theorem cls_parts {S : SE} {c : Str} {C : Addr} (h : ClsAt S c C) : (∃ cd, PySem.W.clsIn S.K C = some cd ∧ cd.mro = [.ref C, .type "object"]) ∧ PySem.W.typeIn S.K (.ref C) = some (.type "type") ∧
    PySem.W.findIn S.K (.ref C) "__class__" = some (some (.builtin "object.__class__")) ∧ PySem.W.specialIn S.K (.builtin "object.__class__") "__get__" = some (some (.builtin "getset_descriptor.__get__")) ∧
    PySem.W.takesIn S.K (.builtin "object.__class__") = some true := by
  have k := h.ok
  unfold clsOkB at k
  simp only [Bool.and_eq_true, beq_iff_eq] at k
  obtain ⟨⟨⟨⟨⟨⟨⟨⟨⟨⟨k1, k2⟩, k3⟩, k4⟩, k5⟩, k6⟩, k7⟩, k8⟩, k9⟩, k10⟩, k11⟩ := k
  refine ⟨?_, k11, k7, k8, k9⟩
  split at k10
  · rename_i cd e
    exact ⟨cd, e, beq_iff_eq.mp k10⟩
  · cases k10
theorem cls_mro {S : SE} {c : Str} {C : Addr} (h : ClsAt S c C) (b : Value) : PySem.W.mroIn S.K C b = some ([Value.ref C, .type "object"].contains b) := by
  obtain ⟨⟨cd, h1, h2⟩, _⟩ := cls_parts h
  unfold PySem.W.mroIn
  rw [h1, Option.bind_some, h2]
  rfl
theorem isi_own {S : SE} {c : Str} {C : Addr} (h : ClsAt S c C) {n : String} (hn : n = "int" ∨ n = "bool" ∨ n = "str" ∨ n = "tuple" ∨ n = "list" ∨ n = "dict") : PySem.W.kitOne S.K (.ref C) (.type n) = some false := by
  unfold PySem.W.kitOne
  rw [if_neg (by simp)]
  unfold PySem.W.kitCls
  have e1 : PySem.W.kitMeta n = true := by rcases hn with rfl | rfl | rfl | rfl | rfl | rfl <;> decide +kernel
  have e2 : PySem.W.subIn S.K (.ref C) (.type n) = some false := by
    show PySem.W.mroIn S.K C (.type n) = _
    rw [cls_mro h]
    rcases hn with rfl | rfl | rfl | rfl | rfl | rfl <;> rfl
  simp only [e1, if_true, e2]
theorem isi_cls {S : SE} {c : Str} {C : Addr} (h : ClsAt S c C) (t : Value) (r : Bool) (hr : PySem.W.subIn S.K t (.ref C) = some r) (hne : t = .ref C → r = true) : PySem.W.kitOne S.K t (.ref C) = some r := by
  obtain ⟨⟨cd, h1, h2⟩, h3, _⟩ := cls_parts h
  unfold PySem.W.kitOne
  by_cases e : t = .ref C
  · rw [if_pos (by rw [e]; exact beq_self_eq_true _), hne e]
  · rw [if_neg (by intro z; exact e (beq_iff_eq.mp z))]
    unfold PySem.W.kitCls
    simp only [h1, h3, Option.isSome_some, beq_self_eq_true, Bool.and_self, if_true]
    exact hr
section
variable {X : Cx} {F0 : Hp} {pos : Pos}
theorem tyD_known {M : Store} {d : D} {t : String} (h : tyD M d = some (.b t)) : knownT t := by
  unfold tyD at h
  unfold knownT
  split at h <;> first
    | (cases h; simp; done)
    | (cases h; done)
    | (split at h <;> first | (cases h; simp; done) | (cases h; done))
theorem tyX_of {S : SE} {F H : Hp} {M : Store} {d : D} {v : V} (g : Good S F M H) (r : Rep S F v d) : ∀ t, tyD M d = some t → match t with
    | .b n => TyX S.K H v (.type n)
    | .own c => ∃ C, ClsAt S c C ∧ TyX S.K H v (.ref C) := by
  intro t h
  have own : ∀ {a C dx vs c}, H a = some (.ins C dx vs) → ClsAt S c C → ∃ C, ClsAt S c C ∧ TyX S.K H (.ref a) (.ref C) := fun {a C dx vs c} e hc => by
    obtain ⟨_, h3, h4, h5, h6⟩ := cls_parts hc
    exact ⟨C, hc, .base (.ins e hc.cls h4 h5 h6 (by rw [cls_mro hc]; simp))⟩
  have dct : ∀ {a kvs}, Rd H a (.dK kvs) → TyX S.K H (.ref a) (.type "dict") := fun {a kvs} e => by
    rcases e with e | ⟨o, e⟩
    · exact .base (.dK e)
    · exact .fDict e
  cases r with
  | non => cases h; exact .base .non
  | bl b => cases h; exact .base (.bl b)
  | int b => cases h; exact .base (.int b)
  | str b => cases h; exact .base (.str b)
  | ty n => cases h
  | cls n => cases h
  | tup q r =>
    cases h
    rcases q with (q | ⟨o, q⟩) | ⟨o, its, n, q, c, _⟩
    · exact .base (.tup (g.sub _ _ q))
    · exact .fTuple (g.sub _ _ q)
    · exact .kTuple q c
  | lst q r => cases h; exact .base (.lst (g.sub _ _ q))
  | fro q r =>
    cases h
    rcases q with (q | ⟨o, q⟩) | ⟨o, its, n, q, c, _⟩
    · exact .base (.lst (g.sub _ _ q))
    · exact .base (.frz (g.sub _ _ q))
    · exact .kList q c
  | dctK q r => cases h; exact dct (g.rd q)
  | obj q hc r => cases h; exact own (g.sub _ _ q) hc
  | ref a =>
    unfold tyD at h
    simp only at h
    split at h
    · rename_i e
      cases h
      obtain ⟨_, o, e, q⟩ := g.cel _ _ e
      cases q with
      | lst r => exact .base (.lst e)
    · rename_i e
      cases h
      obtain ⟨_, o, e, q⟩ := g.cel _ _ e
      cases q with
      | dctK r => exact .base (.dK e)
    · rename_i e
      cases h
      obtain ⟨_, o, e, q⟩ := g.cel _ _ e
      cases q with
      | ins hc r => exact own e hc
    · cases h
theorem cls_inj {S : SE} {c c' : Str} {C : Addr} (h : ClsAt S c C) (h' : ClsAt S c' C) : c = c' := by
  have a := h.nm
  have b := h'.nm
  unfold clsNmB at a b
  split at a
  · rename_i cd e
    rw [e] at b
    exact (beq_iff_eq.mp a).symm.trans (beq_iff_eq.mp b)
  · cases a
theorem isi_sub {K : PySem.W.Frag} {t : String} {C : Addr} {l : List Value} (hl : PySem.fastBuiltinMro t = some l) (ha : l.all (fun v => match v with | .type _ => true | _ => false) = true) : PySem.W.subIn K (.type t) (.ref C) = some false := by
  show (PySem.fastBuiltinMro t).map (·.contains (.ref C)) = _
  rw [hl]
  show some (l.contains (.ref C)) = _
  congr 1
  rw [Bool.eq_false_iff]
  intro z
  have := List.all_eq_true.mp ha _ (List.contains_iff_mem.mp z)
  cases this
theorem clsV_of {S : SE} {F : Hp} {v : V} {d : D} (r : Rep S F v d) : (∀ n, d = .ty n → ClsV v (.type n)) ∧ (∀ c, d = .cls c → ∃ C, ClsAt S c C ∧ ClsV v (.ref C)) := by
  refine ⟨fun n e => ?_, fun c e => ?_⟩
  · subst e; cases r; exact .ty n
  · subst e
    cases r with
    | cls h => exact ⟨_, h, .own _⟩
theorem isi_row {S : SE} {F H : Hp} {M : Store} {d d2 : D} {v v2 : V} {ty : TyD} {b : Bool} (g : Good S F M H) (rx : Rep S F v d) (rc : Rep S F v2 d2) (ety : tyD M d = some ty) (eb : isiD ty d2 = some b) : ∃ t u, ClsV v2 u ∧ TyX S.K H v t ∧ PySem.W.kitOne S.K t u = some b := by
  have TX := tyX_of g rx _ ety
  have CV := clsV_of rc
  cases ty with
  | b n =>
    cases d2 with
    | ty m => exact ⟨_, _, CV.1 m rfl, TX, isiB_ok (tyD_known ety) eb⟩
    | cls c' =>
      cases eb
      obtain ⟨C, hc, cv⟩ := CV.2 _ rfl
      obtain ⟨l, hl, ha⟩ := mro_known (tyD_known ety)
      exact ⟨_, _, cv, TX, isi_cls hc _ _ (isi_sub hl ha) (fun z => nomatch z)⟩
    | _ => cases eb
  | own c =>
    obtain ⟨C, hc, tx⟩ := TX
    cases d2 with
    | ty m =>
      have eb' : (if m = "int" ∨ m = "bool" ∨ m = "str" ∨ m = "tuple" ∨ m = "list" ∨ m = "dict" then some false else none) = some b := eb
      split at eb'
      · rename_i hm
        cases eb'
        exact ⟨_, _, CV.1 m rfl, tx, isi_own hc hm⟩
      · cases eb'
    | cls c' =>
      cases eb
      obtain ⟨C', hc', cv⟩ := CV.2 _ rfl
      refine ⟨_, _, cv, tx, isi_cls hc' _ _ ?_ ?_⟩
      · show PySem.W.mroIn _ C (.ref C') = _
        rw [cls_mro hc]
        by_cases e : c = c'
        · subst e
          have := hc.mg.symm.trans hc'.mg
          cases this
          simp
        · have hne : C' ≠ C := fun z => e (cls_inj (z ▸ hc') hc).symm
          simp [e, hne]
      · intro z
        cases z
        exact decide_eq_true (cls_inj hc hc')
    | _ => cases eb
theorem dc_isi : DCallR X F0 (.builtin "isinstance") rcIsi := by
  intro pins s σ H xs us Q I r ⟨ds, M, F, P, l0, g, rs, t, k⟩
  unfold rcIsi at t
  split at t
  · cases rs with
    | cons rx rt =>
      cases rt with
      | cons rc rz =>
        cases rz
        split at t
        · rename_i ty ety
          split at t
          · rename_i b eb
            obtain ⟨t1, u1, h1, h2, h3⟩ := isi_row g rx rc ety eb
            exact call_isi pins s σ H _ us Q I r ⟨_, _, t1, u1, b, rfl, h1, h2, h3, k _ _ M F H (Le.refl F) g (.bl b) t⟩
          · exact t.elim
        · exact t.elim
  · exact t.elim
end
end DL


set_option Elab.async false
set_option linter.all false
set_option maxRecDepth 100000
namespace DL
open PySem PySem.Spec PyProof.Rows L2

/-! ### methods of lists -/
abbrev DMt := D → List D → Store → (D → Store → Prop) → Prop
def lowMt (S : SE) (F0 : Hp) (rd : DMt) : V → List V → Hp → VK → Prop := fun x xs H Q => ∃ d ds M F P, Le F0 F ∧ Good S F M H ∧ Rep S F x d ∧ Reps S F xs ds ∧ rd d ds M P ∧ ∀ v d M' F' H', Le F F' → Good S F' M' H' → Rep S F' v d → P d M' → Q v H'
def DMtR (X : Cx) (F0 : Hp) (id : String) (rd : DMt) : Prop := MtR X id (lowMt (Cx.se X) F0 rd)
def isLM (M : Store) (d : D) : Prop := match d with
  | .ref a => match M a with
    | some (.lst _) => True
    | _ => False
  | .lst _ => True
  | .fro _ => True
  | _ => False
def dMt (rd : DMt) (to : DTE) (ta : DTA) : DTE := fun ρ M Q => to ρ M fun x M1 => isLM M1 x ∧ ta ρ M1 fun ds M2 => rd x ds M2 Q
def rmAppend : DMt := fun x ds M Q => match x, ds with
  | .ref a, [y] => match M a with
    | some (.lst xs) => xs.length < sizeLine ∧ Q .non (updM M a (.lst (xs ++ [y])))
    | _ => False
  | _, _ => False
def rmReverse : DMt := fun x ds M Q => match x, ds with
  | .ref a, [] => match M a with
    | some (.lst xs) => Q .non (updM M a (.lst xs.reverse))
    | _ => False
  | _, _ => False
def rmPop : DMt := fun x ds M Q => match x, ds with
  | .ref a, [] => match M a with
    | some (.lst xs) => match xs[xs.length - 1]? with
      | some y => Q y (updM M a (.lst xs.dropLast))
      | none => False
    | _ => False
  | _, _ => False
theorem Reps.dropLast {S : SE} {F : Hp} : ∀ {vs : List V} {ds : List D}, Reps S F vs ds → Reps S F vs.dropLast ds.dropLast
  | _, _, .nil => .nil
  | [_], _, .cons _ .nil => .nil
  | _ :: _ :: _, _, .cons r (.cons q t) => .cons r (Reps.dropLast (.cons q t))
section
variable {X : Cx} {F0 : Hp} {pos : Pos} {o e : Expr} {es : List Expr} {to : DTE} {ta : DTA} {name : Str} {apos cpos : Pos} {id : String} {rd : DMt}
theorem isLM_ty {S : SE} {F H : Hp} {M : Store} {v : V} {d : D} (g : Good S F M H) (r : Rep S F v d) (h : isLM M d) : tyV S.K "list" v H := by
  unfold isLM at h
  cases d with
  | ref a =>
    cases r
    simp only at h
    split at h
    · rename_i xs e
      obtain ⟨_, o, e2, q⟩ := g.cel _ _ e
      cases q with
      | lst rs => exact .inl ⟨rfl, _, .inl (.inl e2)⟩
    · exact h.elim
  | lst es =>
    cases r with
    | lst hq rs => exact .inl ⟨rfl, _, .inl (.inl (g.sub _ _ hq))⟩
  | fro es =>
    cases r with
    | fro hq rs => exact .inl ⟨rfl, _, g.sqL hq⟩
  | _ => exact h.elim
theorem de_m (slot : Slot "list" name id) (hty : typeOf (.builtin id) = pure (.type "method_descriptor")) (hm : DMtR X F0 id rd) (ho : DE X F0 o to) (ha : DA X F0 (e :: es) ta)
    (hbase : attributeBase o name X.env (eval o X.env) = eval o X.env := by rfl)
    (hfew : ((backTo cpos (starEach (e :: es) X.env)).all (fun x => !x.1) && (backToKw cpos (keywordEach [] X.env)).all (fun x => x.1.isSome)
      && decide ((e :: es).length + ([] : List Keyword).length + (if ([] : List Keyword).isEmpty then 0 else 1) < 30)) = true := by rfl)
    (hline : (apos.endLine == cpos.line) = true := by rfl) (hs : starEach (e :: es) X.env = (false, eval e X.env) :: starEach es X.env := by rfl) (hplain : (backTo cpos (starEach es X.env)).any (·.1) = false := by rfl) :
    DE X F0 (.Call (.Attribute o name apos) (e :: es) [] cpos) (dMt rd to ta) := by
  refine ⟨PE.weak (pe_bm F.plainAttrs_list slot hty hm ho.pe ha.pa hbase hfew hline hs hplain) fun σ H Q ⟨ρ, M, F, P, l0, sl, g, t, k⟩ => ?_⟩
  exact ⟨ρ, M, F, _, l0, sl, g, t, fun v d M1 F1 H1 l1 g1 r1 p1 => ⟨isLM_ty g1 r1 p1.1, ρ, M1, F1, _, l0.trans l1, sl.mono l1, g1, p1.2, fun vs ds M2 F2 H2 l2 g2 r2 p2 =>
    ⟨d, ds, M2, F2, P, l0.trans (l1.trans l2), g2, r1.mono l2, r2, p2, fun v' d' M' F' H' l' => k v' d' M' F' H' ((l1.trans l2).trans l')⟩⟩⟩
theorem de_m0 (slot : Slot "list" name id) (hty : typeOf (.builtin id) = pure (.type "method_descriptor")) (hm : DMtR X F0 id rd) (ho : DE X F0 o to)
    (hbase : attributeBase o name X.env (eval o X.env) = eval o X.env := by rfl) (hline : (apos.endLine == cpos.line) = true := by rfl) :
    DE X F0 (.Call (.Attribute o name apos) [] [] cpos) (dMt rd to daNil) := by
  refine ⟨PE.weak (pe_bm0 F.plainAttrs_list slot hty hm ho.pe hbase hline) fun σ H Q ⟨ρ, M, F, P, l0, sl, g, t, k⟩ => ?_⟩
  exact ⟨ρ, M, F, _, l0, sl, g, t, fun v d M1 F1 H1 l1 g1 r1 p1 => ⟨isLM_ty g1 r1 p1.1, d, [], M1, F1, P, l0.trans l1, g1, r1, .nil, p1.2, fun v' d' M' F' H' l' => k v' d' M' F' H' (l1.trans l')⟩⟩
theorem dm_append : DMtR X F0 "list.append" rmAppend := by
  intro pins s σ H x xs v us Q I rx rxs ⟨d, ds, M, F, P, l0, g, rd, rs, t, k⟩
  refine mt_append pins s σ H x xs v us Q I rx rxs ?_
  unfold rmAppend at t
  split at t
  · split at t
    · rename_i e
      obtain ⟨_, o, e2, q⟩ := g.cel _ _ e
      cases q with
      | lst r =>
        cases rd
        cases rs with
        | cons ry rz =>
          cases rz
          exact ⟨_, _, _, rfl, rfl, e2, by rw [r.len]; exact t.1, k _ _ _ F _ (Le.refl F) (g.set e (.lst (r.append (.cons ry .nil)))) .non t.2⟩
    · exact t.elim
  · exact t.elim
theorem dm_reverse : DMtR X F0 "list.reverse" rmReverse := by
  intro pins s σ H x xs v us Q I rx rxs ⟨d, ds, M, F, P, l0, g, rd, rs, t, k⟩
  refine mt_reverse pins s σ H x xs v us Q I rx rxs ?_
  unfold rmReverse at t
  split at t
  · split at t
    · rename_i e
      obtain ⟨_, o, e2, q⟩ := g.cel _ _ e
      cases q with
      | lst r =>
        cases rd
        cases rs
        exact ⟨_, _, rfl, rfl, e2, k _ _ _ F _ (Le.refl F) (g.set e (.lst r.reverse)) .non t⟩
    · exact t.elim
  · exact t.elim
theorem dm_pop : DMtR X F0 "list.pop" rmPop := by
  intro pins s σ H x xs v us Q I rx rxs ⟨d, ds, M, F, P, l0, g, rd, rs, t, k⟩
  refine mt_pop pins s σ H x xs v us Q I rx rxs ?_
  unfold rmPop at t
  split at t
  · split at t
    · rename_i e
      obtain ⟨_, o, e2, q⟩ := g.cel _ _ e
      cases q with
      | lst r =>
        cases rd
        cases rs
        split at t
        · rename_i y ey
          obtain ⟨v', ev, rv⟩ := r.get ey
          exact ⟨_, _, v', rfl, rfl, e2, by rw [r.len]; exact ev, k _ _ _ F _ (Le.refl F) (g.set e (.lst r.dropLast)) rv t⟩
        · exact t.elim
    · exact t.elim
  · exact t.elim
theorem de_append (ho : DE X F0 o to) (ha : DA X F0 [e] ta) (hbase : attributeBase o "append" X.env (eval o X.env) = eval o X.env := by rfl)
    (hfew : ((backTo cpos (starEach [e] X.env)).all (fun x => !x.1) && (backToKw cpos (keywordEach [] X.env)).all (fun x => x.1.isSome)
      && decide ([e].length + ([] : List Keyword).length + (if ([] : List Keyword).isEmpty then 0 else 1) < 30)) = true := by rfl)
    (hline : (apos.endLine == cpos.line) = true := by rfl) (hs : starEach [e] X.env = (false, eval e X.env) :: starEach [] X.env := by rfl) (hplain : (backTo cpos (starEach [] X.env)).any (·.1) = false := by rfl) :
    DE X F0 (.Call (.Attribute o "append" apos) [e] [] cpos) (dMt rmAppend to ta) := de_m F.slot_list_append F.type_list_append dm_append ho ha hbase hfew hline hs hplain
theorem de_reverse (ho : DE X F0 o to) (hbase : attributeBase o "reverse" X.env (eval o X.env) = eval o X.env := by rfl) (hline : (apos.endLine == cpos.line) = true := by rfl) :
    DE X F0 (.Call (.Attribute o "reverse" apos) [] [] cpos) (dMt rmReverse to daNil) := de_m0 F.slot_list_reverse F.type_list_reverse dm_reverse ho hbase hline
theorem de_pop (ho : DE X F0 o to) (hbase : attributeBase o "pop" X.env (eval o X.env) = eval o X.env := by rfl) (hline : (apos.endLine == cpos.line) = true := by rfl) :
    DE X F0 (.Call (.Attribute o "pop" apos) [] [] cpos) (dMt rmPop to daNil) := de_m0 F.slot_list_pop F.type_list_pop dm_pop ho hbase hline
end

/-! ### sorted, repr -/
def encD (d : D) : PyData := (toP d).getD .none
def rcSorted : DCl := fun ds M Q => match ds with
  | [x] => match asR M x with
    | some xs => (∃ es, toPs xs = some es ∧ PySem.W.AllAlike es ∧ PySem.W.Sortable es ∧ ∀ e ∈ es, e.depth ≤ 32) ∧ Q (.lst (xs.mergeSort (PySem.W.dataLe false encD))) M
    | none => False
  | _ => False
theorem toPs_cons {x : D} {xs : List D} {es : List PyData} (h : toPs (x :: xs) = some es) : ∃ e fs, toP x = some e ∧ toPs xs = some fs ∧ es = e :: fs := by
  simp only [toPs] at h
  split at h
  · rename_i e fs h1 h2
    exact ⟨e, fs, h1, h2, (Option.some.inj h).symm⟩
  · cases h
theorem toPs_enc : ∀ {xs : List D} {es : List PyData}, toPs xs = some es → es = xs.map encD
  | [], es, h => by cases h; rfl
  | x :: xs, es, h => by
    obtain ⟨e, fs, h1, h3, rfl⟩ := toPs_cons h
    rw [toPs_enc h3, List.map_cons]
    congr 1
    unfold encD
    rw [h1]; rfl
section
variable {X : Cx} {F0 : Hp} {pos : Pos}
theorem each_of {S : SE} {F : Hp} : ∀ {vs : List V} {ds : List D} {us : List Value}, Reps S F vs ds → Vals vs us → PySem.W.EachIs (fun u d => ∃ v, RelV v u ∧ Rep S F v d) us ds
  | _, _, _, .nil, .nil => .nil
  | _, _, _, .cons r t, .cons q u => .cons ⟨_, q, r⟩ (each_of t u)
theorem of_each {S : SE} {F : Hp} : ∀ {us : List Value} {ds : List D}, PySem.W.EachIs (fun u d => ∃ v, RelV v u ∧ Rep S F v d) us ds → ∃ vs, Vals vs us ∧ Reps S F vs ds
  | _, _, .nil => ⟨[], .nil, .nil⟩
  | _, _, .cons ⟨v, a, b⟩ t => by
    obtain ⟨vs, h1, h2⟩ := of_each t
    exact ⟨v :: vs, .cons a h1, .cons b h2⟩
theorem each_reads {pins : List (Addr × Obj)} {σ : L2.St} {H : Hp} {s : Shared} (I : Inv X pins σ H s) {M : Store} {F : Hp} (g : Good (Cx.se X) F M H) : ∀ {vs : List V} {ds : List D} {us : List Value} {es : List PyData}, Reps (Cx.se X) F vs ds → Vals vs us → toPs ds = some es →
    PySem.W.EachIs (fun u d => ∃ as, Reads s.heap u (encD d) as) us ds
  | _, _, _, _, .nil, .nil, _ => .nil
  | _, d :: ds, _, es, .cons r t, .cons q u, h => by
    obtain ⟨e, fs, h1, h3, rfl⟩ := toPs_cons h
    refine .cons ?_ (each_reads I g t u h3)
    have ee : encD d = e := by unfold encD; rw [h1]; rfl
    rw [ee]
    exact Dp.reads I e _ _ (rep_toP g r h1) q
theorem dc_sorted {k : Nat} (hr : Room k X.A) : DCallR X F0 (.builtin "sorted") rcSorted := by
  intro pins s σ H xs us Q I r ⟨ds, M, F, P, l0, g, rs, t, k⟩
  unfold rcSorted at t
  split at t
  · cases rs with
    | cons rx rz =>
      cases rz
      split at t
      · rename_i ys ey
        obtain ⟨⟨es, h1, h2, h3, h4⟩, t⟩ := t
        obtain ⟨a, vs, rfl, hq, ry⟩ := asR_at g rx ey
        obtain ⟨its, rv, p, hz⟩ := I.list hq
        rw [Vals.ref1 r]
        have ee := toPs_enc h1
        subst ee
        refine PySem.W.sorted_data (enc := encD) (R := fun u d => ∃ v, RelV v u ∧ Rep (Cx.se X) F v d) p.isList (each_of ry rv) (each_reads I g ry rv h1) h2 h3 (by rw [← ry.len]; exact hz) (fun b hb => ?_) fun out ho eo => ?_
        · have := h4 _ (List.mem_map.mpr ⟨b, hb, rfl⟩)
          have := hr.units
          omega
        · obtain ⟨ws, w1, w2⟩ := of_each eo
          obtain ⟨ep, he'⟩ := PyProof.Rows.sortedAll_at s.heap its out.toArray
          have hn := I.hok.fresh (Nat.le_succ s.heap.objs.size)
          have hlen : ws.length ≤ sizeLine := by rw [w2.len, List.length_mergeSort, ← ry.len]; exact hz
          refine ⟨.ref _, upd H (s.heap.objs.size + 1) (.lst ws), I.laid (t' := s.toks) (fun _ _ => PyProof.Rows.sortedAll_old) (Nat.le_succ _) ⟨hlen, out, ep, w1, he'⟩, rfl, ?_⟩
          exact k _ _ M _ _ (Le.new (g.freshF hn)) (g.new hn) (.lst upd_same (w2.mono (Le.new (g.freshF hn)))) t
      · exact t.elim
  · exact t.elim
def showD : D → Prop
  | .tup _ | .lst _ | .ref _ | .fro _ | .int _ | .bl _ | .non => True
  | _ => False
def rcRepr : DCl := fun ds M Q => match ds with
  | [x] => match toPM M x with
    | some d => showD x ∧ d.showable = true ∧ d.hasDict = false ∧ d.shown.length ≤ sizeLine ∧ d.depth ≤ 32 ∧ Q (.str d.shown) M
    | none => False
  | _ => False
theorem dc_repr {k : Nat} (hr : Rm k X.A) : DCallR X F0 (.builtin "repr") rcRepr := by
  intro pins s σ H xs us Q I r ⟨ds, M, F, P, l0, g, rs, t, k⟩
  cases rs with
  | nil => exact t.elim
  | @cons v0 x vs0 ds0 rx rz =>
    cases rz with
    | cons _ _ => exact t.elim
    | nil =>
      unfold rcRepr at t
      simp only at t
      split at t
      · rename_i d ed
        obtain ⟨t0, t1, t2, t3, t4, t⟩ := t
        obtain ⟨u, rfl, ru⟩ := r.one
        obtain ⟨as, hR⟩ := Dp.reads I d _ _ (rep_toPM g rx ed) ru
        have byref : ∀ a, u = .ref a → wpAny (model X.prog X.w) X.A (call (.builtin "repr") [u]) (EP X pins σ Q) X.xe s := fun a eu => by
          subst eu
          refine PySem.repr_of_reads' hR t1 (PyData.noDict_hsm t2) hr.gd (by have := hr.room.units; omega) (fun _ _ e => e) (fun h' u' tk hk => ?_) t3
          exact ⟨.str d.shown, H, I.kept hk, ⟨u', rfl⟩, k _ _ M F H (Le.refl F) g (.str _) t⟩
        cases x with
        | tup => cases rx; exact byref _ ru
        | lst => cases rx; exact byref _ ru
        | ref => cases rx; exact byref _ ru
        | fro => cases rx; exact byref _ ru
        | int i =>
          cases rx
          have e : d = .int i := by
            have : some (PyData.int i) = some d := ed
            cases this; rfl
          subst e
          refine SkE.call_repr_int pins s σ H _ _ Q I (.cons ru .nil) ⟨i, rfl, of_decide_eq_true t1, k _ _ M F H (Le.refl F) g (.str _) t⟩
        | bl b =>
          cases rx
          have e : d = .bool b := by
            have : some (PyData.bool b) = some d := ed
            cases this; rfl
          subst e
          have e2 : (PyData.bool b).shown = if b = true then Str.ofString "True" else Str.ofString "False" := by cases b <;> rfl
          cases ru
          rw [e2] at t
          exact PySem.P.repr_of_bool ⟨.str _, H, I.tok _, ⟨_, rfl⟩, k _ _ M F H (Le.refl F) g (.str _) t⟩
        | non =>
          cases rx
          have e : d = .none := by
            have : some PyData.none = some d := ed
            cases this; rfl
          subst e
          cases ru
          exact PySem.P.repr_of_none ⟨.str _, H, I.tok _, ⟨_, rfl⟩, k _ _ M F H (Le.refl F) g (.str _) t⟩
        | _ => exact t0.elim
      · exact t.elim
end
end DL


set_option Elab.async false
set_option linter.all false
set_option maxRecDepth 100000
namespace DL
open PySem PySem.Spec PyProof.Rows L2

/-! ### list comprehensions -/
theorem iteF' {A B : Prop} (h : if false = true then A else B) : B := by simpa using h
theorem iteT' {A B : Prop} (h : if true = true then A else B) : A := by simpa using h
theorem wipe_sub {σ : L2.St} {vs : List Nat} : ∀ {ws : List Nat}, (∀ w ∈ ws, w ∈ vs) → L2.wipe (L2.wipe σ ws) vs = L2.wipe σ vs
  | [], _ => rfl
  | w :: ws, h => by
    show L2.wipe ((L2.wipe σ ws).set w none) vs = _
    rw [wipe_set (h w List.mem_cons_self)]
    exact wipe_sub fun x hx => h x (List.mem_cons_of_mem _ hx)
theorem wipe_wipe (σ : L2.St) (vs : List Nat) : L2.wipe (L2.wipe σ vs) vs = L2.wipe σ vs := wipe_sub fun _ h => h
structure DIfs (X : Cx) (F0 : Hp) (ifs : List Expr) (t : DTT) : Prop where
  pts : PTs X ifs (low (Cx.se X) F0 eqB t)
def dYes : DTT := fun _ M Q => Q true M
theorem PTs.weak {X : Cx} {ifs : List Expr} {t u : TT} (h : PTs X ifs t) (k : ∀ σ H Q, u σ H Q → t σ H Q) : PTs X ifs u := ⟨fun pins s σ H Q I q => h.run pins s σ H Q I (k _ _ _ q)⟩
theorem difs_nil {X : Cx} {F0 : Hp} : DIfs X F0 [] dYes := ⟨PTs.weak pts_nil fun σ H Q ⟨ρ, M, F, P, l0, sl, g, t, k⟩ => k true true M F H (Le.refl F) g rfl t⟩
theorem difs_one {X : Cx} {F0 : Hp} {c : Expr} {t : DTT} (h : DT X F0 c t) : DIfs X F0 [c] t := ⟨pts_one h.pt⟩
def dLcLoop (L : Store → Prop) (g : DTG) (tt : DTT) (te : DTE) (p : Addr) (ρ : Ro) : List D → List D → Store → (List D → Store → Prop) → Prop
  | [], acc => fun M Q => L (updM M p (.lst acc)) ∧ Q acc M
  | d :: ds, acc => fun M Q => L (updM M p (.lst acc)) ∧ g d ρ (updM M p (.lst acc)) fun ρ2 M2 => tt ρ2 M2 fun b M3 =>
    if b = true then te ρ2 M3 fun y M4 => ∃ M5, M4 = updM M5 p (.lst acc) ∧ M5 p = none ∧ acc.length < sizeLine ∧ dLcLoop L g tt te p ρ ds (acc ++ [y]) M5 Q
    else ∃ M5, M3 = updM M5 p (.lst acc) ∧ M5 p = none ∧ dLcLoop L g tt te p ρ ds acc M5 Q
def dLc (ti : DTI) (g : DTG) (tt : DTT) (te : DTE) (vs : List Nat) : DTE := fun ρ M Q => ti ρ M fun ds L M1 => ∀ p, M1 p = none → dLcLoop L g tt te p (wipeR ρ vs) ds [] M1 fun out M2 => Q (.lst out) M2
section
variable {X : Cx} {F0 : Hp} {pos : Pos}
theorem low_lc {own : List (Str × Nat)} {ti : DTI} {g : DTG} {tt : DTT} {te : DTE} (hne : own ≠ []) {σ : L2.St} {H : Hp} {Q : VK} (h : low (Cx.se X) F0 (fun F => Rep (Cx.se X) F) (dLc ti g tt te (own.map (·.2))) σ H Q) :
    tLc (lowI (Cx.se X) F0 ti) (lowG (Cx.se X) F0 (own.map (·.2)) g) (low (Cx.se X) F0 eqB tt) (low (Cx.se X) F0 (fun F => Rep (Cx.se X) F) te) (own.map (·.2)) σ H Q := by
  have hvs : own.map (·.2) ≠ [] := fun z => hne (List.map_eq_nil_iff.mp z)
  obtain ⟨ρ, M, F, P, l0, sl, gd, t, k⟩ := h
  refine ⟨ρ, M, F, _, l0, sl, gd, t, fun ds L J M1 F1 H1 l1 g1 wk p1 D hD => ?_⟩
  have p1' := p1 D (g1.freshM hD)
  refine ⟨fun i m H' => ∃ acc M' F', Le F1 F' ∧ Good (Cx.se X) F' (updM M' D (.lst acc)) H' ∧ M' D = none ∧ dLcLoop L g tt te D (wipeR ρ (own.map (·.2))) (ds.drop i) acc M' (fun out M2 => P (.lst out) M2) ∧ i ≤ ds.length ∧ m = ds.length - i,
    ⟨ds.length, [], M1, F1, Le.refl F1, g1.newM hD (.lst .nil), g1.freshM hD, p1', Nat.zero_le _, rfl⟩, fun i m H' ⟨acc, M', F', l', g', hM', q, hi', hm⟩ => ?_⟩
  by_cases hlt : i < ds.length
  · right
    have hd : ds.drop i = ds[i] :: ds.drop (i + 1) := List.drop_eq_getElem_cons hlt
    rw [hd] at q
    obtain ⟨w1, _⟩ := wk i H' F' _ l' g' q.1
    obtain ⟨go, yl⟩ := w1 hlt
    refine ⟨go, fun H2 => ∃ acc2 M2 F2, Le F1 F2 ∧ Good (Cx.se X) F2 (updM M2 D (.lst acc2)) H2 ∧ M2 D = none ∧ dLcLoop L g tt te D (wipeR ρ (own.map (·.2))) (ds.drop (i + 1)) acc2 M2 (fun out M2 => P (.lst out) M2),
      fun H2 ⟨acc2, M2, F2, a1, a2, a3, a4⟩ => ⟨m - 1, by omega, acc2, M2, F2, a1, a2, a3, a4, hlt, by omega⟩, fun x H2 y => ?_⟩
    obtain ⟨F2, d, l2, g2, ed, rd⟩ := yl x H2 y
    have ed' : d = ds[i] := by rw [List.getElem?_eq_getElem hlt] at ed; exact (Option.some.inj ed).symm
    subst ed'
    have L02 : Le F0 F2 := l0.trans (l1.trans (l'.trans l2))
    refine ⟨_, wipeR ρ (own.map (·.2)), _, F2, _, L02, rd, (sl.mono (l1.trans (l'.trans l2))).wipe _, g2, q.2, fun σ3 ρ3 M3 F3 H3 w3 l3 s3 g3 p3 => ?_⟩
    refine ⟨(w3 hvs).trans (wipe_wipe σ _), ρ3, M3, F3, _, L02.trans l3, s3, g3, p3, fun b b' M4 F4 H4 l4 g4 eb p4 => ?_⟩
    cases eb
    have L14 : Le F1 F4 := (l'.trans l2).trans (l3.trans l4)
    cases b with
    | false =>
      obtain ⟨M5, e5, n5, p5⟩ := iteF' p4
      subst e5
      exact iteF ⟨acc, M5, F4, L14, g4, n5, p5⟩
    | true =>
      refine iteT ⟨ρ3, M4, F4, _, (l0.trans l1).trans L14, s3.mono l4, g4, iteT' p4, fun v d M6 F6 H6 l6 g6 r6 p6 => ?_⟩
      obtain ⟨M5, e5, n5, z5, p5⟩ := p6
      subst e5
      obtain ⟨_, o, eo, ro⟩ := g6.cel D (.lst acc) updM_same
      cases ro with
      | lst rs =>
        refine ⟨_, eo, by rw [rs.len]; exact z5, _, M5, F6, L14.trans l6, ?_, n5, p5⟩
        have := g6.set (m := .lst (acc ++ [d])) updM_same (.lst (rs.append (.cons r6 .nil)))
        rw [updM_updM] at this
        exact this
  · left
    have hi2 : i = ds.length := by omega
    have hd : ds.drop i = [] := by rw [hi2]; exact List.drop_length
    rw [hd] at q
    refine ⟨(wk i H' F' _ l' g' q.1).2 hi2, ?_⟩
    obtain ⟨f, o, eo, ro⟩ := g'.cel D (.lst acc) updM_same
    cases ro with
    | lst rs =>
      have gz := g'.freeze updM_same eo
      rw [delM_updM hM'] at gz
      exact k _ _ M' _ H' ((l1.trans l').trans (Le.new f)) gz (.lst upd_same (rs.mono (Le.new f))) q.2
theorem de_lc {elt tg iter : Expr} {ifs : List Expr} {scope : Scope} {own : List (Str × Nat)} {ti : DTI} {g : DTG} {tt : DTT} {te : DTE} (hc : X.calm = true) (hN : X.N.Nodup) (hne : own ≠ []) (hi : DI X F0 tg iter ti) (ok : BlkOk X.N X.env.scope scope own)
    (hg : ∀ (s : Shared) (H : Hp) (C : Addr) (cl : List (Str × Addr)) (fp : List Addr), DG (X.blk s H scope (compEnvC scope cl C X.env) fp) F0 (own.map (·.2)) tg g)
    (ht : ∀ (s : Shared) (H : Hp) (C : Addr) (cl : List (Str × Addr)) (fp : List Addr), DIfs (X.blk s H scope (compEnvC scope cl C X.env) fp) F0 ifs tt)
    (he : ∀ (s : Shared) (H : Hp) (C : Addr) (cl : List (Str × Addr)) (fp : List Addr), DE (X.blk s H scope (compEnvC scope cl C X.env) fp) F0 elt te)
    (hs : ∀ x, foldedSetIterable iter X.env x = pure x := by intro _; rfl) : DE X F0 (.ListComp elt [⟨tg, iter, ifs, 0⟩] scope pos) (dLc ti g tt te (own.map (·.2))) := by
  exact ⟨PE.weak (pe_lc (g := lowG (Cx.se X) F0 (own.map (·.2)) g) (tt := low (Cx.se X) F0 eqB tt) (te := low (Cx.se X) F0 (fun F => Rep (Cx.se X) F) te) hc hN hi.pi ok (fun s H C cl fp => (hg s H C cl fp).pg) (fun s H C cl fp => (ht s H C cl fp).pts) (fun s H C cl fp => (he s H C cl fp).pe) hs) fun σ H Q q => low_lc hne q⟩
/-- name = [..] on one line, the name a local -/
theorem ds_setLc {i : Nat} {y : Str} {py spos : Pos} {elt tg iter : Expr} {ifs : List Expr} {scope : Scope} {own : List (Str × Nat)} {ti : DTI} {g : DTG} {tt : DTT} {te : DTE} (hc : X.calm = true) (hN : X.N.Nodup) (hy : X.N[i]? = some y) (hyl : X.env.scope.names.lookup y = some .local)
    (hsw : swapsWith (.ListComp elt [⟨tg, iter, ifs, 0⟩] scope pos) (some (.Name y py)) spos.line X.env = pure true) (hne : own ≠ []) (hi : DI X F0 tg iter ti) (ok : BlkOk X.N X.env.scope scope own)
    (hg : ∀ (s : Shared) (H : Hp) (C : Addr) (cl : List (Str × Addr)) (fp : List Addr), DG (X.blk s H scope (compEnvC scope cl C X.env) fp) F0 (own.map (·.2)) tg g)
    (ht : ∀ (s : Shared) (H : Hp) (C : Addr) (cl : List (Str × Addr)) (fp : List Addr), DIfs (X.blk s H scope (compEnvC scope cl C X.env) fp) F0 ifs tt)
    (he : ∀ (s : Shared) (H : Hp) (C : Addr) (cl : List (Str × Addr)) (fp : List Addr), DE (X.blk s H scope (compEnvC scope cl C X.env) fp) F0 elt te)
    (hs : ∀ x, foldedSetIterable iter X.env x = pure x := by intro _; rfl) : DS X F0 (.Assign [.Name y py] (.ListComp elt [⟨tg, iter, ifs, 0⟩] scope pos) spos) (dAsg (dLc ti g tt te (own.map (·.2))) (dgName i)) := by
  refine ⟨PS.weak (ps_setLc (g := lowG (Cx.se X) F0 (own.map (·.2)) g) (tt := low (Cx.se X) F0 eqB tt) (te := low (Cx.se X) F0 (fun F => Rep (Cx.se X) F) te) hc hN hy hyl hsw hi.pi ok (fun s H C cl fp => (hg s H C cl fp).pg) (fun s H C cl fp => (ht s H C cl fp).pts) (fun s H C cl fp => (he s H C cl fp).pe) hs) fun E σ H ⟨ρ, M, F, D, l0, sl, gd, t, k1, k2, k3, k4⟩ => ?_⟩
  exact low_lc hne ⟨ρ, M, F, _, l0, sl, gd, t, fun v d M1 F1 H1 l1 g1 r1 p1 => k1 _ _ M1 F1 H1 l1 ((sl.mono l1).set i r1) g1 p1⟩
end
end DL


set_option Elab.async false
set_option linter.all false
set_option maxRecDepth 100000
namespace DL
open PySem PySem.Spec PyProof.Rows L2

/-! ### an own == and != -/
section
variable {prog : Program} {w : World} {A : Around} {E : Value → Shared → Prop} {s : Shared} {K : PySem.W.Frag} {x C f : Addr} {ox : Obj} {od : Option Obj} {b : Value}
theorem objNe_K (hu : A.units < cLine) (X : K.In s.heap) (I : PySem.W.InstAt s.heap x ox C od) (hs : PySem.W.findIn K (.ref C) "__eq__" = some (some (.ref f))) (hf : PySem.W.isFn K (.ref f) = true) {Q : PySem.Fin → Shared → Prop}
    (h : wpAny (model prog w) A (call (.ref f) [.ref x, b]) (fun v s' => ∃ k, v = .bool k ∧ Q (.done (.ret (.bool (!k)))) s') E s) : wpAny (model prog w) A (Builtin.«object.__ne__» ⟨[.ref x, b], []⟩) Q E s := by
  unfold Builtin.«object.__ne__»
  repeat (first
    | with_reducible refine wpAny_cRoomFor hu ?_
    | (refine wpAny_bind (m := callSpecialIfBound? (.ref x) (Str.ofString "__eq__") [b])
        (PySem.W.ifBound_K X I hs hf (wpAny_mono h (fun v s' hr => by
          obtain ⟨k, rfl, hq⟩ := hr
          repeat (first | exact hq | exact wpAny_pure hq | exact wpAny_truthy_bool hq | (refine wpAny_bind (m := truthy (.bool _)) (wpAny_truthy_bool ?_)) | wp_step)) fun _ _ e => e)))
    | wp_step)
theorem ifBound_objNe {M : Model} {args : List Value} {Q : Option Value → Shared → Prop} (X : K.In s.heap) (I : PySem.W.InstAt s.heap x ox C od) (hs : PySem.W.findIn K (.ref C) "__ne__" = some (some (.builtin "object.__ne__")))
    (h : wpAny M A (call (.builtin "object.__ne__") (.ref x :: args)) (fun v => Q (some v)) E s) : wpAny M A (callSpecialIfBound? (.ref x) "__ne__" args) Q E s := by
  simp only [callSpecialIfBound?, bindSpecialIfBound?]
  refine wpAny_holding (wpAny_bind (wpAny_bind (wpAny_bind (I.type.here ((PySem.W.looks_findIn X hs).here ?_)))))
  refine wpAny_bind (wpAny_askSetting (wpAny_ite ?_))
  have fin : wpAny M A (call (.builtin "object.__ne__") ([.ref x] ++ args) >>= fun v => pure (some v)) Q E s := wpAny_bind (wpAny_mono h (fun v s' h' => wpAny_pure h') fun _ _ h' => h')
  split
  · exact wpAny_bind (wpAny_of_eq (F.cmp_object.ne.bind _) (wpAny_pure (by exact fin)))
  · exact wpAny_tryCatch (wpAny_bind (wpAny_of_eq (F.cmp_object.ne.bind _) (wpAny_pure (by exact fin))))
theorem ne_K {y : Addr} {oy : Obj} {oyd : Option Obj} {Q : Value → Shared → Prop} (hu : A.units + 1 < cLine) (X : K.In s.heap) (I : PySem.W.InstAt s.heap x ox C od) (J : PySem.W.InstAt s.heap y oy C oyd) (hm : PySem.W.mroIn K C (.type "object") = some true)
    (hn : PySem.W.findIn K (.ref C) "__ne__" = some (some (.builtin "object.__ne__"))) (hs : PySem.W.findIn K (.ref C) "__eq__" = some (some (.ref f))) (hf : PySem.W.isFn K (.ref f) = true)
    (h : wpAny (model prog w) A.in1 (call (.ref f) [.ref x, .ref y]) (fun v s' => ∃ k, v = .bool k ∧ Q (.bool (!k)) s') E s) : wpAny (model prog w) A (richCompare .NotEq (.ref x) (.ref y)) Q E s := by
  have one : wpAny (model prog w) A (tryCompare (.ref x) "__ne__" (.ref y)) (fun r s' => ∃ k, r = some (.bool k) ∧ Q (.bool k) s') E s := by
    unfold tryCompare
    refine wpAny_bind (ifBound_objNe X I hn (wpAny_call (codeAny_call_builtin F.cmp_object.ne.plain F.cmpEntry_ne (PySem.W.check_slot F.cmpKind_ne F.cmpSplit_ne (I.type.andThen (PySem.W.looks_mroIn X hm)) (F.cmpArgs_ne _ _)
      (objNe_K (A := A.in1) hu X I hs hf (wpAny_mono h (fun v s' hv => ?_) fun _ _ e => e))))))
    obtain ⟨k, rfl, hq⟩ := hv
    exact ⟨k, rfl, wpAny_pure ⟨_, rfl, hq⟩⟩
  unfold richCompare
  simp only [oneThing_ref]
  refine wpAny_holding (wpAny_bind (wpAny_cRoomFor (Nat.lt_of_succ_lt hu) ?_))
  refine wpAny_bind (I.type.here (wpAny_bind (J.type.here ?_)))
  rw [show (Value.ref C != Value.ref C) = false from by simp]
  simp only [Bool.false_eq_true, if_false]
  refine wpAny_bind (wpAny_pure ?_)
  simp only [Bool.false_eq_true, if_false]
  refine wpAny_bind (wpAny_mono one (fun r s' z => ?_) fun _ _ e => e)
  obtain ⟨k, rfl, hq⟩ := z
  exact wpAny_pure hq
end

/-- a special method of the class c that is found through the type -/
structure Spc (P : Program) (w : World) (K : PySem.W.Frag) (mg : Str → Option Value) (base : Heap) (k : Nat) (c m : Str) (sp : DSp) : Prop where
  ex : ∃ C f fd ps, ClsAt ⟨K, mg⟩ c C ∧ PySem.W.findIn K (.ref C) m = some (some (.ref f)) ∧ PySem.W.isFn K (.ref f) = true ∧ FnG P w K mg base k f fd ps sp ∧ Binds K fd ps []
/-- the class c has object's own != -/
def PlainNe (K : PySem.W.Frag) (mg : Str → Option Value) (c : Str) : Prop := ∀ C, mg c = some (.ref C) → PySem.W.findIn K (.ref C) "__ne__" = some (some (.builtin "object.__ne__"))
section
variable {X : Cx} {F0 : Hp} {k j : Nat} {c : Str} {sp : DSp}
def noX : DX := fun _ _ _ => False
theorem runGA {A' : Around} {fd : FuncData} {ps : List Str} {f : Addr} {pins : List (Addr × Obj)} {σ : L2.St} {H : Hp} {s : Shared} {Q : VK} {us : List Value} {vs : List V} {E : Value → Shared → Prop} (F : FnG X.prog X.w X.K X.mg X.base k f fd ps sp) (hr : Rm k A') (hfr : A'.frames = X.A.frames) (hb : Binds X.K fd ps [])
    (I : Inv X pins σ H s) (r : Vals vs us) (h : lowSp (Cx.se X) sp vs H Q fun _ _ _ => False) : wpAny (model X.prog X.w) A' (call (.ref f) us) (EP X pins σ Q) E s := by
  have hl : us.length = ps.length := by
    obtain ⟨es, M, F1, P, PE, h1, h2, h3, _⟩ := id h
    rw [← r.length, h1.len]
    exact F.len _ _ _ _ h3
  have e0 : Env0 X.prog X.w X.K X.mg X.base A' X.stack s H := by
    have e := I.env0
    exact ⟨by rw [hfr]; exact e.frames, e.mod, e.bs, e.bsz, e.funs, e.frf, e.hok, e.bare⟩
  refine wpAny_call (codeAny_mono (F.run A' X.stack s H ⟨us, []⟩ us vs Q _ hr e0 (by
    have := hb s us I.kIn (by rw [List.append_nil]; exact hl)
    simpa using this) r h) fun r s' hq => ?_)
  cases r with
  | error e =>
    obtain ⟨_, _, _, _, _, _, _, _, _, _, _, _, z⟩ := hq
    exact z.elim
  | ok fl =>
    cases fl with
    | ret u => exact I.after hq
    | next => exact hq.elim
    | brk => exact hq.elim
    | cont => exact hq.elim
/-- x == y, both instances of c -/
def rdOwn (neg : Bool) (c : Str) (sp : DSp) : DR2 := fun x y M Q => (asO M c x).isSome = true ∧ (asO M c y).isSome = true ∧ sp [x, y] M (fun v M' => match v with
  | .bl b => Q (.bl (if neg = true then !b else b)) M'
  | _ => False) noX
theorem inst_at {pins : List (Addr × Obj)} {σ : L2.St} {H : Hp} {s : Shared} (I : Inv X pins σ H s) {a C dx : Addr} {vs : List (Str × V)} (h : H a = some (.ins C dx vs)) : ∃ ob od, PySem.W.InstAt s.heap a ob C od := by
  obtain ⟨mA, J, _⟩ := ins_get I.hok h
  obtain ⟨od, J, _⟩ := J.look
  exact ⟨_, _, J⟩
theorem do_ownEq (h : Spc X.prog X.w X.K X.mg X.base k c "__eq__" sp) (hr : Rm j X.A) (hk : k ≤ j) : DOp X F0 (compareOp .Eq) (rdOwn false c sp) := by
  intro pins s σ H x y v u Q I rx ry ⟨dx, dy, M, F, P, l0, g, r1, r2, t, kk⟩
  obtain ⟨C, f, fd, ps, hc, hs, hf, FG, hb⟩ := h.ex
  obtain ⟨t1, t2, t⟩ := t
  obtain ⟨fs, e1⟩ := Option.isSome_iff_exists.mp t1
  obtain ⟨gs, e2⟩ := Option.isSome_iff_exists.mp t2
  obtain ⟨a, C1, d1, vs1, rfl, h1, hc1, _⟩ := asO_at g r1 e1
  obtain ⟨b, C2, d2, vs2, rfl, h2, hc2, _⟩ := asO_at g r2 e2
  have eC1 : C1 = C := by
    have := hc1.mg.symm.trans hc.mg
    cases this; rfl
  have eC2 : C2 = C := by
    have := hc2.mg.symm.trans hc.mg
    cases this; rfl
  subst eC1
  subst eC2
  cases rx
  cases ry
  obtain ⟨ob, od, J⟩ := inst_at I h1
  obtain ⟨ob', od', J'⟩ := inst_at I h2
  obtain ⟨m, hF⟩ := I.fr
  show wpAny _ _ (richCompare .Eq (.ref a) (.ref b)) _ _ _
  refine PySem.W.cmp_K (op := .Eq) (tb := .ref C2) hr.room.units0 hF I.ok.mod.kin J J'.type (by simp [PySem.W.notFirst]) hs hf ?_
  refine wpAny_mono (runGA (Q := fun v H' => ∃ b, v = .bl b ∧ Q (.bl b) H') FG (hr.mono hk) rfl hb I (vs := [.ref a, .ref b]) (us := [.ref a, .ref b]) (.cons rfl (.cons rfl .nil)) ?_) (fun v s' hv => ?_) fun _ _ e => e
  · refine ⟨_, M, F, _, _, .cons r1 (.cons r2 .nil), g, t, fun v d M' F' H' l g' rv p => ?_, fun _ _ _ _ _ _ _ _ _ _ z => z.elim⟩
    cases d with
    | bl b =>
      cases rv
      exact ⟨b, rfl, kk _ _ M' F' H' l g' (.bl _) p⟩
    | _ => exact p.elim
  · obtain ⟨z, H', I', rz, b, ez, q⟩ := hv
    subst ez
    cases rz
    exact ⟨.bl b, H', I', rfl, q⟩
theorem do_ownNe (h : Spc X.prog X.w X.K X.mg X.base k c "__eq__" sp) (hn : PlainNe X.K X.mg c) (hr : Rm j X.A) (hk : k + 1 ≤ j) : DOp X F0 (compareOp .NotEq) (rdOwn true c sp) := by
  intro pins s σ H x y v u Q I rx ry ⟨dx, dy, M, F, P, l0, g, r1, r2, t, kk⟩
  obtain ⟨C, f, fd, ps, hc, hs, hf, FG, hb⟩ := h.ex
  obtain ⟨t1, t2, t⟩ := t
  obtain ⟨fs, e1⟩ := Option.isSome_iff_exists.mp t1
  obtain ⟨gs, e2⟩ := Option.isSome_iff_exists.mp t2
  obtain ⟨a, C1, d1, vs1, rfl, h1, hc1, _⟩ := asO_at g r1 e1
  obtain ⟨b, C2, d2, vs2, rfl, h2, hc2, _⟩ := asO_at g r2 e2
  have eC1 : C1 = C := by
    have := hc1.mg.symm.trans hc.mg
    cases this; rfl
  have eC2 : C2 = C := by
    have := hc2.mg.symm.trans hc.mg
    cases this; rfl
  subst eC1
  subst eC2
  cases rx
  cases ry
  obtain ⟨ob, od, J⟩ := inst_at I h1
  obtain ⟨ob', od', J'⟩ := inst_at I h2
  have hm : PySem.W.mroIn X.K C2 (.type "object") = some true := by
    have := cls_mro hc (.type "object")
    simpa using this
  show wpAny _ _ (richCompare .NotEq (.ref a) (.ref b)) _ _ _
  have hr1 : Rm k X.A.in1 := (hr.mono hk).in1
  refine ne_K (by have := hr.room.units; omega) I.kIn J J' hm (hn _ hc.mg) hs hf ?_
  refine wpAny_mono (runGA (Q := fun v H' => ∃ b, v = .bl b ∧ Q (.bl (!b)) H') FG hr1 rfl hb I (vs := [.ref a, .ref b]) (us := [.ref a, .ref b]) (.cons rfl (.cons rfl .nil)) ?_) (fun v s' hv => ?_) fun _ _ e => e
  · refine ⟨_, M, F, _, _, .cons r1 (.cons r2 .nil), g, t, fun v d M' F' H' l g' rv p => ?_, fun _ _ _ _ _ _ _ _ _ _ z => z.elim⟩
    cases d with
    | bl b =>
      cases rv
      exact ⟨b, rfl, kk _ _ M' F' H' l g' (.bl _) p⟩
    | _ => exact p.elim
  · obtain ⟨z, H', I', rz, b, ez, q⟩ := hv
    subst ez
    cases rz
    exact ⟨b, rfl, .bl (!b), H', I', rfl, q⟩
end
end DL


set_option Elab.async false
set_option linter.all false
set_option maxRecDepth 100000
namespace DL
open PySem PySem.Spec PyProof.Rows L2

/-! ### the law's end -/
section
variable {P : Program} {w : World} {K : PySem.W.Frag} {mg mb : Str → Option Value} {k : Nat} {fa a : Addr} {fd : FuncData} {x : Str} {sp : DSp} {s₁ : Shared} {vs : List Value} {ns : List Int}
/-- an abstract heap that may hold the script alone -/
structure OneS (K : PySem.W.Frag) (H : Hp) (a : Addr) (h : Heap) : Prop where
  only : ∀ b, H b ≠ none → b = a ∧ K.lookup a = none ∧ ∃ o xs, H b = some (.frz o (.lst xs))
theorem call_law (KX : K.In s₁.heap) (hns : s₁.heap.Ns mainGlobals mg) (hb : s₁.heap.Ns builtinsNs mb) (hbb : ∀ y : Str, y ≠ "__name__" → mb y = bootBuiltins y) (hlim : s₁.heap.NoLimit) (hg : s₁.gens = #[])
    (ha : s₁.heap.get? a = some { cls := .type "list", data := .seq vs.toArray }) (hi : IntsAre vs ns) (hl : ns.length ≤ sizeLine) (hr : Rm k callerA)
    (F : ∀ base : Heap, K.In base → base.Ns mainGlobals mg → FnG P w K mg base k fa fd [x] sp) (hbind : ∀ (s : Shared) (u : Value), BindsTo s fd ⟨[u], []⟩ [(x, u)])
    (hsp : sp [.fro (ns.map .int)] (fun _ => none) (fun d _ => d = .bl true) noX) :
    codeAny (model P w) callerA (.call (.ref fa) ⟨[.ref a], []⟩) (fun r s' => r = .ok (.ret (.bool true)) ∧ OldK s₁.heap s'.heap ∧ s'.os = s₁.os ∧ AllBare s'.gens) s₁ := by
  have rv := vals_ints hi
  have lenV := hi.length
  have go : ∀ H : Hp, OneS K H a s₁.heap → SqL K H a (ns.map V.int) → HOk P w H s₁.heap →
      codeAny (model P w) callerA (.call (.ref fa) ⟨[.ref a], []⟩) (fun r s' => r = .ok (.ret (.bool true)) ∧ OldK s₁.heap s'.heap ∧ s'.os = s₁.os ∧ AllBare s'.gens) s₁ := by
    intro H hO hS hok
    have nA : ∀ {b : Addr} {u : Obj} {es : Array DictEntry} {ep : Nat}, s₁.heap.get? b = some u → u.data = .dict es ep → H b = none := by
      intro b u es ep e d
      by_cases q : H b = none
      · exact q
      · have eb := (hO.only b q).1
        rw [eb, ha] at e
        have e' := Option.some.inj e
        rw [← e'] at d
        cases d
    have nK : ∀ {b : Addr} {m : Str → Option Value}, s₁.heap.Ns b m → (hidT s₁.heap H).Ns b m := by
      intro b m ⟨u, es, ep, e, d, r⟩
      exact ⟨u, es, ep, hidT_get e (nA e d), d, r⟩
    have kb : K.In (hidT s₁.heap H) := by
      intro b u e
      refine hidT_get (KX b u e) ?_
      by_cases q : H b = none
      · exact q
      · obtain ⟨eb, ek, _⟩ := hO.only b q
        rw [eb, ek] at e
        cases e
    obtain ⟨mc, c1, c2⟩ := hlim
    have M0 : Mod K mg (hidT s₁.heap H) := ⟨kb, nK hns, ⟨mb, nK hb, hbb⟩, mc, nK c1, c2⟩
    have E0 : Env0 P w K mg (hidT s₁.heap H) callerA [] s₁ H := ⟨rfl, M0, fun b u e => of_hidT e, Nat.le_of_eq (hidT_size _ _), trivial, fun b z => (List.not_mem_nil z).elim, hok, .of_eq hg⟩
    have RI : ∀ l : List Int, Reps ⟨K, mg⟩ H (l.map V.int) (l.map D.int) := fun l => by
      induction l with
      | nil => exact .nil
      | cons i l ih => exact .cons (.int i) ih
    have low : lowSp ⟨K, mg⟩ sp [.ref a] H (fun v _ => v = .bl true) fun _ _ _ => False :=
      ⟨[.fro (ns.map .int)], fun _ => none, H, fun d _ => d = .bl true, noX, .cons (.fro hS (RI ns)) .nil, ⟨fun _ _ e => e, fun _ _ e => nomatch e⟩, hsp,
        fun v d M' F' H' _ _ r e => by subst e; cases r; rfl, fun _ _ _ _ _ _ _ _ _ _ z => z⟩
    refine codeAny_mono ((F _ kb (nK hns)).run callerA [] s₁ H ⟨[.ref a], []⟩ [.ref a] [.ref a] _ _ hr E0 (hbind s₁ (.ref a)) (.cons rfl .nil) low) fun r s' h => ?_
    cases r with
    | error e =>
      obtain ⟨_, _, _, _, _, _, _, _, _, _, _, _, z⟩ := h
      exact z.elim
    | ok fl =>
      cases fl with
      | ret u =>
        obtain ⟨v, H', os, bare, un, hok', r', q⟩ := h
        have q' : v = .bl true := q
        subst q'
        cases r'
        refine ⟨rfl, OldK.of_keep fun b o e => ?_, os, bare⟩
        by_cases q2 : H b = none
        · exact un.keep b o e q2 (fun z => (List.not_mem_nil z).elim) (fun z => (List.not_mem_nil z).elim)
        · obtain ⟨_, _, ob, xs, z⟩ := hO.only b q2
          have k1 := (hok b _ z).1
          have k2 := (hok' b _ (un.frzs b ob _ z)).1
          rw [e] at k1
          cases k1
          exact k2
      | next => exact h.elim
      | brk => exact h.elim
      | cont => exact h.elim
  cases hk : K.lookup a with
  | some o =>
    have e := KX a o hk
    rw [ha] at e
    cases e
    exact go (fun _ => none) ⟨fun b z => absurd rfl z⟩ (.inr ⟨_, vs.toArray, _, hk, rfl, rfl, rfl, by rw [List.size_toArray, lenV]; exact hl, by simpa using rv⟩) fun b u z => nomatch z
  | none =>
    refine go (upd (fun _ => none) a (.frz { cls := .type "list", data := .seq vs.toArray } (.lst (ns.map V.int)))) ⟨fun b z => ?_⟩ (.inl (.inr ⟨_, upd_same⟩)) fun b u z => ?_
    · by_cases eb : b = a
      · subst eb
        exact ⟨rfl, hk, _, _, upd_same⟩
      · rw [upd_ne eb] at z
        exact absurd rfl z
    · by_cases eb : b = a
      · subst eb
        rw [upd_same] at z
        cases z
        exact ⟨ha, by rw [List.length_map]; exact hl, vs, _, rv, ha⟩
      · rw [upd_ne eb] at z
        cases z
end
theorem rm_caller {k : Nat} (h : Room k callerA) : Rm k callerA := ⟨h, rfl⟩
theorem walk_G {l : PySem.W.OpenLaw} {n k : Nat} {q : Program} {loose : List Str} {XP : (Str → Option Value) → Heap → Prop} {YP : World → Heap → Prop} {d : DefRec} {x : Str}
    (hn : l.most = some n) (hn2 : n ≤ sizeLine) (hdf : d.params.defaults = []) (hr : Room k callerA)
    (F : ∀ (w : World) (mg : Str → Option Value) (fa : Addr) (h : Heap), YP w h → h.Ns mainGlobals mg → mg d.name = some (.ref fa) →
      ∃ (K : PySem.W.Frag) (fd : FuncData) (sp : DSp), K.In h ∧ (∀ (s : Shared) (u : Value), BindsTo s fd ⟨[u], []⟩ [(x, u)]) ∧
        (∀ ns : List Int, ns.length ≤ n → (∀ z ∈ ns, Builtin.Int.intBits z ≤ 1048576) → sp [.fro (ns.map .int)] (fun _ => none) (fun d _ => d = .bl true) noX) ∧
        ∀ base : Heap, K.In base → base.Ns mainGlobals mg → FnG l.prog w K mg base k fa fd [x] sp) :
    PySem.W.WalkO q loose XP YP l.row.toRowW d [] (fun f vs => PySem.call f vs) := by
  refine Att.attach_callB hn hdf fun w s₀ s₁ mg mb fa o pm cd doc a vs ns G Y ho hd hcd hmg hobj hints hlen hbits hg => ?_
  obtain ⟨K, fd, sp, KX, hb, hsp, hF⟩ := F w mg fa _ Y G.T.g hmg
  exact call_law KX G.T.g G.T.b G.T.builtins G.T.nolimit hg hobj hints (Nat.le_trans hlen hn2) (rm_caller hr) hF hb (hsp ns hlen hbits)
end DL


set_option Elab.async false
set_option linter.all false
set_option maxRecDepth 100000
namespace DL
open PySem PySem.Spec PyProof.Rows L2

/-! ### facts of the head -/
inductive Fc where
  | glo (x : Str) | free (x : Str) | cls (c : Str) | noat (c f : Str) | meth (c m : Str) | mkr (c : Str) | ne (c : Str) | exc (c : Str) | keep (x : Str) | lack (c i : Str) | gint (x : Str) (i : Int) | gstr (x z : Str) | exm (x y : Str) (b : Bool) | gtup (x : Str) (zs : List Str)
/-- the items of a tuple of texts -/
def tupS : List Value → List Str → Bool
  | [], [] => true
  | .str y _ :: r, z :: zs => decide (y = z) && tupS r zs
  | _, _ => false
def tupAt (K : PySem.W.Frag) (a : Addr) (zs : List Str) : Bool := match K.lookup a with
  | some o => decide (o.cls = .type "tuple") && (match o.data with
    | .seq its _ => decide (its.size ≤ sizeLine) && tupS its.toList zs
    | _ => false)
  | none => false
def Fc.ok (K : PySem.W.Frag) : Fc → Bool
  | .glo x => (He.Fa.glo x).ok K
  | .free x => (He.Fa.free x).ok K
  | .cls c => (He.Fa.glo c).ok K && (clsOkB K (He.ga K c) && clsNmB K (He.ga K c) c)
  | .noat c f => (He.Fa.noat c f).ok K
  | .meth c m => (He.Fa.meth c m).ok K
  | .mkr c => (He.Fa.mkr c).ok K
  | .ne c => He.eqO (PySem.W.findIn K (.ref (He.ga K c)) "__ne__") (some (some (.builtin "object.__ne__")))
  | .exc c => (He.Fa.glo c).ok K && (He.Fa.exc c).ok K
  | .keep x => (He.Fa.keep x).ok K
  | .gint x i => (He.Fa.int x i).ok K
  | .gstr x z => (He.Fa.str x z).ok K
  | .exm x y b => (He.Fa.glo x).ok K && (He.Fa.exm x y b).ok K
  | .gtup x zs => (He.Fa.glo x).ok K && tupAt K (He.ga K x) zs
  | .lack c i => He.eqO (PySem.W.findIn K (.ref (He.ga K c)) i) (some none)
theorem memi {α : Type} {l : List α} {a : α} (i : Nat) (h : l[i]? = some a := by rfl) : a ∈ l := List.mem_of_getElem? h
theorem tkF {X : Cx} {S : SE} {F0 : Hp} : Takes X (lowW S F0 fun _ _ _ _ => False) := fun u s' ⟨_, _, _, _, _, _, _, _, _, _, _, _, _, _, _, _, w⟩ => by
  obtain ⟨_, _, _, _, _, _, _, _, _, z⟩ := w
  exact z.elim
abbrev noW : DWX := fun _ _ _ _ => False
def factsB (fs : List Fc) (K : PySem.W.Frag) : Bool := fs.all fun f => f.ok K
/-- the module, as the head leaves it -/
structure Md (fs : List Fc) (fn : List He.DefD) (K : PySem.W.Frag) (mg : Str → Option Value) : Prop where
  h : ∃ h : Heap, K.In h ∧ h.Ns mainGlobals mg
  fs : factsB fs K = true
  fn : He.SaysD [] fn K
section
variable {fs : List Fc} {fn : List He.DefD} {K : PySem.W.Frag} {mg : Str → Option Value}
theorem Md.f (m : Md fs fn K mg) (f : Fc) (h : f ∈ fs) : f.ok K = true := List.all_eq_true.mp m.fs f h
theorem Md.glo (m : Md fs fn K mg) (x : Str) (h : Fc.glo x ∈ fs) : mg x = some (.ref (He.ga K x)) := by
  obtain ⟨hp, X, G⟩ := m.h
  exact He.glo_ok X G (m.f _ h)
theorem Md.free (m : Md fs fn K mg) (x : Str) (h : Fc.free x ∈ fs) : mg x = none := by
  obtain ⟨hp, X, G⟩ := m.h
  exact He.free_ok X G (m.f _ h)
theorem Md.cls (m : Md fs fn K mg) (c : Str) (h : Fc.cls c ∈ fs) : ClsAt ⟨K, mg⟩ c (He.ga K c) := by
  obtain ⟨hp, X, G⟩ := m.h
  obtain ⟨a, b⟩ := He.ba (m.f _ h)
  obtain ⟨b, d⟩ := He.ba b
  exact ⟨He.glo_ok X G a, b, d⟩
theorem Md.noat (m : Md fs fn K mg) (c f : Str) (h : Fc.noat c f ∈ fs) (hc : Fc.cls c ∈ fs) : FldOk ⟨K, mg⟩ c f := fun C e => by
  have := (m.cls c hc).mg.symm.trans e
  cases this
  exact He.noat_ok (m.f _ h)
theorem Md.exc (m : Md fs fn K mg) (c : Str) (h : Fc.exc c ∈ fs) : Exc0 K mg c := by
  obtain ⟨hp, X, G⟩ := m.h
  obtain ⟨a, b⟩ := He.ba (m.f _ h)
  obtain ⟨c1, c2, c3, c4⟩ := He.exc_ok b
  exact ⟨⟨_, He.glo_ok X G a, c1, c2, c3, c4⟩⟩
theorem Md.ne (m : Md fs fn K mg) (c : Str) (h : Fc.ne c ∈ fs) (hc : Fc.cls c ∈ fs) : PlainNe K mg c := fun C e => by
  have := (m.cls c hc).mg.symm.trans e
  cases this
  exact He.eqO_ok (m.f _ h)
theorem Md.gint (m : Md fs fn K mg) (x : Str) (i : Int) (h : Fc.gint x i ∈ fs) : ∃ t, mg x = some (.int i t) := by
  obtain ⟨hp, X, G⟩ := m.h
  exact He.int_ok X G (m.f _ h)
theorem Md.gstr (m : Md fs fn K mg) (x z : Str) (h : Fc.gstr x z ∈ fs) : ∃ t, mg x = some (.str z t) := by
  obtain ⟨hp, X, G⟩ := m.h
  exact He.str_ok X G (m.f _ h)
theorem Md.exm (m : Md fs fn K mg) (x y : Str) (b : Bool) (h : Fc.exm x y b ∈ fs) : ∀ C : Addr, mg x = some (.ref C) → PySem.W.exmOne K (.ref C) (.ref (He.ga K y)) = some b := fun C e => by
  obtain ⟨hp, X, G⟩ := m.h
  obtain ⟨a, c⟩ := He.ba (m.f _ h)
  have := (He.glo_ok X G a).symm.trans e
  cases this
  exact He.exm_ok c
theorem Md.gtup (m : Md fs fn K mg) (x : Str) (zs : List Str) (h : Fc.gtup x zs ∈ fs) : ∃ a : Addr, mg x = some (.ref a) ∧ tupAt K a zs = true := by
  obtain ⟨hp, X, G⟩ := m.h
  obtain ⟨a, b⟩ := He.ba (m.f _ h)
  exact ⟨_, He.glo_ok X G a, b⟩
theorem Md.lack (m : Md fs fn K mg) (c i : Str) (h : Fc.lack c i ∈ fs) (hc : Fc.cls c ∈ fs) : ∀ C : Addr, mg c = some (.ref C) → PySem.W.findIn K (.ref C) i = some none := fun C e => by
  have := (m.cls c hc).mg.symm.trans e
  cases this
  exact He.eqO_ok (m.f _ h)
theorem Md.def_ (m : Md fs fn K mg) {d : He.DefD} (h : d ∈ fn) : ∃ fd, FunD K d.name d.qual d.params d.body d.scope (d.dvs K) (d.kws K) (He.fAd K d.at_) fd := He.SaysD.defs m.fn h
end

section
variable {P : Program} {w : World} {K : PySem.W.Frag} {mg : Str → Option Value} {base : Heap} {fs : List Fc} {fn : List He.DefD} {k : Nat} {sp : DSp}
/-- a def that keeps its promise: what its body's derivation and its reading give -/
structure Fn (P : Program) (w : World) (K : PySem.W.Frag) (mg : Str → Option Value) (base : Heap) (k : Nat) (d : He.DefD) (ps : List Str) (sp : DSp) : Prop where
  ex : ∃ fd, FunD K d.name d.qual d.params d.body d.scope (d.dvs K) (d.kws K) (He.fAd K d.at_) fd ∧ FnG P w K mg base k (He.fAd K d.at_) fd ps sp
/-- the walk of a def's body, at a place of a call -/
def WalkD (P : Program) (w : World) (K : PySem.W.Frag) (mg : Str → Option Value) (base : Heap) (k : Nat) (d : He.DefD) (N : List Str) (t : DWX → DTS) : Prop :=
  ∀ (cdv : Value) (A : Around) (outer : List Env) (s : Shared) (H : Hp) (E : XK) (F0 : Hp) (W : DWX), Rm k (A.deeper (envOfC d.qual d.scope s.heap.objs.size (He.fAd K d.at_) cdv)) →
    Takes (cxOf (L2.CX P w) P w K mg base N d.qual d.scope (He.fAd K d.at_) cdv A outer s H E) (lowW ⟨K, mg⟩ F0 W) →
    DSs (cxOf (L2.CX P w) P w K mg base N d.qual d.scope (He.fAd K d.at_) cdv A outer s H E) F0 d.body (t W)
theorem fn_mk {d : He.DefD} {N ps : List Str} {t : DWX → DTS} (m : Md fs fn K mg) (hd : d ∈ fn) (Sc : FnScope N ps d.scope) (wk : WalkD P w K mg base k d N t) (len : ∀ ds M P E, sp ds M P E → ds.length = ps.length)
    (q : ∀ ds M P PE, sp ds M P PE → t (finW PE) { nx := fun _ M' => finP P .non M', rt := finP P } (startR N ds) M) : Fn P w K mg base (k + 1) d ps sp := by
  obtain ⟨fd, F⟩ := m.def_ hd
  refine ⟨fd, F, ?_⟩
  obtain ⟨oc, od, dV, kV, doc, pm, an, cdv, ct, osl, rfl, lk, hcd, _, _⟩ := F.ex
  exact fnG_of lk hcd Sc len t (fun A outer s H E F0 W hr tk => wk cdv A outer s H E F0 W hr tk) q
/-- every parameter is given -/
abbrev AllB (d : He.DefD) (ps : List Str) : Prop := ∀ (kV doc pm : Value) (an : Option Addr) (cdv ct : Value) (us : List Value), us.length = ps.length → bindArgs (PySem.W.fnOf d.name d.qual d.params d.body d.scope .none kV doc pm an cdv ct) ⟨us, []⟩ = pure (ps.zip us)
theorem cal_mk {d : He.DefD} {ps : List Str} {x : Str} (m : Md fs fn K mg) (F : Fn P w K mg base k d ps sp) (hx : d.at_ = (x, none)) (hg : Fc.glo x ∈ fs) (hd : d.dfl = []) (hb : AllB d ps) : Cal P w K mg base k x sp [] := by
  obtain ⟨fd, FD, FG⟩ := F.ex
  have e : d.dvs K = [] := by unfold He.DefD.dvs; rw [hd]; rfl
  rw [e] at FD
  have ea : He.fAd K d.at_ = He.ga K x := by rw [hx]; rfl
  refine ⟨⟨_, fd, ps, [], [], m.glo x hg, ?_, ea ▸ FG, FD.bindsN hb, .nil, fun _ => .nil⟩⟩
  rw [← ea]
  exact FD.kp
theorem met_mk {d : He.DefD} {ps : List Str} {c mt : Str} (m : Md fs fn K mg) (F : Fn P w K mg base k d ps sp) (hx : d.at_ = (c, some mt)) (hc : Fc.cls c ∈ fs) (hm : Fc.meth c mt ∈ fs) (hd : d.dfl = []) (hb : AllB d ps) : Met P w K mg base k c mt sp [] := by
  obtain ⟨fd, FD, FG⟩ := F.ex
  have e : d.dvs K = [] := by unfold He.DefD.dvs; rw [hd]; rfl
  rw [e] at FD
  have ea : He.fAd K d.at_ = He.ma K (He.ga K c) mt := by rw [hx]; rfl
  exact ⟨⟨_, _, fd, ps, [], [], (m.cls c hc).mg, (m.cls c hc).cls, He.meth_ok (m.f _ hm), ea ▸ FG, FD.bindsN hb, .nil, fun _ => .nil⟩⟩
theorem spc_mk {d : He.DefD} {ps : List Str} {c mt : Str} (m : Md fs fn K mg) (F : Fn P w K mg base k d ps sp) (hx : d.at_ = (c, some mt)) (hc : Fc.cls c ∈ fs) (hm : Fc.meth c mt ∈ fs) (hd : d.dfl = []) (hb : AllB d ps) : Spc P w K mg base k c mt sp := by
  obtain ⟨fd, FD, FG⟩ := F.ex
  have e : d.dvs K = [] := by unfold He.DefD.dvs; rw [hd]; rfl
  rw [e] at FD
  have ea : He.fAd K d.at_ = He.ma K (He.ga K c) mt := by rw [hx]; rfl
  have hM := He.meth_ok (m.f _ hm)
  exact ⟨⟨_, _, fd, ps, m.cls c hc, hM.at_, hM.fn, ea ▸ FG, FD.bindsN hb⟩⟩
theorem mak_mk {d : He.DefD} {ps : List Str} {c : Str} (m : Md fs fn K mg) (F : Fn P w K mg base k d ps sp) (hx : d.at_ = (c, some ("__init__" : Str))) (hc : Fc.cls c ∈ fs) (hm : Fc.mkr c ∈ fs) (hd : d.dfl = []) (hb : AllB d ps) : Mak P w K mg base k c sp [] := by
  obtain ⟨fd, FD, FG⟩ := F.ex
  have e : d.dvs K = [] := by unfold He.DefD.dvs; rw [hd]; rfl
  rw [e] at FD
  have ea : He.fAd K d.at_ = He.ma K (He.ga K c) "__init__" := by rw [hx]; rfl
  exact ⟨⟨_, _, fd, ps, [], [], m.cls c hc, He.mkr_ok (m.f _ hm), ea ▸ FG, FD.bindsN hb, .nil, fun _ => .nil⟩⟩
/-- a default's value as data -/
def dvD : He.Dv → Option D
  | .non => some .non
  | .bl b => some (.bl b)
  | .int i => some (.int i)
  | .str x => some (.str x)
  | _ => none
def dvDs : List He.Dv → Option (List D)
  | [] => some []
  | v :: vs => (dvD v).bind fun d => (dvDs vs).map (d :: ·)
theorem dvD_rep {S : SE} {F : Hp} {v : He.Dv} {d : D} (h : dvD v = some d) : Rep S F (v.v K) d := by
  cases v <;> cases h
  · exact .non
  · exact .bl _
  · exact .int _
  · exact .str _
theorem dvDs_rep {S : SE} {F : Hp} : ∀ {vs : List He.Dv} {ds : List D}, dvDs vs = some ds → Reps S F (vs.map (He.Dv.v K)) ds
  | [], _, h => by cases h; exact .nil
  | v :: vs, ds, h => by
    obtain ⟨d, h1, h2⟩ := Option.bind_eq_some_iff.mp h
    obtain ⟨es, h3, rfl⟩ := Option.map_eq_some_iff.mp h2
    exact .cons (dvD_rep h1) (dvDs_rep h3)
/-- some are given (n of them), the defaults behind the first j fill up -/
abbrev DflB (d : He.DefD) (ps : List Str) (n j : Nat) : Prop := ∀ (T : Addr) (kV doc pm : Value) (an : Option Addr) (cdv ct : Value) (us its : List Value), us.length = n → its.length = d.dfl.length →
  ∃ k, bindArgs (PySem.W.fnOf d.name d.qual d.params d.body d.scope (.ref T) kV doc pm an cdv ct) ⟨us, []⟩ = seqItems? (.ref T) >>= k ∧ k (some its.toArray) = pure (ps.zip (us ++ its.drop j))
theorem cal_dfl {d : He.DefD} {ps : List Str} {x : Str} {n j : Nat} {ds : List D} (m : Md fs fn K mg) (F : Fn P w K mg base k d ps sp) (hx : d.at_ = (x, none)) (hg : Fc.glo x ∈ fs) (hd : d.dfl ≠ []) (hn : n + (d.dfl.length - j) = ps.length) (hb : DflB d ps n j) (hds : dvDs (d.dfl.drop j) = some ds) :
    Cal P w K mg base k x sp ds := by
  obtain ⟨fd, FD, FG⟩ := F.ex
  have ea : He.fAd K d.at_ = He.ga K x := by rw [hx]; rfl
  have el : (d.dvs K).length = d.dfl.length := by unfold He.DefD.dvs; rw [List.length_map]
  obtain ⟨us, h1, h2⟩ := FD.binds1 n j (fun z => hd (List.map_eq_nil_iff.mp z)) (by rw [el]; exact hn) (fun T kV doc pm an cdv ct us its hu hi => hb T kV doc pm an cdv ct us its hu (by rw [hi, el]))
  refine ⟨⟨_, fd, ps, us, (d.dvs K).drop j, m.glo x hg, ?_, ea ▸ FG, h2, h1, fun F => ?_⟩⟩
  · rw [← ea]
    exact FD.kp
  · have e : (d.dvs K).drop j = (d.dfl.drop j).map (He.Dv.v K) := by unfold He.DefD.dvs; rw [List.map_drop]
    rw [e]
    exact dvDs_rep hds
end
end DL


set_option Elab.async false
set_option linter.all false
set_option maxRecDepth 100000
namespace DL
open PySem PySem.Spec PyProof.Rows L2

/-! ### own operators, in, truth -/
structure OwnAt (P : Program) (w : World) (K : PySem.W.Frag) (mg : Str → Option Value) (base : Heap) (k : Nat) (c m : Str) (sp : DSp) (C f : Addr) (fd : FuncData) (ps : List Str) : Prop where
  hc : ClsAt ⟨K, mg⟩ c C
  hs : PySem.W.findIn K (.ref C) m = some (some (.ref f))
  hf : PySem.W.isFn K (.ref f) = true
  FG : FnG P w K mg base k f fd ps sp
  hb : Binds K fd ps []
theorem Spc.at {P : Program} {w : World} {K : PySem.W.Frag} {mg : Str → Option Value} {base : Heap} {k : Nat} {c m : Str} {sp : DSp} (h : Spc P w K mg base k c m sp) : ∃ C f fd ps, OwnAt P w K mg base k c m sp C f fd ps := by
  obtain ⟨C, f, fd, ps, h1, h2, h3, h4, h5⟩ := h.ex
  exact ⟨C, f, fd, ps, h1, h2, h3, h4, h5⟩
section
variable {X : Cx} {F0 : Hp} {k j : Nat} {c m : Str} {sp : DSp}
/-- an instance of the class c, as an own operator meets it -/
theorem own_inst {pins : List (Addr × Obj)} {σ : L2.St} {H : Hp} {s : Shared} {M : Store} {F : Hp} {x : V} {d : D} {C : Addr} (I : Inv X pins σ H s) (g : Good (Cx.se X) F M H) (r : Rep (Cx.se X) F x d) (hc : ClsAt (Cx.se X) c C) (h : (asO M c d).isSome = true) :
    ∃ a ob od, x = .ref a ∧ PySem.W.InstAt s.heap a ob C od := by
  obtain ⟨fs, e⟩ := Option.isSome_iff_exists.mp h
  obtain ⟨a, C1, d1, vs1, rfl, h1, hc1, _⟩ := asO_at g r e
  have eC : C1 = C := by
    have := hc1.mg.symm.trans hc.mg
    cases this; rfl
  subst eC
  obtain ⟨ob, od, J⟩ := inst_at I h1
  exact ⟨a, ob, od, rfl, J⟩
def rdOwnB (c : Str) (sp : DSp) : DR2 := fun x y M Q => (asO M c x).isSome = true ∧ (asO M c y).isSome = true ∧ sp [x, y] M Q noX
/-- what comes back from an own operator: no NotImplemented -/
theorem cmp_back {pins : List (Addr × Obj)} {σ : L2.St} {Q : VK} {v : Value} {s' : Shared} (h : EP X pins σ Q v s') : PySem.W.CmpBack (EP X pins σ Q) v s' := by
  obtain ⟨z, H', I', rz, q⟩ := h
  cases v with
  | notImplemented => cases z <;> first | exact (nomatch rz) | (obtain ⟨_, e⟩ := rz; exact (nomatch e))
  | _ => exact ⟨z, H', I', rz, q⟩
theorem do_ownB {op : Operator} (h : Spc X.prog X.w X.K X.mg X.base k c m sp) (hm : PySem.dunder op.info.2 = m) (hr : Rm j X.A) (hk : k ≤ j) : DOp X F0 (binaryOp op) (rdOwnB c sp) := by
  intro pins s σ H x y v u Q I rx ry ⟨dx, dy, M, F, P, l0, g, r1, r2, t, kk⟩
  obtain ⟨C, f, fd, ps, o⟩ := h.at
  obtain ⟨t1, t2, t⟩ := t
  obtain ⟨a, ob, od, rfl, J⟩ := own_inst I g r1 o.hc t1
  obtain ⟨b, ob', od', rfl, J'⟩ := own_inst I g r2 o.hc t2
  cases rx
  cases ry
  obtain ⟨mm, hF⟩ := I.fr
  have sf : PySem.W.selfFirst X.K C = true := by
    obtain ⟨⟨cd, h1, h2⟩, _⟩ := cls_parts o.hc
    unfold PySem.W.selfFirst
    rw [h1]
    simp [h2]
  refine PySem.W.binop_K hF I.ok.mod.kin J J'.type sf (by rw [hm]; exact o.hs) o.hf (wpAny_mono (runGA (Q := Q) o.FG (hr.mono hk) rfl o.hb I (vs := [.ref a, .ref b]) (us := [.ref a, .ref b]) (.cons rfl (.cons rfl .nil)) ?_) (fun v s' hv => cmp_back hv) fun _ _ e => e)
  exact ⟨_, M, F, _, _, .cons r1 (.cons r2 .nil), g, t, fun v d M' F' H' l g' rv p => kk _ _ M' F' H' l g' rv p, fun _ _ _ _ _ _ _ _ _ _ z => z.elim⟩
/-- x in y, y an instance -/
def rdOwnIn (neg : Bool) (c : Str) (sp : DSp) : DR2 := fun x y M Q => (asO M c y).isSome = true ∧ sp [y, x] M (fun v M' => match v with
  | .bl b => Q (.bl (if neg = true then !b else b)) M'
  | _ => False) noX
theorem own_in {pins : List (Addr × Obj)} {σ : L2.St} {H : Hp} {s : Shared} {M : Store} {F : Hp} {x : V} {u : Value} {dx dy : D} {a : Addr} {P : D → Store → Prop} {neg : Bool} {Q : VK} {C f : Addr} {fd : FuncData} {ps : List Str} (I : Inv X pins σ H s) (g : Good (Cx.se X) F M H) (r1 : Rep (Cx.se X) F x dx) (r2 : Rep (Cx.se X) F (.ref a) dy) (rx : RelV x u)
    (o : OwnAt X.prog X.w X.K X.mg X.base k c m sp C f fd ps) (hr : Rm j X.A) (hk : k ≤ j) (t : sp [dy, dx] M (fun v M' => match v with
      | .bl b => P (.bl (if neg = true then !b else b)) M'
      | _ => False) noX) (kk : ∀ v d M' F' H', Le F F' → Good (Cx.se X) F' M' H' → Rep (Cx.se X) F' v d → P d M' → Q v H') :
    wpAny (model X.prog X.w) X.A (call (.ref f) [.ref a, u]) (fun r s' => wpAny (model X.prog X.w) X.A (truthy r) (fun b => EP X pins σ Q (.bool (if neg = true then !b else b))) X.xe s') X.xe s := by
  refine wpAny_mono (runGA (Q := fun v H' => ∃ b, v = .bl b ∧ Q (.bl (if neg = true then !b else b)) H') o.FG (hr.mono hk) rfl o.hb I (vs := [.ref a, x]) (us := [.ref a, u]) (.cons rfl (.cons rx .nil)) ?_) (fun v s' hv => ?_) fun _ _ e => e
  · refine ⟨_, M, F, _, _, .cons r2 (.cons r1 .nil), g, t, fun v d M' F' H' l g' rv p => ?_, fun _ _ _ _ _ _ _ _ _ _ z => z.elim⟩
    cases d with
    | bl b =>
      cases rv
      exact ⟨b, rfl, kk _ _ M' F' H' l g' (.bl _) p⟩
    | _ => exact p.elim
  · obtain ⟨z, H', I', rz, b, ez, q⟩ := hv
    subst ez
    cases rz
    exact wpAny_truthy_bool ⟨.bl _, H', I', rfl, q⟩
theorem do_ownIn (h : Spc X.prog X.w X.K X.mg X.base k c "__contains__" sp) (hr : Rm j X.A) (hk : k ≤ j) : DOp X F0 (compareOp .In) (rdOwnIn false c sp) := by
  intro pins s σ H x y v u Q I rx ry ⟨dx, dy, M, F, P, l0, g, r1, r2, t, kk⟩
  obtain ⟨C, f, fd, ps, o⟩ := h.at
  obtain ⟨a, ob, od, rfl, J⟩ := own_inst I g r2 o.hc t.1
  cases ry
  obtain ⟨mm, hF⟩ := I.fr
  exact PySem.W.in_K hF I.ok.mod.kin J o.hs o.hf (own_in (neg := false) I g r1 r2 rx o hr hk t.2 kk)
theorem do_ownNotIn (h : Spc X.prog X.w X.K X.mg X.base k c "__contains__" sp) (hr : Rm j X.A) (hk : k ≤ j) : DOp X F0 (compareOp .NotIn) (rdOwnIn true c sp) := by
  intro pins s σ H x y v u Q I rx ry ⟨dx, dy, M, F, P, l0, g, r1, r2, t, kk⟩
  obtain ⟨C, f, fd, ps, o⟩ := h.at
  obtain ⟨a, ob, od, rfl, J⟩ := own_inst I g r2 o.hc t.1
  cases ry
  obtain ⟨mm, hF⟩ := I.fr
  exact PySem.W.notIn_K hF I.ok.mod.kin J o.hs o.hf (own_in (neg := true) I g r1 r2 rx o hr hk t.2 kk)
/-- an instance's truth by its own __bool__ -/
def trOwn (c : Str) (sp : DSp) : DTr := fun d M Q => (asO M c d).isSome = true ∧ sp [d] M (fun v M' => match v with
  | .bl b => Q b M'
  | _ => False) noX
theorem own_truth {A' : Around} {E : Value → Shared → Prop} {pins : List (Addr × Obj)} {σ : L2.St} {H : Hp} {s : Shared} {M : Store} {F : Hp} {x : V} {v : Value} {d : D} {P : Bool → Store → Prop} {Q : Bool → Hp → Prop} (h : Spc X.prog X.w X.K X.mg X.base k c "__bool__" sp) (hr : Rm k A') (hfr : A'.frames = X.A.frames) (I : Inv X pins σ H s) (g : Good (Cx.se X) F M H) (rx : RelV x v) (r : Rep (Cx.se X) F x d) (t : trOwn c sp d M P)
    (kk : ∀ b M' F' H', Le F F' → Good (Cx.se X) F' M' H' → P b M' → Q b H') : wpAny (model X.prog X.w) A' (truthy v) (fun b s' => ∃ H', Inv X pins σ H' s' ∧ Q b H') E s := by
  obtain ⟨C, f, fd, ps, o⟩ := h.at
  obtain ⟨a, ob, od, rfl, J⟩ := own_inst I g r o.hc t.1
  cases rx
  obtain ⟨mm, hF⟩ := I.fr
  refine PySem.W.truthy_K hF I.ok.mod.kin J o.hs o.hf (wpAny_mono (runGA (Q := fun v H' => ∃ b, v = .bl b ∧ Q b H') o.FG hr hfr o.hb I (vs := [.ref a]) (us := [.ref a]) (.cons rfl .nil) ?_) (fun v s' hv => ?_) fun _ _ e => e)
  · refine ⟨_, M, F, _, _, .cons r .nil, g, t.2, fun v d M' F' H' l g' rv p => ?_, fun _ _ _ _ _ _ _ _ _ _ z => z.elim⟩
    cases d with
    | bl b =>
      cases rv
      exact ⟨b, rfl, kk _ M' F' H' l g' p⟩
    | _ => exact p.elim
  · obtain ⟨z, H', I', rz, b, ez, q⟩ := hv
    subst ez
    cases rz
    exact ⟨H', I', q⟩
theorem tru_own (h : Spc X.prog X.w X.K X.mg X.base k c "__bool__" sp) (hr : Rm j X.A) (hk : k ≤ j) : DTru X F0 (trOwn c sp) := by
  intro pins s σ H x v Q I rx ⟨d, M, F, P, l0, g, r, t, kk⟩
  refine wpAny_mono (own_truth h (hr.mono hk) rfl I g rx r t kk) (fun b s' hb => ?_) fun _ _ e => e
  obtain ⟨H', I', q⟩ := hb
  exact ⟨H', I', q⟩
end

/-! ### bool(x) -/
section
variable {prog : Program} {w : World} {A : Around} {E : Value → Shared → Prop} {s : Shared}
theorem new_bool {x : Value} {R : Result → Shared → Prop} (h : wpAny (model prog w) A.in1 (truthy x) (fun b s' => R (.ok (.ret (.bool b))) s') (fun e s' => R (.error e) s') s) :
    wpAny (model prog w) A.in1 (Builtin.«bool.__new__» ⟨[.type "bool", x], []⟩) (fun fin s' => match fin with
      | .done f => R (.ok f) s'
      | .again c' => c'.quiet = true ∧ codeAny (model prog w) A c' R s') (fun e s' => R (.error e) s') s := by
  have f1 := F.conv_sub_bool
  obtain ⟨hp, g, d, tk, os⟩ := s
  unfold Builtin.«bool.__new__»
  repeat (any_goals (first | (refine wpAny_bind (m := truthy x) (wpAny_mono h (fun b s' hb => ?_) fun _ _ e => e)) | assumption | wp_step))
  all_goals first | exact hb | skip
def RBool (Q E : Value → Shared → Prop) : Result → Shared → Prop := fun r s' => (∃ b, r = .ok (.ret (.bool b)) ∧ Q (.bool b) s') ∨ ∃ e, r = .error e ∧ E e s'
def RInit (s1 : Shared) : Result → Shared → Prop := fun r s' => r = .ok (.ret .none) ∧ s' = s1
/-- bool(x): x's truth, two calls deeper -/
theorem call_bool_any {x : Value} {Q : Value → Shared → Prop} (h : wpAny (model prog w) A.in1.in1 (truthy x) (fun b s' => Q (.bool b) s') E s) : wpAny (model prog w) A (call (.type "bool") [x]) Q E s := by
  have ft := F.called_bool
  obtain ⟨c0, tl0, hmro⟩ := ft.mro
  have hmade := ft.made
  have hsub := ft.sub
  have hct := F.typeCall_bool_1 x
  have hno := ft.notType
  have hcan := ft.canCreate
  refine wpAny_call (codeAny_of_tree (?_ : wpAny _ _ (callAny (.type "bool") _) _ _ _))
  refine wpAny_pure ⟨Code.quiet_builtin _ (by decide +kernel), ?_⟩
  refine codeAny_builtin F.entry_type_call ?_
  rw [Around.under_plain (weight_type_call_type "bool" [x] []) (units_type_call_type "bool" [x] [])]
  repeat (any_goals (first | assumption | wp_step))
  refine codeAny_mono (codeAny_call_builtin (R := RBool Q E) ft.plain F.entry_bool_new (wpAny_of_eq (F.newCall_bool_1 x) (new_bool (R := RBool Q E) (A := A.in1) (wpAny_mono h (fun b s' hb => ?_) fun e s' he => ?_)))) fun r s1 hr => ?_
  · exact .inl ⟨b, rfl, hb⟩
  · exact .inr ⟨e, rfl, he⟩
  · rcases hr with ⟨b, rfl, hq⟩ | ⟨e, hr, he⟩
    · skip
      have hli := ft.init.lookup
      have hbi := ft.init.bind (.bool b)
      have hty : s1.TypeIs (.bool b) "bool" := rfl
      repeat (any_goals (first | assumption | wp_step))
      refine codeAny_mono (codeAny_call_builtin (R := RInit s1) ft.init.plain F.entry_object_init (ft.init.check _ _ _ _ _ _ _ _ hty (F.args_object_init_2 (.bool b) x) (object_init_meets (self := .bool b) (rest := [x]) ft.init.lookup ft.made F.newNe_bool prog w A.in1 (RInit s1) s1 ⟨hty, rfl, rfl⟩))) fun r2 s2 hr2 => ?_
      obtain ⟨rfl, rfl⟩ := hr2
      repeat (any_goals (first | assumption | wp_step))
      try exact hq
    · subst hr
      exact he
end
section
variable {X : Cx} {F0 : Hp} {k j : Nat} {c : Str} {sp : DSp}
/-- bool of plain values -/
def rcBool : DCl := fun ds M Q => match ds with
  | [.tup es] => Q (.bl (!es.isEmpty)) M
  | [.bl b] => Q (.bl b) M
  | [.int i] => Q (.bl (i != 0)) M
  | [x] => match asR M x with
    | some es => Q (.bl (!es.isEmpty)) M
    | none => False
  | _ => False
/-- bool of an instance with an own __bool__ -/
def rcBoolO (c : Str) (sp : DSp) : DCl := fun ds M Q => match ds with
  | [x] => trOwn c sp x M fun b M' => Q (.bl b) M'
  | _ => False
theorem dc_boolO (h : Spc X.prog X.w X.K X.mg X.base k c "__bool__" sp) (hr : Rm j X.A) (hk : k + 2 ≤ j) : DCallR X F0 (.type "bool") (rcBoolO c sp) := by
  intro pins s σ H xs us Q I r ⟨ds, M, F, P, l0, g, rs, t, kk⟩
  cases rs with
  | nil => exact t.elim
  | cons rx rz =>
    cases rz with
    | cons _ _ => exact t.elim
    | nil =>
      obtain ⟨u, rfl, ru⟩ := r.one
      have r2 : Rm k X.A.in1.in1 := ((hr.mono hk).in1).in1
      refine call_bool_any (wpAny_mono (own_truth h r2 rfl I g ru rx t fun b M' F' H' l g' p => kk (.bl b) (.bl b) M' F' H' l g' (.bl b) p) (fun b s' hb => ?_) fun _ _ e => e)
      obtain ⟨H', I', q⟩ := hb
      exact ⟨.bl b, H', I', rfl, q⟩
theorem dc_bool : DCallR X F0 (.type "bool") rcBool := by
  intro pins s σ H xs us Q I r ⟨ds, M, F, P, l0, g, rs, t, kk⟩
  unfold rcBool at t
  have fin : ∀ b, P (.bl b) M → Q (.bl b) H := fun b p => kk (.bl b) (.bl b) M F H (Le.refl F) g (.bl b) p
  split at t
  · cases rs with
    | cons rx rz =>
      cases rz
      obtain ⟨a, vs, rfl, hq, r1⟩ := asT_at g rx rfl
      obtain ⟨u, rfl, ru⟩ := r.one
      cases ru
      obtain ⟨its, rv, p, hz⟩ := I.tuple hq
      refine call_bool_any (PyProof.Rows.truthy_tuple p ?_ ?_)
      · have := rv.length
        rw [List.size_toArray]
        have e := sizeLine_eq
        omega
      · refine ⟨_, H, I.tok _, ?_, fin _ t⟩
        have e1 := reps_empty r1
        have e2 : (!its.toArray.isEmpty) = !vs.isEmpty := by
          cases rv <;> rfl
        rw [e2, e1]
        rfl
  · cases rs with
    | cons rx rz =>
      cases rx; cases rz
      exact call_bool1 pins s σ H _ us Q I r (.inr ⟨_, rfl, fin _ t⟩)
  · cases rs with
    | cons rx rz =>
      cases rx; cases rz
      exact call_bool1 pins s σ H _ us Q I r (.inl ⟨_, rfl, fin _ t⟩)
  · split at t
    · rename_i es e
      cases rs with
      | cons rx rz =>
        cases rz
        obtain ⟨a, vs, rfl, hq, r1⟩ := asR_at g rx e
        refine call_boolL pins s σ H _ us Q I r ⟨a, vs, rfl, hq, ?_⟩
        rw [reps_empty r1]
        exact fin _ t
    · exact t.elim
  · exact t.elim
end

/-! ### comprehensions with two clauses -/
def dLc2Loop (L : Store → Prop) (g : DTG) (tt : DTT) (ti1 : DTI) (g1 : DTG) (tt1 : DTT) (te : DTE) (vs1 : List Nat) (p : Addr) (ρ : Ro) : List D → List D → Store → (List D → Store → Prop) → Prop
  | [], acc => fun M Q => L (updM M p (.lst acc)) ∧ Q acc M
  | d :: ds, acc => fun M Q => L (updM M p (.lst acc)) ∧ g d ρ (updM M p (.lst acc)) fun ρ2 M2 => tt ρ2 M2 fun b M3 =>
    if b = true then ti1 ρ2 M3 fun ds1 L1 M4 => ∃ M5, M4 = updM M5 p (.lst acc) ∧ M5 p = none ∧ dLcLoop L1 g1 tt1 te p (wipeR ρ2 vs1) ds1 acc M5 fun acc2 M6 => dLc2Loop L g tt ti1 g1 tt1 te vs1 p ρ ds acc2 M6 Q
    else ∃ M5, M3 = updM M5 p (.lst acc) ∧ M5 p = none ∧ dLc2Loop L g tt ti1 g1 tt1 te vs1 p ρ ds acc M5 Q
def dLc2 (ti : DTI) (g : DTG) (tt : DTT) (ti1 : DTI) (g1 : DTG) (tt1 : DTT) (te : DTE) (vs vs1 : List Nat) : DTE := fun ρ M Q => ti ρ M fun ds L M1 => ∀ p, M1 p = none → dLc2Loop L g tt ti1 g1 tt1 te vs1 p (wipeR ρ vs) ds [] M1 fun out M2 => Q (.lst out) M2
section
variable {X : Cx} {F0 : Hp} {pos : Pos}
theorem de_lc2 {elt tg iter tg1 iter1 : Expr} {ifs ifs1 : List Expr} {scope : Scope} {own : List (Str × Nat)} {vs1 : List Nat} {ti ti1 : DTI} {g g1 : DTG} {tt tt1 : DTT} {te : DTE} (hc : X.calm = true) (hN : X.N.Nodup) (hne : own ≠ []) (hne1 : vs1 ≠ []) (hi : DI X F0 tg iter ti) (ok : BlkOk X.N X.env.scope scope own) (hv : ∀ i ∈ vs1, i ∈ own.map (·.2))
    (hg : ∀ (s : Shared) (H : Hp) (C : Addr) (cl : List (Str × Addr)) (fp : List Addr), DG (X.blk s H scope (compEnvC scope cl C X.env) fp) F0 (own.map (·.2)) tg g)
    (ht : ∀ (s : Shared) (H : Hp) (C : Addr) (cl : List (Str × Addr)) (fp : List Addr), DIfs (X.blk s H scope (compEnvC scope cl C X.env) fp) F0 ifs tt)
    (hi1 : ∀ (s : Shared) (H : Hp) (C : Addr) (cl : List (Str × Addr)) (fp : List Addr), DI (X.blk s H scope (compEnvC scope cl C X.env) fp) F0 tg1 iter1 ti1)
    (hg1 : ∀ (s : Shared) (H : Hp) (C : Addr) (cl : List (Str × Addr)) (fp : List Addr), DG (X.blk s H scope (compEnvC scope cl C X.env) fp) F0 vs1 tg1 g1)
    (ht1 : ∀ (s : Shared) (H : Hp) (C : Addr) (cl : List (Str × Addr)) (fp : List Addr), DIfs (X.blk s H scope (compEnvC scope cl C X.env) fp) F0 ifs1 tt1)
    (he : ∀ (s : Shared) (H : Hp) (C : Addr) (cl : List (Str × Addr)) (fp : List Addr), DE (X.blk s H scope (compEnvC scope cl C X.env) fp) F0 elt te)
    (hs : ∀ x, foldedSetIterable iter X.env x = pure x := by intro _; rfl) (hs1 : ∀ env x, foldedSetIterable iter1 env x = pure x := by intro _ _; rfl) :
    DE X F0 (.ListComp elt [⟨tg, iter, ifs, 0⟩, ⟨tg1, iter1, ifs1, 0⟩] scope pos) (dLc2 ti g tt ti1 g1 tt1 te (own.map (·.2)) vs1) := by
  have hvs : own.map (·.2) ≠ [] := fun z => hne (List.map_eq_nil_iff.mp z)
  refine ⟨PE.weak (pe_lc2 (wi1 := lowI (Cx.se X) F0 ti1) (g := lowG (Cx.se X) F0 (own.map (·.2)) g) (tt := low (Cx.se X) F0 eqB tt) (g1 := lowG (Cx.se X) F0 vs1 g1) (tt1 := low (Cx.se X) F0 eqB tt1) (te := low (Cx.se X) F0 (fun F => Rep (Cx.se X) F) te) hc hN hi.pi ok hv
    (fun s H C cl fp => (hg s H C cl fp).pg) (fun s H C cl fp => (ht s H C cl fp).pts) (fun s H C cl fp => (hi1 s H C cl fp).pi) (fun s H C cl fp => (hg1 s H C cl fp).pg) (fun s H C cl fp => (ht1 s H C cl fp).pts) (fun s H C cl fp => (he s H C cl fp).pe) hs hs1) fun σ H Q ⟨ρ, M, F, P, l0, sl, gd, t, k⟩ => ?_⟩
  refine ⟨ρ, M, F, _, l0, sl, gd, t, fun ds L J M1 F1 H1 l1 g1' wk p1 D hD => ?_⟩
  have p1' := p1 D (g1'.freshM hD)
  refine ⟨fun i m H' => ∃ acc M' F', Le F1 F' ∧ Good (Cx.se X) F' (updM M' D (.lst acc)) H' ∧ M' D = none ∧ dLc2Loop L g tt ti1 g1 tt1 te vs1 D (wipeR ρ (own.map (·.2))) (ds.drop i) acc M' (fun out M2 => P (.lst out) M2) ∧ i ≤ ds.length ∧ m = ds.length - i,
    ⟨ds.length, [], M1, F1, Le.refl F1, g1'.newM hD (.lst .nil), g1'.freshM hD, p1', Nat.zero_le _, rfl⟩, fun i m H' ⟨acc, M', F', l', g', hM', q, hi', hm⟩ => ?_⟩
  by_cases hlt : i < ds.length
  · right
    have hd : ds.drop i = ds[i] :: ds.drop (i + 1) := List.drop_eq_getElem_cons hlt
    rw [hd] at q
    obtain ⟨w1, _⟩ := wk i H' F' _ l' g' q.1
    obtain ⟨go, yl⟩ := w1 hlt
    refine ⟨go, fun H2 => ∃ acc2 M2 F2, Le F1 F2 ∧ Good (Cx.se X) F2 (updM M2 D (.lst acc2)) H2 ∧ M2 D = none ∧ dLc2Loop L g tt ti1 g1 tt1 te vs1 D (wipeR ρ (own.map (·.2))) (ds.drop (i + 1)) acc2 M2 (fun out M2 => P (.lst out) M2),
      fun H2 ⟨acc2, M2, F2, a1, a2, a3, a4⟩ => ⟨m - 1, by omega, acc2, M2, F2, a1, a2, a3, a4, hlt, by omega⟩, fun x H2 y => ?_⟩
    obtain ⟨F2, d, l2, g2, ed, rd⟩ := yl x H2 y
    have ed' : d = ds[i] := by rw [List.getElem?_eq_getElem hlt] at ed; exact (Option.some.inj ed).symm
    subst ed'
    have L02 : Le F0 F2 := l0.trans (l1.trans (l'.trans l2))
    refine ⟨_, wipeR ρ (own.map (·.2)), _, F2, _, L02, rd, (sl.mono (l1.trans (l'.trans l2))).wipe _, g2, q.2, fun σ3 ρ3 M3 F3 H3 w3 l3 s3 g3 p3 => ?_⟩
    refine ⟨(w3 hvs).trans (wipe_wipe σ _), ρ3, M3, F3, _, L02.trans l3, s3, g3, p3, fun b b' M4 F4 H4 l4 g4 eb p4 => ?_⟩
    cases eb
    have L14 : Le F1 F4 := (l'.trans l2).trans (l3.trans l4)
    cases b with
    | false =>
      obtain ⟨M5, e5, n5, p5⟩ := iteF' p4
      subst e5
      exact iteF ⟨acc, M5, F4, L14, g4, n5, p5⟩
    | true =>
      refine iteT ⟨ρ3, M4, F4, _, (l0.trans l1).trans L14, s3.mono l4, g4, iteT' p4, fun ds1 L1 J1 Ma Fa Ha la ga wka pa => ?_⟩
      obtain ⟨Mb, eb, nb, pb⟩ := pa
      subst eb
      have L1a : Le F1 Fa := L14.trans la
      refine ⟨fun j k H => ∃ acc M' F', Le Fa F' ∧ Good (Cx.se X) F' (updM M' D (.lst acc)) H ∧ M' D = none ∧ dLcLoop L1 g1 tt1 te D (wipeR ρ3 vs1) (ds1.drop j) acc M' (fun acc2 M6 => dLc2Loop L g tt ti1 g1 tt1 te vs1 D (wipeR ρ (own.map (·.2))) (ds.drop (i + 1)) acc2 M6 (fun out M2 => P (.lst out) M2)) ∧ j ≤ ds1.length ∧ k = ds1.length - j,
        ⟨ds1.length, acc, Mb, Fa, Le.refl Fa, ga, nb, pb, Nat.zero_le _, rfl⟩, fun j k H' ⟨acc, M', F', l', g', hM', q, hi', hm⟩ => ?_⟩
      by_cases hlt1 : j < ds1.length
      · right
        have hd : ds1.drop j = ds1[j] :: ds1.drop (j + 1) := List.drop_eq_getElem_cons hlt1
        rw [hd] at q
        obtain ⟨w1, _⟩ := wka j H' F' _ l' g' q.1
        obtain ⟨go, yl⟩ := w1 hlt1
        refine ⟨go, fun H2 => ∃ acc2 M2 F2, Le Fa F2 ∧ Good (Cx.se X) F2 (updM M2 D (.lst acc2)) H2 ∧ M2 D = none ∧ dLcLoop L1 g1 tt1 te D (wipeR ρ3 vs1) (ds1.drop (j + 1)) acc2 M2 (fun acc2 M6 => dLc2Loop L g tt ti1 g1 tt1 te vs1 D (wipeR ρ (own.map (·.2))) (ds.drop (i + 1)) acc2 M6 (fun out M2 => P (.lst out) M2)),
          fun H2 ⟨acc2, M2, F2, a1, a2, a3, a4⟩ => ⟨k - 1, by omega, acc2, M2, F2, a1, a2, a3, a4, hlt1, by omega⟩, fun x H2 y => ?_⟩
        obtain ⟨Fb, d, lb, gb, ed, rd⟩ := yl x H2 y
        have ed' : d = ds1[j] := by rw [List.getElem?_eq_getElem hlt1] at ed; exact (Option.some.inj ed).symm
        subst ed'
        have L0b : Le F0 Fb := (l0.trans l1).trans (L1a.trans (l'.trans lb))
        refine ⟨_, wipeR ρ3 vs1, _, Fb, _, L0b, rd, (s3.mono (l4.trans (la.trans (l'.trans lb)))).wipe _, gb, q.2, fun σ5 ρ5 M5 F5 H5 w5 l5 s5 g5 p5 => ?_⟩
        refine ⟨(w5 hne1).trans (wipe_wipe σ3 _), ρ5, M5, F5, _, L0b.trans l5, s5, g5, p5, fun b b' M6 F6 H6 l6 g6 eb p6 => ?_⟩
        cases eb
        have Lz : Le Fa F6 := (l'.trans lb).trans (l5.trans l6)
        cases b with
        | false =>
          obtain ⟨M7, e7, n7, p7⟩ := iteF' p6
          subst e7
          exact iteF ⟨acc, M7, F6, Lz, g6, n7, p7⟩
        | true =>
          refine iteT ⟨ρ5, M6, F6, _, L0b.trans (l5.trans l6), s5.mono l6, g6, iteT' p6, fun v d M7 F7 H7 l7 g7 r7 p7 => ?_⟩
          obtain ⟨M8, e8, n8, z8, p8⟩ := p7
          subst e8
          obtain ⟨_, o, eo, ro⟩ := g7.cel D (.lst acc) updM_same
          cases ro with
          | lst rs =>
            refine ⟨_, eo, by rw [rs.len]; exact z8, _, M8, F7, Lz.trans l7, ?_, n8, p8⟩
            have := g7.set (m := .lst (acc ++ [d])) updM_same (.lst (rs.append (.cons r7 .nil)))
            rw [updM_updM] at this
            exact this
      · left
        have hj2 : j = ds1.length := by omega
        have hd : ds1.drop j = [] := by rw [hj2]; exact List.drop_length
        rw [hd] at q
        refine ⟨(wka j H' F' _ l' g' q.1).2 hj2, acc, M', F', L1a.trans l', g', hM', q.2⟩
  · left
    have hi2 : i = ds.length := by omega
    have hd : ds.drop i = [] := by rw [hi2]; exact List.drop_length
    rw [hd] at q
    refine ⟨(wk i H' F' _ l' g' q.1).2 hi2, ?_⟩
    obtain ⟨f, o, eo, ro⟩ := g'.cel D (.lst acc) updM_same
    cases ro with
    | lst rs =>
      have gz := g'.freeze updM_same eo
      rw [delM_updM hM'] at gz
      exact k _ _ M' _ H' ((l1.trans l').trans (Le.new f)) gz (.lst upd_same (rs.mono (Le.new f))) q.2
end
end DL


set_option Elab.async false
set_option linter.all false
set_option maxRecDepth 100000
set_option maxHeartbeats 3200000
namespace DL
open PySem PySem.Spec PyProof.Rows L2

/-! ### set(xs), xs a list of ints; sorted(set(xs)) -/
/-- the empty set as it is made -/
def setO0 (w : World) : Obj := { cls := .type "set", dict := none, data := .set #[] 0 (.fresh 0 0 (!w.params.followText "set-order")) }
section
variable {P : Program} {w : World} {A : Around} {E : Value → Shared → Prop} {s : Shared}
def SetMade (w : World) (s : Shared) (ns : List Int) (r : Value) (s2 : Shared) : Prop := r = .none ∧ ∃ h' tk c, s2 = { s with heap := h', toks := tk } ∧ SetR w h' s.heap.objs.size (fun j => decide (j ∈ ns)) c ∧ c ≤ ns.length ∧ ∀ b o, s.heap.get? b = some o → h'.get? b = some o
theorem val_at {items : Array Value} {ns : List Int} (hit : IntsAre items.toList ns) (i : Nat) (v : Value) (hv : items[i]? = some v) : ∃ k t, ns[i]? = some k ∧ v = .int k t := by
  have hi : i < ns.length := by
    have e := hit.length
    have := (Array.getElem?_eq_some_iff.mp hv).1
    rw [Array.length_toList] at e
    omega
  obtain ⟨t, e⟩ := PyProof.Rows.IntsAre.int_at hit i v ((Array.getElem?_toList).trans hv)
  have z : ns[i]? = some ns[i] := List.getElem?_eq_getElem hi
  refine ⟨_, t, z, e.trans ?_⟩
  rw [List.getD_eq_getElem?_getD, z]
  rfl
theorem call_setL {l : Addr} {items : Array Value} (ns : List Int) {Q : Value → Shared → Prop} (hh : A.handled = none) (hl : s.heap.IsList l items) (hit : IntsAre items.toList ns) (hb : ns.length + 1 < scanBound)
    (h : ∀ (h' : Heap) (tk c : Nat), SetR w h' s.heap.objs.size (fun j => decide (j ∈ ns)) c → c ≤ ns.length → (∀ b o, s.heap.get? b = some o → h'.get? b = some o) → Q (.ref s.heap.objs.size) { s with heap := h', toks := tk }) :
    wpAny (model P w) A (call (.type "set") [.ref l]) Q E s := by
  have sz : items.size = ns.length := by
    have e := hit.length
    rwa [Array.length_toList] at e
  have ft := F.called_set
  obtain ⟨c0, tl0, hmro⟩ := ft.mro
  have hmade := ft.made
  have hsub := ft.sub
  have hct := F.typeCall_set_1 (.ref l)
  have hno := ft.notType
  have hcan := ft.canCreate
  refine wpAny_call (codeAny_of_tree (?_ : wpAny _ _ (callAny (.type "set") _) _ _ _))
  refine wpAny_pure ⟨Code.quiet_builtin _ (by decide +kernel), ?_⟩
  refine codeAny_builtin F.entry_type_call ?_
  rw [Around.under_plain (weight_type_call_type "set" [.ref l] []) rfl]
  repeat (any_goals (first | assumption | wp_step))
  refine codeAny_mono (code_set_led1 (.ref l) (E := E) (Q₁ := fun obj s₁ => obj = .ref s.heap.objs.size ∧ s₁ = { s with heap := s.heap.push (setO0 w) }) ⟨rfl, rfl⟩) fun r s1 hr => ?_
  cases r with
  | error e => exact hr
  | ok fl =>
    cases fl with
    | ret obj =>
      obtain ⟨rfl, rfl⟩ := hr
      have hS : (s.heap.push (setO0 w)).get? s.heap.objs.size = some (setO0 w) := Heap.get?_push_size _ rfl
      have hT : Shared.TypeIs { s with heap := s.heap.push (setO0 w) } (.ref s.heap.objs.size) "set" := ⟨_, hS, rfl⟩
      have hli := ft.init.lookup
      have hbi := ft.init.bind (.ref s.heap.objs.size)
      repeat (any_goals (first | assumption | wp_step))
      refine codeAny_mono (codeAny_call_builtin (R := wants (SetMade w s ns) E) ft.init.plain F.entry_set_init (check_set_init_1 hT ?_)) fun r2 s2 hr2 => ?_
      · obtain ⟨⟨ocl, odi, oda, osl⟩, hol, hcl, nl, hdl⟩ := hl
        simp only at hcl hdl
        subst hcl hdl
        have hol2 : (s.heap.push (setO0 w)).get? l = some { cls := .type "list", dict := odi, data := .seq items nl, slots := osl } := Heap.get?_push_of_some _ hol
        have f1 := F.sub_list_set
        have f2 := F.sub_list_frozenset
        have f3 : (Value.type "list" == Value.type "dict") = false := by decide
        have hl1 : (s.heap.push (setO0 w)).IsList l items := ⟨_, hol2, rfl, nl, rfl⟩
        have lt := Heap.lt_size hol
        have zz : (s.heap.push (setO0 w)).objs.size = s.heap.objs.size + 1 := Heap.size_push ..
        unfold Builtin.«set.__init__» noKeywords Builtin.Frozenset.updateFrom
        generalize hPI : pyIter = PI
        wp_walk
        subst hPI
        refine wpAny_pyIter_list hl1 (wpAny_bind (wpAny_runValue ?_))
        have h3 : A.in1.in1.in1.handled = none := by simp [hh]
        have n1 : l ≠ (s.heap.push (setO0 w)).objs.size := by rw [zz]; exact Nat.ne_of_lt (Nat.lt_succ_of_lt lt)
        have n2 : s.heap.objs.size ∉ [(s.heap.push (setO0 w)).objs.size, l] := by
          rw [zz]
          simp only [List.mem_cons, List.not_mem_nil, or_false, not_or]
          exact ⟨Nat.ne_of_lt (Nat.lt_succ_self _), Nat.ne_of_gt lt⟩
        have W := (Walks.list (prog := P) (w := w) h3 _ l n1 items).toS
        refine set_update_ints W s.heap.objs.size n2 ns sz hb (val_at hit) items.size 0 _ (Nat.sub_zero _) (Nat.zero_le _) ⟨⟨_, Heap.get?_push_size _ rfl, rfl, rfl⟩, hl1.push _⟩ ⟨0, Nat.le_refl _, setR_new_at (Heap.get?_push_of_some _ hS)⟩ fun s3 c3 hm hc3 hS3 => ?_
        obtain ⟨h4, g4, d4, tk4, os4⟩ := s3
        have e1 : g4 = s.gens := hm.gens
        have e2 : d4 = s.drawn := hm.drawn
        have e3 : os4 = s.os := hm.os
        subst e1 e2 e3
        refine wpAny_pure (wpAny_pure ⟨rfl, h4, tk4, c3, rfl, hS3, by omega, fun b o e => ?_⟩)
        have lb := Heap.lt_size e
        refine hm.heap b o ?_ (Heap.get?_push_of_some _ (Heap.get?_push_of_some _ e))
        rw [zz]
        simp only [List.mem_cons, List.not_mem_nil, or_false, not_or]
        exact ⟨Nat.ne_of_lt lb, Nat.ne_of_lt (Nat.lt_succ_of_lt lb)⟩
      · cases r2 with
        | error e => exact hr2
        | ok fl2 =>
          cases fl2 with
          | ret r =>
            obtain ⟨rfl, h4, tk4, c4, rfl, q1, q2, q3⟩ := hr2
            repeat (any_goals (first | assumption | wp_step))
            exact h _ _ _ q1 q2 q3
          | _ => exact hr2.elim
    | _ => exact hr.elim
end
end DL


set_option Elab.async false
set_option linter.all false
set_option maxRecDepth 100000
set_option maxHeartbeats 3200000
namespace DL
open PySem PySem.Spec PyProof.Rows L2
section
variable {P : Program} {w : World} {A : Around} {E : Value → Shared → Prop} {s : Shared}
/-- sorted of a set of ints, any number of them -/
theorem sorted_setA {a : Addr} {S : Int → Bool} {n : Nat} {Q : Value → Shared → Prop} (R : SetR w s.heap a S n) (hh : A.handled = none) (hn : n ≤ sizeLine)
    (hQ : ∀ s' p (out : List Value) (c : Nat) (ns : List Int), (∀ b o, s.heap.get? b = some o → s'.heap.get? b = some o) → s'.gens = s.gens → s'.os = s.os → s.heap.objs.size ≤ p →
      s'.heap.get? p = some (seqObj "list" out.toArray c) → IntsAre out ns → ns.Pairwise (· < ·) → (∀ k, k ∈ ns ↔ S k = true) → ns.length = n → Q (.ref p) s') :
    wpAny (model P w) A (call (.builtin "sorted") [.ref a]) Q E s := by
  obtain ⟨o, es, ep, t, ho, hex, hd, g, nd, hm, hb, hf, hc, hr, hl⟩ := R
  refine Calls.call_function_entry kind_sorted plain_sorted entry_sorted (args_sorted1 _) ?_
  unfold Builtin.«sorted»
  refine wpAny_bind (m := checkCount "sorted" 1 1 _) (wpAny_pure (wpAny_bind (collect_set (A := A.in1) hh ⟨o, ho, hex.1, hd⟩ hf hb hr hl fun s1 vs k1 hz g1 o1 pm => ?_)))
  have lv : vs.length = n := by rw [pm.length_eq, List.length_map, Array.length_toList, hc]
  have hI : IntsAre vs (vs.map Builtin.Re.reRawOf) := ints_of vs fun v hv => by
    obtain ⟨e, he, q⟩ := List.mem_map.mp (pm.mem_iff.mp hv)
    obtain ⟨k, tk, h1, _⟩ := g e he
    exact ⟨k, tk, q.symm.trans h1⟩
  have pk : (vs.map Builtin.Re.reRawOf).Perm (es.toList.map keyOf) := by
    have q := pm.map Builtin.Re.reRawOf
    rwa [List.map_map] at q
  refine wpAny_bind (wpAny_newList ?_ (by rw [lv]; exact hn))
  have hL : (s1.heap.push (seqObj "list" vs.toArray 0)).get? s1.heap.objs.size = some (seqObj "list" vs.toArray 0) := Heap.get?_push_size _ rfl
  refine wpAny_bind (wpAny_holding (wpAny_call_entry slot_list_sort ⟨_, hL, rfl⟩ entry_list_sort (SrtO.list_sort_ord SrtO.swo_int hL (by rw [lv]; exact hn) (fun h2 => SrtO.ints_sortable hI h2) fun out hs hb2 => ⟨_, rfl, ?_⟩) (args_list_sort _)))
  obtain ⟨i1, i2, i3⟩ := SrtO.ints_out hI hs hb2
  obtain ⟨c, hc2⟩ := sortedHeap_at (vs := vs) (out := out.toArray) hL
  have pn := i2.trans pk
  refine wpAny_pure ⟨_, rfl, hQ _ s1.heap.objs.size out c _ (fun b u e => ?_) g1 o1 hz hc2 i1 (lt_of_le_nodup _ i3 (pn.nodup_iff.mpr nd)) (fun k => by rw [pn.mem_iff, ← hm k]) ?_⟩
  · have q := k1 b u e
    have hlt := Heap.lt_size q
    refine (?_ : (sortedHeap (s1.heap.push (seqObj "list" vs.toArray 0)) s1.heap.objs.size vs out.toArray).get? b = some u)
    exact (sortedHeap_old (Nat.ne_of_lt hlt) (Nat.lt_of_lt_of_eq (Nat.lt_succ_of_lt hlt) (size_push' _ _).symm)).trans (Heap.get?_push_of_some _ q)
  · rw [pn.length_eq, List.length_map, Array.length_toList, hc]
end
section
variable {X : Cx} {F0 : Hp} {a : Expr} {te : DTE} {p p2 q pos : Pos}
/-- sorted(set(x)), x a list of ints -/
def rcSortSet (x : D) (M : Store) (Q : D → Store → Prop) : Prop := match asR M x with
  | some ds => match toIs ds with
    | some ns => ns.length ≤ 4000 ∧ ∀ out : List Int, out.Pairwise (· < ·) → (∀ k, k ∈ out ↔ k ∈ ns) → out.length ≤ ns.length → Q (.lst (out.map .int)) M
    | none => False
  | none => False
def dSortSet (te : DTE) : DTE := fun ρ M Q => te ρ M fun x M1 => rcSortSet x M1 Q
theorem reps_int {S : SE} {F : Hp} : ∀ l : List Int, Reps S F (l.map V.int) (l.map D.int)
  | [] => .nil
  | i :: l => .cons (.int i) (reps_int l)
theorem de_sortSet (hm : X.mg "sorted" = none) (hm2 : X.mg "set" = none) (ha : DE X F0 a te) (hc : X.calm = true := by rfl) (hg : Gl X "sorted" := by rfl) (hg2 : Gl X "set" := by rfl)
    (na : starEach [a] X.env = (false, eval a X.env) :: starEach [] X.env := by rfl) : DE X F0 (.Call (.Name "sorted" p) [.Call (.Name "set" p2) [a] [] q] [] pos) (dSortSet te) := by
  refine ⟨⟨fun pins s σ H Q I ⟨ρ, M, F, P, l0, sl, g, t, k⟩ => ?_⟩⟩
  refine wpAny_Call_Name_kw (ld_blt I hg hm (u := .builtin "sorted") (by decide +kernel) ?_)
  refine PyProof.Rows.callWith_builtin1 (PyProof.Rows.args_cons ?_ rfl) rfl rfl
  refine wpAny_Call_Name_kw (ld_blt I hg2 hm2 (u := .type "set") (by decide +kernel) ?_)
  refine PyProof.Rows.callWith_type1 (PyProof.Rows.args_cons (thn (ha.pe.run pins s σ H (fun x H1 => ∃ d M1 F1, Le F F1 ∧ Good (Cx.se X) F1 M1 H1 ∧ Rep (Cx.se X) F1 x d ∧ rcSortSet d M1 P) I ⟨ρ, M, F, _, l0, sl, g, t, fun v d M1 F1 H1 l1 g1 r1 p1 => ⟨d, M1, F1, l1, g1, r1, p1⟩⟩) fun v s1 ⟨x, H1, I1, r1, d, M1, F1, l1, g1, rd, p1⟩ => PyProof.Rows.args_nil ?_) na) na rfl
  unfold rcSortSet at p1
  split at p1
  · rename_i ds e1
    split at p1
    · rename_i ns e2
      obtain ⟨hn, p1⟩ := p1
      obtain ⟨l, vs, rfl, hq, ry⟩ := asR_at g1 rd e1
      have ev := reps_ints ry e2
      subst ev
      obtain ⟨its, rv, pl, hz⟩ := I1.list hq
      cases r1
      refine call_setL ns (I1.ok.hd hc) pl.isList (by simpa using rv.ints) (by have : scanBound = 4096 := rfl; omega) fun h' tk c hS hcn hk => ?_
      refine PyProof.Rows.args_nil ?_
      have I2 : Inv X pins σ H1 { s1 with heap := h', toks := tk } := I1.kept hk
      refine sorted_setA hS (I2.ok.hd hc) (by rw [sizeLine_eq]; omega) fun s' p out cc ms kk gg oo hp hg' hi hs hm' hl => ?_
      have hlen : (ms.map V.int).length ≤ sizeLine := by rw [List.length_map, hl, sizeLine_eq]; omega
      have hn' : H1 p = none := I2.hok.fresh hp
      have J : Inv X pins σ (upd H1 p (.lst (ms.map V.int))) s' := I2.call' (ch := []) oo (Un.laid kk hp hn') (I2.hok.laid kk hp ⟨hlen, out, cc, vals_of_ints hi, hg'⟩) (by rw [gg]; exact I2.bare) (fun _ z => nomatch z)
      have fr := g1.freshF hn'
      exact ⟨.ref p, _, J, rfl, k _ _ M1 _ _ (l1.trans (Le.new fr)) (g1.new hn') (.lst upd_same (reps_int ms)) (p1 ms hs (fun j => by simpa using hm' j) (by rw [hl]; exact hcn))⟩
    · exact p1.elim
  · exact p1.elim
end
end DL


set_option Elab.async false
set_option linter.all false
set_option maxRecDepth 100000
set_option maxHeartbeats 1600000
namespace DL
open PySem PySem.Spec PyProof.Rows L2

/-! ### list.clear -/
def rmClear : DMt := fun x ds M Q => match x, ds with
  | .ref a, [] => match M a with
    | some (.lst _) => Q .non (updM M a (.lst []))
    | _ => False
  | _, _ => False
section
variable {X : Cx} {F0 : Hp} {o : Expr} {to : DTE} {apos cpos : Pos}
theorem dm_clear : DMtR X F0 "list.clear" rmClear := by
  intro pins s σ H x xs v us Q I rx rxs ⟨d, ds, M, F, P, l0, g, rd, rs, t, k⟩
  refine mt_clear pins s σ H x xs v us Q I rx rxs ?_
  unfold rmClear at t
  split at t
  · split at t
    · rename_i e
      obtain ⟨_, o, e2, q⟩ := g.cel _ _ e
      cases q with
      | lst r =>
        cases rd
        cases rs
        exact ⟨_, _, rfl, rfl, e2, k _ _ _ F _ (Le.refl F) (g.set e (.lst .nil)) .non t⟩
    · exact t.elim
  · exact t.elim
theorem de_clear (ho : DE X F0 o to) (hbase : attributeBase o "clear" X.env (eval o X.env) = eval o X.env := by rfl) (hline : (apos.endLine == cpos.line) = true := by rfl) :
    DE X F0 (.Call (.Attribute o "clear" apos) [] [] cpos) (dMt rmClear to daNil) := de_m0 F.slot_list_clear F.type_list_clear dm_clear ho hbase hline
end

/-! ### name op= value, of an own class without an operator of this name in place -/
section
variable {A : Around} {E : Value → Shared → Prop} {s : Shared} {K : PySem.W.Frag} {x C L f : Addr} {h₀ : Heap} {m : Str → Option Value} {ox : Obj} {od : Option Obj}
theorem anyM_lack {M : Model} {h : Heap} {g : Value → Sem Bool} : ∀ {l : List Value}, (∀ c ∈ l, PySem.W.Looks M h (g c) false) → PySem.W.Looks M h (l.anyM g) false
  | [], _ => .now
  | c :: r, e => (e c List.mem_cons_self).andThen (anyM_lack fun d hd => e d (List.mem_cons_of_mem _ hd))
theorem inplace_lack {M : Model} {h : Heap} {nm : String} {add : Bool} {cd : ClassData} (X : K.In h) (hc : PySem.W.clsIn K C = some cd) (hl : ∀ c ∈ cd.mro, PySem.W.findIn K c (PySem.dunderI nm) = some none) : PySem.W.Looks M h (fillsInplaceSlot (.ref C) nm add) false := by
  intro A Q E s k q
  unfold fillsInplaceSlot
  refine wpAny_bind ((PySem.W.looks_clsIn X hc).andThen (f := fun cd => pure cd.mro) .now A _ E s k ?_)
  refine anyM_lack (fun c hc => ?_) A _ E s k q
  exact (PySem.W.looks_findIn X (hl c hc)).andThen .now
theorem binop1_own {prog : Program} {w : World} {nm : String} {b : Value} {Q : Value → Shared → Prop} (F : Fr h₀ L s.heap m) (X₀ : K.In h₀) (I : PySem.W.InstAt s.heap x ox C od) (hb : PySem.W.Looks (model prog w) s.heap (typeOf b) (.ref C)) (hc : PySem.W.selfFirst K C = true)
    (hs : PySem.W.findIn K (.ref C) (PySem.dunder nm) = some (some (.ref f))) (hf : PySem.W.isFn K (.ref f) = true)
    (h : wpAny (model prog w) A (call (.ref f) [.ref x, b]) (PySem.W.CmpBack Q) E s) : wpAny (model prog w) A (binaryOp1 nm (.ref x) b) (fun r s' => ∃ v, r = some v ∧ Q v s') E s := by
  have X := X₀.keeps F.keep
  obtain ⟨cd, hcd, hm⟩ := PySem.W.any_some hc
  obtain ⟨rest, hm⟩ : ∃ rest, cd.mro = .ref C :: rest := by
    cases q : cd.mro with
    | nil => rw [q] at hm; cases hm
    | cons a r => rw [q] at hm; exact ⟨r, by rw [List.head?_cons] at hm; cases (beq_iff_eq.mp hm); rfl⟩
  have one : wpAny (model prog w) A (tryMethod (.ref x) (PySem.dunder nm) b) (fun r s' => ∃ v, r = some v ∧ Q v s') E s := by
    unfold tryMethod
    refine wpAny_bind (PySem.W.special_fn X I hs (beq_iff_eq.mp hf) (wpAny_mono h (fun v s' hv => ?_) fun _ _ e => e))
    cases v <;> first | exact hv.elim | exact wpAny_pure ⟨_, rfl, hv⟩
  unfold binaryOp1
  refine wpAny_bind (I.type.here (wpAny_bind (hb.here (wpAny_bind ((PySem.W.fills_K X hcd hm hs).here ?_)))))
  simp only [beq_self_eq_true, if_true]
  refine wpAny_bind (wpAny_pure ?_)
  simp only [Bool.and_false, Bool.false_eq_true, if_false, Bool.false_and]
  refine wpAny_bind (wpAny_pure ?_)
  simp only [Bool.false_eq_true, if_false]
  refine wpAny_bind (wpAny_mono one (fun r s' hr' => ?_) fun _ _ e => e)
  obtain ⟨v, rfl, hq⟩ := hr'
  exact wpAny_pure ⟨_, rfl, hq⟩
theorem inplace_own {prog : Program} {w : World} {op : Operator} {b : Value} {Q : Value → Shared → Prop} {cd : ClassData} (F : Fr h₀ L s.heap m) (X₀ : K.In h₀) (I : PySem.W.InstAt s.heap x ox C od) (hb : PySem.W.Looks (model prog w) s.heap (typeOf b) (.ref C)) (hc : PySem.W.selfFirst K C = true)
    (hcd : PySem.W.clsIn K C = some cd) (hl : ∀ c ∈ cd.mro, PySem.W.findIn K c (PySem.dunderI op.info.2) = some none)
    (hs : PySem.W.findIn K (.ref C) (PySem.dunder op.info.2) = some (some (.ref f))) (hf : PySem.W.isFn K (.ref f) = true)
    (h : wpAny (model prog w) A (call (.ref f) [.ref x, b]) (PySem.W.CmpBack Q) E s) : wpAny (model prog w) A (inplaceOp op (.ref x) b) Q E s := by
  have X := X₀.keeps F.keep
  have one := binop1_own F X₀ I hb hc hs hf h
  unfold inplaceOp
  refine wpAny_holding (wpAny_bind (I.type.here (wpAny_bind ((inplace_lack X hcd hl).here ?_))))
  simp only [Bool.false_eq_true, if_false]
  refine wpAny_bind (wpAny_mono one (fun r s' hr' => ?_) fun _ _ e => e)
  obtain ⟨v, rfl, hq⟩ := hr'
  exact wpAny_pure hq
end
section
variable {X : Cx} {F0 : Hp} {k j : Nat} {c m : Str} {sp : DSp}
theorem dip_own {op : Operator} {i : Str} (h : Spc X.prog X.w X.K X.mg X.base k c m sp) (hm : PySem.dunder op.info.2 = m) (hl : ∀ C : Addr, X.mg c = some (.ref C) → PySem.W.findIn X.K (.ref C) i = some none) (hi : PySem.dunderI op.info.2 = i) (hr : Rm j X.A) (hk : k ≤ j)
    (ho : PySem.fastLookup "object" i = some none := by decide +kernel) : DIp X F0 op (rdOwnB c sp) := by
  intro pins s σ H x y v u Q I rx ry ⟨dx, dy, M, F, P, l0, g, r1, r2, t, kk⟩
  obtain ⟨C, f, fd, ps, o⟩ := h.at
  obtain ⟨t1, t2, t⟩ := t
  obtain ⟨a, ob, od, rfl, J⟩ := own_inst I g r1 o.hc t1
  obtain ⟨b, ob', od', rfl, J'⟩ := own_inst I g r2 o.hc t2
  cases rx
  cases ry
  obtain ⟨mm, hF⟩ := I.fr
  obtain ⟨⟨cd, h1, h2⟩, _⟩ := cls_parts o.hc
  have sf : PySem.W.selfFirst X.K C = true := by
    unfold PySem.W.selfFirst
    rw [h1]
    simp [h2]
  refine inplace_own hF I.ok.mod.kin J J'.type sf h1 (fun c hc => ?_) (by rw [hm]; exact o.hs) o.hf (wpAny_mono (runGA (Q := Q) o.FG (hr.mono hk) rfl o.hb I (vs := [.ref a, .ref b]) (us := [.ref a, .ref b]) (.cons rfl (.cons rfl .nil)) ?_) (fun v s' hv => cmp_back hv) fun _ _ e => e)
  · rw [hi]
    rw [h2] at hc
    rcases List.mem_cons.mp hc with rfl | hc
    · exact hl C o.hc.mg
    · rw [List.mem_singleton.mp hc]
      exact ho
  · exact ⟨_, M, F, _, _, .cons r1 (.cons r2 .nil), g, t, fun v d M' F' H' l g' rv p => kk _ _ M' F' H' l g' rv p, fun _ _ _ _ _ _ _ _ _ _ z => z.elim⟩
end
end DL


set_option Elab.async false
set_option linter.all false
set_option maxRecDepth 100000
set_option maxHeartbeats 1600000
namespace DL
open PySem PySem.Spec PyProof.Rows L2

/-! ### dicts whose keys are whole numbers or texts -/
def keyK : D → Option Key
  | .int i => some (.inl i)
  | .str x => some (.inr x)
  | _ => none
theorem keyK_D (k : Key) : keyK (keyD k) = some k := by cases k <;> rfl
def dval (ds : List (D × D)) (k : Key) : Option D := (ds.find? fun kv => decide (keyK kv.1 = some k)).map (·.2)
def dputK (ds : List (D × D)) (k : Key) (d : D) : List (D × D) :=
  if (ds.any fun kv => decide (keyK kv.1 = some k)) = true then ds.map (fun kv => if keyK kv.1 = some k then (kv.1, d) else kv) else ds ++ [(keyD k, d)]
def asD (M : Store) (x : D) : Option (List (D × D)) := match x with
  | .ref a => match M a with
    | some (.dct kvs) => some kvs
    | _ => none
  | .dct kvs => some kvs
  | _ => none
theorem asD_at {S : SE} {F H : Hp} {M : Store} {x : V} {d : D} {ds : List (D × D)} (g : Good S F M H) (r : Rep S F x d) (h : asD M d = some ds) : ∃ a vs, x = .ref a ∧ Rd H a (.dK vs) ∧ RepK S F vs ds := by
  cases d with
  | ref a =>
    cases r
    unfold asD at h
    simp only at h
    split at h
    · rename_i kvs e
      cases h
      obtain ⟨_, o, e2, q⟩ := g.cel _ _ e
      cases q with
      | dctK rs => exact ⟨a, _, rfl, .inl e2, rs⟩
    · cases h
  | dct kvs =>
    cases h
    cases r with
    | dctK hq rs => exact ⟨_, _, rfl, g.rd hq, rs⟩
  | _ => cases h
theorem keyK_at {S : SE} {F : Hp} {x : V} {d : D} {k : Key} (r : Rep S F x d) (h : keyK d = some k) : x = kV k := by
  cases d with
  | int i => cases h; cases r; rfl
  | str i => cases h; cases r; rfl
  | _ => cases h
theorem repK_val {S : SE} {F : Hp} (k : Key) : ∀ {vs : List (Key × V)} {ds : List (D × D)}, RepK S F vs ds → (valV vs k = none ∧ dval ds k = none) ∨ ∃ v d, valV vs k = some v ∧ dval ds k = some d ∧ Rep S F v d
  | _, _, .nil => .inl ⟨rfl, rfl⟩
  | _, _, .cons (k := j) (v := v) (d := d) (vs := vs) (ds := ds) h t => by
    by_cases e : j = k
    · subst e
      exact .inr ⟨v, d, by simp [valV], by simp [dval, keyK_D], h⟩
    · have ne : ¬ keyK (keyD j) = some k := by rw [keyK_D]; intro z; cases z; exact e rfl
      have e1 : valV ((j, v) :: vs) k = valV vs k := valV_neg e
      have e2 : dval ((keyD j, d) :: ds) k = dval ds k := by simp [dval, List.find?_cons, ne]
      rw [e1, e2]
      exact repK_val k t
theorem repK_any {S : SE} {F : Hp} (k : Key) : ∀ {vs : List (Key × V)} {ds : List (D × D)}, RepK S F vs ds → (vs.any fun kv => decide (kv.1 = k)) = ds.any fun kv => decide (keyK kv.1 = some k)
  | _, _, .nil => rfl
  | _, _, .cons (k := j) h t => by
    rw [List.any_cons, List.any_cons, repK_any k t, keyK_D]
    simp
theorem repK_repl {S : SE} {F : Hp} (k : Key) {v : V} {d : D} (r : Rep S F v d) : ∀ {vs : List (Key × V)} {ds : List (D × D)}, RepK S F vs ds → RepK S F (vs.map fun kv => if kv.1 = k then (kv.1, v) else kv) (ds.map fun kv => if keyK kv.1 = some k then (kv.1, d) else kv)
  | _, _, .nil => .nil
  | _, _, .cons (k := j) (v := v') (d := d') h t => by
    rw [List.map_cons, List.map_cons, keyK_D]
    by_cases e : j = k
    · subst e
      simp only [if_true]
      exact .cons r (repK_repl j r t)
    · have ne : ¬ some j = some k := fun z => e (Option.some.inj z)
      simp only [if_neg e, if_neg ne]
      exact .cons h (repK_repl k r t)
theorem repK_app {S : SE} {F : Hp} {vs' : List (Key × V)} {ds' : List (D × D)} (r : RepK S F vs' ds') : ∀ {vs : List (Key × V)} {ds : List (D × D)}, RepK S F vs ds → RepK S F (vs ++ vs') (ds ++ ds')
  | _, _, .nil => r
  | _, _, .cons h t => .cons h (repK_app r t)
theorem repK_put {S : SE} {F : Hp} (k : Key) {v : V} {d : D} (r : Rep S F v d) {vs : List (Key × V)} {ds : List (D × D)} (h : RepK S F vs ds) : RepK S F (putK vs k v) (dputK ds k d) := by
  unfold putK dputK
  rw [repK_any k h]
  split
  · exact repK_repl k r h
  · exact repK_app (.cons r .nil) h
theorem repK_len {S : SE} {F : Hp} : ∀ {vs : List (Key × V)} {ds : List (D × D)}, RepK S F vs ds → vs.length = ds.length
  | _, _, .nil => rfl
  | _, _, .cons _ t => congrArg Nat.succ (repK_len t)
section
variable {X : Cx} {F0 : Hp} {k : Nat} {pos : Pos}
/-- key in dict -/
def rdInD (neg : Bool) : DR2 := fun x y M Q => match keyK x, asD M y with
  | some j, some ds => Q (.bl (neg != (dval ds j).isSome)) M
  | _, _ => False
theorem do_inD (hr : Room k X.A) : DOp X F0 (compareOp .In) (rdInD false) := by
  intro pins s σ H x y v u Q I rx ry ⟨dx, dy, M, F, P, l0, g, hx, hy, t, kk⟩
  unfold rdInD at t
  split at t
  · rename_i j ds e1 e2
    obtain ⟨a, vs, rfl, hR, rs⟩ := asD_at g hy e2
    have ex := keyK_at hx e1
    cases ry
    refine d_in (by have := hr.units; omega) I (y := x) (o := valV vs j) (.inl ⟨vs, j, hR, ex, rfl⟩) rx fun s' I' => ⟨.bl (valV vs j).isSome, H, I', rfl, kk _ _ M F H (Le.refl F) g (.bl _) ?_⟩
    rcases repK_val j rs with ⟨h1, h2⟩ | ⟨v, d, h1, h2, h3⟩
    · rw [h2] at t
      rw [h1]
      exact t
    · rw [h2] at t
      rw [h1]
      exact t
  · exact t.elim
theorem do_notInD (hr : Room k X.A) : DOp X F0 (compareOp .NotIn) (rdInD true) := by
  intro pins s σ H x y v u Q I rx ry ⟨dx, dy, M, F, P, l0, g, hx, hy, t, kk⟩
  unfold rdInD at t
  split at t
  · rename_i j ds e1 e2
    obtain ⟨a, vs, rfl, hR, rs⟩ := asD_at g hy e2
    have ex := keyK_at hx e1
    cases ry
    refine d_notIn (by have := hr.units; omega) I (y := x) (o := valV vs j) (.inl ⟨vs, j, hR, ex, rfl⟩) rx fun s' I' => ⟨.bl (!(valV vs j).isSome), H, I', rfl, kk _ _ M F H (Le.refl F) g (.bl _) ?_⟩
    rcases repK_val j rs with ⟨h1, h2⟩ | ⟨v, d, h1, h2, h3⟩
    · rw [h2] at t
      rw [h1]
      exact t
    · rw [h2] at t
      rw [h1]
      exact t
  · exact t.elim
/-- d[k] = v -/
def rdSetD : DSet := fun o i v M Q => match o, keyK i with
  | .ref a, some j => match M a with
    | some (.dct ds) => ds.length < sizeLine ∧ Q (updM M a (.dct (dputK ds j v)))
    | _ => False
  | _, _ => False
theorem ds_dict (hr : Room k X.A) : DSetR X F0 rdSetD := by
  intro pins s σ H o i v ov iv u Q I ro ri rv ⟨d1, d2, d3, M, F, P, l0, h1, h2, h3, g, t, kk⟩
  unfold rdSetD at t
  split at t
  · rename_i a j e1
    cases h1
    have ex := keyK_at h2 e1
    subst ex
    cases ro
    split at t
    · rename_i ds e
      obtain ⟨f, ob, hH, rm⟩ := g.cel _ _ e
      cases rm with
      | dctK rs =>
        refine d_setItem (by have := hr.units; omega) I (DPut.k hH (by rw [repK_len rs]; exact t.1)) ri rv fun s' I' => ?_
        exact ⟨_, I', kk _ F _ (Le.refl F) (g.set e (.dctK (repK_put j h3 rs))) t.2⟩
    · exact t.elim
  · exact t.elim
/-- {} -/
def dNewD : DTE := fun _ M Q => ∀ p, M p = none → Q (.ref p) (updM M p (.dct []))
theorem de_newD : DE X F0 (.Dict [] [] pos) dNewD :=
  ⟨PE.weak pe_dnewK fun σ H Q ⟨ρ, M, F, P, l0, sl, g, t, kk⟩ => fun p hp => kk _ _ _ F _ (Le.refl F) (g.newM hp (.dctK .nil)) (.ref p) (t p (g.freshM hp))⟩
/-- d[k] -/
def rdIxD : DR2 := fun x y M Q => match asD M x, keyK y with
  | some ds, some j => match dval ds j with
    | some d => Q d M
    | none => False
  | _, _ => False
end
end DL


set_option Elab.async false
set_option linter.all false
set_option maxRecDepth 100000
set_option maxHeartbeats 1600000
namespace DL
open PySem PySem.Spec PyProof.Rows L2

/-! ### zip of two lists of one length -/
theorem asR_held {S : SE} {F H : Hp} {M : Store} {v : V} {d : D} {ds : List D} (g : Good S F M H) (r : Rep S F v d) (e : asR M d = some ds) :
    ∃ a, v = .ref a ∧ ∀ H' F' M', Le F F' → Good S F' M' H' → Held d ds M' → ∃ vs, SqL S.K H' a vs ∧ Reps S F' vs ds := by
  cases d with
  | lst es =>
    cases e
    cases r with
    | lst hq rs => exact ⟨_, rfl, fun H' F' M' l g' _ => ⟨_, .inl (.inl (g'.sub _ _ (l.lst _ _ hq))), rs.mono l⟩⟩
  | fro es =>
    cases e
    cases r with
    | fro hq rs => exact ⟨_, rfl, fun H' F' M' l g' _ => ⟨_, g'.sqL (l.sqL hq), rs.mono l⟩⟩
  | ref a =>
    cases r
    refine ⟨a, rfl, fun H' F' M' l g' hl => ?_⟩
    obtain ⟨_, ob, hH, rm⟩ := g'.cel a (.lst ds) hl
    cases rm with
    | lst rs => exact ⟨_, .inl (.inl hH), rs⟩
  | _ => cases e
def zipD (xs ys : List D) : List D := List.zipWith (fun x y => .tup [x, y]) xs ys
def dZip (ta : DTA) : DTI := fun ρ M R => ta ρ M fun ds M1 => match ds with
  | [x, y] => match asR M1 x, asR M1 y with
    | some xs, some ys => xs.length = ys.length ∧ R (zipD xs ys) (fun M => Held x xs M ∧ Held y ys M) M1
    | _, _ => False
  | _ => False
theorem walks_zip {S : SE} {F0 : Hp} {a b : Addr} {xs ys : List D} {L : Store → Prop} (hl : xs.length = ys.length)
    (hx : ∀ H F M, Le F0 F → Good S F M H → L M → ∃ vs, SqL S.K H a vs ∧ Reps S F vs xs) (hy : ∀ H F M, Le F0 F → Good S F M H → L M → ∃ vs, SqL S.K H b vs ∧ Reps S F vs ys) : Walks S F0 (Itz S.K a b) (zipD xs ys) L := by
  intro i H F M l g h
  obtain ⟨vs, hq, r⟩ := hx H F M l g h
  obtain ⟨ws, hq2, r2⟩ := hy H F M l g h
  have hz : (zipD xs ys).length = xs.length := by unfold zipD; rw [List.length_zipWith, ← hl, Nat.min_self]
  rw [hz]
  refine ⟨fun hi => ⟨?_, fun x H' y => ?_⟩, fun e => ⟨vs, ws, hq, hq2, .inl (by rw [r.len]; omega)⟩⟩
  · obtain ⟨v, hv, _⟩ := r.get (List.getElem?_eq_getElem hi)
    obtain ⟨w, hw, _⟩ := r2.get (List.getElem?_eq_getElem (show i < ys.length by omega))
    exact ⟨vs, ws, v, w, hq, hq2, hv, hw⟩
  · obtain ⟨T, v, w, rfl, hT, rfl, f1, f2⟩ := y
    obtain ⟨d, hd, rd⟩ := r.getV (f1 vs hq)
    obtain ⟨e, he, re⟩ := r2.getV (f2 ws hq2)
    have fr := g.freshF hT
    refine ⟨upd F T (.tup [v, w]), .tup [d, e], Le.new fr, g.new hT, ?_, .tup (.inl (.inl upd_same)) (.cons (rd.mono (Le.new fr)) (.cons (re.mono (Le.new fr)) .nil))⟩
    unfold zipD
    rw [List.getElem?_zipWith, hd, he]
section
variable {X : Cx} {F0 : Hp} {pos tpos p : Pos} {elts : List Expr} {kk : Nat} {a b : Expr} {ta : DTA}
theorem di_zip (hm : X.mg "zip" = none) (ha : DA X F0 [a, b] ta) (hg : Gl X "zip" := by rfl) (hs : starEach [a, b] X.env = (false, eval a X.env) :: starEach [b] X.env := by rfl) (hpl : (backTo pos (starEach [b] X.env)).any (·.1) = false := by rfl) :
    DI X F0 (.Tuple elts kk tpos) (.Call (.Name "zip" p) [a, b] [] pos) (dZip ta) := by
  refine ⟨⟨fun pins s σ H R I ⟨ρ, M, F, P, l0, sl, g, t, k⟩ => (RZ.pi_zipA hg hm ha.pa hs hpl).run pins s σ H R I ⟨ρ, M, F, _, l0, sl, g, t, fun v d M1 F1 H1 l1 g1 r1 p1 => ?_⟩⟩⟩
  split at p1
  · rename_i x y
    split at p1
    · rename_i xs ys e1 e2
      cases r1 with
      | cons ra rr =>
        cases rr with
        | cons rb rz =>
          cases rz
          obtain ⟨u, vs, rfl, hq, _⟩ := asR_at g1 ra e1
          obtain ⟨w, ws, rfl, hq2, _⟩ := asR_at g1 rb e2
          obtain ⟨u', eu, hx⟩ := asR_held g1 ra e1
          cases eu
          obtain ⟨w', ew, hy⟩ := asR_held g1 rb e2
          cases ew
          exact ⟨u, w, vs, ws, rfl, .inl ⟨hq, hq2, k _ _ _ M1 F1 H1 l1 g1 (walks_zip p1.1 (fun H' F' M' l g' h => hx H' F' M' l g' h.1) fun H' F' M' l g' h => hy H' F' M' l g' h.2) p1.2⟩⟩
    · exact p1.elim
  · exact p1.elim
end
end DL


set_option Elab.async false
set_option linter.all false
set_option maxRecDepth 100000
set_option maxHeartbeats 1600000
namespace DL
open PySem PySem.Spec PyProof.Rows L2

/-! ### own == and != with a value of a builtin type at the right -/
section
variable {prog : Program} {w : World} {A : Around} {E : Value → Shared → Prop} {s : Shared} {K : PySem.W.Frag} {x C f : Addr} {ox : Obj} {od : Option Obj} {b tb : Value}
theorem rich_one {op : CmpOp} {Q : Value → Shared → Prop} (hu : A.units < cLine) (X : K.In s.heap) (I : PySem.W.InstAt s.heap x ox C od) (hb : PySem.W.Looks (model prog w) s.heap (typeOf b) tb) (hn : PySem.W.subIn K tb (.ref C) = some false) (ht : (tb != Value.ref C) = true)
    (one : wpAny (model prog w) A (tryCompare (.ref x) (cmpInfo op).2.1 b) (fun r s' => ∃ v, r = some v ∧ Q v s') E s) : wpAny (model prog w) A (richCompare op (.ref x) b) Q E s := by
  unfold richCompare
  simp only [oneThing_ref]
  refine wpAny_holding (wpAny_bind (wpAny_cRoomFor hu ?_))
  refine wpAny_bind (I.type.here (wpAny_bind (hb.here ?_)))
  split
  · refine wpAny_bind ((PySem.W.looks_subIn X hn).here ?_)
    simp only [Bool.false_eq_true, if_false]
    refine wpAny_bind (wpAny_mono one (fun r s' z => ?_) fun _ _ e => e)
    obtain ⟨v, rfl, hq⟩ := z
    exact wpAny_pure hq
  · refine wpAny_bind (wpAny_pure ?_)
    simp only [Bool.false_eq_true, if_false]
    refine wpAny_bind (wpAny_mono one (fun r s' z => ?_) fun _ _ e => e)
    obtain ⟨v, rfl, hq⟩ := z
    exact wpAny_pure hq
theorem ne_KX {Q : Value → Shared → Prop} (hu : A.units + 1 < cLine) (X : K.In s.heap) (I : PySem.W.InstAt s.heap x ox C od) (hb : PySem.W.Looks (model prog w) s.heap (typeOf b) tb) (hnf : PySem.W.subIn K tb (.ref C) = some false) (ht : (tb != Value.ref C) = true) (hm : PySem.W.mroIn K C (.type "object") = some true)
    (hn : PySem.W.findIn K (.ref C) "__ne__" = some (some (.builtin "object.__ne__"))) (hs : PySem.W.findIn K (.ref C) "__eq__" = some (some (.ref f))) (hf : PySem.W.isFn K (.ref f) = true)
    (h : wpAny (model prog w) A.in1 (call (.ref f) [.ref x, b]) (fun v s' => ∃ k, v = .bool k ∧ Q (.bool (!k)) s') E s) : wpAny (model prog w) A (richCompare .NotEq (.ref x) b) Q E s := by
  have one : wpAny (model prog w) A (tryCompare (.ref x) "__ne__" b) (fun r s' => ∃ v, r = some v ∧ Q v s') E s := by
    unfold tryCompare
    refine wpAny_bind (ifBound_objNe X I hn (wpAny_call (codeAny_call_builtin F.cmp_object.ne.plain F.cmpEntry_ne (PySem.W.check_slot F.cmpKind_ne F.cmpSplit_ne (I.type.andThen (PySem.W.looks_mroIn X hm)) (F.cmpArgs_ne _ _)
      (objNe_K (A := A.in1) hu X I hs hf (wpAny_mono h (fun v s' hv => ?_) fun _ _ e => e))))))
    obtain ⟨k, rfl, hq⟩ := hv
    exact ⟨k, rfl, wpAny_pure ⟨_, rfl, hq⟩⟩
  exact rich_one (op := .NotEq) (Nat.lt_of_succ_lt hu) X I hb hnf ht one
end
section
variable {X : Cx} {F0 : Hp} {k j : Nat} {c : Str} {sp : DSp}
/-- x == y, x an instance of c, y of a builtin type -/
def rdOwnX (neg : Bool) (c : Str) (sp : DSp) : DR2 := fun x y M Q => (asO M c x).isSome = true ∧ (∃ n, tyD M y = some (.b n)) ∧ sp [x, y] M (fun v M' => match v with
  | .bl b => Q (.bl (if neg = true then !b else b)) M'
  | _ => False) noX
/-- the type of a value of a builtin type, as a comparison asks it -/
theorem ty_look {pins : List (Addr × Obj)} {σ : L2.St} {H : Hp} {s : Shared} {M : Store} {F : Hp} {v : V} {d : D} {u : Value} {n : String} {C : Addr} {Md : Model} (I : Inv X pins σ H s) (g : Good (Cx.se X) F M H) (r : Rep (Cx.se X) F v d) (ru : RelV v u) (h : tyD M d = some (.b n)) :
    PySem.W.Looks Md s.heap (typeOf u) (.type n) ∧ PySem.W.subIn X.K (.type n) (.ref C) = some false := by
  have ty := tyX_of g r _ h
  obtain ⟨P, Z, p, _⟩ := kit_of I ru ty
  refine ⟨Z.ty Md s.heap I.kIn p, ?_⟩
  obtain ⟨l, e1, e2⟩ := mro_known (tyD_known h)
  show (PySem.fastBuiltinMro n).map (·.contains (.ref C)) = some false
  rw [e1, Option.map_some]
  congr 1
  cases e : l.contains (Value.ref C) with
  | false => rfl
  | true =>
    have hm := List.contains_iff_mem.mp e
    have := List.all_eq_true.mp e2 _ hm
    cases this
theorem do_ownEqX (h : Spc X.prog X.w X.K X.mg X.base k c "__eq__" sp) (hr : Rm j X.A) (hk : k ≤ j) : DOp X F0 (compareOp .Eq) (rdOwnX false c sp) := by
  intro pins s σ H x y v u Q I rx ry ⟨dx, dy, M, F, P, l0, g, r1, r2, t, kk⟩
  obtain ⟨C, f, fd, ps, o⟩ := h.at
  obtain ⟨t1, ⟨n, t2⟩, t⟩ := t
  obtain ⟨a, ob, od, rfl, J⟩ := own_inst I g r1 o.hc t1
  obtain ⟨hb, hn⟩ := ty_look (C := C) (Md := model X.prog X.w) I g r2 ry t2
  cases rx
  obtain ⟨mm, hF⟩ := I.fr
  show wpAny _ _ (richCompare .Eq (.ref a) u) _ _ _
  refine PySem.W.cmp_K (op := .Eq) (tb := .type n) hr.room.units0 hF I.ok.mod.kin J hb (by unfold PySem.W.notFirst; rw [hn]; simp) o.hs o.hf ?_
  refine wpAny_mono (runGA (Q := fun v H' => ∃ b, v = .bl b ∧ Q (.bl b) H') o.FG (hr.mono hk) rfl o.hb I (vs := [.ref a, y]) (us := [.ref a, u]) (.cons rfl (.cons ry .nil)) ?_) (fun v s' hv => ?_) fun _ _ e => e
  · refine ⟨_, M, F, _, _, .cons r1 (.cons r2 .nil), g, t, fun v d M' F' H' l g' rv p => ?_, fun _ _ _ _ _ _ _ _ _ _ z => z.elim⟩
    cases d with
    | bl b =>
      cases rv
      exact ⟨b, rfl, kk _ _ M' F' H' l g' (.bl _) p⟩
    | _ => exact p.elim
  · obtain ⟨z, H', I', rz, b, ez, q⟩ := hv
    subst ez
    cases rz
    exact ⟨.bl b, H', I', rfl, q⟩
theorem do_ownNeX (h : Spc X.prog X.w X.K X.mg X.base k c "__eq__" sp) (hn : PlainNe X.K X.mg c) (hr : Rm j X.A) (hk : k + 1 ≤ j) : DOp X F0 (compareOp .NotEq) (rdOwnX true c sp) := by
  intro pins s σ H x y v u Q I rx ry ⟨dx, dy, M, F, P, l0, g, r1, r2, t, kk⟩
  obtain ⟨C, f, fd, ps, o⟩ := h.at
  obtain ⟨t1, ⟨n, t2⟩, t⟩ := t
  obtain ⟨a, ob, od, rfl, J⟩ := own_inst I g r1 o.hc t1
  obtain ⟨hb, hnf⟩ := ty_look (C := C) (Md := model X.prog X.w) I g r2 ry t2
  cases rx
  have hm : PySem.W.mroIn X.K C (.type "object") = some true := by
    have := cls_mro o.hc (.type "object")
    simpa using this
  show wpAny _ _ (richCompare .NotEq (.ref a) u) _ _ _
  have hr1 : Rm k X.A.in1 := (hr.mono hk).in1
  refine ne_KX (by have := hr.room.units; omega) I.kIn J hb hnf (by simp) hm (hn _ o.hc.mg) o.hs o.hf ?_
  refine wpAny_mono (runGA (Q := fun v H' => ∃ b, v = .bl b ∧ Q (.bl (!b)) H') o.FG hr1 rfl o.hb I (vs := [.ref a, y]) (us := [.ref a, u]) (.cons rfl (.cons ry .nil)) ?_) (fun v s' hv => ?_) fun _ _ e => e
  · refine ⟨_, M, F, _, _, .cons r1 (.cons r2 .nil), g, t, fun v d M' F' H' l g' rv p => ?_, fun _ _ _ _ _ _ _ _ _ _ z => z.elim⟩
    cases d with
    | bl b =>
      cases rv
      exact ⟨b, rfl, kk _ _ M' F' H' l g' (.bl _) p⟩
    | _ => exact p.elim
  · obtain ⟨z, H', I', rz, b, ez, q⟩ := hv
    subst ez
    cases rz
    exact ⟨b, rfl, .bl (!b), H', I', rfl, q⟩
end
end DL


set_option Elab.async false
set_option linter.all false
set_option maxRecDepth 100000
set_option maxHeartbeats 1600000
namespace DL
open PySem PySem.Spec PyProof.Rows L2

/-! ### x.split(sep), int(x) -/
theorem reps_strs {S : SE} {F : Hp} : ∀ l : List Str, Reps S F (l.map V.str) (l.map D.str)
  | [] => .nil
  | x :: l => .cons (.str x) (reps_strs l)
section
variable {X : Cx} {F0 : Hp} {o e : Expr} {to te : DTE} {apos pos : Pos}
def rmSplit (x y : D) (M : Store) (Q : D → Store → Prop) : Prop := match x, y with
  | .str a, .str b => (b.length == 0) = false ∧ a.length + 2 ≤ sizeLine ∧ Q (.lst ((Txt.split a b).map .str)) M
  | _, _ => False
def dSplit (to te : DTE) : DTE := fun ρ M Q => to ρ M fun x M1 => (∃ a, x = .str a) ∧ te ρ M1 fun y M2 => rmSplit x y M2 Q
theorem de_split (ho : DE X F0 o to) (he : DE X F0 e te) (hs : starEach [e] X.env = [(false, eval e X.env)] := by rfl) (hbase : attributeBase o "split" X.env (eval o X.env) = eval o X.env := by rfl) (hline : (apos.endLine == pos.line) = true := by rfl) :
    DE X F0 (.Call (.Attribute o "split" apos) [e] [] pos) (dSplit to te) := by
  refine ⟨PE.weak (pe_split ho.pe he.pe hs hbase hline) fun σ H Q ⟨ρ, M, F, P, l0, sl, g, t, k⟩ => ?_⟩
  refine ⟨ρ, M, F, _, l0, sl, g, t, fun v d M1 F1 H1 l1 g1 r1 p1 => ?_⟩
  obtain ⟨⟨a, rfl⟩, p1⟩ := p1
  cases r1
  refine ⟨⟨a, rfl⟩, ρ, M1, F1, _, l0.trans l1, sl.mono l1, g1, p1, fun w e M2 F2 H2 l2 g2 r2 p2 => ?_⟩
  unfold rmSplit at p2
  split at p2
  · rename_i a' b ea
    cases ea
    cases r2
    refine ⟨a, b, rfl, rfl, p2.1, p2.2.1, fun p hp => ?_⟩
    have fr := g2.freshF hp
    exact k _ _ M2 _ _ ((l1.trans l2).trans (Le.new fr)) (g2.new hp) (.lst upd_same (reps_strs _)) p2.2.2
  · exact p2.elim
/-- int of whole numbers, of texts -/
def rcInt : DCl := fun ds M Q => match ds with
  | [.int i] => Q (.int i) M
  | [.str a] => match PySem.intText? a with
    | some n => a.length ≤ 640 ∧ Q (.int n) M
    | none => False
  | _ => False
theorem dc_int : DCallR X F0 (.type "int") rcInt := by
  intro pins s σ H xs us Q I r ⟨ds, M, F, P, l0, g, rs, t, k⟩
  unfold rcInt at t
  split at t
  · cases rs with
    | cons rx rz =>
      cases rz
      cases rx
      exact call_int1 pins s σ H _ _ Q I r (.inl ⟨_, rfl, k _ _ M F H (Le.refl F) g (.int _) t⟩)
  · cases rs with
    | cons rx rz =>
      cases rz
      cases rx
      split at t
      · rename_i n en
        exact call_int_str pins s σ H _ _ Q I r ⟨_, n, rfl, en, t.1, k _ _ M F H (Le.refl F) g (.int _) t.2⟩
      · exact t.elim
  · exact t.elim
end
end DL


set_option Elab.async false
set_option linter.all false
set_option maxRecDepth 100000
set_option maxHeartbeats 1600000
namespace DL
open PySem PySem.Spec PyProof.Rows L2

/-! ### a name of the top that is a whole number or a text -/
section
variable {X : Cx} {F0 : Hp} {x : Str} {pos : Pos}
theorem de_gint {i : Int} (hm : ∃ t, X.mg x = some (.int i t)) (hg : Gl X x := by rfl) (hd : (x == ("__debug__" : Str)) = false := by decide) : DE X F0 (.Name x pos) (dC (.int i)) := by
  obtain ⟨t, hm⟩ := hm
  exact ⟨PE.weak (pe_glob (v := .int i) hg hm ⟨t, rfl⟩ hd) fun σ H Q ⟨ρ, M, F, P, l0, sl, g, t, k⟩ => k _ _ M F H (Le.refl F) g (.int i) t⟩
theorem de_gstr {z : Str} (hm : ∃ t, X.mg x = some (.str z t)) (hg : Gl X x := by rfl) (hd : (x == ("__debug__" : Str)) = false := by decide) : DE X F0 (.Name x pos) (dC (.str z)) := by
  obtain ⟨t, hm⟩ := hm
  exact ⟨PE.weak (pe_glob (v := .str z) hg hm ⟨t, rfl⟩ hd) fun σ H Q ⟨ρ, M, F, P, l0, sl, g, t, k⟩ => k _ _ M F H (Le.refl F) g (.str z) t⟩
end

/-! ### C(k = v, ..), all parameters by keyword -/
/-- what each parameter takes: a keyword's value, or the default of one that lacks -/
abbrev Plan : Type := List (Nat ⊕ Nat)
def fillP {α : Type} (plan : Plan) (ms zs : List α) : List α := plan.filterMap fun q => match q with
  | .inl i => zs[i]?
  | .inr j => ms[j]?
theorem vals_at {vs : List V} {us : List Value} (r : Vals vs us) (i : Nat) : (vs[i]? = none ∧ us[i]? = none) ∨ ∃ v u, vs[i]? = some v ∧ us[i]? = some u ∧ RelV v u := by
  cases e : vs[i]? with
  | none =>
    refine .inl ⟨rfl, ?_⟩
    rw [List.getElem?_eq_none_iff] at e ⊢
    rw [← r.length]
    exact e
  | some v =>
    obtain ⟨u, h1, h2⟩ := r.get e
    exact .inr ⟨v, u, rfl, h1, h2⟩
theorem fill_vals {ms zs : List V} {us ws : List Value} (r1 : Vals ms us) (r2 : Vals zs ws) : ∀ plan : Plan, Vals (fillP plan ms zs) (fillP plan us ws)
  | [] => .nil
  | .inl i :: plan => by
    unfold fillP
    rw [List.filterMap_cons, List.filterMap_cons]
    rcases vals_at r2 i with ⟨h1, h2⟩ | ⟨v, u, h1, h2, h3⟩
    · simp only [h1, h2]
      exact fill_vals r1 r2 plan
    · simp only [h1, h2]
      exact .cons h3 (fill_vals r1 r2 plan)
  | .inr i :: plan => by
    unfold fillP
    rw [List.filterMap_cons, List.filterMap_cons]
    rcases vals_at r1 i with ⟨h1, h2⟩ | ⟨v, u, h1, h2, h3⟩
    · simp only [h1, h2]
      exact fill_vals r1 r2 plan
    · simp only [h1, h2]
      exact .cons h3 (fill_vals r1 r2 plan)
theorem reps_nth {S : SE} {F : Hp} {vs : List V} {ds : List D} (r : Reps S F vs ds) (i : Nat) : (vs[i]? = none ∧ ds[i]? = none) ∨ ∃ v d, vs[i]? = some v ∧ ds[i]? = some d ∧ Rep S F v d := by
  cases e : vs[i]? with
  | none =>
    refine .inl ⟨rfl, ?_⟩
    rw [List.getElem?_eq_none_iff] at e ⊢
    rw [← r.len]
    exact e
  | some v =>
    obtain ⟨d, h1, h2⟩ := r.getV e
    exact .inr ⟨v, d, rfl, h1, h2⟩
theorem fill_reps {S : SE} {F : Hp} {ms zs : List V} {us ws : List D} (r1 : Reps S F ms us) (r2 : Reps S F zs ws) : ∀ plan : Plan, Reps S F (fillP plan ms zs) (fillP plan us ws)
  | [] => .nil
  | .inl i :: plan => by
    unfold fillP
    rw [List.filterMap_cons, List.filterMap_cons]
    rcases reps_nth r2 i with ⟨h1, h2⟩ | ⟨v, u, h1, h2, h3⟩
    · simp only [h1, h2]
      exact fill_reps r1 r2 plan
    · simp only [h1, h2]
      exact .cons h3 (fill_reps r1 r2 plan)
  | .inr i :: plan => by
    unfold fillP
    rw [List.filterMap_cons, List.filterMap_cons]
    rcases reps_nth r1 i with ⟨h1, h2⟩ | ⟨v, u, h1, h2, h3⟩
    · simp only [h1, h2]
      exact fill_reps r1 r2 plan
    · simp only [h1, h2]
      exact .cons h3 (fill_reps r1 r2 plan)
structure MakK (P : Program) (w : World) (K : PySem.W.Frag) (mg : Str → Option Value) (base : Heap) (k : Nat) (c : Str) (ks : List Str) (sp : DSp) (gD : List D → List D) : Prop where
  ex : ∃ C f fd ps g gV, ClsAt ⟨K, mg⟩ c C ∧ Mk K C f ∧ FnG P w K mg base k f fd ps sp ∧ KBn K fd ps 1 ks g gV ∧ ∀ (F : Hp) (x : V) (zs : List V) (es : List D), Reps ⟨K, mg⟩ F zs es → ∃ ws, gV [x] zs = x :: ws ∧ Reps ⟨K, mg⟩ F ws (gD es)
structure DK (X : Cx) (F0 : Hp) (kws : List Keyword) (t : DTA) : Prop where
  pk : PK X kws (low (Cx.se X) F0 (fun F => Reps (Cx.se X) F) t)
section
variable {X : Cx} {F0 : Hp} {W : DWX} {k j : Nat} {sp : DSp} {p pos kpos : Pos} {e : Expr} {kws : List Keyword} {ta : DTA} {te : DTE} {nm : Option Str} {ks : List Str} {gD : List D → List D}
theorem PK.weak {t u : L2.St → Hp → (List V → Hp → Prop) → Prop} (h : PK X kws t) (k : ∀ σ H Q, u σ H Q → t σ H Q) : PK X kws u := ⟨fun pos pins s σ H Q I q => h.run pos pins s σ H Q I (k _ _ _ q)⟩
theorem dk_nil : DK X F0 [] daNil := ⟨PK.weak pk_nil fun σ H Q ⟨ρ, M, F, P, l0, sl, g, t, k⟩ => k _ _ M F H (Le.refl F) g .nil t⟩
theorem dk_cons (ha : DE X F0 e te) (hr : DK X F0 kws ta) : DK X F0 (⟨nm, e, kpos⟩ :: kws) (daCons te ta) :=
  ⟨PK.weak (pk_cons ha.pe hr.pk) fun σ H Q ⟨ρ, M, F, P, l0, sl, g, t, k⟩ => ⟨ρ, M, F, _, l0, sl, g, t, fun v d M1 F1 H1 l1 g1 r1 p1 => ⟨ρ, M1, F1, _, l0.trans l1, sl.mono l1, g1, p1, fun vs ds M2 F2 H2 l2 g2 r2 p2 =>
    k _ _ M2 F2 H2 (l1.trans l2) g2 (.cons (r1.mono l2) r2) p2⟩⟩⟩
theorem run_makeGK {c : Str} {C f : Addr} {fd : FuncData} {ps : List Str} {g : List Value → List Value → List Value} {gV : List V → List V → List V} {pins : List (Addr × Obj)} {σ : L2.St} {H : Hp} {s : Shared} {Q : VK} {ws : List Value} {zs : List V} {E : XK} (Mk' : Mk X.K C f) (F : FnG X.prog X.w X.K X.mg X.base k f fd ps sp) (hr : Rm (k + 1) X.A)
    (hb : KBn X.K fd ps 1 ks g gV) (hx : PassesAt (L2.CX X.prog X.w) X σ E) (I : Inv X pins σ H s) (rz : Vals zs ws) (l2 : zs.length = ks.length)
    (h : ∀ x dx, H x = none → H dx = none → dx ≠ x → lowSp (Cx.se X) sp (gV [.ref x] zs) (upd (upd H dx (.own x)) x (.ins C dx [])) (fun v H2 => v = .non ∧ Q (.ref x) H2) E) :
    wpAny (model X.prog X.w) X.A (call (.ref C) [] (ks.zip ws)) (EP X pins σ Q) X.xe s := by
  have hq := h (s.heap.objs.size + 1) s.heap.objs.size (I.hok.fresh (Nat.le_succ _)) (I.hok.fresh (Nat.le_refl _)) (Nat.ne_of_lt (Nat.lt_succ_self _))
  have I2 := Inv.made (C := C) I
  have r1 : Vals [V.ref (s.heap.objs.size + 1)] [Value.ref (s.heap.objs.size + 1)] := .cons rfl .nil
  have r2 := hb.rel r1 rz
  refine wpAny_call (make_map (f := f) I.kIn Mk'.makes Mk'.init (beq_iff_eq.mp Mk'.fn) (codeAny_mono (F.run _ X.stack _ _ ⟨[Value.ref (s.heap.objs.size + 1)], ks.zip ws⟩ (g [Value.ref (s.heap.objs.size + 1)] ws) _ _ E (hr.make C [] (ks.zip ws))
    (I2.env0.make C [] (ks.zip ws)) (hb.to _ [Value.ref (s.heap.objs.size + 1)] ws I2.kIn rfl (rz.length.symm.trans l2)) r2 hq) fun r s' hq' => ?_))
  cases r with
  | error e => exact hx pins _ _ e s' I2 hq'
  | ok fl =>
    cases fl with
    | ret u =>
      obtain ⟨v, H', I3, rv, ev, q3⟩ := I2.after hq'
      subst ev
      exact ⟨rv, ⟨V.ref (s.heap.objs.size + 1), H', I3, rfl, q3⟩⟩
    | next => exact hq'.elim
    | brk => exact hq'.elim
    | cont => exact hq'.elim
def dMakeK (c : Str) (sp : DSp) (W : DWX) (gD : List D → List D) (n : Nat) (ta : DTA) : DTE := fun ρ M Q => ta ρ M fun ds M1 => ds.length = n ∧ ∀ p, M1 p = none → sp (.ref p :: gD ds) (updM M1 p (.ins c [])) (fun v M2 => v = .non ∧ Q (.ref p) M2) fun c fs M2 => W c fs ρ M2
theorem low_makeK {c : Str} {C : Addr} {es : List D} {M : Store} {F : Hp} {zs : List V} {σ : L2.St} {ρ : Ro} {H : Hp} {Q : VK} {P : D → Store → Prop} {S : SE} {gV : List V → List V → List V} (l0 : Le F0 F) (sl : Slots S F σ ρ) (g : Good S F M H) (hc : ClsAt S c C) (hG : ∀ x, ∃ ws, gV [x] zs = x :: ws ∧ Reps S F ws (gD es))
    (h : ∀ p, M p = none → sp (.ref p :: gD es) (updM M p (.ins c [])) (fun v M2 => v = .non ∧ P (.ref p) M2) fun c fs M2 => W c fs ρ M2)
    (k : ∀ v d M' F' H', Le F F' → Good S F' M' H' → Rep S F' v d → P d M' → Q v H') : ∀ x dx, H x = none → H dx = none → dx ≠ x →
    lowSp S sp (gV [.ref x] zs) (upd (upd H dx (.own x)) x (.ins C dx [])) (fun v H2 => v = .non ∧ Q (.ref x) H2) (wE S F0 W σ) := fun x dx hx hdx hne => by
  have hx' : upd H dx (.own x) x = none := by rw [upd_ne (Ne.symm hne)]; exact hx
  obtain ⟨ws, e1, r⟩ := hG (.ref x)
  rw [e1]
  refine ⟨.ref x :: gD es, updM M x (.ins c []), F, _, _, .cons (.ref x) r, (g.over hdx).newM hx' (.ins hc .nil), h x (g.freshM hx), fun v d M' F' H' l g' rv ⟨e, p⟩ => ?_, fun cls dx' c' fs M' F' H' l g' rx w => ⟨c', fs, ρ, M', F', l0.trans l, sl.mono l, g', rx, w⟩⟩
  subst e
  cases rv
  exact ⟨rfl, k _ _ M' F' H' l g' (.ref x) p⟩
theorem kw_map (pos : Pos) (env : Env) : ∀ kws : List Keyword, (backToKw pos (keywordEach kws env)).map (·.1) = kws.map fun q => match q with | ⟨n, _, _⟩ => n
  | [] => rfl
  | ⟨n, e, p⟩ :: r => by
    have ih := kw_map pos env r
    show n :: (backToKw pos (keywordEach r env)).map (·.1) = n :: _
    rw [ih]
def kwNames (kws : List Keyword) : List (Option Str) := kws.map fun q => match q with | ⟨n, _, _⟩ => n
theorem kw_all {pos : Pos} {env : Env} {kws : List Keyword} (h : (kwNames kws).all (·.isSome) = true) : (backToKw pos (keywordEach kws env)).all (·.1.isSome) = true := by
  have e := kw_map pos env kws
  have q : (backToKw pos (keywordEach kws env)).all (·.1.isSome) = ((backToKw pos (keywordEach kws env)).map (·.1)).all (·.isSome) := by rw [List.all_map]; rfl
  rw [q, e]
  exact h
theorem kw_names {pos : Pos} {env : Env} {kws : List Keyword} {ks : List Str} (h : (kwNames kws).filterMap id = ks) : (backToKw pos (keywordEach kws env)).filterMap (·.1) = ks := by
  have e := kw_map pos env kws
  have q : (backToKw pos (keywordEach kws env)).filterMap (·.1) = ((backToKw pos (keywordEach kws env)).map (·.1)).filterMap id := by rw [List.filterMap_map]; rfl
  rw [q, e]
  exact h
theorem kw_any {pos : Pos} {env : Env} {kws : List Keyword} (h : (kwNames kws).any (·.isNone) = false) : ((backTo pos (starEach [] env)).any (·.1) || (backToKw pos (keywordEach kws env)).any (·.1.isNone)) = false := by
  have e := kw_map pos env kws
  have q : (backToKw pos (keywordEach kws env)).any (·.1.isNone) = ((backToKw pos (keywordEach kws env)).map (·.1)).any (·.isNone) := by rw [List.any_map]; rfl
  have z : (backTo pos (starEach [] env)).any (·.1) = false := rfl
  rw [z, Bool.false_or, q, e]
  exact h
theorem de_makeK {c : Str} (h : MakK X.prog X.w X.K X.mg X.base k c ks sp gD) (hr : Rm j X.A) (hk : k + 1 ≤ j) (tk : Takes X (lowW (Cx.se X) F0 W)) (hkw : DK X F0 kws ta) (hg : Gl X c := by rfl) (hdb : (c == ("__debug__" : Str)) = false := by decide)
    (hall : (kwNames kws).all (·.isSome) = true := by rfl) (hks : (kwNames kws).filterMap id = ks := by rfl) (hpl : (kwNames kws).any (·.isNone) = false := by rfl) : DE X F0 (.Call (.Name c p) [] kws pos) (dMakeK c sp W gD ks.length ta) := by
  obtain ⟨C, f, fd, ps, g', gV, hc, hM, F, hb, hG⟩ := h.ex
  refine ⟨⟨fun pins s σ H Q I ⟨ρ, M, F1, P, l0, sl, g, t, k⟩ => ?_⟩⟩
  refine wpAny_Call_Name_kw (ld_glob I hg hc.mg ?_ hdb)
  refine PySem.W.callWith_KW0 (h₀ := X.base) I.ok.mod.kin hM.kp (kw_all hall) ?_ (kw_any hpl)
  refine thn (hkw.pk.run pos pins s σ H (fun zs H2 => zs.length = ks.length ∧ ∀ x dx, H2 x = none → H2 dx = none → dx ≠ x → lowSp (Cx.se X) sp (gV [.ref x] zs) (upd (upd H2 dx (.own x)) x (.ins C dx [])) (fun v H3 => v = .non ∧ Q (.ref x) H3) (wE (Cx.se X) F0 W σ)) I
    ⟨ρ, M, F1, _, l0, sl, g, t, fun zs es M2 F2 H2 l2 g2 r2 p2 => ⟨r2.len.trans p2.1, low_makeK (l0.trans l2) (sl.mono l2) g2 hc (fun x => hG F2 x zs es r2) p2.2 fun v d M' F' H' l3 => k v d M' F' H' (l2.trans l3)⟩⟩) fun ws s2 ⟨zs, H2, I2, rz, l2, q2⟩ => ⟨I2.kIn, ?_⟩
  rw [kw_names hks]
  exact run_makeGK (c := c) hM F (hr.mono hk) hb (passAt tk σ) I2 rz l2 q2
end
section
variable {P : Program} {w : World} {K : PySem.W.Frag} {mg : Str → Option Value} {base : Heap} {fs : List Fc} {fn : List He.DefD} {k : Nat} {sp : DSp}
theorem makk_mk {d : He.DefD} {ps ks : List Str} {c : Str} {plan : Plan} {ms : List (Str × He.Dv)} {dm : List D} (m : Md fs fn K mg) (F : Fn P w K mg base k d ps sp) (hx : d.at_ = (c, some ("__init__" : Str))) (hc : Fc.cls c ∈ fs) (hm : Fc.mkr c ∈ fs) (hd : d.dfl = []) (hk : d.kwd ≠ []) (hms : ∀ q ∈ ms, q ∈ d.kwd)
    (hdm : dvDs (ms.map (·.2)) = some dm) (hb : ∀ (D : Addr) (doc pm : Value) (an : Option Addr) (cdv ct : Value) (us mv ws : List Value), us.length = 1 → mv.length = ms.length → ws.length = ks.length →
      KwChain D ((ms.map (·.1)).zip mv) (bindArgs (PySem.W.fnOf d.name d.qual d.params d.body d.scope .none (.ref D) doc pm an cdv ct) ⟨us, ks.zip ws⟩) (ps.zip (us ++ fillP plan mv ws))) :
    MakK P w K mg base k c ks sp (fun es => fillP plan dm es) := by
  obtain ⟨fd, FD, FG⟩ := F.ex
  have e : d.dvs K = [] := by unfold He.DefD.dvs; rw [hd]; rfl
  rw [e] at FD
  have ea : He.fAd K d.at_ = He.ma K (He.ga K c) "__init__" := by rw [hx]; rfl
  have en : (ms.map fun q => (q.1, q.2.v K)).map (·.1) = ms.map (·.1) := by rw [List.map_map]; rfl
  obtain ⟨mv, hB⟩ := FD.kbinds0 (ps := ps) 1 ks (ms.map fun q => (q.1, q.2.v K)) (fun us mv ws => us ++ fillP plan mv ws) (fun z => hk (List.map_eq_nil_iff.mp z)) (fun q hq => by
      obtain ⟨z, hz, rfl⟩ := List.mem_map.mp hq
      exact List.mem_map.mpr ⟨z, hms z hz, rfl⟩) (fun r1 r2 r3 => r1.append (fill_vals r2 r3 plan)) (fun D doc pm an cdv ct us mv ws h1 h2 h3 => by
      rw [en]
      exact hb D doc pm an cdv ct us mv ws h1 (by rw [h2, List.length_map]) h3)
  refine ⟨⟨_, _, fd, ps, _, _, m.cls c hc, He.mkr_ok (m.f _ hm), ea ▸ FG, hB, fun F x zs es r => ⟨_, rfl, fill_reps ?_ r plan⟩⟩⟩
  have e2 : (ms.map fun q => (q.1, q.2.v K)).map (·.2) = (ms.map (·.2)).map (He.Dv.v K) := by rw [List.map_map, List.map_map]; rfl
  rw [e2]
  exact dvDs_rep hdm
end
end DL


set_option Elab.async false
set_option linter.all false
set_option maxRecDepth 100000
set_option maxHeartbeats 1600000
namespace DL
open PySem PySem.Spec PyProof.Rows L2

/-! ### try: .. except C as n: .. -/
section
variable {S : SE} {F : Hp}
theorem Slots.off {σ : L2.St} {ρ : Ro} (sl : Slots S F σ ρ) (i : Nat) : Slots S F (σ.set i none) (ρ.set i none) := by
  exact sl.setN i
end
section
variable {X : Cx} {F0 : Hp} {W : DWX} {x n : Str} {c : Value} {i : Nat} {body suite : List Stmt} {b₀ : Stmt} {np pos pos' : Pos} {t : DWX → DTS} {u : DTS} {mt : Str → Option Bool}
/-- behind a suite whose name goes -/
def offE (i : Nat) (E : DEnds) : DEnds := { nx := fun ρ M => E.nx (ρ.set i none) M, rt := E.rt, bk := fun ρ M => E.bk (ρ.set i none) M, ct := fun ρ M => E.ct (ρ.set i none) M }
def dTryAs (t : DWX → DTS) (i : Nat) (mt : Str → Option Bool) (u : DTS) (W : DWX) : DTS := fun E ρ M =>
  t (fun c fs ρ' M' => ∃ b, mt c = some b ∧ (b = true → ∀ a, u (offE i E) (ρ'.set i (some (.ref a))) M') ∧ (b = false → W c fs ρ' M')) E ρ M
theorem ds_tryAs (hN : X.N.Nodup) (hi : X.N[i]? = some n) (hc : Names X x c) (tk : Takes X (lowW (Cx.se X) F0 W)) (hm : ∀ y b C, mt y = some b → X.mg y = some (.ref C) → PySem.W.exmOne X.K (.ref C) c = some b)
    (hb : ∀ (F1 : Hp) (W' : DWX) (pn : List (Addr × Obj)) (xe : Value → Shared → Prop), Takes (X.tr pn xe) (lowW (Cx.se X) F1 W') → PassesOwn (model X.prog X.w) X.A X.env xe → DSs (X.tr pn xe) F1 body (t W'))
    (hsu : ∀ (F1 : Hp) (a : Addr) (pn : List (Addr × Obj)), DSs (X.suite a pn) F1 (b₀ :: suite) u) (hs : X.stack = X.env :: X.outer := by rfl) (hf : X.env.frame = some X.env.locals := by rfl) (hln : X.env.kindOf n = some .local := by rfl) :
    DS X F0 (.Try body [.ExceptHandler (some (.Name x np)) (some n) (b₀ :: suite) pos'] [] [] pos) (dTryAs t i mt u W) := by
  refine ⟨PS.weak (ps_try_as (tb := fun Wx E σ H => ∃ (F1 : Hp) (W' : DWX), (∀ cls d σ H, lowW (Cx.se X) F1 W' cls d σ H → Wx cls d σ H) ∧ lowS (Cx.se X) F1 (t W') E σ H)
    (ts := fun a cls d E σ H => ∃ F1 : Hp, lowS (Cx.se X) F1 u E σ H) hs hf hN hi hln hc tk (fun Wx pn xe tk' po => ⟨fun pins s σ H E I ⟨F1, W', imp, h⟩ => (hb F1 W' pn xe (tk'.imp imp) po).pss.run pins s σ H E I h⟩)
    (fun a oe cls d pn _ _ => ⟨fun pins s σ H E I ⟨F1, h⟩ => (hsu F1 a _).pss.run pins s σ H E I h⟩)) fun E σ H ⟨ρ, M, F, D, l0, sl, g, q, k1, k2, k3, k4⟩ => ?_⟩
  refine ⟨F, _, fun cls d σ' H' hw => ?_, ρ, M, F, D, Le.refl F, sl, g, q, k1, k2, k3, k4⟩
  obtain ⟨c', fs, ρ', M', F', l', sl', g', ⟨C, rfl, hmg, hx⟩, b, hb1, hy, hno⟩ := hw
  refine ⟨b, hm c' b C hb1 hmg, fun e a ha => ⟨F', ρ'.set i (some (.ref a)), M', F', offE i D, Le.refl F', sl'.set i (.ref a), g', hy e a, ?_, ?_, ?_, ?_⟩, fun e => ⟨c', fs, ρ', M', F', l0.trans l', sl', g', ⟨C, rfl, hmg, hx⟩, hno e⟩⟩
  · exact fun σ2 ρ2 M2 F2 H2 l2 s2 g2 p2 => k1 _ _ M2 F2 H2 (l'.trans l2) (s2.off i) g2 p2
  · exact fun v d M2 F2 H2 l2 g2 r2 p2 => k2 v d M2 F2 H2 (l'.trans l2) g2 r2 p2
  · exact fun σ2 ρ2 M2 F2 H2 l2 s2 g2 p2 => k3 _ _ M2 F2 H2 (l'.trans l2) (s2.off i) g2 p2
  · exact fun σ2 ρ2 M2 F2 H2 l2 s2 g2 p2 => k4 _ _ M2 F2 H2 (l'.trans l2) (s2.off i) g2 p2
end
end DL


set_option Elab.async false
set_option linter.all false
set_option maxRecDepth 100000
set_option maxHeartbeats 1600000
namespace DL
open PySem PySem.Spec PyProof.Rows L2

/-! ### which classes an except clause takes -/
def mtL (l : List (Str × Bool)) : Str → Option Bool := fun y => l.lookup y
theorem lookup_mem {l : List (Str × Bool)} {y : Str} {b : Bool} (h : l.lookup y = some b) : (y, b) ∈ l := by
  induction l with
  | nil => cases h
  | cons q l ih =>
    obtain ⟨z, c⟩ := q
    rw [List.lookup_cons] at h
    split at h
    · rename_i e
      cases h
      have := beq_iff_eq.mp e
      subst this
      exact List.mem_cons_self
    · exact List.mem_cons_of_mem _ (ih h)
theorem hm_of {fs : List Fc} {fn : List He.DefD} {K : PySem.W.Frag} {mg : Str → Option Value} {x : Str} {l : List (Str × Bool)} (m : Md fs fn K mg) (h : ∀ q ∈ l, Fc.exm q.1 x q.2 ∈ fs) : ∀ y b C, mtL l y = some b → mg y = some (.ref C) → PySem.W.exmOne K (.ref C) (.ref (He.ga K x)) = some b :=
  fun y b C e e2 => m.exm y x b (h (y, b) (lookup_mem e)) C e2

/-! ### a op b op c op d -/
section
variable {X : Cx} {F0 : Hp} {pos : Pos} {a b c d : Expr} {op1 op2 op3 : CmpOp}
def tChain3 (r1 r2 r3 : R2) (ta tb tc td : TE) : TE := fun σ H Q => ta σ H fun x H1 => tb σ H1 fun y H2 => r1 x y H2 fun z H3 => ∃ k, z = .bl k ∧
  (if k = true then tc σ H3 fun u H4 => r2 y u H4 fun z2 H5 => ∃ k2, z2 = .bl k2 ∧ (if k2 = true then td σ H5 fun w H6 => r3 u w H6 Q else Q (.bl false) H5) else Q (.bl false) H3)
theorem pe_chain3 {r1 r2 r3 : R2} {ta tb tc td : TE} (h1 : OpR X (compareOp op1) r1) (h2 : OpR X (compareOp op2) r2) (h3 : OpR X (compareOp op3) r3) (ha : PE X a ta) (hb : PE X b tb) (hc : PE X c tc) (hd : PE X d td)
    (hm : lastMarks [op1, op2, op3] [b, c, d] = false := by with_unfolding_all rfl) : PE X (.Compare a [op1, op2, op3] [b, c, d] pos) (tChain3 r1 r2 r3 ta tb tc td) := by
  refine ⟨fun pins s σ H Q I h => ?_⟩
  refine Compare_chain (thn (ha.run pins s σ H _ I h) fun v s1 ⟨x, H1, I1, rx, q1⟩ => chain_link (thn (hb.run pins s1 σ H1 _ I1 q1) fun u s2 ⟨y, H2, I2, ry, q2⟩ =>
    thn (h1 pins s2 σ H2 x y v u _ I2 rx ry q2) fun e s3 ⟨z, H3, I3, rz, k, ek, q3⟩ => ?_)) hm
  subst ek
  cases rz
  refine wpAny_truthy_bool ?_
  cases k with
  | false => exact ite_ff ⟨.bl false, H3, I3, rfl, q3⟩
  | true =>
    refine ite_tt (chain_link (thn (hc.run pins s3 σ H3 _ I3 q3) fun u2 s4 ⟨y2, H4, I4, ry2, q4⟩ => thn (h2 pins s4 σ H4 y y2 u u2 _ I4 ry ry2 q4) fun e2 s5 ⟨z2, H5, I5, rz2, k2, ek2, q5⟩ => ?_))
    subst ek2
    cases rz2
    refine wpAny_truthy_bool ?_
    cases k2 with
    | false => exact ite_ff ⟨.bl false, H5, I5, rfl, q5⟩
    | true => exact ite_tt (chain_last (thn (hd.run pins s5 σ H5 _ I5 q5) fun w' s6 ⟨z', H6, I6, r6, q6⟩ => h3 pins s6 σ H6 y2 z' u2 w' Q I6 ry2 r6 q6))
def dChain3 (r1 r2 r3 : DR2) (ta tb tc td : DTE) : DTE := fun ρ M Q => ta ρ M fun x M1 => tb ρ M1 fun y M2 => r1 x y M2 fun z M3 => match z with
  | .bl true => tc ρ M3 fun u M4 => r2 y u M4 fun z2 M5 => match z2 with
    | .bl true => td ρ M5 fun w M6 => r3 u w M6 Q
    | .bl false => Q (.bl false) M5
    | _ => False
  | .bl false => Q (.bl false) M3
  | _ => False
theorem de_chain3 {r1 r2 r3 : DR2} {ta tb tc td : DTE} (h1 : DOp X F0 (compareOp op1) r1) (h2 : DOp X F0 (compareOp op2) r2) (h3 : DOp X F0 (compareOp op3) r3) (ha : DE X F0 a ta) (hb : DE X F0 b tb) (hc : DE X F0 c tc) (hd : DE X F0 d td)
    (hm : lastMarks [op1, op2, op3] [b, c, d] = false := by with_unfolding_all rfl) : DE X F0 (.Compare a [op1, op2, op3] [b, c, d] pos) (dChain3 r1 r2 r3 ta tb tc td) := by
  refine ⟨PE.weak (pe_chain3 h1 h2 h3 ha.pe hb.pe hc.pe hd.pe hm) fun σ H Q ⟨ρ, M, F, P, l0, sl, g, t, k⟩ => ?_⟩
  refine ⟨ρ, M, F, _, l0, sl, g, t, fun x dx M1 F1 H1 l1 g1 r1 t1 => ⟨ρ, M1, F1, _, l0.trans l1, sl.mono l1, g1, t1, fun y dy M2 F2 H2 l2 g2 r2 t2 => ?_⟩⟩
  have L2 := l1.trans l2
  refine ⟨dx, dy, M2, F2, _, l0.trans L2, g2, r1.mono l2, r2, t2, fun z dz M3 F3 H3 l3 g3 r3 t3 => ?_⟩
  have L3 := L2.trans l3
  split at t3
  · cases r3
    refine ⟨true, rfl, iteT ⟨ρ, M3, F3, _, l0.trans L3, sl.mono L3, g3, t3, fun u du M4 F4 H4 l4 g4 r4 t4 => ?_⟩⟩
    have L4 := L3.trans l4
    refine ⟨dy, du, M4, F4, _, l0.trans L4, g4, (r2.mono l3).mono l4, r4, t4, fun z2 dz2 M5 F5 H5 l5 g5 r5 t5 => ?_⟩
    have L5 := L4.trans l5
    split at t5
    · cases r5
      refine ⟨true, rfl, iteT ⟨ρ, M5, F5, _, l0.trans L5, sl.mono L5, g5, t5, fun w dw M6 F6 H6 l6 g6 r6 t6 => ?_⟩⟩
      exact ⟨du, dw, M6, F6, P, l0.trans (L5.trans l6), g6, (r4.mono l5).mono l6, r6, t6, fun v d M' F' H' l7 g7 r7 p => k v d M' F' H' ((L5.trans l6).trans l7) g7 r7 p⟩
    · cases r5
      exact ⟨false, rfl, iteF (k _ _ M5 F5 H5 L5 g5 (.bl _) t5)⟩
    · exact t5.elim
  · cases r3
    exact ⟨false, rfl, iteF (k _ _ M3 F3 H3 L3 g3 (.bl _) t3)⟩
  · exact t3.elim
end

/-! ### {k: v, ..} of whole numbers -/
def putsI (l : List (Int × Int)) : List (D × D) := l.foldl (fun acc q => dputK acc (.inl q.1) (.int q.2)) []
def dDctI (l : List (Int × Int)) : DTE := fun _ M Q => Q (.dct (putsI l)) M
theorem repK_fold {S : SE} {F : Hp} : ∀ (l : List (Int × Int)) {vs : List (Key × V)} {ds : List (D × D)}, RepK S F vs ds → RepK S F (mergeK vs (l.map fun q => (.inl q.1, .int q.2))) (l.foldl (fun acc q => dputK acc (.inl q.1) (.int q.2)) ds)
  | [], _, _, h => h
  | q :: l, _, _, h => repK_fold l (repK_put (.inl q.1) (.int q.2) h)
theorem pairs_const {σ : L2.St} : ∀ (l : List (Int × Int)) {H : Hp} {Q : List (V × V) → Hp → Prop}, Q (l.map fun q => (V.int q.1, V.int q.2)) H → tPairs (l.map fun q => (tC (V.int q.1), tC (V.int q.2))) σ H Q
  | [], _, _, q => q
  | p :: l, H, Q, q => pairs_const l (Q := fun ps H3 => Q ((V.int p.1, V.int p.2) :: ps) H3) q
section
variable {X : Cx} {F0 : Hp} {pos : Pos} {keys : List (Option Expr)} {values : List Expr}
theorem de_dctI (l : List (Int × Int)) (h : PPs X pos keys values (l.map fun q => (tC (V.int q.1), tC (V.int q.2)))) (hall : keys.all (·.isSome) = true := by rfl) (hl : keys.length = values.length := by rfl) (h0 : keys ≠ [] := by exact List.cons_ne_nil _ _) (h15 : keys.length ≤ 15 := by decide) (hn : l.length ≤ 15 := by decide) :
    DE X F0 (.Dict keys values pos) (dDctI l) := by
  refine ⟨PE.weak (pe_disp h hall hl h0 h15) fun σ H Q ⟨ρ, M, F, P, l0, sl, g, t, k⟩ => fun p hp => pairs_const l ⟨upd_same, l.map fun q => (.inl q.1, .int q.2), ?_, by rw [List.length_map]; exact hn, ?_⟩⟩
  · rw [List.map_map]
    rfl
  · have fr := g.freshF hp
    have e : upd (upd H p (.dK [])) p (.dK (mergeK [] (l.map fun q => (.inl q.1, .int q.2)))) = upd H p (.dK (mergeK [] (l.map fun q => (.inl q.1, .int q.2)))) := by
      funext b
      unfold upd
      split <;> rfl
    rw [e]
    exact k _ _ M _ _ (Le.new fr) (g.new hp) (.dctK (.inl upd_same) (repK_fold l .nil)) t
end
end DL


set_option Elab.async false
set_option linter.all false
set_option maxRecDepth 100000
set_option maxHeartbeats 1600000
namespace DL
open PySem PySem.Spec PyProof.Rows L2

/-! ### a name of the top that is a tuple of texts -/
theorem tupS_vals : ∀ {us : List Value} {zs : List Str}, tupS us zs = true → Vals (zs.map V.str) us
  | [], [], _ => .nil
  | .str y t :: r, z :: zs, h => by
    unfold tupS at h
    obtain ⟨a, b⟩ := Bool.and_eq_true_iff.mp h
    have e := of_decide_eq_true a
    subst e
    exact .cons ⟨t, rfl⟩ (tupS_vals b)
section
variable {X : Cx} {F0 : Hp} {x : Str} {pos : Pos}
theorem de_gtup {zs : List Str} (hm : ∃ a : Addr, X.mg x = some (.ref a) ∧ tupAt X.K a zs = true) (hg : Gl X x := by rfl) (hd : (x == ("__debug__" : Str)) = false := by decide) : DE X F0 (.Name x pos) (dC (.tup (zs.map .str))) := by
  obtain ⟨a, hm, ha⟩ := hm
  refine ⟨PE.weak (pe_glob (v := .ref a) hg hm rfl hd) fun σ H Q ⟨ρ, M, F, P, l0, sl, g, t, k⟩ => k _ _ M F H (Le.refl F) g ?_ t⟩
  have q : SqT X.K F a (zs.map V.str) := by
    unfold tupAt at ha
    split at ha
    · rename_i o e
      obtain ⟨h1, h2⟩ := Bool.and_eq_true_iff.mp ha
      split at h2
      · rename_i its n e2
        obtain ⟨h3, h4⟩ := Bool.and_eq_true_iff.mp h2
        exact .inr ⟨o, its, n, e, of_decide_eq_true h1, e2, of_decide_eq_true h3, tupS_vals h4⟩
      · cases h2
    · cases ha
  exact .tup q (reps_strs zs)
end

/-! ### list(range(a, b)) -/
theorem reps_rg {S : SE} {F : Hp} (a : Int) : ∀ l : List Nat, Reps S F (l.map fun i => V.int (a + (i : Nat))) (l.map fun (i : Nat) => D.int (a + (i : Int)))
  | [] => .nil
  | i :: l => .cons (.int _) (reps_rg a l)
section
variable {X : Cx} {F0 : Hp} {a b : Expr} {ta tb : DTE} {p p2 pos pos2 : Pos}
def dListRg (ta tb : DTE) : DTE := fun ρ M Q => ta ρ M fun x M1 => tb ρ M1 fun y M2 => match x, y with
  | .int i, .int j => RgOk i j ∧ Q (.lst (rangeD i (j - i).toNat)) M2
  | _, _ => False
theorem de_listRg (hm : X.mg "list" = none) (hm2 : X.mg "range" = none) (ha : DE X F0 a ta) (hb : DE X F0 b tb) (hc : X.calm = true := by rfl) (hg : Gl X "list" := by rfl) (hg2 : Gl X "range" := by rfl)
    (na : starEach [a, b] X.env = (false, eval a X.env) :: starEach [b] X.env := by rfl) (nb : starEach [b] X.env = (false, eval b X.env) :: starEach [] X.env := by rfl) (hp : (backTo pos2 (starEach [b] X.env)).any (·.1) = false := by rfl)
    (ne : starEach [.Call (.Name "range" p2) [a, b] [] pos2] X.env = (false, eval (.Call (.Name "range" p2) [a, b] [] pos2) X.env) :: starEach [] X.env := by rfl) :
    DE X F0 (.Call (.Name "list" p) [.Call (.Name "range" p2) [a, b] [] pos2] [] pos) (dListRg ta tb) := by
  refine ⟨PE.weak (pe_listRg hc hg hm (prg_2 hg2 hm2 ha.pe hb.pe na nb hp) ne) fun σ H Q ⟨ρ, M, F, P, l0, sl, g, t, k⟩ => ?_⟩
  refine ⟨ρ, M, F, _, l0, sl, g, t, fun x dx M1 F1 H1 l1 g1 r1 t1 => ⟨ρ, M1, F1, _, l0.trans l1, sl.mono l1, g1, t1, fun y dy M2 F2 H2 l2 g2 r2 t2 => ?_⟩⟩
  split at t2
  · rename_i i j
    cases r1
    cases r2
    refine ⟨_, _, rfl, rfl, t2.1, fun q hq => ?_⟩
    have fr := g2.freshF hq
    exact k _ _ M2 _ _ ((l1.trans l2).trans (Le.new fr)) (g2.new hq) (.lst upd_same (reps_rg i _)) t2.2
  · exact t2.elim
end

/-! ### int(b), b a bool -/
section
variable {X : Cx} {F0 : Hp}
def rcIntB : DCl := fun ds M Q => match ds with
  | [.bl b] => Q (.int (if b then 1 else 0)) M
  | _ => False
theorem dc_intB : DCallR X F0 (.type "int") rcIntB := by
  intro pins s σ H xs us Q I r ⟨ds, M, F, P, l0, g, rs, t, k⟩
  unfold rcIntB at t
  split at t
  · cases rs with
    | cons rx rz =>
      cases rz
      cases rx
      exact call_int1 pins s σ H _ _ Q I r (.inr ⟨_, rfl, k _ _ M F H (Le.refl F) g (.int _) t⟩)
  · exact t.elim
end
end DL


set_option Elab.async false
set_option linter.all false
set_option maxRecDepth 100000
namespace DL
open PySem PySem.Spec PyProof.Rows L2

/-! ### match: a text; a tuple of texts and names -/
inductive Pt where
  | val (s : Str) | cap (i : Nat)
inductive PtT where
  | one (s : Str) | seq (ps : List Pt)
def ptOne : Pt → D → Option (Option (List (Nat × D)))
  | .val s, .str x => some (if x = s then some [] else none)
  | .val _, _ => none
  | .cap i, d => some (some [(i, d)])
def ptAll : List Pt → List D → Option (Option (List (Nat × D)))
  | [], [] => some (some [])
  | p :: ps, d :: ds => match ptOne p d with
    | none => none
    | some none => some none
    | some (some b) => match ptAll ps ds with
      | none => none
      | some none => some none
      | some (some c) => some (some (b ++ c))
  | _, _ => none
def ptT : PtT → D → Option (Option (List (Nat × D)))
  | .one s, .str x => some (if x = s then some [] else none)
  | .seq ps, .tup ds => if ds.length = ps.length then ptAll ps ds else some none
  | _, _ => none
def setAll : Ro → List (Nat × D) → Ro
  | ρ, [] => ρ
  | ρ, (i, d) :: r => setAll (ρ.set i (some d)) r
def dCases : List (PtT × DTS) → D → DTS
  | [], _ => dNext
  | (p, t) :: r, d => fun E ρ M => match ptT p d with
    | none => False
    | some none => dCases r d E ρ M
    | some (some bs) => t E (setAll ρ bs) M
def dMatch (te : DTE) (cs : List (PtT × DTS)) : DTS := fun E ρ M => te ρ M fun d M1 => dCases cs d E ρ M1
structure Nm (X : Cx) (i : Nat) (x : Str) : Prop where
  hi : X.N[i]? = some x
  hx : Loc X.env.scope x
  hf : X.fn x = true ∨ X.env.scope.names.lookup x = some .local
inductive DPt (X : Cx) : Pattern → Pt → Prop where
  | val {s : Str} {j : Nat} {cp pos : Pos} : DPt X (.MatchValue (.Constant (.str s) j cp) pos) (.val s)
  | cap {i : Nat} {x : Str} {pos : Pos} (h : Nm X i x) : DPt X (.MatchAs none (some x) pos) (.cap i)
inductive DPts (X : Cx) : List Pattern → List Pt → Prop where
  | nil : DPts X [] []
  | cons {p : Pattern} {q : Pt} {ps : List Pattern} {qs : List Pt} (h : DPt X p q) (t : DPts X ps qs) : DPts X (p :: ps) (q :: qs)
inductive DPtT (X : Cx) : Pattern → PtT → Prop where
  | one {s : Str} {j : Nat} {cp pos : Pos} : DPtT X (.MatchValue (.Constant (.str s) j cp) pos) (.one s)
  | seq {ps : List Pattern} {qs : List Pt} {pos : Pos} (h : DPts X ps qs) (hstar : ps.findIdx? (·.isStar) = none) (hwild : (ps.all fun p => p.isWildcard || (p.isStar && p.names.isEmpty)) = false) : DPtT X (.MatchSequence ps pos) (.seq qs)
inductive DCs (X : Cx) (F0 : Hp) : List MatchCase → List (PtT × DTS) → Prop where
  | nil : DCs X F0 [] []
  | cons {p : Pattern} {q : PtT} {body : List Stmt} {t : DTS} {cs : List MatchCase} {ts : List (PtT × DTS)} (hp : DPtT X p q) (hb : DSs X F0 body t) (r : DCs X F0 cs ts) : DCs X F0 (⟨p, none, body⟩ :: cs) ((q, t) :: ts)
theorem DPts.len {X : Cx} {ps : List Pattern} {qs : List Pt} (h : DPts X ps qs) : ps.length = qs.length := by
  induction h with
  | nil => rfl
  | cons _ _ ih => rw [List.length_cons, List.length_cons, ih]
section
variable {X : Cx} {F0 : Hp} {pins : List (Addr × Obj)} {σ : L2.St} {H : Hp} {s : Shared}
/-- what is bound: names, values, slots, data -/
inductive Bs (X : Cx) (F : Hp) : List (Str × Value) → List (Nat × D) → Prop where
  | nil : Bs X F [] []
  | cons {x : Str} {u : Value} {i : Nat} {d : D} {v : V} {r : List (Str × Value)} {q : List (Nat × D)} (h : Nm X i x) (ru : RelV v u) (rd : Rep (Cx.se X) F v d) (t : Bs X F r q) : Bs X F ((x, u) :: r) ((i, d) :: q)
theorem Bs.app {F : Hp} {a b : List (Str × Value)} {c e : List (Nat × D)} (h : Bs X F a c) (k : Bs X F b e) : Bs X F (a ++ b) (c ++ e) := by
  induction h with
  | nil => exact k
  | cons h ru rd t ih => exact .cons h ru rd ih
/-- the outcome of a pattern -/
def BsO (X : Cx) (F : Hp) (r : Option (List (Str × Value))) (o : Option (List (Nat × D))) : Prop := match r, o with
  | none, none => True
  | some a, some b => Bs X F a b
  | _, _ => False
theorem pt_val {x z : Str} {u : Value} {j : Nat} {cp pos : Pos} {Q : Option (List (Str × Value)) → Shared → Prop} (I : Inv X pins σ H s) (ru : RelV (V.str x) u)
    (h : ∀ s', Inv X pins σ H s' → Q (if x = z then some [] else none) s') : wpAny (model X.prog X.w) X.A (matchPattern (.MatchValue (.Constant (.str z) j cp) pos) X.env u) Q X.xe s := by
  refine wpAny_matchPattern_Value (thn ((pe_str (X := X)).run pins s σ H (fun v H1 => v = .str z ∧ H1 = H) I ⟨rfl, rfl⟩) fun w s1 ⟨v, H1, I1, r1, e1, e2⟩ => ?_)
  subst e1 e2
  refine thn (op_eq pins s1 σ H1 _ _ u w (fun v H2 => v = .bl (decide (x = z)) ∧ H2 = H1) I1 ru r1 ⟨rfl, by simp⟩) fun c s2 ⟨v2, H2, I2, r2, e3, e4⟩ => ?_
  subst e3 e4
  obtain rfl : c = Value.bool (decide (x = z)) := r2
  refine wpAny_truthy_bool ?_
  have q := h s2 I2
  by_cases e : x = z
  · rw [if_pos e] at q
    rw [decide_eq_true e]
    exact q
  · rw [if_neg e] at q
    rw [decide_eq_false e]
    exact q
theorem pt_one {p : Pattern} {q : Pt} {F : Hp} {v : V} {d : D} {u : Value} {o : Option (List (Nat × D))} {Q : Option (List (Str × Value)) → Shared → Prop} (hp : DPt X p q) (I : Inv X pins σ H s) (ru : RelV v u) (rd : Rep (Cx.se X) F v d) (ho : ptOne q d = some o)
    (h : ∀ r s', Inv X pins σ H s' → BsO X F r o → Q r s') : wpAny (model X.prog X.w) X.A (matchPattern p X.env u) Q X.xe s := by
  cases hp with
  | val =>
    cases d with
    | str x =>
      cases rd
      have e := Option.some.inj ho
      refine pt_val I ru fun s' I' => h _ s' I' ?_
      rw [← e]
      split
      · exact .nil
      · trivial
    | _ => cases ho
  | cap hn =>
    have e := Option.some.inj ho
    refine wpAny_matchPattern_Capture (h _ s I ?_)
    rw [← e]
    exact .cons hn ru rd .nil
theorem pt_all {F : Hp} {ps : List Pattern} {qs : List Pt} (hp : DPts X ps qs) : ∀ {vs : List V} {ds : List D} {us : List Value} {s : Shared} {o : Option (List (Nat × D))} {Q : Option (List (Str × Value)) → Shared → Prop}, Inv X pins σ H s → Vals vs us → Reps (Cx.se X) F vs ds → ptAll qs ds = some o →
    (∀ r s', Inv X pins σ H s' → BsO X F r o → Q r s') → wpAny (model X.prog X.w) X.A (matchEach ps X.env us) Q X.xe s := by
  induction hp with
  | nil =>
    intro vs ds us s o Q I ru rd ho h
    cases ds with
    | nil =>
      cases rd
      cases ru
      cases ho
      exact wpAny_matchEach_nil (h _ s I .nil)
    | cons d ds => cases ho
  | @cons p q ps qs hq ht ih =>
    intro vs ds us s o Q I ru rd ho h
    cases ds with
    | nil => cases ho
    | cons d ds =>
      cases rd with
      | cons rd rds =>
        cases ru with
        | cons ru rus =>
          have star : p.isStar = false := by cases hq <;> rfl
          unfold ptAll at ho
          cases e1 : ptOne q d with
          | none => rw [e1] at ho; cases ho
          | some o1 =>
            rw [e1] at ho
            refine wpAny_matchEach_cons (pt_one hq I ru rd e1 fun r s1 I1 b1 => ?_) star
            cases o1 with
            | none =>
              cases r with
              | none =>
                have e := Option.some.inj ho
                subst e
                exact h none s1 I1 trivial
              | some a => exact b1.elim
            | some b =>
              cases r with
              | none => exact b1.elim
              | some a =>
                cases e2 : ptAll qs ds with
                | none => simp only [e2] at ho; cases ho
                | some o2 =>
                  simp only [e2] at ho
                  refine ih I1 rus rds e2 fun r2 s2 I2 b2 => ?_
                  cases o2 with
                  | none =>
                    cases r2 with
                    | none =>
                      have e := Option.some.inj ho
                      subst e
                      exact h none s2 I2 trivial
                    | some a2 => exact b2.elim
                  | some c =>
                    cases r2 with
                    | none => exact b2.elim
                    | some a2 =>
                      have e := Option.some.inj ho
                      subst e
                      exact h _ s2 I2 (Bs.app b1 b2)
theorem pt_T {p : Pattern} {q : PtT} {F : Hp} {M : Store} {v : V} {d : D} {u : Value} {o : Option (List (Nat × D))} {Q : Option (List (Str × Value)) → Shared → Prop} (hc : X.calm = true) (hp : DPtT X p q) (I : Inv X pins σ H s) (g : Good (Cx.se X) F M H) (ru : RelV v u) (rd : Rep (Cx.se X) F v d) (ho : ptT q d = some o)
    (h : ∀ r s', Inv X pins σ H s' → BsO X F r o → Q r s') : wpAny (model X.prog X.w) X.A (matchPattern p X.env u) Q X.xe s := by
  cases hp with
  | one =>
    cases d with
    | str x =>
      cases rd
      have e := Option.some.inj ho
      refine pt_val I ru fun s' I' => h _ s' I' ?_
      rw [← e]
      split
      · exact .nil
      · trivial
    | _ => cases ho
  | @seq ps qs pos hps hstar hwild =>
    cases d with
    | tup ds =>
      cases rd with
      | tup hq rds =>
        cases ru
        obtain ⟨its, rv, ht, hz⟩ := I.tuple (g.sqT hq)
        have l1 := rv.length
        have l2 := rds.len
        have l3 := hps.len
        have hfit : (its.toArray.size : Int) < 2 ^ 63 := by
          have : its.length ≤ sizeLine := by rw [← l1]; exact hz
          rw [sizeLine_eq] at this
          have e : (2 : Int) ^ 63 = 9223372036854775808 := by decide
          rw [e]
          simp only [List.size_toArray]
          omega
        have hsz : its.toArray.size = ds.length := by simp only [List.size_toArray]; omega
        unfold ptT at ho
        simp only at ho
        refine wpAny_matchPattern_Sequence (wpAny_collectionFlag ht.typeIs flag_seq_tuple ?_) hstar hwild
        rw [if_pos rfl]
        refine pyLen_tuple ht hfit ?_
        have I1 : Inv X pins σ H { s with toks := s.toks + 1 + 1 } := I.tok _
        by_cases e : ds.length = qs.length
        · rw [if_pos e] at ho
          have hne : ((its.toArray.size : Int) != (ps.length : Int)) = false := by
            rw [hsz, e, l3]
            simp
          rw [hne]
          have en : ps.length = its.toArray.size := by omega
          rw [en]
          refine unpackItems_tuple (I.ok.hd hc) ht fun h' hx => ?_
          have I2 : Inv X pins σ H { s with heap := h', toks := s.toks + 1 + 1 } := I.kept (t' := s.toks + 1 + 1) fun b o e => hx b o (Nat.ne_of_lt (Heap.lt_size e)) e
          exact pt_all hps I2 (by simpa using rv) rds ho h
        · rw [if_neg e] at ho
          have hne : ((its.toArray.size : Int) != (ps.length : Int)) = true := by
            rw [hsz, l3]
            exact bne_iff_ne.mpr fun z => e (by omega)
          rw [hne]
          have e := Option.some.inj ho
          subst e
          exact h none _ I1 trivial
    | _ => cases ho
theorem bs_run {F : Hp} {rs : List (Str × Value)} {bs : List (Nat × D)} (b : Bs X F rs bs) (hN : X.N.Nodup) : ∀ {σ : L2.St} {ρ : Ro} {s : Shared} {Q : Unit → Shared → Prop}, Inv X pins σ H s → Slots (Cx.se X) F σ ρ → (∀ σ' s', Inv X pins σ' H s' → Slots (Cx.se X) F σ' (setAll ρ bs) → Q () s') →
    wpAny (model X.prog X.w) X.A (assignInOrder (rs.map fun (n, _) => bindName X.env n) (rs.map (·.2))) Q X.xe s := by
  induction b with
  | nil => exact fun I sl h => wpAny_assignInOrder_none (h _ _ I sl)
  | cons hn ru rd t ih =>
    intro σ ρ s Q I sl h
    exact wpAny_assignInOrder_more (wpAny_bindName (store_ok I hN hn.hi hn.hx ru (fun s' I' => ih I' (sl.set _ rd) h) hn.hf))
theorem cases_run (hc : X.calm = true) (hN : X.N.Nodup) {cs : List MatchCase} {ts : List (PtT × DTS)} (h : DCs X F0 cs ts) : ∀ {s : Shared} {first : Bool} {v : V} {d : D} {u : Value} {ρ : Ro} {M : Store} {F : Hp} {D : DEnds} {E : Ends}, Inv X pins σ H s → RelV v u → Rep (Cx.se X) F v d → Le F0 F → Slots (Cx.se X) F σ ρ → Good (Cx.se X) F M H →
    dCases ts d D ρ M →
    (∀ σ' ρ' M' F' H', Le F F' → Slots (Cx.se X) F' σ' ρ' → Good (Cx.se X) F' M' H' → D.nx ρ' M' → E.nx σ' H') →
    (∀ v d M' F' H', Le F F' → Good (Cx.se X) F' M' H' → Rep (Cx.se X) F' v d → D.rt d M' → E.rt v H') →
    (∀ σ' ρ' M' F' H', Le F F' → Slots (Cx.se X) F' σ' ρ' → Good (Cx.se X) F' M' H' → D.bk ρ' M' → E.bk σ' H') →
    (∀ σ' ρ' M' F' H', Le F F' → Slots (Cx.se X) F' σ' ρ' → Good (Cx.se X) F' M' H' → D.ct ρ' M' → E.ct σ' H') →
    wpAny (model X.prog X.w) X.A (matchCases cs X.env u first) (SP X pins E) X.xe s := by
  induction h with
  | nil =>
    intro s first v d u ρ M F D E I ru rd l0 sl g t k1 k2 k3 k4
    exact wpAny_matchCases_nil ⟨σ, H, I, k1 _ _ _ _ _ (Le.refl F) sl g t⟩
  | @cons p q body tb cs ts hp hb hr ih =>
    intro s first v d u ρ M F D E I ru rd l0 sl g t k1 k2 k3 k4
    have t' : (match ptT q d with
      | none => False
      | some none => dCases ts d D ρ M
      | some (some bs) => tb D (setAll ρ bs) M) := t
    cases e : ptT q d with
    | none => rw [e] at t'; exact t'.elim
    | some o =>
      rw [e] at t'
      refine wpAny_matchCases_cons (pt_T hc hp I g ru rd e fun r s1 I1 b => ?_)
      cases o with
      | none =>
        cases r with
        | none => exact ih I1 ru rd l0 sl g t' k1 k2 k3 k4
        | some a => exact b.elim
      | some bs =>
        cases r with
        | none => exact b.elim
        | some a =>
          refine bs_run b hN I1 sl fun σ' s2 I2 sl2 => ?_
          exact hb.pss.run pins s2 σ' H E I2 ⟨setAll ρ bs, M, F, D, l0, sl2, g, t', k1, k2, k3, k4⟩
theorem ds_match {subj : Expr} {cs : List MatchCase} {pos : Pos} {te : DTE} {ts : List (PtT × DTS)} (hc : X.calm = true) (hN : X.N.Nodup) (he : DE X F0 subj te) (h : DCs X F0 cs ts) : DS X F0 (.Match subj cs pos) (dMatch te ts) := by
  refine ⟨⟨fun pins s σ H E I ⟨ρ, M, F, D, l0, sl, g, t, k1, k2, k3, k4⟩ => ?_⟩⟩
  refine wpAny_Match (thn (he.pe.run pins s σ H (fun v H1 => ∃ d M1 F1, Le F F1 ∧ Good (Cx.se X) F1 M1 H1 ∧ Rep (Cx.se X) F1 v d ∧ dCases ts d D ρ M1) I
    ⟨ρ, M, F, _, l0, sl, g, t, fun v d M1 F1 H1 l1 g1 r1 p1 => ⟨d, M1, F1, l1, g1, r1, p1⟩⟩) fun u s1 ⟨v, H1, I1, r1, d, M1, F1, l1, g1, rd, t1⟩ => ?_)
  exact cases_run hc hN h I1 r1 rd (l0.trans l1) (sl.mono l1) g1 t1 (fun σ' ρ' M' F' H' l => k1 σ' ρ' M' F' H' (l1.trans l)) (fun v d M' F' H' l => k2 v d M' F' H' (l1.trans l)) (fun σ' ρ' M' F' H' l => k3 σ' ρ' M' F' H' (l1.trans l)) (fun σ' ρ' M' F' H' l => k4 σ' ρ' M' F' H' (l1.trans l))
end
end DL


set_option Elab.async false
set_option linter.all false
set_option maxRecDepth 100000
set_option maxHeartbeats 1600000
namespace DL
open PySem PySem.Spec PyProof.Rows L2

/-! ### a token is out: x.replace(..).replace(..).split(..) stored in a field -/
structure DET (X : Cx) (F0 : Hp) (e : Expr) (t : DTE) : Prop where
  pe : PET X e (low (Cx.se X) F0 (fun F => Rep (Cx.se X) F) t)
structure DST (X : Cx) (F0 : Hp) (st : Stmt) (t : DTS) : Prop where
  ps : PST X st (lowS (Cx.se X) F0 t)
structure DSsT (X : Cx) (F0 : Hp) (st : List Stmt) (t : DTS) : Prop where
  pss : PSsT X st (lowS (Cx.se X) F0 t)
def dReplC (y z : Str) (te : DTE) : DTE := fun ρ M Q => te ρ M fun v M1 => match v with
  | .str x => x.length + (x.length + 1) * z.length ≤ 16777216 ∧ Q (.str (Txt.replace x y z)) M1
  | _ => False
section
variable {X : Cx} {F0 : Hp} {o e : Expr} {to te : DTE} {y z f c : Str} {j k : Nat} {c0 c1 apos pos pos' : Pos} {st : Stmt} {rest : List Stmt} {t u : DTS}
theorem PET.weak {t u : TE} (h : PET X e t) (k : ∀ σ H Q, u σ H Q → t σ H Q) : PET X e u := fun pins s σ H Q h0 I q => h pins s σ H Q h0 I (k _ _ _ q)
theorem PST.weak {t u : TS} (h : PST X st t) (k : ∀ D σ H, u D σ H → t D σ H) : PST X st u := fun pins s σ H D h0 I q => h pins s σ H D h0 I (k _ _ _ q)
theorem PSsT.weak {t u : TS} (h : PSsT X rest t) (k : ∀ D σ H, u D σ H → t D σ H) : PSsT X rest u := fun pins s σ H D h0 I q => h pins s σ H D h0 I (k _ _ _ q)
theorem low_repl {σ : L2.St} {H : Hp} {Q : VK} (h : low (Cx.se X) F0 (fun F => Rep (Cx.se X) F) (dReplC y z to) σ H Q) : CwR.tReplC (low (Cx.se X) F0 (fun F => Rep (Cx.se X) F) to) y z σ H Q := by
  obtain ⟨ρ, M, F, P, l0, sl, g, t, k⟩ := h
  refine ⟨ρ, M, F, _, l0, sl, g, t, fun v d M1 F1 H1 l1 g1 r1 p1 => ?_⟩
  split at p1
  · rename_i x
    cases r1
    exact ⟨x, rfl, p1.1, k _ _ M1 F1 H1 l1 g1 (.str _) p1.2⟩
  · exact p1.elim
theorem det_repl (ho : DE X F0 o to) (hyz : (y == z) = false := by decide)
    (hst : starEach [.Constant (.str y) j c0, .Constant (.str z) k c1] X.env = [(false, eval (.Constant (.str y) j c0) X.env), (false, eval (.Constant (.str z) k c1) X.env)] := by rfl)
    (hbase : attributeBase o "replace" X.env (eval o X.env) = eval o X.env := by rfl) (hline : (apos.endLine == pos.line) = true := by rfl) :
    DET X F0 (.Call (.Attribute o "replace" apos) [.Constant (.str y) j c0, .Constant (.str z) k c1] [] pos) (dReplC y z to) :=
  ⟨PET.weak (CwR.pet_replC ho.pe hyz hst hbase hline) fun _ _ _ h => low_repl h⟩
theorem det_replT (ho : DET X F0 o to) (hyz : (y == z) = false := by decide)
    (hst : starEach [.Constant (.str y) j c0, .Constant (.str z) k c1] X.env = [(false, eval (.Constant (.str y) j c0) X.env), (false, eval (.Constant (.str z) k c1) X.env)] := by rfl)
    (hbase : attributeBase o "replace" X.env (eval o X.env) = eval o X.env := by rfl) (hline : (apos.endLine == pos.line) = true := by rfl) :
    DET X F0 (.Call (.Attribute o "replace" apos) [.Constant (.str y) j c0, .Constant (.str z) k c1] [] pos) (dReplC y z to) :=
  ⟨PET.weak (CwR.pet_replT ho.pe hyz hst hbase hline) fun _ _ _ h => low_repl h⟩
theorem pet_m1 {id : String} {name : Str} {to te : TE} {r : V → List V → Hp → VK → Prop} (slot : Slot "str" name id) (ty : typeOf (.builtin id) = pure (.type "method_descriptor")) (rule : MtR X id r) (ho : PET X o to) (he : PE X e te)
    (hs : starEach [e] X.env = [(false, eval e X.env)] := by rfl) (hbase : attributeBase o name X.env (eval o X.env) = eval o X.env := by rfl) (hline : (apos.endLine == pos.line) = true := by rfl) :
    PET X (.Call (.Attribute o name apos) [e] [] pos) (tM1 r to te) := by
  intro pins s σ H Q h0 I h
  refine PySem.Call_method1 hbase hs hline (thn (ho pins s σ H _ h0 I h) fun v s1 ⟨x, H1, I1, r1, q1⟩ => ?_)
  obtain ⟨⟨a, rfl⟩, q1⟩ := q1
  obtain ⟨t, rfl⟩ := _root_.id r1
  refine ⟨"str", _, F.plainAttrs_str, slot, ty, typeIs_str _ _ _, (fun _ e => nomatch e), Calls.callWith_builtin rfl (Calls.evalArgs_plain (Calls.spliced_cons ?_))⟩
  exact thn (he.run pins s1 σ H1 _ I1 q1) fun u s2 ⟨y, H2, I2, r2, q2⟩ => Calls.spliced_nil (rule pins s2 σ H2 _ [y] _ [u] Q I2 r1 (.cons r2 .nil) q2)
theorem low_split {σ : L2.St} {H : Hp} {Q : VK} (h : low (Cx.se X) F0 (fun F => Rep (Cx.se X) F) (dSplit to te) σ H Q) :
    tM1 (fun x xs H Q => ∃ a b, x = .str a ∧ xs = [.str b] ∧ (b.length == 0) = false ∧ a.length + 2 ≤ sizeLine ∧ rNewStrs (Txt.split a b) H Q) (low (Cx.se X) F0 (fun F => Rep (Cx.se X) F) to) (low (Cx.se X) F0 (fun F => Rep (Cx.se X) F) te) σ H Q := by
  obtain ⟨ρ, M, F, P, l0, sl, g, t, k⟩ := h
  refine ⟨ρ, M, F, _, l0, sl, g, t, fun v d M1 F1 H1 l1 g1 r1 p1 => ?_⟩
  obtain ⟨⟨a, rfl⟩, p1⟩ := p1
  cases r1
  refine ⟨⟨a, rfl⟩, ρ, M1, F1, _, l0.trans l1, sl.mono l1, g1, p1, fun w e M2 F2 H2 l2 g2 r2 p2 => ?_⟩
  unfold rmSplit at p2
  split at p2
  · rename_i a' b ea
    cases ea
    cases r2
    refine ⟨a, b, rfl, rfl, p2.1, p2.2.1, fun p hp => ?_⟩
    have fr := g2.freshF hp
    exact k _ _ M2 _ _ ((l1.trans l2).trans (Le.new fr)) (g2.new hp) (.lst upd_same (reps_strs _)) p2.2.2
  · exact p2.elim
theorem det_split (ho : DET X F0 o to) (he : DE X F0 e te) (hs : starEach [e] X.env = [(false, eval e X.env)] := by rfl) (hbase : attributeBase o "split" X.env (eval o X.env) = eval o X.env := by rfl) (hline : (apos.endLine == pos.line) = true := by rfl) :
    DET X F0 (.Call (.Attribute o "split" apos) [e] [] pos) (dSplit to te) :=
  ⟨PET.weak (pet_m1 PySem.F.slot_str_split PySem.F.type_str_split mt_split ho.pe he.pe hs hbase hline) fun _ _ _ h => low_split h⟩
theorem pst_fld {ta tv : TE} {value : Expr} (ha : PE X o ta) (hv : PET X value tv) (hs : swapsWith value (some (.Attribute o f pos')) pos.line X.env = pure false) : PST X (.Assign [.Attribute o f pos'] value pos) (sFld X.K ta tv f) := by
  intro pins s σ H D h0 I h
  refine plainObj_wpAny_Assign_Attribute (thn (hv pins s σ H _ h0 I h) fun u s1 ⟨y, H1, I1, ry, q⟩ => thn (ha.run pins s1 σ H1 _ I1 q) fun ov s2 ⟨x, H2, I2, rx, a, C, dx, fs, ex, ea, c, n, l, q2⟩ => ?_) hs
  subst ex
  obtain rfl : ov = Value.ref a := rx
  exact setattr_ok I2 ea c n l ry fun s3 I3 => ⟨σ, _, I3, q2⟩
theorem dst_fld (ho : DE X F0 o to) (he : DET X F0 e te) (hf : FldOk (Cx.se X) c f) (hs : swapsWith e (some (.Attribute o f pos')) pos.line X.env = pure false := by rfl) : DST X F0 (.Assign [.Attribute o f pos'] e pos) (dSetFld c f to te) := by
  refine ⟨PST.weak (pst_fld ho.pe he.pe hs) fun E σ H ⟨ρ, M, F, D, l0, sl, g, t, k1, k2, k3, k4⟩ => ?_⟩
  refine ⟨ρ, M, F, _, l0, sl, g, t, fun v d M1 F1 H1 l1 g1 r1 p1 => ⟨ρ, M1, F1, _, l0.trans l1, sl.mono l1, g1, p1, fun w dx M2 F2 H2 l2 g2 r2 p2 => ?_⟩⟩
  split at p2
  · cases r2
    split at p2
    · rename_i c' fs e1
      obtain ⟨rfl, hl, q⟩ := p2
      obtain ⟨_, ob, hH, rm⟩ := g2.cel _ _ e1
      cases rm with
      | ins hc rf =>
        exact ⟨_, _, _, _, rfl, hH, hc.cls, hf _ hc.mg, by rw [repF_len rf]; exact hl, k1 _ _ _ F2 _ (l1.trans l2) (sl.mono (l1.trans l2)) (g2.set e1 (.ins hc (repF_put (r1.mono l2) rf))) q⟩
    · exact p2.elim
  · exact p2.elim
theorem dsst_cons (h1 : DST X F0 st t) (h2 : DSs X F0 rest u) : DSsT X F0 (st :: rest) (dSeq t u) := by
  refine ⟨PSsT.weak (psst_cons h1.ps (PSsT.of h2.pss)) fun E σ H ⟨ρ, M, F, D, l0, sl, g, t, k1, k2, k3, k4⟩ => ?_⟩
  exact ⟨ρ, M, F, _, l0, sl, g, t, fun σ' ρ' M' F' H' l s' g' p => ⟨ρ', M', F', D, l0.trans l, s', g', p, fun a b c d e l2 => k1 a b c d e (l.trans l2), fun a b c d e l2 => k2 a b c d e (l.trans l2), fun a b c d e l2 => k3 a b c d e (l.trans l2), fun a b c d e l2 => k4 a b c d e (l.trans l2)⟩, k2, k3, k4⟩
end
section
variable {P : Program} {w : World} {K : PySem.W.Frag} {mg : Str → Option Value} {base : Heap}
/-- the rule for a def whose parameters are no cells: a token is out when its body begins -/
theorem fnG_ofT {k : Nat} {f : Addr} {name qual : Str} {params : Arguments} {body : List Stmt} {scope : Scope} {dV kV doc pm cdv ct oc : Value} {an od : Option Addr} {osl : Array (Option Value)} {N ps : List Str} {sp : DSp}
    (lk : K.lookup f = some ⟨oc, od, .func (PySem.W.fnOf name qual params body scope dV kV doc pm an cdv ct), osl⟩) (hcd : PySem.W.codeIn K cdv qual = true) (S : FnScope N ps scope)
    (hnc : ∀ y ∈ scope.names, y.2 ≠ .cell) (hps : 1 ≤ ps.length) (len : ∀ ds M P E, sp ds M P E → ds.length = ps.length)
    (t : DWX → DTS)
    (d : ∀ (A : Around) (outer : List Env) (s : Shared) (H : Hp) (E : XK) (F0 : Hp) (W : DWX), Rm k (A.deeper (envOfC qual scope s.heap.objs.size f cdv)) → Takes (cxOf (L2.CX P w) P w K mg base N qual scope f cdv A outer s H E) (lowW ⟨K, mg⟩ F0 W) →
      DSsT (cxOf (L2.CX P w) P w K mg base N qual scope f cdv A outer s H E) F0 body (t W))
    (q : ∀ ds M P PE, sp ds M P PE → t (finW PE) { nx := fun _ M' => finP P .non M', rt := finP P } (startR N ds) M) :
    FnG P w K mg base (k + 1) f (PySem.W.fnOf name qual params body scope dV kV doc pm an cdv ct) ps sp := by
  refine ⟨len, fun A outer s H args us vs Q E hr e0 hb r hsp => ?_⟩
  obtain ⟨ds, M, F, PP, PE, rs, g, hs, hQ, hE⟩ := id hsp
  have hl : vs.length = ps.length := rs.len.trans (len _ _ _ _ hs)
  have hul : us.length = ps.length := by rw [← r.length, hl]
  have KX : K.In s.heap := e0.mod.kin.keeps fun b o e => (e0.bs b o e).1
  have lim : s.heap.NoLimit := e0.mod.nolimit.keeps fun b o e => (e0.bs b o e).1
  have hloc : ∀ y ∈ ps.zip us, scope.names.lookup y.1 = some .local := fun ⟨n, v⟩ hy => by
    rcases S.par n (List.of_mem_zip hy).1 with q | q
    · exact q
    · exact absurd rfl (hnc _ (PySem.mem_of_lookup q))
  refine codeAny_call_function hr.room.depth (KX _ _ lk) rfl S.co S.gen rfl (PySem.W.codeRec_of KX hcd) (hb _ _ _ _ ?_)
  refine wpAny_newFunctionEnv hnc hloc (fun h1 hns hsb => ?_) S.kind
  have hz : (ps.zip us).length = ps.length := by rw [List.length_zip, hul, Nat.min_self]
  have keep : ∀ b o, s.heap.get? b = some o → h1.get? b = some o := fun b o e => hsb.extBut b o (Nat.ne_of_lt (Heap.lt_size e)) (Heap.get?_push_of_some _ e)
  have hcl : cellsFrom (s.heap.objs.size + 1) scope.names [] = [] := cells_none _ _ _ hnc
  have hkl : ∀ y ∈ ps.zip us, (envOfC qual scope s.heap.objs.size f cdv).kindOf y.1 = some .local := fun y hy => by
    first
    | exact hloc y hy
    | (simp only [Env.kindOf]; exact hloc y hy)
    | (unfold Env.kindOf; rw [if_pos S.kind]; exact hloc y hy)
    | simpa [Env.kindOf, envOfC, newEnv, S.kind] using hloc y hy
  have hm : (bindL (envOfC qual scope s.heap.objs.size f cdv).kindOf (ps.zip us) fun _ => none) = fun x => (ps.zip us).reverse.lookup x := by
    funext y
    rw [bindL_loc _ _ hkl y]
    cases (ps.zip us).reverse.lookup y <;> rfl
  have x : InCallC s s.heap.objs.size (bindL (envOfC qual scope s.heap.objs.size f cdv).kindOf (ps.zip us) fun _ => none) (cellsFrom (s.heap.objs.size + 1) scope.names [])
      (bindC (envOfC qual scope s.heap.objs.size f cdv).kindOf (ps.zip us) fun _ => none) ({ s with heap := h1, toks := s.toks + (ps.zip us).length } : Shared) := by
    rw [hm, hcl]
    exact ⟨⟨⟨_, _, rfl⟩, hns, keep, Nat.le_refl _⟩, fun n c hc => absurd hc (by simp), .nil, fun n c hc => absurd hc (by simp)⟩
  have henv : newEnv scope s.heap.objs.size mainGlobals [] (qual ++ ".<locals>.") (some f) cdv none builtinsNs = envOfC qual scope s.heap.objs.size f cdv := by
    unfold envOfC
    rw [hcl] <;> rfl
  have hto : 1 ≤ ({ s with heap := h1, toks := s.toks + (ps.zip us).length } : Shared).toks := by
    show 1 ≤ s.toks + (ps.zip us).length
    omega
  show ({ s with heap := h1, toks := s.toks + (ps.zip us).length } : Shared).heap.NoLimit ∧ codeAny (model P w) A (.func body (newEnv scope s.heap.objs.size mainGlobals [] (qual ++ ".<locals>.") (some f) cdv none builtinsNs)) _ ({ s with heap := h1, toks := s.toks + (ps.zip us).length } : Shared)
  rw [henv]
  generalize ({ s with heap := h1, toks := s.toks + (ps.zip us).length } : Shared) = s1 at x hto ⊢
  refine ⟨lim.keeps x.toInCall.keep, codeAny_func ?_⟩
  have tk : Takes (cxOf (L2.CX P w) P w K mg base N qual scope f cdv A outer s H E) (lowW ⟨K, mg⟩ F (finW PE)) :=
    Takes.imp (takes_of rfl rfl rfl rfl) fun cls dx σ' H' ⟨c, fs, ρ, M', F', l, _, g', rx, M'', sub, p⟩ => hE cls dx c fs M'' F' H' l (g'.drop sub) rx p
  have I : Inv (cxOf (L2.CX P w) P w K mg base N qual scope f cdv A outer s H E) [] (L2.start N vs) H s1 := inv_start S hr.room.hd e0 hl r x
  have dd := d A outer s H E F (finW PE) (hr.deeper _) tk
  have hq := q ds M PP PE hs
  have fin : ∀ v d M' F' H', Le F F' → Good ⟨K, mg⟩ F' M' H' → Rep ⟨K, mg⟩ F' v d → finP PP d M' → Q v H' := fun v d M' F' H' l g' rv ⟨M'', sub, p⟩ => hQ v d M'' F' H' l (g'.drop sub) rv p
  refine wpAny_mono (dd.pss [] s1 (L2.start N vs) H { nx := fun _ H' => Q .non H', rt := Q } hto I ⟨startR N ds, M, F, _, Le.refl F, Slots.start rs, g, hq,
    fun σ' ρ' M' F' H' l _ g' p => fin .non .non M' F' H' l g' .non p, fun v d M' F' H' l g' rv p => fin v d M' F' H' l g' rv p, fun _ _ _ _ _ _ _ _ z => z.elim, fun _ _ _ _ _ _ _ _ z => z.elim⟩) (fun fl s' hs' => ?_) fun e s' hs' => hs'
  cases fl with
  | ret u =>
    obtain ⟨v, σ', H', J, rv, qv⟩ := hs'
    exact ⟨v, H', J.os, J.bare, J.base, J.hok, rv, qv⟩
  | next =>
    obtain ⟨σ', H', J, qv⟩ := hs'
    exact ⟨V.non, H', J.os, J.bare, J.base, J.hok, rfl, qv⟩
  | brk =>
    obtain ⟨_, _, _, z⟩ := hs'
    exact z.elim
  | cont =>
    obtain ⟨_, _, _, z⟩ := hs'
    exact z.elim
/-- the walk of a def's body where a token is out -/
def WalkT (P : Program) (w : World) (K : PySem.W.Frag) (mg : Str → Option Value) (base : Heap) (k : Nat) (d : He.DefD) (N : List Str) (t : DWX → DTS) : Prop :=
  ∀ (cdv : Value) (A : Around) (outer : List Env) (s : Shared) (H : Hp) (E : XK) (F0 : Hp) (W : DWX), Rm k (A.deeper (envOfC d.qual d.scope s.heap.objs.size (He.fAd K d.at_) cdv)) →
    Takes (cxOf (L2.CX P w) P w K mg base N d.qual d.scope (He.fAd K d.at_) cdv A outer s H E) (lowW ⟨K, mg⟩ F0 W) →
    DSsT (cxOf (L2.CX P w) P w K mg base N d.qual d.scope (He.fAd K d.at_) cdv A outer s H E) F0 d.body (t W)
theorem fn_mkT {fs : List Fc} {fn : List He.DefD} {k : Nat} {sp : DSp} {d : He.DefD} {N ps : List Str} {t : DWX → DTS} (m : Md fs fn K mg) (hd : d ∈ fn) (Sc : FnScope N ps d.scope) (hnc : ∀ y ∈ d.scope.names, y.2 ≠ .cell) (hps : 1 ≤ ps.length) (wk : WalkT P w K mg base k d N t) (len : ∀ ds M P E, sp ds M P E → ds.length = ps.length)
    (q : ∀ ds M P PE, sp ds M P PE → t (finW PE) { nx := fun _ M' => finP P .non M', rt := finP P } (startR N ds) M) : Fn P w K mg base (k + 1) d ps sp := by
  obtain ⟨fd, F⟩ := m.def_ hd
  refine ⟨fd, F, ?_⟩
  obtain ⟨oc, od, dV, kV, doc, pm, an, cdv, ct, osl, rfl, lk, hcd, _, _⟩ := F.ex
  exact fnG_ofT lk hcd Sc hnc hps len t (fun A outer s H E F0 W hr tk => wk cdv A outer s H E F0 W hr tk) q
/-- a def that calls itself: nothing is promised at depth 0 -/
theorem fn_zero {fs : List Fc} {fn : List He.DefD} {k : Nat} {sp : DSp} {d : He.DefD} {ps : List Str} (m : Md fs fn K mg) (hd : d ∈ fn) (no : ∀ ds M P E, ¬ sp ds M P E) : Fn P w K mg base k d ps sp := by
  obtain ⟨fd, F⟩ := m.def_ hd
  exact ⟨fd, F, fun ds M P E h => absurd h (no ds M P E), fun A outer s H args us vs Q E hr e0 hb r ⟨ds, M, F, PP, PE, rs, g, hs, _⟩ => absurd hs (no _ _ _ _)⟩
end
end DL


set_option Elab.async false
set_option linter.all false
set_option maxRecDepth 100000
set_option maxHeartbeats 1600000
namespace DL
open PySem PySem.Spec PyProof.Rows L2

/-! ### texts: f'..', sep.join(..), str(..), text * n, for letter in text -/
section
variable {X : Cx} {F0 : Hp} {o e tg : Expr} {to te : DTE} {apos pos : Pos}
def fmtD (x : D) (M : Store) (Q : D → Store → Prop) : Prop := match x with
  | .str y => y.length ≤ sizeLine ∧ Q (.str y) M
  | .int i => i.natAbs.log2 < 1920 ∧ Q (.str (toString i)) M
  | _ => False
def dFmt (te : DTE) : DTE := fun ρ M Q => te ρ M fun x M1 => fmtD x M1 Q
theorem de_fmt (he : DE X F0 e te) : DE X F0 (.FormattedValue e (-1) none pos) (dFmt te) := by
  refine ⟨PE.weak (pe_fmt he.pe) fun σ H Q ⟨ρ, M, F, P, l0, sl, g, t, k⟩ => ⟨ρ, M, F, _, l0, sl, g, t, fun v d M1 F1 H1 l1 g1 r1 p1 => ?_⟩⟩
  unfold fmtD at p1
  split at p1
  · cases r1
    exact .inl ⟨_, rfl, p1.1, k _ _ M1 F1 H1 l1 g1 (.str _) p1.2⟩
  · cases r1
    exact .inr ⟨_, rfl, p1.1, k _ _ M1 F1 H1 l1 g1 (.str _) p1.2⟩
  · exact p1.elim
/-- the parts, one behind the other -/
def jsD (acc : Str) (x : D) (M : Store) (Qs : Str → Store → Prop) : Prop := match x with
  | .str y => (acc ++ y).length ≤ sizeLine ∧ Qs (acc ++ y) M
  | _ => False
def dJs : List DTE → Str → Ro → Store → (Str → Store → Prop) → Prop
  | [], acc, _, M, Q => Q acc M
  | t :: ts, acc, ρ, M, Q => t ρ M fun x M1 => jsD acc x M1 fun acc' M2 => dJs ts acc' ρ M2 Q
def dJoined (ts : List DTE) : DTE := fun ρ M Q => dJs ts Str.empty ρ M fun out M1 => Q (.str out) M1
inductive DJ (X : Cx) (F0 : Hp) : List Expr → List DTE → Prop where
  | nil : DJ X F0 [] []
  | cons {e : Expr} {t : DTE} {es : List Expr} {ts : List DTE} (h : DE X F0 e t) (r : DJ X F0 es ts) : DJ X F0 (e :: es) (t :: ts)
theorem DJ.pj {es : List Expr} {ts : List DTE} (h : DJ X F0 es ts) : PJ X es (ts.map fun t => low (Cx.se X) F0 (fun F => Rep (Cx.se X) F) t) := by
  induction h with
  | nil => exact .nil
  | cons h r ih => exact .cons h.pe ih
theorem low_js {F0 : Hp} : ∀ (ts : List DTE) (acc : Str) {σ : L2.St} {H : Hp} {Q : Str → Hp → Prop}, (∃ ρ M F P, Le F0 F ∧ Slots (Cx.se X) F σ ρ ∧ Good (Cx.se X) F M H ∧ dJs ts acc ρ M P ∧ ∀ out M' F' H', Le F F' → Good (Cx.se X) F' M' H' → P out M' → Q out H') →
    tJs (ts.map fun t => low (Cx.se X) F0 (fun F => Rep (Cx.se X) F) t) acc σ H Q
  | [], acc, σ, H, Q, ⟨ρ, M, F, P, l0, sl, g, t, k⟩ => k acc M F H (Le.refl F) g t
  | t :: ts, acc, σ, H, Q, ⟨ρ, M, F, P, l0, sl, g, tt, k⟩ => by
    refine ⟨ρ, M, F, _, l0, sl, g, tt, fun v d M1 F1 H1 l1 g1 r1 p1 => ?_⟩
    unfold jsD at p1
    split at p1
    · cases r1
      exact ⟨_, rfl, p1.1, low_js ts _ ⟨ρ, M1, F1, P, l0.trans l1, sl.mono l1, g1, p1.2, fun out M' F' H' l => k out M' F' H' (l1.trans l)⟩⟩
    · exact p1.elim
theorem de_joined {v1 v2 : Expr} {rest : List Expr} {ts : List DTE} (h : DJ X F0 (v1 :: v2 :: rest) ts) : DE X F0 (.JoinedStr (v1 :: v2 :: rest) pos) (dJoined ts) :=
  ⟨PE.weak (pe_joined h.pj) fun σ H Q ⟨ρ, M, F, P, l0, sl, g, t, k⟩ => low_js ts _ ⟨ρ, M, F, _, l0, sl, g, t, fun out M' F' H' l g' p => k _ _ M' F' H' l g' (.str _) p⟩⟩
theorem de_joined1 (h : DE X F0 e te) : DE X F0 (.JoinedStr [e] pos) te := ⟨pe_joined1 h.pe⟩

/-! join -/
def toSs : List D → Option (List Str)
  | [] => some []
  | .str x :: r => (toSs r).map (x :: ·)
  | _ => none
theorem toSs_map : ∀ l : List Str, toSs (l.map .str) = some l
  | [] => rfl
  | x :: l => by rw [List.map_cons, toSs, toSs_map l]; rfl
theorem reps_ss {S : SE} {F : Hp} : ∀ {vs : List V} {ds : List D} {ss : List Str}, Reps S F vs ds → toSs ds = some ss → vs = ss.map V.str
  | _, _, _, .nil, h => by cases h; rfl
  | _, _, _, .cons (d := d) r t, h => by
    cases d with
    | str x =>
      obtain ⟨ss, h1, rfl⟩ := Option.map_eq_some_iff.mp h
      cases r
      rw [reps_ss t h1]
      rfl
    | _ => cases h
def rmJoin (x y : D) (M : Store) (Q : D → Store → Prop) : Prop := match x, asS M y with
  | .str a, some ds => match toSs ds with
    | some ys => (ys.map (·.length)).sum + ys.length * a.length ≤ 16777216 ∧ Q (.str (Txt.join a ys)) M
    | none => False
  | _, _ => False
def dJoin (to te : DTE) : DTE := fun ρ M Q => to ρ M fun x M1 => (∃ a, x = .str a) ∧ te ρ M1 fun y M2 => rmJoin x y M2 Q
theorem de_join (ho : DE X F0 o to) (he : DE X F0 e te) (hs : starEach [e] X.env = [(false, eval e X.env)] := by rfl) (hbase : attributeBase o "join" X.env (eval o X.env) = eval o X.env := by rfl) (hline : (apos.endLine == pos.line) = true := by rfl) :
    DE X F0 (.Call (.Attribute o "join" apos) [e] [] pos) (dJoin to te) := by
  refine ⟨PE.weak (pe_join ho.pe he.pe hs hbase hline) fun σ H Q ⟨ρ, M, F, P, l0, sl, g, t, k⟩ => ?_⟩
  refine ⟨ρ, M, F, _, l0, sl, g, t, fun v d M1 F1 H1 l1 g1 r1 p1 => ?_⟩
  obtain ⟨⟨a, rfl⟩, p1⟩ := p1
  cases r1
  refine ⟨⟨a, rfl⟩, ρ, M1, F1, _, l0.trans l1, sl.mono l1, g1, p1, fun w e M2 F2 H2 l2 g2 r2 p2 => ?_⟩
  unfold rmJoin at p2
  split at p2
  · rename_i a' ds ea es
    cases ea
    split at p2
    · rename_i ys ey
      obtain ⟨q, vs, rfl, hq, rs⟩ := asS_at g2 r2 es
      have ev := reps_ss rs ey
      subst ev
      exact ⟨a, q, ys, rfl, rfl, hq, p2.1, k _ _ M2 F2 _ (l1.trans l2) g2 (.str _) p2.2⟩
    · exact p2.elim
  · exact p2.elim

/-! str(..) -/
def rcStr : DCl := fun ds M Q => match ds with
  | [.int i] => i.natAbs.log2 < 1920 ∧ Q (.str (toString i)) M
  | [.str a] => Q (.str a) M
  | _ => False
theorem dc_str : DCallR X F0 (.type "str") rcStr := by
  intro pins s σ H xs us Q I r ⟨ds, M, F, P, l0, g, rs, t, kk⟩
  unfold rcStr at t
  split at t
  · cases rs with
    | cons rx rz =>
      cases rz
      cases rx
      exact call_str_int pins s σ H _ _ Q I r ⟨_, rfl, t.1, kk _ _ M F H (Le.refl F) g (.str _) t.2⟩
  · cases rs with
    | cons rx rz =>
      cases rz
      cases rx
      exact SkE.call_str_str pins s σ H _ _ Q I r ⟨_, rfl, kk _ _ M F H (Le.refl F) g (.str _) t⟩
  · exact t.elim

/-! text * n -/
def rdMulS : DR2 := fun x y M Q => match x, y with
  | .str a, .int n => MulOk a n ∧ Q (.str (Txt.mul a n)) M
  | _, _ => False
theorem do_mulS : DOp X F0 (binaryOp .Mult) rdMulS := by
  intro pins s σ H x y v u Q I rx ry ⟨dx, dy, M, F, P, l0, g, hx, hy, t, k⟩
  unfold rdMulS at t
  split at t
  · cases hx
    cases hy
    obtain ⟨tx, rfl⟩ := rx
    obtain ⟨ty, rfl⟩ := ry
    exact PySem.SB.mul t.1 fun t' kk => ⟨.str _, H, I.tok kk, ⟨t', rfl⟩, k _ _ M F H (Le.refl F) g (.str _) t.2⟩
  · exact t.elim

/-! for letter in text -/
def signsD (x : Str) : List D := x.cps.toList.map fun c => .str ⟨#[c]⟩
theorem walks_str {S : SE} {x : Str} {L : Store → Prop} : Walks S F0 (Its x) (signsD x) L := by
  intro i H F M l g h
  have hl : (signsD x).length = x.cps.size := by simp [signsD]
  rw [hl]
  refine ⟨fun hi => ⟨hi, fun v H' y => ?_⟩, fun e => Nat.le_of_eq e.symm⟩
  obtain ⟨rfl, c, hc, rfl⟩ := y
  refine ⟨F, .str ⟨#[c]⟩, Le.refl F, g, ?_, .str _⟩
  unfold signsD
  rw [List.getElem?_map, Array.getElem?_toList, hc]
  rfl
def dSigns (te : DTE) : DTI := fun ρ M R => te ρ M fun x M1 => match x with
  | .str z => R (signsD z) (fun _ => True) M1
  | _ => False
theorem di_str (he : DE X F0 e te) : DI X F0 tg e (dSigns te) := by
  refine ⟨⟨fun pins s σ H R I ⟨ρ, M, F, P, l0, sl, g, t, k⟩ => (pi_str he.pe).run pins s σ H R I ⟨ρ, M, F, _, l0, sl, g, t, fun v d M1 F1 H1 l1 g1 r1 p1 => ?_⟩⟩⟩
  split at p1
  · cases r1
    exact ⟨_, rfl, k _ _ _ M1 F1 H1 l1 g1 walks_str p1⟩
  · exact p1.elim
end

/-! ### str(x), x an instance with an own __str__ -/
section
variable {prog : Program} {w : World} {A : Around} {E : Value → Shared → Prop} {s : Shared}
theorem str_own {x C f : Addr} {ox : Obj} {od : Option Obj} {K : PySem.W.Frag} {Q : Value → Shared → Prop} (hu : A.units < cLine) (KX : K.In s.heap) (J : PySem.W.InstAt s.heap x ox C od) (hs : PySem.W.findIn K (.ref C) "__str__" = some (some (.ref f))) (hf : PySem.W.typeIn K (.ref f) = some (.type "function"))
    (h : wpAny (model prog w) A (call (.ref f) [.ref x]) (fun v s' => (∃ z t, v = .str z t) ∧ Q v s') E s) : wpAny (model prog w) A (Builtin.Str.strOf (.ref x)) Q E s := by
  unfold Builtin.Str.strOf
  have e : Builtin.Str.isExactStr (.ref x) = false := by rfl
  rw [e]
  simp only [Bool.false_eq_true, if_false]
  refine wpAny_bind (wpAny_cRoomFor hu ?_)
  refine wpAny_bind (m := callSpecial? (.ref x) (Str.ofString "__str__")) (PySem.W.special_fn KX J hs hf (wpAny_mono h (fun v s' hv => ?_) fun _ _ y => y))
  obtain ⟨⟨z, t, rfl⟩, q⟩ := hv
  refine wpAny_bind (wpAny_pure ?_)
  exact wpAny_pure q
theorem call_str_any {x : Addr} {Q : Value → Shared → Prop} (h : wpAny (model prog w) A.in1.in1 (Builtin.Str.strOf (.ref x)) (fun v s' => (∃ z t, v = .str z t) ∧ Q v s') E s) : wpAny (model prog w) A (call (.type "str") [.ref x]) Q E s := by
  refine callType_newIn (S := fun A R s => wpAny (model prog w) A.in1 (Builtin.Str.strOf (.ref x)) (fun v s' => R (.ok (.ret v)) s') (fun e s' => R (.error e) s') s) F.called_str (by decide) (F.typeCall_str_1 _) (F.newCall_str_1 _) (fun obj => F.args_object_init_2 obj _) F.entry_str_new ?_ ?_
  · refine MeetsIn.of_wp fun A R s h => ?_
    rw [str_new_tree (.ref x)]
    refine wpAny_bind (wpAny_pure ?_)
    refine wpAny_bind (wpAny_of_eq isSubtype_str_str ?_)
    exact wpAny_bind (wpAny_mono h (fun r s' h' => wpAny_pure ⟨_, rfl, h'⟩) fun _ _ e => e)
  · refine wpAny_mono h (fun v s' hv => ?_) fun e s' he => he
    obtain ⟨⟨z, t, rfl⟩, q⟩ := hv
    exact ⟨typeIs_str _ _ _, q⟩
end
section
variable {X : Cx} {F0 : Hp} {k j : Nat} {c : Str} {sp : DSp}
def rcStrO (c : Str) (sp : DSp) : DCl := fun ds M Q => match ds with
  | [x] => (asO M c x).isSome = true ∧ sp [x] M (fun v M' => (∃ z, v = .str z) ∧ Q v M') noX
  | _ => False
theorem dc_strO (h : Spc X.prog X.w X.K X.mg X.base k c "__str__" sp) (hr : Rm j X.A) (hk : k + 2 ≤ j) : DCallR X F0 (.type "str") (rcStrO c sp) := by
  intro pins s σ H xs us Q I r ⟨ds, M, F, P, l0, g, rs, t, kk⟩
  cases rs with
  | nil => exact t.elim
  | cons rx rz =>
    cases rz with
    | cons _ _ => exact t.elim
    | nil =>
      obtain ⟨u, rfl, ru⟩ := r.one
      have r2 : Rm k X.A.in1.in1 := ((hr.mono hk).in1).in1
      obtain ⟨C, f, fd, ps, o⟩ := h.at
      obtain ⟨a, ob, od, rfl, J⟩ := own_inst I g rx o.hc t.1
      cases ru
      refine call_str_any (str_own (by have := r2.room.un; omega) I.kIn J o.hs (beq_iff_eq.mp o.hf) (wpAny_mono (runGA (Q := fun v H' => (∃ z, v = .str z) ∧ Q v H') o.FG r2 rfl o.hb I (vs := [.ref a]) (us := [.ref a]) (.cons rfl .nil) ?_) (fun v s' hv => ?_) fun _ _ e => e))
      · refine ⟨_, M, F, _, _, .cons rx .nil, g, t.2, fun v d M' F' H' l g' rv p => ?_, fun _ _ _ _ _ _ _ _ _ _ z => z.elim⟩
        obtain ⟨⟨z, rfl⟩, p⟩ := p
        cases rv
        exact ⟨⟨z, rfl⟩, kk _ _ M' F' H' l g' (.str z) p⟩
      · obtain ⟨z, H', I', rz, ⟨y, rfl⟩, q⟩ := hv
        obtain ⟨ty, rfl⟩ := id rz
        exact ⟨⟨y, ty, rfl⟩, ⟨y, ty, rfl⟩, .str y, H', I', rz, q⟩
end
end DL


set_option Elab.async false
set_option linter.all false
set_option maxRecDepth 100000
set_option maxHeartbeats 1600000
namespace DL
open PySem PySem.Spec PyProof.Rows L2

/-! ### a classmethod called by its class's name; a class held by a local name -/
structure CMt (P : Program) (w : World) (K : PySem.W.Frag) (mg : Str → Option Value) (base : Heap) (k : Nat) (c m : Str) (sp : DSp) : Prop where
  ex : ∃ C mc p f fd ps, ClsAt ⟨K, mg⟩ c C ∧ ClX.CRead K C mc ∧ ClX.CMet K C mc m p f ∧ FnG P w K mg base k f fd ps sp ∧ Binds K fd ps []
def dCMeth (c : Str) (sp : DSp) (W : DWX) (ta : DTA) : DTE := fun ρ M Q => ta ρ M fun ds M1 => sp (.cls c :: ds) M1 Q fun c fs M2 => W c fs ρ M2
section
variable {X : Cx} {F0 : Hp} {W : DWX} {k j i : Nat} {x m c : Str} {sp : DSp} {dfl : List D} {p pos apos : Pos} {e : Expr} {es : List Expr} {ta : DTA}
theorem de_cmeth {pl : Sem Bool} (h : CMt X.prog X.w X.K X.mg X.base k c m sp) (hr : Rm j X.A) (hk : k ≤ j) (tk : Takes X (lowW (Cx.se X) F0 W)) (ha : DA X F0 (e :: es) ta) (hg : Gl X c := by rfl) (hdb : (c == ("__debug__" : Str)) = false := by decide)
    (hst : starEach (e :: es) X.env = (false, eval e X.env) :: starEach es X.env := by rfl) (hpl : (backTo pos (starEach es X.env)).any (·.1) = false := by rfl)
    (ht : eval (.Call (.Attribute (.Name c p) m apos) (e :: es) [] pos) X.env = (do
      let ov ← eval (.Name c p) X.env
      standAt apos.atName
      let (f, first) ← holding [ov] (getMethod ov m pl)
      callWith pos f first (backTo pos (starEach (e :: es) X.env)) (backToKw pos (keywordEach [] X.env))) := by rfl) : DE X F0 (.Call (.Attribute (.Name c p) m apos) (e :: es) [] pos) (dCMeth c sp W ta) := by
  obtain ⟨C, mc, q, f, fd, ps, hc, hR, hM, F, hb⟩ := h.ex
  refine ⟨⟨fun pins s σ H Q I ⟨ρ, M, F1, P, l0, sl, g, t, k⟩ => ?_⟩⟩
  refine PySem.W.methodCall_KW (pl := pl) (ld_glob I hg hc.mg ?_ hdb) ht
  refine ClX.getmethcm_ok I hR hM fun s2 I2 => ?_
  refine ClX.callwith_cm I2 (ClX.base_none I (Nat.le_refl _)) hM.fi (thn (ha.pa.run pos _ s2 σ H (fun vs H1 => lowSp (Cx.se X) sp (.ref C :: vs) H1 Q (wE (Cx.se X) F0 W σ)) I2
    ⟨ρ, M, F1, _, l0, sl, g, t, fun vs ds M2 F2 H2 l2 g2 r2 p2 => low_sp (l0.trans l2) (sl.mono l2) g2 (.cons (.cls hc) r2) p2 fun v d M' F' H' l3 => k v d M' F' H' (l2.trans l3)⟩) fun us s3 ⟨vs, H2, I3, rv, q2⟩ => ⟨⟨ClX.pin_at I3, I3.kIn⟩, ?_⟩) hst hpl
  have hl : (Value.ref C :: us).length = ps.length := by
    obtain ⟨zs, M9, F9, P9, PE9, h1, h2, h3, _⟩ := id q2
    have e1 : (V.ref C :: vs).length = (Value.ref C :: us).length := (show Vals (V.ref C :: vs) (Value.ref C :: us) from .cons rfl rv).length
    rw [← e1, h1.len]
    exact F.len _ _ _ _ h3
  have z : wpAny (model X.prog X.w) X.A (call (.ref s.heap.objs.size) us) (EP X ((s.heap.objs.size, PySem.W.methodObj (.ref f) (.ref C)) :: pins) σ Q) X.xe s3 := by
    refine wpAny_call (PySem.W.method_call (ClX.pin_at I3) (codeAny_mono (F.run X.A X.stack s3 H2 ⟨.ref C :: us, []⟩ (.ref C :: us) (.ref C :: vs) Q _ (hr.mono hk) I3.env0 (by simpa using hb s3 (.ref C :: us) I3.kIn (by simpa using hl)) (.cons rfl rv) q2) fun r s' hq => ?_))
    cases r with
    | error e => exact (passAt tk σ) _ H2 s3 e s' I3 hq
    | ok fl =>
      cases fl with
      | ret u => exact I3.after hq
      | next => exact hq.elim
      | brk => exact hq.elim
      | cont => exact hq.elim
  exact thn z fun _ _ y => ClX.unpinE y
/-- x(..), x a local name that holds the class c -/
def dMakeV (i : Nat) (c : Str) (sp : DSp) (W : DWX) (dfl : List D) (ta : DTA) : DTE := fun ρ M Q => ρ[i]? = some (some (.cls c)) ∧ dMakeM c sp W dfl ta ρ M Q
theorem de_makeV (h : Mak X.prog X.w X.K X.mg X.base k c sp dfl) (hr : Rm j X.A) (hk : k + 1 ≤ j) (tk : Takes X (lowW (Cx.se X) F0 W)) (ha : DA X F0 (e :: es) ta) (hN : X.N[i]? = some x) (hv : Vis X.env.scope x)
    (hdb : (x == ("__debug__" : Str)) = false := by decide) (hcd : (x == ("__classdict__" : Str)) = false := by decide)
    (he : starEach (e :: es) X.env = (false, eval e X.env) :: starEach es X.env := by rfl) (hpl : (backTo pos (starEach es X.env)).any (·.1) = false := by rfl) : DE X F0 (.Call (.Name x p) (e :: es) [] pos) (dMakeV i c sp W dfl ta) := by
  obtain ⟨C, f, fd, ps, ds, dvs, hc, hM, F, hb, hd, hR⟩ := h.ex
  refine ⟨⟨fun pins s σ H Q I ⟨ρ, M, F1, P, l0, sl, g, ⟨hs, t⟩, k⟩ => ?_⟩⟩
  obtain ⟨v, hσ, rv⟩ := sl.get hs
  have ev : v = .ref C := by
    cases rv with
    | cls h =>
      have := h.mg.symm.trans hc.mg
      cases this
      rfl
  subst ev
  refine wpAny_Call_Name_kw (thn ((pe_var (pos := p) hN hv hdb hcd).run pins s σ H (fun v H1 => v = .ref C ∧ H1 = H) I ⟨.ref C, hσ, rfl, rfl⟩) fun u s0 ⟨v, H0, I0, r0, q0⟩ => ?_)
  obtain ⟨rfl, rfl⟩ := q0
  cases r0
  refine PySem.W.callWith_K (h₀ := X.base) I0.ok.mod.kin hM.kp (thn (ha.pa.run pos pins s0 σ _ (fun vs H1 => ∀ x dx, H1 x = none → H1 dx = none → dx ≠ x → lowSp (Cx.se X) sp (.ref x :: (vs ++ dvs)) (upd (upd H1 dx (.own x)) x (.ins C dx [])) (fun v H2 => v = .non ∧ Q (.ref x) H2) (wE (Cx.se X) F0 W σ)) I0
    ⟨ρ, M, F1, _, l0, sl, g, t, fun vs es M2 F2 H2 l2 g2 r2 p2 => low_make (l0.trans l2) (sl.mono l2) g2 (r2.append (hR F2)) hc p2 fun v d M' F' H' l3 => k v d M' F' H' (l2.trans l3)⟩) fun us s1 ⟨vs, H1, I1, r, q⟩ => ⟨I1.kIn, ?_⟩) he hpl
  exact run_makeG (c := c) hM F (hr.mono hk) hb hd (passAt tk σ) I1 r q
end

/-! ### the head with classmethods -/
def cmF (c m : Str) : PySem.W.Frag → Addr := fun K => He5.wf K (He.ga K c) "classmethod" m
def cmB (K : PySem.W.Frag) (c m : Str) : Bool := PySem.W.readsIn K (He.ga K c) (.type "type") && (He5.wrapB K (He.ga K c) "classmethod" "classmethod.__get__" m && (PySem.W.fnIn K (cmF c m K) && decide (PySem.W.specialIn K (.ref (He.ga K c)) "__getattribute__" = some (some (.builtin "type.__getattribute__")))))
abbrev AlZ : Type := He.AlD × (Bool × List He.FnW)
def obsZK (fn : List He.DefD) (cms : List He5.DefA) (ex : PySem.W.Frag → Bool) (K : PySem.W.Frag) : AlZ := (He.obsD [] fn K, (ex K && cms.all fun d => d.ok K, cms.map fun d => He5.fnA K (d.at_ K)))
def valZ (fn : List He.DefD) (cms : List He5.DefA) : AlZ := (He.valD fn, (true, cms.map He5.DefA.val))
def obsZ (n : Nat) (fn : List He.DefD) (cms : List He5.DefA) (ex : PySem.W.Frag → Bool) (g : Addr → Option Obj) : AlZ := obsZK fn cms ex (He.frT g (He5.asA g n))
def SaysZ (fn : List He.DefD) (cms : List He5.DefA) (ex : PySem.W.Frag → Bool) (K : PySem.W.Frag) : Prop := obsZK fn cms ex K = valZ fn cms
def hookZ (n : Nat) (fn : List He.DefD) (cms : List He5.DefA) (ex : PySem.W.Frag → Bool) : PySem.W.Hook where
  α := AlZ
  obs := fun s => obsZ n fn cms ex s.heap.get?
  val := fun _ => valZ fn cms
  says := fun _ h => ∃ K : PySem.W.Frag, K.In h ∧ SaysZ fn cms ex K
  of := fun _ _ e => ⟨_, He.frT_in, e⟩
  keeps := fun _ _ _ ⟨K, hK, c⟩ k => ⟨K, PySem.W.Frag.In.keeps hK k, c⟩
theorem obsZ_eq {n : Nat} {fn : List He.DefD} {cms : List He5.DefA} {ex : PySem.W.Frag → Bool} {g : Addr → Option Obj} {s : Shared} (h : ∀ a, g a = s.heap.get? a) : obsZ n fn cms ex g = (hookZ n fn cms ex).obs s := by
  have e : g = s.heap.get? := funext h
  rw [e] <;> rfl
section
variable {fn : List He.DefD} {cms : List He5.DefA} {xb : PySem.W.Frag → Bool} {K : PySem.W.Frag}
theorem SaysZ.d (c : SaysZ fn cms xb K) : He.SaysD [] fn K := congrArg (fun z : AlZ => z.1) c
theorem SaysZ.ex (c : SaysZ fn cms xb K) : xb K = true := (He.ba (show (xb K && cms.all fun d => d.ok K) = true from congrArg (fun z : AlZ => z.2.1) c)).1
/-- the classmethods' defs -/
structure SaysC (cms : List He5.DefA) (K : PySem.W.Frag) : Prop where
  ok : (cms.all fun d => d.ok K) = true
  eq : (cms.map fun d => He5.fnA K (d.at_ K)) = cms.map He5.DefA.val
theorem SaysZ.c (c : SaysZ fn cms xb K) : SaysC cms K := ⟨(He.ba (show (xb K && cms.all fun d => d.ok K) = true from congrArg (fun z : AlZ => z.2.1) c)).2, congrArg (fun z : AlZ => z.2.2) c⟩
theorem SaysC.def_ (c : SaysC cms K) {d : He5.DefA} (h : d ∈ cms) : ∃ fd, FunD K d.name d.qual d.params d.body d.scope (d.dvs K) (d.kws K) (d.at_ K) fd := by
  obtain ⟨i, hi, e⟩ := List.mem_iff_getElem.mp h
  have h' : cms[i]? = some d := by rw [List.getElem?_eq_getElem hi, e]
  have e2 : (cms.map fun d => He5.fnA K (d.at_ K))[i]? = (cms.map He5.DefA.val)[i]? := by rw [c.eq]
  rw [List.getElem?_map, List.getElem?_map, h'] at e2
  exact He5.DefA.funD (Option.some.inj e2) (List.all_eq_true.mp c.ok d h)
end
section
variable {P : Program} {w : World} {K : PySem.W.Frag} {mg : Str → Option Value} {base : Heap} {fs : List Fc} {fn : List He.DefD} {cms : List He5.DefA} {k : Nat} {sp : DSp}
structure FnA (P : Program) (w : World) (K : PySem.W.Frag) (mg : Str → Option Value) (base : Heap) (k : Nat) (d : He5.DefA) (ps : List Str) (sp : DSp) : Prop where
  ex : ∃ fd, FunD K d.name d.qual d.params d.body d.scope (d.dvs K) (d.kws K) (d.at_ K) fd ∧ FnG P w K mg base k (d.at_ K) fd ps sp
def WalkA (P : Program) (w : World) (K : PySem.W.Frag) (mg : Str → Option Value) (base : Heap) (k : Nat) (d : He5.DefA) (N : List Str) (t : DWX → DTS) : Prop :=
  ∀ (cdv : Value) (A : Around) (outer : List Env) (s : Shared) (H : Hp) (E : XK) (F0 : Hp) (W : DWX), Rm k (A.deeper (envOfC d.qual d.scope s.heap.objs.size (d.at_ K) cdv)) →
    Takes (cxOf (L2.CX P w) P w K mg base N d.qual d.scope (d.at_ K) cdv A outer s H E) (lowW ⟨K, mg⟩ F0 W) →
    DSs (cxOf (L2.CX P w) P w K mg base N d.qual d.scope (d.at_ K) cdv A outer s H E) F0 d.body (t W)
theorem fna_mk {d : He5.DefA} {N ps : List Str} {t : DWX → DTS} (hC : SaysC cms K) (hd : d ∈ cms) (Sc : FnScope N ps d.scope) (wk : WalkA P w K mg base k d N t) (len : ∀ ds M P E, sp ds M P E → ds.length = ps.length)
    (q : ∀ ds M P PE, sp ds M P PE → t (finW PE) { nx := fun _ M' => finP P .non M', rt := finP P } (startR N ds) M) : FnA P w K mg base (k + 1) d ps sp := by
  obtain ⟨fd, F⟩ := hC.def_ hd
  refine ⟨fd, F, ?_⟩
  obtain ⟨oc, od, dV, kV, doc, pm, an, cdv, ct, osl, rfl, lk, hcd, _, _⟩ := F.ex
  exact fnG_of lk hcd Sc len t (fun A outer s H E F0 W hr tk => wk cdv A outer s H E F0 W hr tk) q
abbrev AllA (d : He5.DefA) (ps : List Str) : Prop := ∀ (kV doc pm : Value) (an : Option Addr) (cdv ct : Value) (us : List Value), us.length = ps.length → bindArgs (PySem.W.fnOf d.name d.qual d.params d.body d.scope .none kV doc pm an cdv ct) ⟨us, []⟩ = pure (ps.zip us)
theorem cmt_mk {d : He5.DefA} {ps : List Str} {c mt : Str} (m : Md fs fn K mg) (F : FnA P w K mg base k d ps sp) (hx : d.at_ = cmF c mt) (hc : Fc.cls c ∈ fs) (hm : cmB K c mt = true) (hd : d.dfl = []) (hb : AllA d ps) : CMt P w K mg base k c mt sp := by
  obtain ⟨fd, FD, FG⟩ := F.ex
  have e : d.dvs K = [] := by unfold He5.DefA.dvs; rw [hd]; rfl
  rw [e] at FD
  obtain ⟨h1, h2⟩ := He.ba hm
  obtain ⟨h2, h3⟩ := He.ba h2
  obtain ⟨h3, h4⟩ := He.ba h3
  refine ⟨⟨_, .type "type", _, _, fd, ps, m.cls c hc, ⟨h1, of_decide_eq_true h4⟩, He5.cmet_of h2 h3, ?_, FD.bindsN hb⟩⟩
  have ea : d.at_ K = cmF c mt K := by rw [hx]
  have FG' := FG
  rw [ea] at FG'
  exact FG'
end
end DL


set_option Elab.async false
set_option linter.all false
set_option maxRecDepth 100000
set_option maxHeartbeats 1000000
namespace DL
open PySem PySem.Spec PyProof.Rows L2

/-! ### loops -/
theorem dLoop_ind {L : Store → Prop} {g : DTG} {tb : DTS} {E : DEnds} (Inv : List D → Ro → Store → Prop)
    (step : ∀ d r ρ M K, (∀ ρ M, Inv r ρ M → K ρ M) → Inv (d :: r) ρ M → L M ∧ g d ρ M fun ρ1 M1 => tb { E with nx := K, ct := K, bk := E.nx } ρ1 M1)
    (fin : ∀ ρ M, Inv [] ρ M → L M ∧ E.nx ρ M) : ∀ ds ρ M, Inv ds ρ M → dLoop L g tb ds E ρ M
  | [], ρ, M, h => fin ρ M h
  | d :: r, ρ, M, h => step d r ρ M _ (fun ρ M h => dLoop_ind Inv step fin r ρ M h) h
theorem dLc_ind {L : Store → Prop} {g : DTG} {tt : DTT} {te : DTE} {p : Addr} {ρ : Ro} (Inv : List D → List D → Store → Prop) {Q : List D → Store → Prop}
    (step : ∀ d r acc M (K : List D → Store → Prop), (∀ acc M, Inv r acc M → K acc M) → Inv (d :: r) acc M → L (updM M p (.lst acc)) ∧ g d ρ (updM M p (.lst acc)) fun ρ2 M2 => tt ρ2 M2 fun b M3 =>
      if b = true then te ρ2 M3 fun y M4 => ∃ M5, M4 = updM M5 p (.lst acc) ∧ M5 p = none ∧ acc.length < sizeLine ∧ K (acc ++ [y]) M5
      else ∃ M5, M3 = updM M5 p (.lst acc) ∧ M5 p = none ∧ K acc M5)
    (fin : ∀ acc M, Inv [] acc M → L (updM M p (.lst acc)) ∧ Q acc M) : ∀ ds acc M, Inv ds acc M → dLcLoop L g tt te p ρ ds acc M Q
  | [], acc, M, h => fin acc M h
  | d :: r, acc, M, h => step d r acc M (fun acc M => dLcLoop L g tt te p ρ r acc M Q) (fun acc M h => dLc_ind Inv step fin r acc M h) h
/-- a comprehension whose test is none and whose item is one value, with nothing changed -/
theorem dLc_map {L : Store → Prop} {g : DTG} {te : DTE} {p : Addr} {ρ : Ro} {f : D → D} {M : Store} {Q : List D → Store → Prop} (hp : M p = none)
    (ds : List D) (hL : ∀ acc, L (updM M p (.lst acc))) (h : ∀ d ∈ ds, ∀ acc Q, Q (f d) (updM M p (.lst acc)) → g d ρ (updM M p (.lst acc)) fun ρ2 M2 => te ρ2 M2 Q) (hl : ds.length ≤ sizeLine) (q : Q (ds.map f) M) :
    dLcLoop L g dYes te p ρ ds [] M Q := by
  have key : ∀ (ds acc : List D), (∀ d ∈ ds, ∀ acc Q, Q (f d) (updM M p (.lst acc)) → g d ρ (updM M p (.lst acc)) fun ρ2 M2 => te ρ2 M2 Q) → acc.length + ds.length ≤ sizeLine → Q (acc ++ ds.map f) M → dLcLoop L g dYes te p ρ ds acc M Q := by
    intro ds
    induction ds with
    | nil =>
      intro acc _ _ q
      refine ⟨hL acc, ?_⟩
      simpa using q
    | cons d ds ih =>
      intro acc h hl q
      refine ⟨hL acc, ?_⟩
      simp only [dYes, if_true]
      refine h d List.mem_cons_self acc _ ⟨M, rfl, hp, ?_, ih (acc ++ [f d]) (fun d hd => h d (List.mem_cons_of_mem _ hd)) ?_ ?_⟩
      · rw [List.length_cons] at hl; omega
      · rw [List.length_append, List.length_singleton]
        rw [List.length_cons] at hl
        omega
      · rw [List.append_assoc]
        simpa using q
  exact key ds [] h (by simpa using hl) (by simpa using q)

/-! ### pairs of whole numbers -/
abbrev PrL : Type := List (Int × Int)
def rngD (x : Int × Int) : D := .tup [.int x.1, .int x.2]
def encP (x : Int × Int) : PyData := .tuple [.int x.1, .int x.2]
theorem toP_pair (x : Int × Int) : toP (rngD x) = some (encP x) := by
  simp [rngD, encP, toP, toPs]
theorem toPs_pairs : ∀ L : PrL, toPs (L.map rngD) = some (L.map encP)
  | [] => by simp [toPs]
  | x :: L => by
    rw [List.map_cons, List.map_cons, toPs, toP_pair, toPs_pairs L]
theorem encD_pair (x : Int × Int) : encD (rngD x) = encP x := by unfold encD; rw [toP_pair]; rfl
theorem lay_pairs : ∀ L : PrL, PyData.canLayAll0 (L.map encP) = true
  | [] => by simp [PyData.canLayAll0]
  | x :: L => by
    rw [List.map_cons, PyData.canLayAll0, lay_pairs L]
    simp [encP, PyData.canLay0, PyData.canLayAll0]
theorem depth_pairs : ∀ L : PrL, PyData.depthAll (L.map encP) ≤ 1
  | [] => by simp [PyData.depthAll]
  | x :: L => by
    rw [List.map_cons, PyData.depthAll]
    have := depth_pairs L
    have e : PyData.depth (encP x) = 1 := by simp [encP, PyData.depth, PyData.depthAll]
    omega
theorem okP_list (L : PrL) : okP (.list (L.map encP)) := by
  unfold okP SeqAt.shaped
  rw [PyData.canLay0, lay_pairs, PyData.depth]
  have := depth_pairs L
  simp
  omega
theorem okP_tuple (L : PrL) : okP (.tuple (L.map encP)) := by
  unfold okP SeqAt.shaped
  rw [PyData.canLay0, lay_pairs, PyData.depth]
  have := depth_pairs L
  simp
  omega
theorem eqv_pair (x y : Int × Int) : PyData.eqv (encP x) (encP y) = decide (x = y) := by
  obtain ⟨a, b⟩ := x
  obtain ⟨c, d⟩ := y
  simp only [encP, PyData.eqv, PyData.eqvAll, Bool.and_true]
  rw [Bool.eq_iff_iff]
  simp
theorem eqv_pairs : ∀ L L' : PrL, PyData.eqvAll (L.map encP) (L'.map encP) = decide (L = L')
  | [], [] => by simp [PyData.eqvAll]
  | [], _ :: _ => by simp [PyData.eqvAll]
  | _ :: _, [] => by simp [PyData.eqvAll]
  | x :: L, y :: L' => by
    rw [List.map_cons, List.map_cons, PyData.eqvAll, eqv_pair, eqv_pairs L L']
    rw [Bool.eq_iff_iff]
    simp
/-- comparing lists of pairs -/
def leP (x y : Int × Int) : Bool := decide (x.1 < y.1 ∨ (x.1 = y.1 ∧ x.2 ≤ y.2))
def sortP (L : PrL) : PrL := L.mergeSort leP
theorem sorted_pairs (L : PrL) : (L.map rngD).mergeSort (PySem.W.dataLe false encD) = (sortP L).map rngD := by
  symm
  apply List.map_mergeSort
  intro a _ b _
  have e := congrFun (congrFun (PySem.W.dataLe_ii (β := Int × Int) (fun z => z.1) (fun z => z.2)) a) b
  have e2 : PySem.W.dataLe false encD (rngD a) (rngD b) = PySem.W.dataLe false (fun z : Int × Int => PyData.tuple [.int z.1, .int z.2]) a b := by
    rw [PySem.W.dataLe_eq, PySem.W.dataLe_eq]
    show (!PySem.W.dataLt (encD (rngD b)) (encD (rngD a))) = _
    rw [encD_pair, encD_pair]
    rfl
  rw [e2, e]
  rfl
theorem alike_pairs (L : PrL) : PySem.W.AllAlike (L.map encP) ∧ PySem.W.Sortable (L.map encP) ∧ ∀ e ∈ L.map encP, e.depth ≤ 32 := by
  refine ⟨PySem.W.AllAlike.of fun b b' => ?_, PySem.W.Sortable.tuples fun b => ⟨_, _, rfl⟩, fun e he => ?_⟩
  · simp [encP, PySem.W.alike, PySem.W.alikeAll]
  · obtain ⟨x, _, rfl⟩ := List.mem_map.mp he
    simp [encP, PyData.depth, PyData.depthAll]
theorem rcSorted_pairs {M : Store} {d : D} {L : PrL} {Q : D → Store → Prop} (h : asR M d = some (L.map rngD)) (q : Q (.lst ((sortP L).map rngD)) M) : rcSorted [d] M Q := by
  unfold rcSorted
  simp only [h]
  obtain ⟨h1, h2, h3⟩ := alike_pairs L
  refine ⟨⟨_, toPs_pairs L, h1, h2, h3⟩, ?_⟩
  rw [sorted_pairs]
  exact q
theorem sortP_perm (L : PrL) : (sortP L).Perm L := List.mergeSort_perm L leP
theorem leP_trans (a b c : Int × Int) (h1 : leP a b = true) (h2 : leP b c = true) : leP a c = true := by
  simp only [leP, decide_eq_true_eq] at *
  omega
theorem leP_total (a b : Int × Int) : (leP a b || leP b a) = true := by
  simp only [leP, Bool.or_eq_true, decide_eq_true_eq]
  omega
theorem sortP_sorted (L : PrL) : (sortP L).Pairwise fun a b => leP a b = true := List.pairwise_mergeSort leP_trans leP_total L
/-- repr of a tuple of pairs -/
theorem weight_int {i : Int} (h : i.natAbs < 10 ^ 12) : PyData.weight (.int i) ≤ 41 := by
  simp only [PyData.weight]
  split
  · omega
  · rename_i h0
    have hne : i.natAbs ≠ 0 := by
      intro z
      apply h0
      have : i = 0 := by omega
      simp [this]
    have : i.natAbs.log2 < 40 := (Nat.log2_lt hne).mpr (Nat.lt_of_lt_of_le h (by decide))
    omega
theorem pairs_show : ∀ L : PrL, (∀ x ∈ L, x.1.natAbs < 10 ^ 12 ∧ x.2.natAbs < 10 ^ 12) → PyData.showableAll (L.map encP) = true ∧ PyData.hasDictAll (L.map encP) = false ∧ PyData.intsShortAll 13 (L.map encP) = true ∧ PyData.weightAll (L.map encP) ≤ 100 * L.length
  | [], _ => by simp [PyData.showableAll, PyData.hasDictAll, PyData.intsShortAll, PyData.weightAll]
  | x :: L, h => by
    obtain ⟨h1, h2, h3, h4⟩ := pairs_show L fun y hy => h y (List.mem_cons_of_mem _ hy)
    obtain ⟨b1, b2⟩ := h x List.mem_cons_self
    have w1 := weight_int b1
    have w2 := weight_int b2
    have sh : ∀ i : Int, i.natAbs < 10 ^ 12 → PyData.showable (.int i) = true := fun i hi => by
      simp only [PyData.showable, decide_eq_true_eq]
      by_cases hz : i.natAbs = 0
      · rw [hz]; decide
      · have : i.natAbs.log2 < 40 := (Nat.log2_lt hz).mpr (Nat.lt_of_lt_of_le hi (by decide))
        omega
    rw [List.map_cons]
    refine ⟨?_, ?_, ?_, ?_⟩
    · rw [PyData.showableAll, h1]
      simp only [encP, PyData.showable, PyData.showableAll, Bool.and_true]
      have a := sh _ b1
      have b := sh _ b2
      simp only [PyData.showable] at a b
      rw [a, b]; rfl
    · rw [PyData.hasDictAll, h2]
      simp [encP, PyData.hasDict, PyData.hasDictAll]
    · rw [PyData.intsShortAll, h3]
      have := PyData.intsShortAll_ints [x.1, x.2] (fun n hn => by
        simp only [List.mem_cons, List.not_mem_nil, or_false] at hn
        rcases hn with rfl | rfl
        · exact b1
        · exact b2)
      simp only [encP, PyData.intsShort, Bool.and_true]
      exact this
    · rw [PyData.weightAll, List.length_cons]
      simp only [encP]
      have e : PyData.weight (.tuple [.int x.1, .int x.2]) = PyData.weight (.int x.1) + 1 + (PyData.weight (.int x.2) + 1 + 0) := by
        rw [PyData.weight, PyData.weightAll, PyData.weightAll, PyData.weightAll]
      rw [e]
      omega
def textP (L : PrL) : Str := (PyData.tuple (L.map encP)).shown
theorem rcRepr_pairs {L : PrL} {M : Store} {Q : D → Store → Prop} (hl : L.length ≤ 10000) (hb : ∀ x ∈ L, x.1.natAbs < 10 ^ 12 ∧ x.2.natAbs < 10 ^ 12) (q : Q (.str (textP L)) M) : rcRepr [.tup (L.map rngD)] M Q := by
  obtain ⟨h1, h2, h3, h4⟩ := pairs_show L hb
  unfold rcRepr
  have e : toPM M (.tup (L.map rngD)) = some (.tuple (L.map encP)) := by
    show (toP (.tup (L.map rngD))) = _
    rw [toP, toPs_pairs]
    rfl
  simp only [e]
  have dp := depth_pairs L
  refine ⟨trivial, by rw [PyData.showable]; exact h1, by rw [PyData.hasDict]; exact h2, ?_, by rw [PyData.depth]; omega, q⟩
  have lay : PyData.layable0 (.tuple (L.map encP)) = true := by
    unfold PyData.layable0
    rw [PyData.canLay0, lay_pairs, PyData.depth, PyData.weight]
    simp only [Bool.true_and, Bool.and_eq_true, decide_eq_true_eq]
    have e : (2 : Nat) ^ 20 = 1048576 := by decide
    omega
  have := shown_le13 lay (by rw [PyData.intsShort]; exact h3)
  rw [sizeLine_eq]
  omega

/-! ### lists by their last -/
theorem ixN_last (n : Nat) : ixN (n + 1) (-1) = some n := by
  unfold ixN
  rw [if_neg (by omega), if_pos (by omega)]
  congr 1
  omega
theorem set_last {α : Type} (l : List α) (y z : α) : (l ++ [y]).set l.length z = l ++ [z] := by
  induction l with
  | nil => rfl
  | cons a l ih => simp [ih]
theorem last_cases {α : Type} (l : List α) : l = [] ∨ ∃ i y, l = i ++ [y] := by
  rcases List.eq_nil_or_concat l with h | ⟨i, y, h⟩
  · exact .inl h
  · exact .inr ⟨i, y, by rw [h, List.concat_eq_append]⟩

/-! ### ranges joined -/
def joinS (acc : PrL) (x : Int × Int) : PrL := match acc.getLast? with
  | some y => if x.1 ≤ y.2 + 1 then acc.dropLast ++ [(y.1, max y.2 x.2)] else acc ++ [x]
  | none => acc ++ [x]
theorem joinS_nil (x : Int × Int) : joinS [] x = [x] := rfl
theorem joinS_in {i : PrL} {y x : Int × Int} (h : x.1 ≤ y.2 + 1) : joinS (i ++ [y]) x = i ++ [(y.1, max y.2 x.2)] := by
  unfold joinS
  simp [h]
theorem joinS_out {i : PrL} {y x : Int × Int} (h : ¬ x.1 ≤ y.2 + 1) : joinS (i ++ [y]) x = i ++ [y] ++ [x] := by
  unfold joinS
  simp [h]
def norm (L : PrL) : PrL := (sortP L).foldl joinS []
def inRng (L : PrL) (t : Int) : Prop := ∃ x ∈ L, x.1 ≤ t ∧ t ≤ x.2
theorem inRng_nil (t : Int) : inRng [] t ↔ False := by simp [inRng]
theorem inRng_cons (x : Int × Int) (L : PrL) (t : Int) : inRng (x :: L) t ↔ (x.1 ≤ t ∧ t ≤ x.2) ∨ inRng L t := by simp [inRng]
theorem inRng_append (L L' : PrL) (t : Int) : inRng (L ++ L') t ↔ inRng L t ∨ inRng L' t := by
  simp only [inRng, List.mem_append]
  constructor
  · rintro ⟨x, h1 | h1, h2⟩
    · exact .inl ⟨x, h1, h2⟩
    · exact .inr ⟨x, h1, h2⟩
  · rintro (⟨x, h1, h2⟩ | ⟨x, h1, h2⟩)
    · exact ⟨x, .inl h1, h2⟩
    · exact ⟨x, .inr h1, h2⟩
theorem inRng_perm {L L' : PrL} (h : L.Perm L') (t : Int) : inRng L t ↔ inRng L' t := by
  simp only [inRng, h.mem_iff]
/-- as few ranges as possible, ascending -/
structure Canon (L : PrL) : Prop where
  gap : L.Pairwise fun x y => x.2 + 1 < y.1
  ok : ∀ x ∈ L, x.1 ≤ x.2
theorem canon_uniq : ∀ {L L' : PrL}, Canon L → Canon L' → (∀ t, inRng L t ↔ inRng L' t) → L = L'
  | [], [], _, _, _ => rfl
  | [], y :: L', _, c', h => by
    have := (h y.1).mpr ⟨y, List.mem_cons_self, Int.le_refl _, c'.ok y List.mem_cons_self⟩
    exact ((inRng_nil _).mp this).elim
  | x :: L, [], c, _, h => by
    have := (h x.1).mp ⟨x, List.mem_cons_self, Int.le_refl _, c.ok x List.mem_cons_self⟩
    exact ((inRng_nil _).mp this).elim
  | x :: L, y :: L', c, c', h => by
    have gx := (List.pairwise_cons.mp c.gap).1
    have gy := (List.pairwise_cons.mp c'.gap).1
    have ox := c.ok x List.mem_cons_self
    have oy := c'.ok y List.mem_cons_self
    have low : ∀ {z : Int × Int} {Z : PrL}, Canon (z :: Z) → ∀ t, inRng (z :: Z) t → z.1 ≤ t := fun {z Z} cz t ⟨w, hw, h1, h2⟩ => by
      rcases List.mem_cons.mp hw with e | hw
      · rw [← e]; exact h1
      · have := (List.pairwise_cons.mp cz.gap).1 w hw
        have := cz.ok z List.mem_cons_self
        omega
    have e1 : x.1 = y.1 := by
      have a := low c' x.1 ((h x.1).mp ⟨x, List.mem_cons_self, Int.le_refl _, ox⟩)
      have b := low c y.1 ((h y.1).mpr ⟨y, List.mem_cons_self, Int.le_refl _, oy⟩)
      omega
    have top : ∀ {z w : Int × Int} {Z W : PrL}, Canon (z :: Z) → Canon (w :: W) → z.1 = w.1 → (∀ t, inRng (w :: W) t → inRng (z :: Z) t) → w.2 ≤ z.2 := fun {z w Z W} cz cw e hh => by
      apply Decidable.byContradiction
      intro hn
      have oz := cz.ok z List.mem_cons_self
      obtain ⟨v, hv, h1, h2⟩ := hh (z.2 + 1) ⟨w, List.mem_cons_self, by omega, by omega⟩
      rcases List.mem_cons.mp hv with e | hv
      · rw [e] at h2; omega
      · have := (List.pairwise_cons.mp cz.gap).1 v hv
        omega
    have e2 : x.2 = y.2 := by
      have a := top c c' e1 fun t => (h t).mpr
      have b := top c' c e1.symm fun t => (h t).mp
      omega
    have exy : x = y := Prod.ext e1 e2
    subst exy
    congr 1
    have ct : ∀ {z : Int × Int} {Z : PrL}, Canon (z :: Z) → Canon Z := fun {z Z} cz => ⟨(List.pairwise_cons.mp cz.gap).2, fun w hw => cz.ok w (List.mem_cons_of_mem _ hw)⟩
    have sub : ∀ {Z W : PrL}, Canon (x :: Z) → (∀ t, inRng (x :: Z) t → inRng (x :: W) t) → ∀ t, inRng Z t → inRng W t := fun {Z W} cz hh t ht => by
      rcases (inRng_cons _ _ _).mp (hh t ((inRng_cons _ _ _).mpr (.inr ht))) with q | q
      · obtain ⟨v, hv, h1, h2⟩ := ht
        have := (List.pairwise_cons.mp cz.gap).1 v hv
        omega
      · exact q
    exact canon_uniq (ct c) (ct c') fun t => ⟨sub c (fun t => (h t).mp) t, sub c' (fun t => (h t).mpr) t⟩
theorem canon_concat {i : PrL} {y : Int × Int} : Canon (i ++ [y]) ↔ Canon i ∧ (∀ x ∈ i, x.2 + 1 < y.1) ∧ y.1 ≤ y.2 := by
  constructor
  · intro c
    have g := List.pairwise_append.mp c.gap
    exact ⟨⟨g.1, fun x hx => c.ok x (List.mem_append_left _ hx)⟩, fun x hx => g.2.2 x hx y (by simp), c.ok y (by simp)⟩
  · rintro ⟨c, h1, h2⟩
    refine ⟨List.pairwise_append.mpr ⟨c.gap, by simp, fun x hx z hz => ?_⟩, fun x hx => ?_⟩
    · simp only [List.mem_singleton] at hz
      subst hz
      exact h1 x hx
    · rcases List.mem_append.mp hx with hx | hx
      · exact c.ok x hx
      · simp only [List.mem_singleton] at hx
        subst hx
        exact h2
theorem joinS_ok {acc : PrL} {x : Int × Int} (c : Canon acc) (hx : x.1 ≤ x.2) (hl : ∀ y ∈ acc, y.1 ≤ x.1) : Canon (joinS acc x) ∧ (∀ t, inRng (joinS acc x) t ↔ inRng acc t ∨ (x.1 ≤ t ∧ t ≤ x.2)) ∧ ∀ y ∈ joinS acc x, y.1 ≤ x.1 := by
  rcases last_cases acc with e | ⟨i, y, e⟩
  · subst e
    rw [joinS_nil]
    refine ⟨⟨by simp, by simpa using hx⟩, fun t => ?_, by simp⟩
    simp [inRng]
  · subst e
    obtain ⟨ci, h1, h2⟩ := canon_concat.mp c
    have hy : y.1 ≤ x.1 := hl y (by simp)
    by_cases h : x.1 ≤ y.2 + 1
    · rw [joinS_in h]
      refine ⟨canon_concat.mpr ⟨ci, h1, by simp only; omega⟩, fun t => ?_, fun z hz => ?_⟩
      · rw [inRng_append, inRng_append, inRng_cons, inRng_cons, inRng_nil]
        simp only [or_false]
        constructor
        · rintro (q | q)
          · exact .inl (.inl q)
          · by_cases ht : t ≤ y.2
            · exact .inl (.inr ⟨q.1, ht⟩)
            · exact .inr ⟨by omega, by omega⟩
        · rintro ((q | q) | q)
          · exact .inl q
          · exact .inr ⟨q.1, by omega⟩
          · exact .inr ⟨by omega, by omega⟩
      · rcases List.mem_append.mp hz with hz | hz
        · exact hl z (List.mem_append_left _ hz)
        · simp only [List.mem_singleton] at hz
          subst hz
          exact hy
    · rw [joinS_out h]
      refine ⟨canon_concat.mpr ⟨c, fun z hz => ?_, hx⟩, fun t => ?_, fun z hz => ?_⟩
      · rcases List.mem_append.mp hz with hz | hz
        · have := h1 z hz
          omega
        · simp only [List.mem_singleton] at hz
          subst hz
          omega
      · rw [inRng_append, inRng_cons, inRng_nil]
        simp
      · rcases List.mem_append.mp hz with hz | hz
        · exact hl z hz
        · simp only [List.mem_singleton] at hz
          subst hz
          exact Int.le_refl _
theorem fold_ok : ∀ {S acc : PrL}, Canon acc → (∀ x ∈ S, x.1 ≤ x.2) → S.Pairwise (fun a b => leP a b = true) → (∀ y ∈ acc, ∀ x ∈ S, y.1 ≤ x.1) → Canon (S.foldl joinS acc) ∧ ∀ t, inRng (S.foldl joinS acc) t ↔ inRng acc t ∨ inRng S t
  | [], acc, c, _, _, _ => ⟨c, fun t => by rw [inRng_nil]; simp⟩
  | x :: S, acc, c, ho, hs, hl => by
    obtain ⟨h1, h2, h3⟩ := joinS_ok c (ho x List.mem_cons_self) fun y hy => hl y hy x List.mem_cons_self
    obtain ⟨p1, p2⟩ := List.pairwise_cons.mp hs
    obtain ⟨k1, k2⟩ := fold_ok (S := S) h1 (fun z hz => ho z (List.mem_cons_of_mem _ hz)) p2 fun y hy z hz => by
      have a := h3 y hy
      have b := p1 z hz
      simp only [leP, decide_eq_true_eq] at b
      omega
    refine ⟨k1, fun t => ?_⟩
    rw [List.foldl_cons, k2, h2, inRng_cons, or_assoc]
def okR (L : PrL) : Prop := ∀ x ∈ L, 0 ≤ x.1 ∧ x.1 ≤ x.2
theorem norm_canon {L : PrL} (h : ∀ x ∈ L, x.1 ≤ x.2) : Canon (norm L) ∧ ∀ t, inRng (norm L) t ↔ inRng L t := by
  obtain ⟨a, b⟩ := fold_ok (S := sortP L) (acc := []) ⟨by simp, by simp⟩ (fun x hx => h x ((sortP_perm L).mem_iff.mp hx)) (sortP_sorted L) (by simp)
  refine ⟨a, fun t => (b t).trans ?_⟩
  rw [inRng_nil, inRng_perm (sortP_perm L)]
  simp
theorem norm_same {L L' : PrL} (h : ∀ x ∈ L, x.1 ≤ x.2) (h' : ∀ x ∈ L', x.1 ≤ x.2) (e : ∀ t, inRng L t ↔ inRng L' t) : norm L = norm L' :=
  canon_uniq (norm_canon h).1 (norm_canon h').1 fun t => (((norm_canon h).2 t).trans (e t)).trans ((norm_canon h').2 t).symm
theorem norm_idem {L : PrL} (h : Canon L) : norm L = L := canon_uniq (norm_canon h.ok).1 h (norm_canon h.ok).2
/-- each end of a joined range is an end of the old ones -/
theorem joinS_ends {acc : PrL} {x : Int × Int} (P1 P2 : Int → Prop) (ha : ∀ y ∈ acc, P1 y.1 ∧ P2 y.2) (hx : P1 x.1 ∧ P2 x.2) : ∀ y ∈ joinS acc x, P1 y.1 ∧ P2 y.2 := by
  intro y hy
  rcases last_cases acc with e | ⟨i, z, e⟩
  · subst e
    rw [joinS_nil] at hy
    simp only [List.mem_singleton] at hy
    subst hy
    exact hx
  · subst e
    have hz := ha z (by simp)
    by_cases h : x.1 ≤ z.2 + 1
    · rw [joinS_in h] at hy
      rcases List.mem_append.mp hy with hy | hy
      · exact ha y (List.mem_append_left _ hy)
      · simp only [List.mem_singleton] at hy
        subst hy
        refine ⟨hz.1, ?_⟩
        show P2 (max z.2 x.2)
        rcases Int.le_total z.2 x.2 with q | q
        · rw [Int.max_eq_right q]; exact hx.2
        · rw [Int.max_eq_left q]; exact hz.2
    · rw [joinS_out h] at hy
      rcases List.mem_append.mp hy with hy | hy
      · exact ha y hy
      · simp only [List.mem_singleton] at hy
        subst hy
        exact hx
theorem fold_ends (P1 P2 : Int → Prop) : ∀ {S acc : PrL}, (∀ y ∈ acc, P1 y.1 ∧ P2 y.2) → (∀ y ∈ S, P1 y.1 ∧ P2 y.2) → ∀ y ∈ S.foldl joinS acc, P1 y.1 ∧ P2 y.2
  | [], acc, ha, _ => ha
  | x :: S, acc, ha, hs => fold_ends P1 P2 (S := S) (joinS_ends P1 P2 ha (hs x List.mem_cons_self)) fun y hy => hs y (List.mem_cons_of_mem _ hy)
theorem norm_ends {L : PrL} (P1 P2 : Int → Prop) (h : ∀ y ∈ L, P1 y.1 ∧ P2 y.2) : ∀ y ∈ norm L, P1 y.1 ∧ P2 y.2 :=
  fold_ends P1 P2 (by simp) fun y hy => h y ((sortP_perm L).mem_iff.mp hy)
theorem joinS_len (acc : PrL) (x : Int × Int) : (joinS acc x).length ≤ acc.length + 1 := by
  rcases last_cases acc with e | ⟨i, z, e⟩
  · subst e; simp [joinS_nil]
  · subst e
    by_cases h : x.1 ≤ z.2 + 1
    · rw [joinS_in h]; simp
    · rw [joinS_out h]; simp
theorem fold_len : ∀ (S acc : PrL), (S.foldl joinS acc).length ≤ acc.length + S.length
  | [], acc => by simp
  | x :: S, acc => by
    have := fold_len S (joinS acc x)
    have := joinS_len acc x
    rw [List.foldl_cons, List.length_cons]
    omega
theorem norm_len (L : PrL) : (norm L).length ≤ L.length := by
  have := fold_len (sortP L) []
  have e := (sortP_perm L).length_eq
  unfold norm
  simp at this
  omega
/-! ### cells that hold lists -/
theorem asR_upd {M : Store} {r : D} {ds : List D} {q : Addr} {m : MO} (h : asR M r = some ds) (hq : M q = none) : asR (updM M q m) r = some ds := by
  cases r with
  | ref a =>
    have h' : (match M a with
      | some (.lst ds) => some ds
      | _ => none) = some ds := h
    show (match updM M q m a with
      | some (.lst ds) => some ds
      | _ => none) = some ds
    have hne : a ≠ q := by
      rintro rfl
      rw [hq] at h'
      cases h'
    rw [updM_ne hne]
    exact h'
  | _ => exact h
theorem asS_ref {M : Store} {q : Addr} {ds : List D} (h : M q = some (.lst ds)) : asS M (.ref q) = some ds := by
  simp [asS, asR, asL, h]
theorem asR_ref {M : Store} {q : Addr} {ds : List D} (h : M q = some (.lst ds)) : asR M (.ref q) = some ds := by
  simp [asR, asL, h]
theorem rdIx_last {M : Store} {q : Addr} {l : List D} {d : D} {Q : D → Store → Prop} (h : M q = some (.lst (l ++ [d]))) : rdIx (.ref q) (.int (-1)) M Q = Q d M := by
  simp only [rdIx, asS_ref h, List.length_append, List.length_singleton, ixN_last, Option.bind_some, List.getElem?_concat_length]
theorem rdSetL_last {M : Store} {q : Addr} {l : List D} {d v : D} {Q : Store → Prop} (h : M q = some (.lst (l ++ [d]))) : rdSetL (.ref q) (.int (-1)) v M Q = Q (updM M q (.lst (l ++ [v]))) := by
  simp only [rdSetL, h, List.length_append, List.length_singleton, ixN_last, set_last]
theorem rmAppend_ref {M : Store} {q : Addr} {l : List D} {d : D} {Q : D → Store → Prop} (h : M q = some (.lst l)) : rmAppend (.ref q) [d] M Q = (l.length < sizeLine ∧ Q .non (updM M q (.lst (l ++ [d])))) := by
  simp only [rmAppend, h]
theorem isLM_ref {M : Store} {q : Addr} {l : List D} (h : M q = some (.lst l)) : isLM M (.ref q) = True := by
  simp only [isLM, h]
theorem toPM_ref {M : Store} {q : Addr} {L : PrL} (h : M q = some (.lst (L.map rngD))) : toPM M (.ref q) = some (.list (L.map encP)) := by
  simp only [toPM, asL, h, toPs_pairs, Option.map_some]
theorem toPM_lst {M : Store} {L : PrL} : toPM M (.lst (L.map rngD)) = some (.list (L.map encP)) := by
  simp only [toPM, asL, toPs_pairs, Option.map_some]
theorem toPM_tup {M : Store} {L : PrL} : toPM M (.tup (L.map rngD)) = some (.tuple (L.map encP)) := by
  show toP (.tup (L.map rngD)) = _
  rw [toP, toPs_pairs]
  rfl
theorem rdEq_ref {M : Store} {q : Addr} {L L' : PrL} {neg : Bool} {Q : D → Store → Prop} (h : M q = some (.lst (L.map rngD))) : rdEq neg (.ref q) (.lst (L'.map rngD)) M Q = Q (.bl (neg != decide (L = L'))) M := by
  simp only [rdEq, toPM_ref h, toPM_lst, PyData.eqv, eqv_pairs, okP_list, true_and]
theorem rdEq_refN {M : Store} {q : Addr} {L : PrL} {neg : Bool} {Q : D → Store → Prop} (h : M q = some (.lst (L.map rngD))) : rdEq neg (.ref q) (.lst []) M Q = Q (.bl (neg != decide (L = []))) M := rdEq_ref (L' := []) h
theorem rdEq_tup {M : Store} {L L' : PrL} {neg : Bool} {Q : D → Store → Prop} : rdEq neg (.tup (L.map rngD)) (.tup (L'.map rngD)) M Q = Q (.bl (neg != decide (L = L'))) M := by
  simp only [rdEq, toPM_tup, PyData.eqv, eqv_pairs, okP_tuple, true_and]
theorem subM_upd {M : Store} {p q : Addr} {m n : MO} (hq : M q = none) (hpq : p ≠ q) : SubM (updM M p m) (updM (updM M q n) p m) := fun a k e => by
  by_cases ha : a = p
  · subst ha
    rw [updM_same] at e ⊢
    exact e
  · rw [updM_ne ha] at e ⊢
    have : a ≠ q := by
      rintro rfl
      rw [hq] at e
      cases e
    rw [updM_ne this]
    exact e
theorem rdIx_rng0 {M : Store} {x : Int × Int} {Q : D → Store → Prop} : rdIx (rngD x) (.int 0) M Q = Q (.int x.1) M := by
  simp [rdIx, rngD, asS, ixN]
theorem rdIx_rng1 {M : Store} {x : Int × Int} {Q : D → Store → Prop} : rdIx (rngD x) (.int 1) M Q = Q (.int x.2) M := by
  simp [rdIx, rngD, asS, ixN]
theorem le_line {n : Nat} (h : n ≤ 1000000) : (n ≤ sizeLine) = True := by
  rw [sizeLine_eq]
  exact eq_true (by omega)
theorem lt_line {n : Nat} (h : n ≤ 1000000) : (n < sizeLine) = True := by
  rw [sizeLine_eq]
  exact eq_true (by omega)
/-! ### whole numbers -/
section
variable {M : Store} {Q : D → Store → Prop} {i j : Int}
theorem rdAdd_int : rdAdd (.int i) (.int j) M Q = Q (.int (i + j)) M := rfl
theorem rdSub_int : rdSub (.int i) (.int j) M Q = Q (.int (i - j)) M := by simp [rdSub, rdI]
theorem rdMul_int : rdMul (.int i) (.int j) M Q = ((CMul i j ∨ CMulW i j) ∧ Q (.int (i * j)) M) := rfl
theorem rdMod_int : rdMod (.int i) (.int j) M Q = (0 < j ∧ Q (.int (i % j)) M) := rfl
theorem rdDiv_int : rdDiv (.int i) (.int j) M Q = (CDivW i j ∧ Q (.int (i / j)) M) := rfl
theorem rdPow_int : rdPow (.int i) (.int j) M Q = (CPow i j ∧ Q (.int (i ^ j.toNat)) M) := rfl
theorem rdCmp_int {p : Int → Int → Bool} : rdCmp p (.int i) (.int j) M Q = Q (.bl (p i j)) M := by simp [rdCmp, rdI]
theorem rdEq_int {neg : Bool} : rdEq neg (.int i) (.int j) M Q = Q (.bl (neg != decide (i = j))) M := rfl
theorem rcMax_int : rcMax [.int i, .int j] M Q = Q (.int (max i j)) M := by
  show Q (.int (if j > i then j else i)) M = _
  have : (if j > i then j else i) = max i j := by split <;> omega
  rw [this]
theorem rcMin_int : rcMin [.int i, .int j] M Q = Q (.int (min i j)) M := by
  show Q (.int (if j < i then j else i)) M = _
  have : (if j < i then j else i) = min i j := by split <;> omega
  rw [this]
end
/-! ### comprehensions, their results -/
theorem dLc_mapA {L : Store → Prop} {g : DTG} {te : DTE} {p : Addr} {ρ : Ro} {f : D → D} {M : Store} {Q : List D → Store → Prop} (hp : M p = none) (hL : ∀ acc, L (updM M p (.lst acc))) :
    ∀ (ds acc : List D), (∀ d ∈ ds, ∀ acc Q, Q (f d) (updM M p (.lst acc)) → g d ρ (updM M p (.lst acc)) fun ρ2 M2 => te ρ2 M2 Q) → acc.length + ds.length ≤ sizeLine → Q (acc ++ ds.map f) M → dLcLoop L g dYes te p ρ ds acc M Q
  | [], acc, _, _, q => ⟨hL acc, by simpa using q⟩
  | d :: ds, acc, h, hl, q => by
    refine ⟨hL acc, ?_⟩
    simp only [dYes, if_true]
    rw [List.length_cons] at hl
    refine h d List.mem_cons_self acc _ ⟨M, rfl, hp, by omega, dLc_mapA hp hL ds (acc ++ [f d]) (fun d hd => h d (List.mem_cons_of_mem _ hd)) ?_ ?_⟩
    · rw [List.length_append, List.length_singleton]
      omega
    · rw [List.append_assoc]
      simpa using q
theorem dLc_filt {L : Store → Prop} {g : DTG} {tt : DTT} {te : DTE} {p : Addr} {ρ : Ro} {c : D → Bool} {f : D → D} {M : Store} {Q : List D → Store → Prop} (hp : M p = none) (hL : ∀ acc, L (updM M p (.lst acc))) :
    ∀ (ds acc : List D), (∀ d ∈ ds, ∀ acc (Kt : D → Store → Prop) (Kf : Store → Prop), (c d = true → Kt (f d) (updM M p (.lst acc))) → (c d = false → Kf (updM M p (.lst acc))) → g d ρ (updM M p (.lst acc)) fun ρ2 M2 => tt ρ2 M2 fun b M3 => if b = true then te ρ2 M3 Kt else Kf M3) →
      acc.length + ds.length ≤ sizeLine → Q (acc ++ (ds.filter c).map f) M → dLcLoop L g tt te p ρ ds acc M Q
  | [], acc, _, _, q => ⟨hL acc, by simpa using q⟩
  | d :: ds, acc, h, hl, q => by
    refine ⟨hL acc, ?_⟩
    rw [List.length_cons] at hl
    refine h d List.mem_cons_self acc _ _ (fun hc => ⟨M, rfl, hp, by omega, dLc_filt hp hL ds (acc ++ [f d]) (fun d hd => h d (List.mem_cons_of_mem _ hd)) ?_ ?_⟩) (fun hc => ⟨M, rfl, hp, dLc_filt hp hL ds acc (fun d hd => h d (List.mem_cons_of_mem _ hd)) (by omega) ?_⟩)
    · rw [List.length_append, List.length_singleton]
      omega
    · rw [List.append_assoc]
      simpa [List.filter_cons, hc] using q
    · simpa [List.filter_cons, hc] using q
theorem dLc2_map {L : Store → Prop} {g : DTG} {ti1 : DTI} {g1 : DTG} {te : DTE} {vs1 : List Nat} {p : Addr} {ρ : Ro} {ρf : D → Ro} {f : D → D → D} {ds1 : List D} {M : Store} {Q : List D → Store → Prop} (hp : M p = none) (hL : ∀ acc, L (updM M p (.lst acc))) :
    ∀ (ds acc : List D), (∀ d ∈ ds, ∀ acc (R : Ro → List D → (Store → Prop) → Store → Prop), (∀ L1 : Store → Prop, (∀ acc, L1 (updM M p (.lst acc))) → R (ρf d) ds1 L1 (updM M p (.lst acc))) → g d ρ (updM M p (.lst acc)) fun ρ2 M2 => ti1 ρ2 M2 (R ρ2)) →
      (∀ d ∈ ds, ∀ e ∈ ds1, ∀ acc Q, Q (f d e) (updM M p (.lst acc)) → g1 e (wipeR (ρf d) vs1) (updM M p (.lst acc)) fun ρ2 M2 => te ρ2 M2 Q) → acc.length + ds.length * ds1.length ≤ sizeLine → Q (acc ++ ds.flatMap fun d => ds1.map (f d)) M → dLc2Loop L g dYes ti1 g1 dYes te vs1 p ρ ds acc M Q
  | [], acc, _, _, _, q => ⟨hL acc, by simpa using q⟩
  | d :: ds, acc, h, hi, hl, q => by
    refine ⟨hL acc, ?_⟩
    simp only [dYes, if_true]
    rw [List.length_cons, Nat.add_mul, Nat.one_mul] at hl
    refine h d List.mem_cons_self acc _ fun L1 hL1 => ⟨M, rfl, hp, ?_⟩
    refine dLc_mapA (f := f d) hp hL1 ds1 acc (hi d List.mem_cons_self) (by omega) ?_
    refine dLc2_map hp hL ds _ (fun d hd => h d (List.mem_cons_of_mem _ hd)) (fun d hd => hi d (List.mem_cons_of_mem _ hd)) ?_ ?_
    · rw [List.length_append, List.length_map]
      omega
    · rw [List.append_assoc]
      simpa using q
theorem toBs_map' {α : Type} (f : α → D) (b : α → Bool) (h : ∀ x, f x = .bl (b x)) {l : List α} : toBs (l.map f) = some (l.map b) := by
  induction l with
  | nil => rfl
  | cons x l ih => simp only [List.map_cons, h, toBs, ih, Option.map_some]
/-! ### readings, step by step -/
def mB (x : D) (M : Store) (Qb : Bool → Store → Prop) : Prop := match x with
  | .bl b => Qb b M
  | _ => False
def mOk (c f : Str) (x : D) (M : Store) : Prop := match asO M c x with
  | some fs => fs.lookup f = none
  | none => False
section
variable {E : DEnds} {ρ : Ro} {M : Store} {Q : D → Store → Prop} {Qb : Bool → Store → Prop} {Qa : List D → Store → Prop} {t u : DTS} {te ta tb : DTE} {tt tu : DTT} {tas : DTA} {g : DTG} {ti : DTI} {x d : D} {i j : Nat} {rd : DR2} {tr : DTr} {rc : DCl} {gs : DTGs} {Qr : Ro → Store → Prop} {R : List D → (Store → Prop) → Store → Prop} {tgs : DTGs}
theorem s_seq (h : t { E with nx := u E } ρ M) : dSeq t u E ρ M := h
theorem s_asg (h : te ρ M fun x M1 => g x ρ M1 E.nx) : dAsg te g E ρ M := h
theorem s_name (h : Qr (ρ.set i (some x)) M) : dgName i x ρ M Qr := h
theorem s_next (h : E.nx ρ M) : dNext E ρ M := h
theorem s_ret (h : te ρ M E.rt) : dRet te E ρ M := h
theorem s_retN (h : E.rt .non M) : dRetN E ρ M := h
theorem s_drop (h : te ρ M fun _ M1 => E.nx ρ M1) : dDrop te E ρ M := h
theorem s_if (h : tt ρ M fun b M1 => if b = true then t E ρ M1 else u E ρ M1) : dIf tt t u E ρ M := h
theorem s_for (h : ti ρ M fun ds L M1 => dLoop L g t ds E ρ M1) : dFor ti g t E ρ M := h
theorem s_and (h : tt ρ M fun b M1 => if b = true then tu ρ M1 Qb else Qb false M1) : dAnd tt tu ρ M Qb := h
theorem s_or (h : tt ρ M fun b M1 => if b = true then Qb true M1 else tu ρ M1 Qb) : dOr tt tu ρ M Qb := h
theorem s_not (h : tt ρ M fun b M1 => Qb (!b) M1) : dNot tt ρ M Qb := h
theorem s_B (h : te ρ M fun x M1 => mB x M1 Qb) : dB te ρ M Qb := h
theorem s_mB {b : Bool} (h : Qb b M) : mB (.bl b) M Qb := h
theorem s_meth {c f : Str} {sp : DSp} {W : DWX} {dfl : List D} (h : te ρ M fun x M1 => mOk c f x M1 ∧ tas ρ M1 fun ds M2 => sp (x :: (ds ++ dfl)) M2 Q fun c fs M3 => W c fs ρ M3) : dMeth c f sp W dfl te tas ρ M Q := h
theorem s_ite {c : Bool} {A B : Prop} (h1 : c = true → A) (h2 : c = false → B) : if c = true then A else B := by
  cases c
  · exact iteF (h2 rfl)
  · exact iteT (h1 rfl)
theorem s_iteT {c : Bool} {A B : Prop} (hc : c = true) (h : A) : if c = true then A else B := s_ite (fun _ => h) fun e => by rw [hc] at e; cases e
theorem s_iteF {c : Bool} {A B : Prop} (hc : c = false) (h : B) : if c = true then A else B := s_ite (fun e => by rw [hc] at e; cases e) fun _ => h
theorem s_Tr (h : te ρ M fun x M1 => tr x M1 Qb) : dTr tr te ρ M Qb := h
theorem s_op (h : ta ρ M fun x M1 => tb ρ M1 fun y M2 => rd x y M2 Q) : dOp rd ta tb ρ M Q := h
theorem s_var (h : ρ[i]? = some (some d)) (q : Q d M) : dVar i ρ M Q := by
  show (match ρ[i]? with
    | some (some d) => Q d M
    | _ => False)
  rw [h]
  exact q
theorem s_c (q : Q x M) : dC x ρ M Q := q
theorem s_ifE (h : tt ρ M fun b M1 => if b = true then ta ρ M1 Q else tb ρ M1 Q) : dIfE tt ta tb ρ M Q := h
theorem s_andV (h : ta ρ M fun x M1 => tr x M1 fun b M2 => if b = true then tb ρ M2 Q else Q x M2) : dAndV tr ta tb ρ M Q := h
theorem s_orV (h : ta ρ M fun x M1 => tr x M1 fun b M2 => if b = true then Q x M2 else tb ρ M2 Q) : dOrV tr ta tb ρ M Q := h
theorem s_notV (h : ta ρ M fun x M1 => tr x M1 fun b M2 => Q (.bl (!b)) M2) : dNotV tr ta ρ M Q := h
theorem s_b1 (h : tas ρ M fun ds M1 => rc ds M1 Q) : dB1 rc tas ρ M Q := h
theorem s_cons (h : ta ρ M fun x M1 => tas ρ M1 fun xs M2 => Qa (x :: xs) M2) : daCons ta tas ρ M Qa := h
theorem s_nil (h : Qa [] M) : daNil ρ M Qa := h
theorem s_tup (h : tas ρ M fun ds M1 => ds.length ≤ sizeLine ∧ Q (.tup ds) M1) : dTup tas ρ M Q := h
theorem s_lst (h : tas ρ M fun ds M1 => ds.length ≤ sizeLine ∧ Q (.lst ds) M1) : dLst tas ρ M Q := h
theorem s_lstM (h : tas ρ M fun ds M1 => ds.length ≤ sizeLine ∧ ∀ p, M1 p = none → Q (.ref p) (updM M1 p (.lst ds))) : dLstM tas ρ M Q := h
theorem s_call {sp : DSp} {W : DWX} {dfl : List D} (h : tas ρ M fun ds M1 => sp (ds ++ dfl) M1 Q fun c fs M2 => W c fs ρ M2) : dCall sp W dfl tas ρ M Q := h
theorem s_par (h : ta ρ M fun x M1 => tb ρ M1 fun y M2 => E.nx ((ρ.set i (some x)).set j (some y)) M2) : dPar i j (daCons ta (daCons tb daNil)) E ρ M := h
theorem s_item {ds : List D} (h : te ρ M fun x M1 => match asS M1 x with
  | some ds => R ds (Held x ds) M1
  | none => False) : dItem te ρ M R := h
theorem s_neg {n : Int} (h : te ρ M fun x M1 => match x with
  | .int n => Q (.int (-n)) M1
  | _ => False) : dNeg te ρ M Q := h
theorem s_trB {b : Bool} (h : Qb b M) : trP (.bl b) M Qb := h
end
theorem s_absS {E : DEnds} {ρ : Ro} {M : Store} {t u : DTS} (h : ∀ ρ', ρ' = ρ → dSeq t u E ρ' M) : dSeq t u E ρ M := h ρ rfl
theorem s_seqN {E : DEnds} {ρ ρ' : Ro} {M : Store} {t u : DTS} (e : ρ = ρ') (h : t { E with nx := u E } ρ' M) : dSeq t u E ρ M := by rw [e]; exact h
theorem s_re {E : DEnds} {ρ ρ' : Ro} {M : Store} {t : DTS} (e : ρ = ρ') (h : t E ρ' M) : t E ρ M := by rw [e]; exact h
theorem s_absT {E : DEnds} {ρ : Ro} {M : Store} {t : DTS} (h : ∀ ρ', ρ' = ρ → t E ρ' M) : t E ρ M := h ρ rfl
theorem s_abs {E : DEnds} {ρ : Ro} {M : Store} {t : DTS} {k : Nat} {v : D} (hk : k < ρ.length) (h : ∀ ρ' : Ro, ρ'.length = ρ.length → (∀ i, i ≠ k → ρ'[i]? = ρ[i]?) → ρ'[k]? = some (some v) → t E ρ' M) : t E (ρ.set k (some v)) M :=
  h _ (by rw [List.length_set]) (fun i hi => List.getElem?_set_ne (Ne.symm hi)) (List.getElem?_set_self hk)
/-- a local that holds a list: what is known of it -/
theorem s_absL {E : DEnds} {ρ : Ro} {M : Store} {t : DTS} {k : Nat} {xs : List D} (Pp : List D → Prop) (hk : k < ρ.length) (hp : Pp xs) (h : ∀ (ρ' : Ro) (ys : List D), Pp ys → ρ'.length = ρ.length → (∀ i, i ≠ k → ρ'[i]? = ρ[i]?) → ρ'[k]? = some (some (.lst ys)) → t E ρ' M) : t E (ρ.set k (some (.lst xs))) M :=
  s_abs hk fun ρ' a b c => h ρ' xs hp a b c
theorem s_addL {M : Store} {xs ys : List D} {Q : D → Store → Prop} (h1 : xs.length + ys.length ≤ sizeLine) (h2 : Q (.lst (xs ++ ys)) M) : rdAdd (.lst xs) (.lst ys) M Q := ⟨h1, h2⟩
theorem s_absLS {E : DEnds} {ρ : Ro} {M : Store} {t u : DTS} {k : Nat} {xs : List D} (Pp : List D → Prop) (hk : k < ρ.length) (hp : Pp xs) (h : ∀ (ρ' : Ro) (ys : List D), Pp ys → ρ'.length = ρ.length → (∀ i, i ≠ k → ρ'[i]? = ρ[i]?) → ρ'[k]? = some (some (.lst ys)) → dSeq t u E ρ' M) : dSeq t u E (ρ.set k (some (.lst xs))) M :=
  s_absL (t := dSeq t u) Pp hk hp h
theorem s_absLR {E : DEnds} {ρ : Ro} {M : Store} {t : DTE} {k : Nat} {xs : List D} (Pp : List D → Prop) (hk : k < ρ.length) (hp : Pp xs) (h : ∀ (ρ' : Ro) (ys : List D), Pp ys → ρ'.length = ρ.length → (∀ i, i ≠ k → ρ'[i]? = ρ[i]?) → ρ'[k]? = some (some (.lst ys)) → dRet t E ρ' M) : dRet t E (ρ.set k (some (.lst xs))) M :=
  s_absL (t := dRet t) Pp hk hp h
theorem s_lc {ti : DTI} {g : DTG} {tt : DTT} {te : DTE} {vs : List Nat} {ρ : Ro} {M : Store} {Q : D → Store → Prop} (h : ti ρ M fun ds L M1 => ∀ p, M1 p = none → dLcLoop L g tt te p (wipeR ρ vs) ds [] M1 fun out M2 => Q (.lst out) M2) : dLc ti g tt te vs ρ M Q := h
theorem s_itemL {i : Nat} {ρ : Ro} {M : Store} {ds : List D} {R : List D → (Store → Prop) → Store → Prop} (h : ρ[i]? = some (some (.lst ds))) (k : R ds (fun _ => True) M) : dItem (dVar i) ρ M R := by
  simp only [dItem, dVar, h, asS, asR, asL]
  exact k
theorem s_ix0 {x y : D} {M : Store} {Q : D → Store → Prop} (q : Q x M) : rdIx (.tup [x, y]) (.int 0) M Q := by
  simp [rdIx, asS, ixN]
  exact q
theorem s_ix1 {x y : D} {M : Store} {Q : D → Store → Prop} (q : Q y M) : rdIx (.tup [x, y]) (.int 1) M Q := by
  simp [rdIx, asS, ixN]
  exact q
theorem s_eqNil {neg : Bool} {M : Store} {Q : D → Store → Prop} (q : Q (.bl (neg != true)) M) : rdEq neg (.lst []) (.lst []) M Q := by
  have ok : okP (.list []) := okP_list []
  simp only [rdEq, toPM, asL, toPs, Option.map_some, PyData.eqv, PyData.eqvAll]
  exact ⟨ok, ok, q⟩
theorem s_eqB {neg x y : Bool} {M : Store} {Q : D → Store → Prop} (q : Q (.bl (neg != (x == y))) M) : rdEq neg (.bl x) (.bl y) M Q := by
  have ok : ∀ b, okP (.bool b) := fun b => by simp [okP, SeqAt.shaped, PyData.canLay0, PyData.depth]
  show (match toPM M (.bl x), toPM M (.bl y) with
    | some d, some e => okP d ∧ okP e ∧ Q (.bl (neg != PyData.eqv d e)) M
    | _, _ => False)
  simp only [toPM, asL, toP, PyData.eqv]
  exact ⟨ok x, ok y, q⟩
theorem s_addI {i j : Int} {M : Store} {Q : D → Store → Prop} (q : Q (.int (i + j)) M) : rdAdd (.int i) (.int j) M Q := q
theorem s_subI {i j : Int} {M : Store} {Q : D → Store → Prop} (q : Q (.int (i - j)) M) : rdSub (.int i) (.int j) M Q := by rw [rdSub_int]; exact q
theorem s_cmpI {p : Int → Int → Bool} {i j : Int} {M : Store} {Q : D → Store → Prop} (q : Q (.bl (p i j)) M) : rdCmp p (.int i) (.int j) M Q := by rw [rdCmp_int]; exact q
theorem s_eqI {neg : Bool} {i j : Int} {M : Store} {Q : D → Store → Prop} (q : Q (.bl (neg != decide (i = j))) M) : rdEq neg (.int i) (.int j) M Q := q
theorem s_minI {i j : Int} {M : Store} {Q : D → Store → Prop} (q : Q (.int (min i j)) M) : rcMin [.int i, .int j] M Q := by rw [rcMin_int]; exact q
theorem s_maxI {i j : Int} {M : Store} {Q : D → Store → Prop} (q : Q (.int (max i j)) M) : rcMax [.int i, .int j] M Q := by rw [rcMax_int]; exact q
end DL


set_option Elab.async false
set_option linter.all false
set_option maxRecDepth 100000
set_option maxHeartbeats 1000000
namespace DL
open PySem PySem.Spec PyProof.Rows L2

/-! ### plans of calls, their texts -/
inductive Wd where
  | then_ | else_ | both | either
deriving DecidableEq
def wdS : Wd → Str
  | .then_ => "then"
  | .else_ => "else"
  | .both => "both"
  | .either => "either"
inductive Tr where
  | call (a : Str) | pause (n : Nat) | fail | hole
  | pair (w : Wd) (a b : Tr) | within (n : Option Nat) (a : Tr) | retry (k n : Nat) (a : Tr)
deriving DecidableEq
abbrev tl (x : Str) : List Nat := x.cps.toList
def numS (n : Nat) : Str := toString (n : Int)
theorem tl_numS (n : Nat) : tl (numS n) = TL.numL n := TL.tl_num n
/-- the text of a plan -/
def txt : Tr → Str
  | .call a => "call " ++ a
  | .pause n => "pause " ++ numS n
  | .fail => "fail"
  | .hole => "hole"
  | .within none t => "within ? " ++ txt t
  | .within (some n) t => "within " ++ numS n ++ " " ++ txt t
  | .retry k n t => "retry " ++ numS k ++ " " ++ numS n ++ " " ++ txt t
  | .pair w a b => "(" ++ txt a ++ " " ++ wdS w ++ " " ++ txt b ++ ")"
/-- its words -/
def toks : Tr → List Str
  | .call a => [("call" : Str), a]
  | .pause n => [("pause" : Str), numS n]
  | .fail => [("fail" : Str)]
  | .hole => [("hole" : Str)]
  | .within none t => ("within" : Str) :: ("?" : Str) :: toks t
  | .within (some n) t => ("within" : Str) :: numS n :: toks t
  | .retry k n t => ("retry" : Str) :: numS k :: numS n :: toks t
  | .pair w a b => ("(" : Str) :: (toks a ++ wdS w :: (toks b ++ [(")" : Str)]))
theorem toks_ne : ∀ t : Tr, toks t ≠ []
  | .call _ => by simp [toks]
  | .pause _ => by simp [toks]
  | .fail => by simp [toks]
  | .hole => by simp [toks]
  | .within none _ => by simp [toks]
  | .within (some _) _ => by simp [toks]
  | .retry _ _ _ => by simp [toks]
  | .pair _ _ _ => by simp [toks]
/-- a sign put for one sign -/
theorem repl_one (y : Nat) (z : List Nat) : ∀ l : List Nat, PySem.StrLaws.replL [y] z l = l.flatMap fun c => if c = y then z else [c]
  | [] => PySem.StrLaws.replL_nil
  | c :: r => by
    by_cases e : c = y
    · rw [PySem.StrLaws.replL_hit (by simp) (by simp [e]), List.flatMap_cons, if_pos e]
      simp only [List.length_cons, List.length_nil, Nat.zero_add, List.drop_succ_cons, List.drop_zero]
      rw [repl_one y z r]
    · rw [PySem.StrLaws.replL_miss (by simp [e]), List.flatMap_cons, if_neg e, repl_one y z r]
      rfl
def spc (l : List Nat) : List Nat := l.flatMap fun c => if c = 40 then [40, 32] else if c = 41 then [32, 41] else [c]
theorem spc_app (a b : List Nat) : spc (a ++ b) = spc a ++ spc b := List.flatMap_append
theorem spc_free : ∀ {l : List Nat}, (∀ c ∈ l, c ≠ 40 ∧ c ≠ 41) → spc l = l
  | [], _ => rfl
  | c :: r, h => by
    unfold spc
    rw [List.flatMap_cons, if_neg (h c List.mem_cons_self).1, if_neg (h c List.mem_cons_self).2]
    have := spc_free (l := r) fun d hd => h d (List.mem_cons_of_mem _ hd)
    unfold spc at this
    rw [this]
    rfl
/-- the words of any text, as the reader makes them -/
def spaced (x : Str) : Str := Txt.replace (Txt.replace x "(" "( ") ")" " )"
def wordsIn (x : Str) : List Str := Txt.split (spaced x) " "
theorem tl_spaced (x : Str) : tl (spaced x) = spc (tl x) := by
  unfold spaced tl
  rw [PySem.StrLaws.replace_list (by decide +kernel), PySem.StrLaws.replace_list (by decide +kernel)]
  have e1 : ("(" : Str).cps.toList = [40] := by decide +kernel
  have e2 : ("( " : Str).cps.toList = [40, 32] := by decide +kernel
  have e3 : (")" : Str).cps.toList = [41] := by decide +kernel
  have e4 : (" )" : Str).cps.toList = [32, 41] := by decide +kernel
  rw [e1, e2, e3, e4, repl_one, repl_one, List.flatMap_assoc]
  unfold spc
  congr 1
  funext c
  by_cases h : c = 40
  · rw [if_pos h, if_pos h]
    rfl
  · rw [if_neg h, if_neg h]
    simp
theorem words_spl (x : Str) : wordsIn x = (TL.spl [32] 0 [] (spc (tl x))).map SX.S := by
  have e : Txt.split (SX.S (tl (spaced x))) (SX.S [32]) = (TL.spl [32] 0 [] (tl (spaced x))).map SX.S := SX.split_S (by simp) (by decide)
  rw [SX.S_tl, tl_spaced] at e
  exact e
theorem joinL_app (s : List Nat) : ∀ {a b : List (List Nat)}, a ≠ [] → b ≠ [] → TL.joinL s (a ++ b) = TL.joinL s a ++ (s ++ TL.joinL s b)
  | [], _, h, _ => absurd rfl h
  | [x], y :: b, _, _ => rfl
  | x :: y :: a, b, _, hb => by
    have ih := joinL_app s (a := y :: a) (b := b) (by simp) hb
    show x ++ (s ++ TL.joinL s ((y :: a) ++ b)) = x ++ (s ++ TL.joinL s (y :: a)) ++ (s ++ TL.joinL s b)
    rw [ih]
    simp
/-- the names and numbers of a plan are as texts have them -/
def isLet (a : Str) : Bool := (tl a).all fun c => decide (97 ≤ c) && decide (c ≤ 122)
def isName (a : Str) : Bool := decide (1 ≤ a.length) && (decide (a.length ≤ 8) && isLet a)
def maxN : Nat := 1000000000
def wf : Tr → Bool
  | .call a => isName a
  | .pause n => decide (n ≤ maxN)
  | .fail => true
  | .hole => true
  | .within none t => wf t
  | .within (some n) t => decide (n ≤ maxN) && wf t
  | .retry k n t => decide (1 ≤ k) && (decide (k ≤ 8) && (decide (n ≤ maxN) && wf t))
  | .pair _ a b => wf a && wf b
theorem let_free {a : Str} (h : isLet a = true) : ∀ c ∈ tl a, 97 ≤ c ∧ c ≤ 122 := fun c hc => by
  have := List.all_eq_true.mp h c hc
  simpa using this
theorem num_free (n : Nat) : ∀ c ∈ TL.numL n, 48 ≤ c ∧ c ≤ 57 := fun c hc => TL.numL_digits n c hc
theorem name_let {a : Str} (h : isName a = true) : isLet a = true ∧ 1 ≤ a.length ∧ a.length ≤ 8 := by
  unfold isName at h
  simp only [Bool.and_eq_true, decide_eq_true_eq] at h
  exact ⟨h.2.2, h.1, h.2.1⟩
theorem tl_app (a b : Str) : tl (a ++ b) = tl a ++ tl b := TL.tl_append a b
theorem wd_free (w : Wd) : ∀ c ∈ tl (wdS w), 97 ≤ c ∧ c ≤ 122 := by
  cases w <;> (intro c hc; revert c hc; decide +kernel)
theorem wd_spc (w : Wd) : spc (tl (wdS w)) = tl (wdS w) := spc_free fun c hc => by have := wd_free w c hc; omega
theorem num_spc (n : Nat) : spc (TL.numL n) = TL.numL n := spc_free fun c hc => by have := num_free n c hc; omega
theorem let_spc {a : Str} (h : isLet a = true) : spc (tl a) = tl a := spc_free fun c hc => by have := let_free h c hc; omega
theorem spc_lit {l : List Nat} (h : (l.all fun c => decide (c ≠ 40) && decide (c ≠ 41)) = true) : spc l = l := spc_free fun c hc => by simpa using List.all_eq_true.mp h c hc
theorem spc_txt : ∀ {t : Tr}, wf t = true → spc (tl (txt t)) = TL.joinL [32] ((toks t).map tl)
  | .call a, h => by
    have e : tl "call " = [99, 97, 108, 108, 32] := by decide +kernel
    have e2 : tl "call" = [99, 97, 108, 108] := by decide +kernel
    simp only [txt, toks, List.map_cons, List.map_nil, tl_app, spc_app, let_spc (name_let h).1, e, e2, spc_lit (l := [99, 97, 108, 108, 32]) (by decide), TL.joinL]
    rfl
  | .pause n, h => by
    have e : tl "pause " = [112, 97, 117, 115, 101, 32] := by decide +kernel
    have e2 : tl "pause" = [112, 97, 117, 115, 101] := by decide +kernel
    simp only [txt, toks, List.map_cons, List.map_nil, tl_app, spc_app, tl_numS, num_spc, e, e2, spc_lit (l := [112, 97, 117, 115, 101, 32]) (by decide), TL.joinL]
    rfl
  | .fail, _ => by
    have e : tl "fail" = [102, 97, 105, 108] := by decide +kernel
    simp only [txt, toks, List.map_cons, List.map_nil, e, spc_lit (l := [102, 97, 105, 108]) (by decide), TL.joinL]
  | .hole, _ => by
    have e : tl "hole" = [104, 111, 108, 101] := by decide +kernel
    simp only [txt, toks, List.map_cons, List.map_nil, e, spc_lit (l := [104, 111, 108, 101]) (by decide), TL.joinL]
  | .within none t, h => by
    have e : tl "within ? " = [119, 105, 116, 104, 105, 110, 32, 63, 32] := by decide +kernel
    have e2 : tl "within" = [119, 105, 116, 104, 105, 110] := by decide +kernel
    have e3 : tl "?" = [63] := by decide +kernel
    have ih := spc_txt (t := t) h
    have hj := joinL_app [32] (a := [tl "within", tl "?"]) (b := (toks t).map tl) (by simp) (by simpa using toks_ne t)
    simp only [txt, toks, List.map_cons, tl_app, spc_app, ih, e, spc_lit (l := [119, 105, 116, 104, 105, 110, 32, 63, 32]) (by decide)]
    simp only [List.cons_append, List.nil_append] at hj
    rw [hj, e2, e3]
    rfl
  | .within (some n) t, h => by
    have h2 : wf t = true := (Bool.and_eq_true_iff.mp h).2
    have e : tl "within " = [119, 105, 116, 104, 105, 110, 32] := by decide +kernel
    have e2 : tl "within" = [119, 105, 116, 104, 105, 110] := by decide +kernel
    have e3 : tl " " = [32] := by decide +kernel
    have ih := spc_txt (t := t) h2
    have hj := joinL_app [32] (a := [tl "within", tl (numS n)]) (b := (toks t).map tl) (by simp) (by simpa using toks_ne t)
    simp only [txt, toks, List.map_cons, tl_app, spc_app, ih, e, e3, tl_numS, num_spc, spc_lit (l := [119, 105, 116, 104, 105, 110, 32]) (by decide), spc_lit (l := [32]) (by decide)]
    simp only [List.cons_append, List.nil_append] at hj
    rw [tl_numS] at hj
    rw [hj, e2]
    simp [TL.joinL]
  | .retry k n t, h => by
    simp only [wf, Bool.and_eq_true] at h
    have e : tl "retry " = [114, 101, 116, 114, 121, 32] := by decide +kernel
    have e2 : tl "retry" = [114, 101, 116, 114, 121] := by decide +kernel
    have e3 : tl " " = [32] := by decide +kernel
    have ih := spc_txt (t := t) h.2.2.2
    have hj := joinL_app [32] (a := [tl "retry", tl (numS k), tl (numS n)]) (b := (toks t).map tl) (by simp) (by simpa using toks_ne t)
    simp only [txt, toks, List.map_cons, tl_app, spc_app, ih, e, e3, tl_numS, num_spc, spc_lit (l := [114, 101, 116, 114, 121, 32]) (by decide), spc_lit (l := [32]) (by decide)]
    simp only [List.cons_append, List.nil_append] at hj
    rw [tl_numS, tl_numS] at hj
    rw [hj, e2]
    simp [TL.joinL]
  | .pair w a b, h => by
    obtain ⟨h1, h2⟩ := Bool.and_eq_true_iff.mp h
    have e : tl "(" = [40] := by decide +kernel
    have e2 : tl ")" = [41] := by decide +kernel
    have e3 : tl " " = [32] := by decide +kernel
    have ia := spc_txt (t := a) h1
    have ib := spc_txt (t := b) h2
    have s1 : spc [40] = [40, 32] := by decide
    have s2 : spc [41] = [32, 41] := by decide
    have na : (toks a).map tl ≠ [] := by simpa using toks_ne a
    have nb : (toks b).map tl ≠ [] := by simpa using toks_ne b
    have j1 := joinL_app [32] (a := (toks b).map tl) (b := [tl ")"]) nb (by simp)
    have j2 := joinL_app [32] (a := [tl (wdS w)]) (b := (toks b).map tl ++ [tl ")"]) (by simp) (by simp)
    have j3 := joinL_app [32] (a := (toks a).map tl) (b := tl (wdS w) :: ((toks b).map tl ++ [tl ")"])) na (by simp)
    have j4 := joinL_app [32] (a := [tl "("]) (b := (toks a).map tl ++ tl (wdS w) :: ((toks b).map tl ++ [tl ")"])) (by simp) (by simp [na])
    simp only [List.cons_append, List.nil_append] at j2 j4
    simp only [txt, toks, List.map_cons, List.map_append, List.map_nil, tl_app, spc_app, ia, ib, e, e2, e3, s1, s2, wd_spc, spc_lit (l := [32]) (by decide)]
    simp only [e, e2] at j1 j2 j3 j4
    rw [j4, j3, j2, j1]
    simp [TL.joinL]

theorem tok_free : ∀ {t : Tr}, wf t = true → ∀ p ∈ toks t, (32 : Nat) ∉ tl p := by
  intro t
  have lit : ∀ {x : Str}, ((tl x).all fun c => decide (c ≠ 32)) = true → (32 : Nat) ∉ tl x := fun {x} h hm => by simpa using List.all_eq_true.mp h 32 hm
  have num : ∀ n : Nat, (32 : Nat) ∉ tl (numS n) := fun n hm => by
    rw [tl_numS] at hm
    have := num_free n 32 hm
    omega
  have wd : ∀ w : Wd, (32 : Nat) ∉ tl (wdS w) := fun w hm => by have := wd_free w 32 hm; omega
  induction t with
  | call a =>
    intro h p hp
    simp only [toks, List.mem_cons, List.not_mem_nil, or_false] at hp
    rcases hp with rfl | rfl
    · exact lit (by decide +kernel)
    · exact fun hm => by have := let_free (name_let h).1 32 hm; omega
  | pause n =>
    intro h p hp
    simp only [toks, List.mem_cons, List.not_mem_nil, or_false] at hp
    rcases hp with rfl | rfl
    · exact lit (by decide +kernel)
    · exact num n
  | fail =>
    intro h p hp
    simp only [toks, List.mem_cons, List.not_mem_nil, or_false] at hp
    subst hp
    exact lit (by decide +kernel)
  | hole =>
    intro h p hp
    simp only [toks, List.mem_cons, List.not_mem_nil, or_false] at hp
    subst hp
    exact lit (by decide +kernel)
  | within n t ih =>
    cases n with
    | none =>
      intro h p hp
      simp only [toks, List.mem_cons] at hp
      rcases hp with rfl | rfl | hp
      · exact lit (by decide +kernel)
      · exact lit (by decide +kernel)
      · exact ih h p hp
    | some n =>
      intro h p hp
      simp only [toks, List.mem_cons] at hp
      rcases hp with rfl | rfl | hp
      · exact lit (by decide +kernel)
      · exact num n
      · exact ih (Bool.and_eq_true_iff.mp h).2 p hp
  | retry k n t ih =>
    intro h p hp
    simp only [wf, Bool.and_eq_true] at h
    simp only [toks, List.mem_cons] at hp
    rcases hp with rfl | rfl | rfl | hp
    · exact lit (by decide +kernel)
    · exact num k
    · exact num n
    · exact ih h.2.2.2 p hp
  | pair w a b iha ihb =>
    intro h p hp
    obtain ⟨h1, h2⟩ := Bool.and_eq_true_iff.mp h
    simp only [toks, List.mem_cons, List.mem_append, List.not_mem_nil, or_false] at hp
    rcases hp with rfl | hp | rfl | hp | rfl
    · exact lit (by decide +kernel)
    · exact iha h1 p hp
    · exact wd w
    · exact ihb h2 p hp
    · exact lit (by decide +kernel)
theorem words_txt {t : Tr} (h : wf t = true) : wordsIn (txt t) = toks t := by
  rw [words_spl, spc_txt h, TL.spl_join (s := 32) (S := []) (by simpa using toks_ne t) (fun p hp => by
    obtain ⟨q, hq, rfl⟩ := List.mem_map.mp hp
    exact tok_free h q hq), List.map_map]
  have e : (SX.S ∘ tl) = (id : Str → Str) := by
    funext x
    exact SX.S_tl x
  rw [e, List.map_id]
/-! ### numbers -/
def isDig (w : Str) : Bool := (tl w).all fun c => decide (48 ≤ c) && decide (c ≤ 57)
def valOf (w : Str) : Nat := NumText.digitsVal (tl w)
def numW (w : Str) (l m : Nat) : Option Nat :=
  if w = "" ∨ w.length > 10 ∨ isDig w = false then none
  else if (tl w).head? = some 48 ∧ w ≠ "0" then none
  else if l ≤ valOf w ∧ valOf w ≤ m then some (valOf w) else none
theorem dig_all {w : Str} (h : isDig w = true) : NumText.AllDigits (tl w) := fun c hc => by simpa using List.all_eq_true.mp h c hc
theorem ne_tl {w : Str} (h : w ≠ "") : tl w ≠ [] := fun e => h (TL.ext_tl (e.trans (by decide +kernel)))
theorem int_dig {w : Str} (h : isDig w = true) (h1 : w ≠ "") (h2 : w.length ≤ 10) : PySem.intText? w = some (valOf w : Int) := by
  have e := SX.int_S (a := tl w) h (ne_tl h1) (by rw [TL.len_tl] at h2; show (TL.tl w).length ≤ 4300; omega)
  rw [SX.S_tl] at e
  exact e
theorem numL_head : ∀ n : Nat, 0 < n → (TL.numL n).head? ≠ some 48 := by
  intro n
  induction n using Nat.strongRecOn with
  | _ n ih =>
    intro h0
    by_cases h : n < 10
    · rw [TL.numL_lt h]
      simp
      omega
    · rw [TL.numL_step (by omega)]
      have hd := ih (n / 10) (by omega) (by omega)
      have hne := TL.numL_ne (n / 10)
      cases e : TL.numL (n / 10) with
      | nil => exact absurd e hne
      | cons c r =>
        rw [e] at hd
        simpa using hd
theorem numS_ne (n : Nat) : numS n ≠ "" := fun e => by
  have := TL.numL_ne n
  rw [← tl_numS, e] at this
  exact this (by decide +kernel)
theorem numS_dig (n : Nat) : isDig (numS n) = true := by
  unfold isDig
  rw [tl_numS]
  exact List.all_eq_true.mpr fun c hc => by simpa using num_free n c hc
theorem numS_val (n : Nat) : valOf (numS n) = n := by
  unfold valOf
  rw [tl_numS]
  exact TL.numL_val n
theorem numS_len {n : Nat} (h : n ≤ maxN) : (numS n).length ≤ 10 := by
  rw [TL.len_tl]
  show (tl (numS n)).length ≤ 10
  rw [tl_numS]
  exact TL.numL_len (by decide) (by unfold maxN at h; omega)
theorem numW_num {n l m : Nat} (h : n ≤ maxN) (hl : l ≤ n) (hm : n ≤ m) : numW (numS n) l m = some n := by
  unfold numW
  have h1 := numS_len h
  rw [if_neg (by
    rintro (e | e | e)
    · exact numS_ne n e
    · omega
    · rw [numS_dig] at e; cases e), numS_val]
  rw [if_neg, if_pos ⟨hl, hm⟩]
  rintro ⟨h2, h3⟩
  rw [tl_numS] at h2
  rcases Nat.eq_zero_or_pos n with rfl | h0
  · exact h3 (by decide +kernel)
  · exact numL_head n h0 h2
/-! ### reading -/
inductive Kw where
  | open_ | call | pause | fail | hole | within | retry | other
deriving DecidableEq
def kw (w : Str) : Kw :=
  if w = "(" then .open_ else if w = "call" then .call else if w = "pause" then .pause else if w = "fail" then .fail
  else if w = "hole" then .hole else if w = "within" then .within else if w = "retry" then .retry else .other
def wdOf (w : Str) : Option Wd :=
  if w = "then" then some .then_ else if w = "else" then some .else_ else if w = "both" then some .both else if w = "either" then some .either else none
theorem wdOf_S (w : Wd) : wdOf (wdS w) = some w := by cases w <;> decide +kernel
theorem wdOf_eq {x : Str} {w : Wd} (h : wdOf x = some w) : x = wdS w := by
  unfold wdOf at h
  split at h
  · cases h; assumption
  · split at h
    · cases h; assumption
    · split at h
      · cases h; assumption
      · split at h
        · cases h; assumption
        · cases h
inductive PR where
  | out | bad | ok (t : Tr) (r : List Str)
mutual
def pForm : Nat → List Str → PR
  | 0, _ => .out
  | _ + 1, [] => .bad
  | n + 1, w :: r => match kw w with
    | .open_ => pPair n r
    | .call => match r with
      | [] => .bad
      | a :: r => if isName a = true then .ok (.call a) r else .bad
    | .pause => match r with
      | [] => .bad
      | a :: r => match numW a 0 maxN with
        | some v => .ok (.pause v) r
        | none => .bad
    | .fail => .ok .fail r
    | .hole => .ok .hole r
    | .within => match r with
      | [] => .bad
      | a :: r => if a = "?" then match pForm n r with
          | .ok t r => .ok (.within none t) r
          | e => e
        else match numW a 0 maxN with
          | some v => match pForm n r with
            | .ok t r => .ok (.within (some v) t) r
            | e => e
          | none => .bad
    | .retry => match r with
      | [] => .bad
      | a :: r => match numW a 1 8 with
        | none => .bad
        | some k => match r with
          | [] => .bad
          | b :: r => match numW b 0 maxN with
            | none => .bad
            | some v => match pForm n r with
              | .ok t r => .ok (.retry k v t) r
              | e => e
    | .other => .bad
def pPair : Nat → List Str → PR
  | 0, _ => .out
  | n + 1, ws => match pForm n ws with
    | .ok _ [] => .bad
    | .ok a (w :: r) => match wdOf w with
      | none => .bad
      | some wd => match pForm n r with
        | .ok _ [] => .bad
        | .ok b (c :: r) => if c = ")" then .ok (.pair wd a b) r else .bad
        | e => e
    | e => e
end
/-- levels of reading -/
def dp : Tr → Nat
  | .call _ => 1
  | .pause _ => 1
  | .fail => 1
  | .hole => 1
  | .within _ t => dp t + 1
  | .retry _ _ t => dp t + 1
  | .pair _ a b => max (dp a) (dp b) + 2
theorem kw_open : kw "(" = .open_ := by decide +kernel
theorem kw_call : kw "call" = .call := by decide +kernel
theorem kw_pause : kw "pause" = .pause := by decide +kernel
theorem kw_fail : kw "fail" = .fail := by decide +kernel
theorem kw_hole : kw "hole" = .hole := by decide +kernel
theorem kw_within : kw "within" = .within := by decide +kernel
theorem kw_retry : kw "retry" = .retry := by decide +kernel
theorem numS_q (n : Nat) : ¬ numS n = "?" := fun e => by
  have h := numS_dig n
  rw [e] at h
  revert h
  decide +kernel
theorem parse_toks : ∀ (t : Tr) (n : Nat) (r : List Str), wf t = true → dp t ≤ n → pForm n (toks t ++ r) = .ok t r := by
  intro t
  induction t with
  | call a =>
    intro n r h hn
    cases n with
    | zero => simp [dp] at hn
    | succ n =>
      have h' : isName a = true := h
      simp only [toks, List.cons_append, List.nil_append, pForm, kw_call, h', if_true]
  | pause v =>
    intro n r h hn
    cases n with
    | zero => simp [dp] at hn
    | succ n =>
      have h' : v ≤ maxN := of_decide_eq_true h
      simp only [toks, List.cons_append, List.nil_append, pForm, kw_pause, numW_num h' (Nat.zero_le _) h']
  | fail =>
    intro n r h hn
    cases n with
    | zero => simp [dp] at hn
    | succ n => simp only [toks, List.cons_append, List.nil_append, pForm, kw_fail]
  | hole =>
    intro n r h hn
    cases n with
    | zero => simp [dp] at hn
    | succ n => simp only [toks, List.cons_append, List.nil_append, pForm, kw_hole]
  | within v t ih =>
    intro n r h hn
    cases n with
    | zero => simp [dp] at hn
    | succ n =>
      have hd : dp t ≤ n := by simp only [dp] at hn; omega
      cases v with
      | none =>
        simp only [toks, List.cons_append, pForm, kw_within, if_true, ih n r h hd]
      | some v =>
        obtain ⟨h1, h2⟩ := Bool.and_eq_true_iff.mp (show (decide (v ≤ maxN) && wf t) = true from h)
        have h' : v ≤ maxN := of_decide_eq_true h1
        simp only [toks, List.cons_append, pForm, kw_within, if_neg (numS_q v), numW_num h' (Nat.zero_le _) h', ih n r h2 hd]
  | retry k v t ih =>
    intro n r h hn
    cases n with
    | zero => simp [dp] at hn
    | succ n =>
      have hd : dp t ≤ n := by simp only [dp] at hn; omega
      simp only [wf, Bool.and_eq_true, decide_eq_true_eq] at h
      obtain ⟨h1, h2, h3, h4⟩ := h
      have hk : k ≤ maxN := by unfold maxN; omega
      simp only [toks, List.cons_append, pForm, kw_retry, numW_num hk h1 h2, numW_num h3 (Nat.zero_le _) h3, ih n r h4 hd]
  | pair w a b iha ihb =>
    intro n r h hn
    simp only [dp] at hn
    cases n with
    | zero => omega
    | succ n =>
      cases n with
      | zero => omega
      | succ n =>
        obtain ⟨h1, h2⟩ := Bool.and_eq_true_iff.mp h
        have ha := iha n (wdS w :: (toks b ++ (([(")" : Str)] : List Str) ++ r))) h1 (by omega)
        have hb := ihb n ((")" : Str) :: r) h2 (by omega)
        have e : toks (.pair w a b) ++ r = ("(" : Str) :: (toks a ++ wdS w :: (toks b ++ (([(")" : Str)] : List Str) ++ r))) := by
          simp [toks]
        rw [e]
        simp only [pForm, kw_open, pPair, ha, wdOf_S]
        rw [List.singleton_append, hb]
        simp
end DL


set_option Elab.async false
set_option linter.all false
set_option maxRecDepth 100000
set_option maxHeartbeats 1600000
namespace DL
open PySem PySem.Spec PyProof.Rows L2
/-! ### list * n, a new list that stands in M -/
def rdMulM : DR2 := fun x y M Q => match asL M x, y with
  | some xs, .int k => -(2 ^ 63) ≤ k ∧ k < 2 ^ 63 ∧ xs.length * k.toNat ≤ sizeLine ∧ ∀ p, M p = none → Q (.ref p) (updM M p (.lst (List.replicate k.toNat xs).flatten))
  | _, _ => False
theorem do_mulM {X : Cx} {F0 : Hp} : DOp X F0 (binaryOp .Mult) rdMulM := by
  intro pins s σ H x y v u Q I rx ry ⟨dx, dy, M, F, P, l0, g, hx, hy, t, k⟩
  unfold rdMulM at t
  split at t
  · rename_i xs n e1
    cases hy
    obtain ⟨a, vs, rfl, h1, r1⟩ := asL_at g hx e1
    obtain ⟨t1, t2, t3, t4⟩ := t
    refine op_rep pins s σ H _ _ v u Q I rx ry ⟨a, _, vs, rfl, rfl, h1, t1, t2, by rw [r1.len]; exact t3, fun p hp => ?_⟩
    exact k _ _ _ F _ (Le.refl F) (g.newM hp (.lst (r1.rep _))) (.ref p) (t4 p (g.freshM hp))
  · exact t.elim
end DL


set_option Elab.async false
set_option linter.all false
set_option maxRecDepth 100000
set_option maxHeartbeats 1000000
namespace DL
open PySem PySem.Spec PyProof.Rows L2

/-! ### readings, step by step, more of them -/
section
variable {E : DEnds} {ρ : Ro} {M : Store} {Q : D → Store → Prop} {Qb : Bool → Store → Prop} {Qa : List D → Store → Prop} {t u : DTS} {te ta tb : DTE} {tt tu : DTT} {tas : DTA} {x d : D} {i j : Nat} {c f : Str} {R : List D → (Store → Prop) → Store → Prop} {Qr : Ro → Store → Prop} {Qo : Option Int → Store → Prop}
theorem v_raise {W : DWX} (h : W c [] ρ M) : dRaise0 W c E ρ M := h
theorem v_aug {ti : DR2} (h : ρ[i]? = some (some x)) (k : te ρ M fun y M1 => ti x y M1 fun z M2 => E.nx (ρ.set i (some z)) M2) : dAug i te ti E ρ M := by
  simp only [dAug, h]
  exact k
def mFld (c f : Str) (x : D) (M : Store) (Q : D → Store → Prop) : Prop := match asO M c x with
  | some fs => match fs.lookup f with
    | some d => Q d M
    | none => False
  | none => False
theorem v_fld (h : te ρ M fun x M1 => mFld c f x M1 Q) : dFld c f te ρ M Q := h
theorem v_fldO {fs : List (Str × D)} (h : fs.lookup f = some d) (q : Q d M) : mFld c f (.obj c fs) M Q := by
  unfold mFld
  simp only [asO, if_true, h]
  exact q
theorem v_fldR {p : Addr} {fs : List (Str × D)} (hp : M p = some (.ins c fs)) (h : fs.lookup f = some d) (q : Q d M) : mFld c f (.ref p) M Q := by
  unfold mFld
  simp only [asO, hp, if_true, h]
  exact q
def mSet (c f : Str) (x d : D) (M : Store) (K : Store → Prop) : Prop := match x with
  | .ref a => match M a with
    | some (.ins c' fs) => c' = c ∧ fs.length < 1000 ∧ K (updM M a (.ins c (dput f d fs)))
    | _ => False
  | _ => False
theorem v_setFld {to : DTE} (h : te ρ M fun d M1 => to ρ M1 fun x M2 => mSet c f x d M2 (E.nx ρ)) : dSetFld c f to te E ρ M := h
theorem v_set {p : Addr} {fs fs' : List (Str × D)} {K : Store → Prop} (hp : M p = some (.ins c fs)) (hl : fs.length < 1000) (hf : dput f d fs = fs') (k : K (updM M p (.ins c fs'))) : mSet c f (.ref p) d M K := by
  unfold mSet
  simp only [hp, hf]
  exact ⟨trivial, hl, k⟩
theorem v_ok {A : Prop} (h : mOk c f x M) (k : A) : mOk c f x M ∧ A := ⟨h, k⟩
theorem v_okO {fs : List (Str × D)} (h : fs.lookup f = none) : mOk c f (.obj c fs) M := by
  unfold mOk
  simp only [asO, if_true]
  exact h
theorem v_okR {p : Addr} {fs : List (Str × D)} (hp : M p = some (.ins c fs)) (h : fs.lookup f = none) : mOk c f (.ref p) M := by
  unfold mOk
  simp only [asO, hp, if_true]
  exact h
/-! displays and slices -/
theorem ixN_of {n : Nat} {i : Int} (h0 : 0 ≤ i) (h1 : i < n) : ixN n i = some i.toNat := by
  unfold ixN
  rw [if_pos h0, if_pos h1]
theorem v_ix0 {r : List D} (q : Q x M) : rdIx (.tup (x :: r)) (.int 0) M Q := by
  have e : ixN (x :: r).length 0 = some 0 := by simpa using ixN_of (n := (x :: r).length) (i := 0) (by omega) (by simp only [List.length_cons]; omega)
  simp only [rdIx, asS, e, Option.bind_some, List.getElem?_cons_zero]
  exact q
theorem v_ix1 {y : D} {r : List D} (q : Q y M) : rdIx (.tup (x :: y :: r)) (.int 1) M Q := by
  have e : ixN (x :: y :: r).length 1 = some 1 := by simpa using ixN_of (n := (x :: y :: r).length) (i := 1) (by omega) (by simp only [List.length_cons]; omega)
  simp only [rdIx, asS, e, Option.bind_some, List.getElem?_cons_succ, List.getElem?_cons_zero]
  exact q
theorem v_ix2 {y z : D} {r : List D} (q : Q z M) : rdIx (.tup (x :: y :: z :: r)) (.int 2) M Q := by
  have e : ixN (x :: y :: z :: r).length 2 = some 2 := by simpa using ixN_of (n := (x :: y :: z :: r).length) (i := 2) (by omega) (by simp only [List.length_cons]; omega)
  simp only [rdIx, asS, e, Option.bind_some, List.getElem?_cons_succ, List.getElem?_cons_zero]
  exact q
theorem v_ix3 {y z w : D} {r : List D} (q : Q w M) : rdIx (.tup (x :: y :: z :: w :: r)) (.int 3) M Q := by
  have e : ixN (x :: y :: z :: w :: r).length 3 = some 3 := by simpa using ixN_of (n := (x :: y :: z :: w :: r).length) (i := 3) (by omega) (by simp only [List.length_cons]; omega)
  simp only [rdIx, asS, e, Option.bind_some, List.getElem?_cons_succ, List.getElem?_cons_zero]
  exact q
theorem v_lx0 {r : List D} (q : Q x M) : rdIx (.lst (x :: r)) (.int 0) M Q := by
  have e : ixN (x :: r).length 0 = some 0 := by simpa using ixN_of (n := (x :: r).length) (i := 0) (by omega) (by simp only [List.length_cons]; omega)
  simp only [rdIx, asS, asR, asL, e, Option.bind_some, List.getElem?_cons_zero]
  exact q
theorem v_lx1 {y : D} {r : List D} (q : Q y M) : rdIx (.lst (x :: y :: r)) (.int 1) M Q := by
  have e : ixN (x :: y :: r).length 1 = some 1 := by simpa using ixN_of (n := (x :: y :: r).length) (i := 1) (by omega) (by simp only [List.length_cons]; omega)
  simp only [rdIx, asS, asR, asL, e, Option.bind_some, List.getElem?_cons_succ, List.getElem?_cons_zero]
  exact q
theorem v_lx2 {y z : D} {r : List D} (q : Q z M) : rdIx (.lst (x :: y :: z :: r)) (.int 2) M Q := by
  have e : ixN (x :: y :: z :: r).length 2 = some 2 := by simpa using ixN_of (n := (x :: y :: z :: r).length) (i := 2) (by omega) (by simp only [List.length_cons]; omega)
  simp only [rdIx, asS, asR, asL, e, Option.bind_some, List.getElem?_cons_succ, List.getElem?_cons_zero]
  exact q
/-- the last item -/
theorem v_ixL {ds : List D} (h : ds.getLast? = some x) (q : Q x M) : rdIx (.tup ds) (.int (-1)) M Q := by
  obtain ⟨i, rfl⟩ : ∃ i, ds = i ++ [x] := by
    rcases List.eq_nil_or_concat ds with e | ⟨i, y, e⟩
    · rw [e] at h; cases h
    · rw [List.concat_eq_append] at e
      rw [e] at h
      simp at h
      exact ⟨i, by rw [e, h]⟩
  have e : ixN (i ++ [x]).length (-1) = some i.length := by
    rw [List.length_append, List.length_singleton]
    exact ixN_last _
  simp only [rdIx, asS, e, Option.bind_some]
  simp
  exact q
theorem v_slice {tl th : DTO} (h : te ρ M fun x M1 => tl ρ M1 fun l M2 => th ρ M2 fun h M3 => rdSl x l h M3 Q) : dSlice te tl th ρ M Q := h
theorem v_doC {i : Int} (h : Qo (some i) M) : doSome (dC (.int i)) ρ M Qo := h
theorem v_doN (h : Qo none M) : doNone ρ M Qo := h
def mSome (x : D) (M : Store) (Qo : Option Int → Store → Prop) : Prop := match x with
  | .int i => Qo (some i) M
  | _ => False
theorem v_doS (h : te ρ M fun x M1 => mSome x M1 Qo) : doSome te ρ M Qo := h
theorem v_some {i : Int} (h : Qo (some i) M) : mSome (.int i) M Qo := h
theorem cutD_tail (ds : List D) : cutD ds (some 1) none = ds.drop 1 := by
  have e : HT.sIx ds.length 0 (some ((1 : Nat) : Int)) = min 1 ds.length := HT.sIx_nat _ _ _
  have e1 : HT.sIx ds.length 0 (some 1) = min 1 ds.length := e
  unfold cutD
  rw [e1, HT.sIx_none]
  cases ds with
  | nil => rfl
  | cons d ds =>
    have m : min 1 (d :: ds).length = 1 := by rw [List.length_cons]; omega
    rw [m, List.drop_one, List.tail_cons]
    exact List.take_of_length_le (by simp)
theorem v_slT1 {r : List D} (q : Q (.tup r) M) : rdSl (.tup (x :: r)) (some 1) none M Q := by
  show Q (.tup (cutD (x :: r) (some 1) none)) M
  rw [cutD_tail]
  exact q
theorem sIx_neg1 (n : Nat) (h : 1 ≤ n) : HT.sIx n n (some (-1)) = n - 1 := by
  unfold HT.sIx
  simp
  omega
theorem v_slI {ds : List D} (h : ds ≠ []) (q : Q (.tup ds.dropLast) M) : rdSl (.tup ds) none (some (-1)) M Q := by
  show Q (.tup (cutD ds none (some (-1)))) M
  have hl : 1 ≤ ds.length := by
    cases ds with
    | nil => exact absurd rfl h
    | cons d ds => simp
  unfold cutD
  rw [HT.sIx_none, sIx_neg1 _ hl, Nat.sub_zero, List.drop_zero, ← List.dropLast_eq_take]
  exact q
theorem v_neg {n : Int} (q : Q (.int (-n)) M) : dNeg (dC (.int n)) ρ M Q := q
theorem v_lc {ti : DTI} {g : DTG} {vs : List Nat} (h : ti ρ M fun ds L M1 => ∀ p, M1 p = none → dLcLoop L g tt te p (wipeR ρ vs) ds [] M1 fun out M2 => Q (.lst out) M2) : dLc ti g tt te vs ρ M Q := h
def mIt (x : D) (M : Store) (R : List D → (Store → Prop) → Store → Prop) : Prop := match asS M x with
  | some ds => R ds (Held x ds) M
  | none => False
theorem v_item (h : te ρ M fun x M1 => mIt x M1 R) : dItem te ρ M R := h
theorem v_itT {ds : List D} (h : R ds (fun _ => True) M) : mIt (.tup ds) M R := h
theorem v_itL {ds : List D} (h : R ds (fun _ => True) M) : mIt (.lst ds) M R := h
theorem v_itF {ds : List D} (h : R ds (fun _ => True) M) : mIt (.fro ds) M R := h
theorem v_itR {p : Addr} {ds : List D} (hp : M p = some (.lst ds)) (h : R ds (fun M' => M' p = some (.lst ds)) M) : mIt (.ref p) M R := by
  unfold mIt
  simp only [asS, asR, asL, hp]
  exact h
def mSg (x : D) (M : Store) (R : List D → (Store → Prop) → Store → Prop) : Prop := match x with
  | .str z => R (signsD z) (fun _ => True) M
  | _ => False
theorem v_signs (h : te ρ M fun x M1 => mSg x M1 R) : dSigns te ρ M R := h
theorem v_sg {z : Str} (h : R (signsD z) (fun _ => True) M) : mSg (.str z) M R := h
/-! loops over what is known -/
theorem v_loop0 {L : Store → Prop} {g : DTG} {tb : DTS} (hL : L M) (h : E.nx ρ M) : dLoop L g tb [] E ρ M := ⟨hL, h⟩
theorem v_loop {L : Store → Prop} {g : DTG} {tb : DTS} {r : List D} (hL : L M) (h : g d ρ M fun ρ1 M1 => tb { E with nx := fun ρ M => dLoop L g tb r E ρ M, ct := fun ρ M => dLoop L g tb r E ρ M, bk := E.nx } ρ1 M1) : dLoop L g tb (d :: r) E ρ M := ⟨hL, h⟩
theorem v_range1 {n : Int} (h0 : -1000000 ≤ n) (h1 : n ≤ 1000000) (k : R (rangeD 0 n.toNat) (fun _ => True) M) : dRange1 (daCons (dC (.int n)) daNil) ρ M R := by
  simp only [dRange1, daCons, daNil, dC]
  exact ⟨by omega, by omega, k⟩
/-! targets -/
theorem v_tup2 {a b : D} (q : Qr ((ρ.set i (some a)).set j (some b)) M) : dgTup 2 (dgCons (dgName i) (dgCons (dgName j) dgNil)) (.tup [a, b]) ρ M Qr := by
  simp only [dgTup, asS, dgCons, dgName, dgNil, List.length_cons, List.length_nil]
  exact ⟨trivial, q⟩
theorem v_tup3 {a b d : D} {k : Nat} (q : Qr (((ρ.set i (some a)).set j (some b)).set k (some d)) M) : dgTup 3 (dgCons (dgName i) (dgCons (dgName j) (dgCons (dgName k) dgNil))) (.tup [a, b, d]) ρ M Qr := by
  simp only [dgTup, asS, dgCons, dgName, dgNil, List.length_cons, List.length_nil]
  exact ⟨trivial, q⟩
/-! match -/
theorem v_match {cs : List (PtT × DTS)} (h : te ρ M fun d M1 => dCases cs d E ρ M1) : dMatch te cs E ρ M := h
theorem v_caseN {p : PtT} {r : List (PtT × DTS)} (e : ptT p d = some none) (h : dCases r d E ρ M) : dCases ((p, t) :: r) d E ρ M := by
  simp only [dCases, e]
  exact h
theorem v_caseY {p : PtT} {r : List (PtT × DTS)} {bs : List (Nat × D)} (e : ptT p d = some (some bs)) (h : t E (setAll ρ bs) M) : dCases ((p, t) :: r) d E ρ M := by
  simp only [dCases, e]
  exact h
def mCs (o : Option (Option (List (Nat × D)))) (t : DTS) (r : List (PtT × DTS)) (d : D) : DTS := fun E ρ M => match o with
  | none => False
  | some none => dCases r d E ρ M
  | some (some bs) => t E (setAll ρ bs) M
theorem v_case {p : PtT} {r : List (PtT × DTS)} {o : Option (Option (List (Nat × D)))} (e : ptT p d = o) (h : mCs o t r d E ρ M) : dCases ((p, t) :: r) d E ρ M := by
  simp only [dCases, e]
  exact h
theorem v_csN {r : List (PtT × DTS)} (h : dCases r d E ρ M) : mCs (some none) t r d E ρ M := h
theorem v_csY {r : List (PtT × DTS)} {bs : List (Nat × D)} (h : t E (setAll ρ bs) M) : mCs (some (some bs)) t r d E ρ M := h
theorem v_case0 (h : E.nx ρ M) : dCases [] d E ρ M := h
/-! chains -/
def mCh (z : D) (M : Store) (A B : Store → Prop) : Prop := match z with
  | .bl true => A M
  | .bl false => B M
  | _ => False
theorem v_chain {r r' : DR2} {tc : DTE} (h : ta ρ M fun x M1 => tb ρ M1 fun y M2 => r x y M2 fun z M3 => mCh z M3 (fun M4 => tc ρ M4 fun w M5 => r' y w M5 Q) (fun M4 => Q (.bl false) M4)) : dChain r r' ta tb tc ρ M Q := h
theorem v_ch {b : Bool} {A B : Store → Prop} (h : if b = true then A M else B M) : mCh (.bl b) M A B := by
  cases b
  · exact iteF' h
  · exact iteT' h
/-! f'..' -/
theorem v_joined {ts : List DTE} (h : dJs ts Str.empty ρ M fun out M1 => Q (.str out) M1) : dJoined ts ρ M Q := h
theorem v_js1 {ts : List DTE} {a : Str} {Qs : Str → Store → Prop} (h : te ρ M fun x M1 => jsD a x M1 fun a' M2 => dJs ts a' ρ M2 Qs) : dJs (te :: ts) a ρ M Qs := h
theorem v_js0 {a : Str} {Qs : Str → Store → Prop} (h : Qs a M) : dJs [] a ρ M Qs := h
theorem v_jsS {a y : Str} {Qs : Str → Store → Prop} (hl : (a ++ y).length ≤ sizeLine) (h : Qs (a ++ y) M) : jsD a (.str y) M Qs := ⟨hl, h⟩
theorem v_fmt (h : te ρ M fun x M1 => fmtD x M1 Q) : dFmt te ρ M Q := h
theorem v_fmtS {y : Str} (hl : y.length ≤ sizeLine) (q : Q (.str y) M) : fmtD (.str y) M Q := ⟨hl, q⟩
theorem v_fmtI {n : Int} (hl : n.natAbs.log2 < 1920) (q : Q (.str (toString n)) M) : fmtD (.int n) M Q := ⟨hl, q⟩
def catS (ys : List Str) : Str := ys.foldl (· ++ ·) Str.empty
theorem cat_fold : ∀ (ys : List Str) (a : Str), ys.foldl (· ++ ·) a = a ++ catS ys
  | [], a => by
    show a = a ++ Str.empty
    exact TL.ext_tl (by rw [TL.tl_append]; show TL.tl a = TL.tl a ++ []; simp)
  | y :: ys, a => by
    have e1 : catS (y :: ys) = (Str.empty ++ y) ++ catS ys := cat_fold ys (Str.empty ++ y)
    have e2 : Str.empty ++ y = y := TL.ext_tl (by rw [TL.tl_append]; show [] ++ TL.tl y = TL.tl y; simp)
    rw [List.foldl_cons, cat_fold ys (a ++ y), e1, e2]
    exact TL.ext_tl (by rw [TL.tl_append, TL.tl_append, TL.tl_append, TL.tl_append, List.append_assoc])
theorem str_empty (y : Str) : Str.empty ++ y = y := TL.ext_tl (by rw [TL.tl_append]; show [] ++ TL.tl y = TL.tl y; simp)
theorem str_nil (y : Str) : y ++ Str.empty = y := TL.ext_tl (by rw [TL.tl_append]; show TL.tl y ++ [] = TL.tl y; simp)
theorem str_assoc (a b c : Str) : a ++ b ++ c = a ++ (b ++ c) := TL.ext_tl (by simp only [TL.tl_append, List.append_assoc])
theorem len_app (a b : Str) : (a ++ b).length = a.length + b.length := by rw [TL.len_tl, TL.tl_append, List.length_append, ← TL.len_tl, ← TL.len_tl]
theorem catS_cons (y : Str) (ys : List Str) : catS (y :: ys) = y ++ catS ys := by
  show ys.foldl (· ++ ·) (Str.empty ++ y) = _
  rw [cat_fold, str_empty]
end

theorem v_eqS {neg : Bool} {s t : Str} {M : Store} {Q : D → Store → Prop} (q : Q (.bl (neg != decide (s = t))) M) : rdEq neg (.str s) (.str t) M Q := q
theorem s_iteB {c b : Bool} {A B : Prop} (h : c = b) (k : if b = true then A else B) : if c = true then A else B := by rw [h]; exact k
theorem wd_other {s : String} (h : s ≠ "then" ∧ s ≠ "else" ∧ s ≠ "both" ∧ s ≠ "either") (w : Wd) : (wdS w = Str.ofString s) = False := by
  apply eq_false
  intro e
  have k : ∀ a : String, Str.ofString a = Str.ofString s → a = s := fun a e => by
    have e1 := congrArg TL.tl e
    have k : ∀ s : String, TL.tl (Str.ofString s) = s.toList.map Char.toNat := signs_ofString
    rw [k, k] at e1
    have inj : ∀ x y : Char, x.toNat = y.toNat → x = y := fun x y h => Char.ext (UInt32.toNat_inj.mp h)
    have go : ∀ l m : List Char, l.map Char.toNat = m.map Char.toNat → l = m := by
      intro l
      induction l with
      | nil => intro m h; cases m with | nil => rfl | cons y m => cases h
      | cons x l ih =>
        intro m h
        cases m with
        | nil => cases h
        | cons y m =>
          rw [List.map_cons, List.map_cons] at h
          injection h with h1 h2
          rw [inj x y h1, ih m h2]
    exact String.toList_inj.mp (go _ _ e1)
  cases w
  · exact h.1 (k _ e).symm
  · exact h.2.1 (k _ e).symm
  · exact h.2.2.1 (k _ e).symm
  · exact h.2.2.2 (k _ e).symm
theorem wd_within (w : Wd) : (wdS w = Str.ofString "within") = False := wd_other (by decide) w
theorem wd_retry (w : Wd) : (wdS w = Str.ofString "retry") = False := wd_other (by decide) w
theorem wd_call (w : Wd) : (wdS w = Str.ofString "call") = False := wd_other (by decide) w
theorem wd_pause (w : Wd) : (wdS w = Str.ofString "pause") = False := wd_other (by decide) w
theorem wd_fail (w : Wd) : (wdS w = Str.ofString "fail") = False := wd_other (by decide) w
theorem wd_hole (w : Wd) : (wdS w = Str.ofString "hole") = False := wd_other (by decide) w
/-! written texts -/
theorem ofS_eq (a b : String) : (Str.ofString a = Str.ofString b) = (a = b) := by
  apply propext
  refine ⟨fun h => ?_, fun h => by rw [h]⟩
  have e := congrArg TL.tl h
  have k : ∀ s : String, TL.tl (Str.ofString s) = s.toList.map Char.toNat := signs_ofString
  rw [k, k] at e
  have e2 : a.toList = b.toList := by
    have inj : ∀ x y : Char, x.toNat = y.toNat → x = y := fun x y h => Char.ext (UInt32.toNat_inj.mp h)
    have go : ∀ l m : List Char, l.map Char.toNat = m.map Char.toNat → l = m := by
      intro l
      induction l with
      | nil => intro m h; cases m with | nil => rfl | cons y m => cases h
      | cons x l ih =>
        intro m h
        cases m with
        | nil => cases h
        | cons y m =>
          rw [List.map_cons, List.map_cons] at h
          injection h with h1 h2
          rw [inj x y h1, ih m h2]
    exact go _ _ e
  exact String.toList_inj.mp e2
theorem ofS_beq (a b : String) : (Str.ofString a == Str.ofString b) = (a == b) := by
  rw [Bool.eq_iff_iff, beq_iff_eq, beq_iff_eq, ofS_eq]
theorem ofS_dec (a b : String) [h1 : Decidable (Str.ofString a = Str.ofString b)] : decide (Str.ofString a = Str.ofString b) = decide (a = b) := by
  rw [Bool.eq_iff_iff, decide_eq_true_eq, decide_eq_true_eq, ofS_eq]
example : (("call" : Str) = "then") = False := by simp only [ofS_eq, String.reduceEq]
example : decide (("call" : Str) = "then") = false := by simp only [ofS_eq, String.reduceEq, decide_false]
example : List.lookup ("b" : Str) [(("a" : Str), 1), ("b", 2)] = some 2 := by simp only [List.lookup, ofS_beq, String.reduceBEq]
end DL


set_option Elab.async false
set_option linter.all false
set_option maxRecDepth 100000
set_option maxHeartbeats 1000000
namespace DL
open PySem PySem.Spec PyProof.Rows L2

/-! ### plans as data -/
def nodeD : Tr → D
  | .call a => .tup [.str "call", .str a]
  | .pause n => .tup [.str "pause", .int (n : Int)]
  | .fail => .tup [.str "fail"]
  | .hole => .tup [.str "hole"]
  | .within none t => .tup [.str "within", .non, nodeD t]
  | .within (some n) t => .tup [.str "within", .int (n : Int), nodeD t]
  | .retry k n t => .tup [.str "retry", .int (k : Int), .int (n : Int), nodeD t]
  | .pair w a b => .tup [.str (wdS w), nodeD a, nodeD b]
/-- as the laws keep them: the mark is a text -/
def bareD : Tr → D
  | .call a => .tup [.str "call", .str a]
  | .pause n => .tup [.str "pause", .int (n : Int)]
  | .fail => .tup [.str "fail"]
  | .hole => .tup [.str "hole"]
  | .within none t => .tup [.str "within", .str "?", bareD t]
  | .within (some n) t => .tup [.str "within", .int (n : Int), bareD t]
  | .retry k n t => .tup [.str "retry", .int (k : Int), .int (n : Int), bareD t]
  | .pair w a b => .tup [.str (wdS w), bareD a, bareD b]
def dpt : Tr → Nat
  | .within _ t => dpt t + 1
  | .retry _ _ t => dpt t + 1
  | .pair _ a b => max (dpt a) (dpt b) + 1
  | _ => 1
theorem dpt_pos : ∀ t : Tr, 1 ≤ dpt t
  | .call _ => Nat.le_refl _
  | .pause _ => Nat.le_refl _
  | .fail => Nat.le_refl _
  | .hole => Nat.le_refl _
  | .within _ _ => Nat.le_add_left _ _
  | .retry _ _ _ => Nat.le_add_left _ _
  | .pair _ _ _ => Nat.le_add_left _ _
def szC : Tr → Nat
  | .call _ => 1
  | .within _ t => szC t
  | .retry k _ t => k * szC t
  | .pair _ a b => szC a + szC b
  | _ => 0
def szW : Tr → Nat
  | .within _ t => szW t + 1
  | .retry k _ t => k * szW t
  | .pair _ a b => szW a + szW b
  | _ => 0
def szF : Tr → Nat
  | .within _ t => szF t + 1
  | .retry k _ t => k * szF t + 3 * (k - 1)
  | .pair _ a b => szF a + szF b + 1
  | _ => 1
def sz3 (t : Tr) : D := .tup [.int (szC t : Int), .int (szW t : Int), .int (szF t : Int)]
/-- the services of the calls -/
def cl : Tr → List Str
  | .call a => [a]
  | .within _ t => cl t
  | .retry k _ t => (List.replicate k (cl t)).flatten
  | .pair _ a b => cl a ++ cl b
  | _ => []
theorem cl_len : ∀ t : Tr, (cl t).length = szC t
  | .call _ => rfl
  | .pause _ => rfl
  | .fail => rfl
  | .hole => rfl
  | .within _ t => cl_len t
  | .retry k _ t => by simp [cl, szC, cl_len t]
  | .pair _ a b => by simp [cl, szC, cl_len a, cl_len b]
structure OkP (t : Tr) : Prop where
  wf : wf t = true
  dp : dpt t ≤ 120
  len : (txt t).length ≤ 1000000
def planF (t : Tr) : List (Str × D) := [("node", nodeD t), ("text", .str (txt t))]
def planO (t : Tr) : D := .obj "Plan" (planF t)
def strsD (l : List Str) : MO := .lst (l.map .str)
def rdO (ws : List Str) (i : Nat) : MO := .ins "Reader" [("words", .lst (ws.map .str)), ("place", .int (i : Int))]
def sp_is_name : DSp := fun ds M P E => ∃ w : Str, ds = [.str w] ∧ w.length ≤ 1000000 ∧ P (.bl (isName w)) M
def sp_read_number : DSp := fun ds M P E => ∃ (w : Str) (l m : Nat), ds = [.str w, .int (l : Int), .int (m : Int)] ∧ w.length ≤ 1000000 ∧ (∀ v, numW w l m = some v → P (.int (v : Int)) M) ∧ (numW w l m = none → E "InvalidText" [] M)
def sp_Reader_init : DSp := fun ds M P E => ∃ (p : Addr) (x : Str), ds = [.ref p, .str x] ∧ M p = some (.ins "Reader" []) ∧ x.length ≤ 1000000 ∧ P .non (updM M p (rdO (wordsIn x) 0))
def sp_Reader_take : DSp := fun ds M P E => ∃ (p : Addr) (ws : List Str) (i : Nat), ds = [.ref p] ∧ M p = some (rdO ws i) ∧ i ≤ ws.length ∧ (∀ w, ws[i]? = some w → P (.str w) (updM M p (rdO ws (i + 1)))) ∧ (i = ws.length → E "InvalidText" [] (delM M p))
/-- a text that may be compared -/
structure okW (w : Str) : Prop where
  len : w.length ≤ 1000000
  ok : PyData.strOk w = true
def endP (M : Store) (p : Addr) (ws : List Str) (P : D → Store → Prop) (E : DX) (r : PR) : Prop :=
  r ≠ .out ∧ (r = .bad → E "InvalidText" [] (delM M p)) ∧ ∀ t s, r = .ok t s → ∀ j, j ≤ ws.length → ws.drop j = s → P (nodeD t) (updM M p (rdO ws j))
def sp_Reader_form (n : Nat) : DSp := fun ds M P E => ∃ (p : Addr) (ws : List Str) (i : Nat), ds = [.ref p] ∧ M p = some (rdO ws i) ∧ i ≤ ws.length ∧ (∀ w ∈ ws, okW w) ∧ endP M p ws P E (pForm n (ws.drop i))
def sp_Reader_pair (n : Nat) : DSp := fun ds M P E => ∃ (p : Addr) (ws : List Str) (i : Nat), ds = [.ref p] ∧ M p = some (rdO ws i) ∧ i ≤ ws.length ∧ (∀ w ∈ ws, okW w) ∧ endP M p ws P E (pPair n (ws.drop i))
def sp_text_of (n : Nat) : DSp := fun ds M P E => ∃ t : Tr, ds = [nodeD t] ∧ dpt t ≤ n ∧ wf t = true ∧ (txt t).length ≤ 1000000 ∧ P (.str (txt t)) M
def sp_size_of (n : Nat) : DSp := fun ds M P E => ∃ t : Tr, ds = [nodeD t] ∧ dpt t ≤ n ∧ wf t = true ∧ P (sz3 t) M
def sp_calls_of (n : Nat) : DSp := fun ds M P E => ∃ t : Tr, ds = [nodeD t] ∧ dpt t ≤ n ∧ wf t = true ∧ szC t ≤ 100000 ∧ ∀ q, M q = none → P (.ref q) (updM M q (strsD (cl t)))
def sp_Plan_init : DSp := fun ds M P E => ∃ (p : Addr) (t : Tr), ds = [.ref p, nodeD t] ∧ M p = some (.ins "Plan" []) ∧ OkP t ∧ P .non (updM M p (.ins "Plan" (planF t)))
def sp_Plan_parse : DSp := fun ds M P E => ∃ x : Str, ds = [.cls "Plan", .str x] ∧ okW x ∧ x.length ≤ 500000 ∧ pForm 120 (wordsIn x) ≠ .out ∧ (pForm 120 (wordsIn x) = .bad → E "InvalidText" [] M) ∧
  ∀ t s, pForm 120 (wordsIn x) = .ok t s → (txt t).length ≤ 1000000 ∧ (txt t = x → P (planO t) M) ∧ (txt t ≠ x → E "InvalidText" [] M)
def sp_Plan_str : DSp := fun ds M P E => ∃ t : Tr, ds = [planO t] ∧ (txt t).length ≤ 1000000 ∧ P (.str (txt t)) M
def sp_Plan_eq : DSp := fun ds M P E => ∃ (t : Tr) (d : D), ds = [planO t, d] ∧ ((∃ u : Tr, d = planO u ∧ P (.bl (decide (txt t = txt u))) M) ∨ ((∃ n, tyD M d = some (.b n)) ∧ P (.bl false) M))
def sp_Plan_size : DSp := fun ds M P E => ∃ t : Tr, ds = [planO t] ∧ OkP t ∧ P (sz3 t) M
def sp_Plan_calls : DSp := fun ds M P E => ∃ t : Tr, ds = [planO t] ∧ OkP t ∧ (8 < szC t → E "TooLarge" [] M) ∧ (szC t ≤ 8 → ∀ q, M q = none → P (.ref q) (updM M q (strsD (cl t))))
/-! of the laws -/
def nd : Tr → Nat
  | .within _ t => nd t + 1
  | .retry _ _ t => nd t + 1
  | .pair _ a b => nd a + nd b + 1
  | _ => 1
theorem wd_len (w : Wd) : (wdS w).length ≤ 6 := by cases w <;> decide +kernel
theorem txt_len : ∀ {t : Tr}, wf t = true → (txt t).length ≤ 24 * nd t
  | .call a, h => by
    have h2 := (name_let h).2.2
    have e : ("call " : Str).length = 5 := by decide +kernel
    simp only [txt, len_app, nd, e]
    omega
  | .pause n, h => by
    have h2 := numS_len (show n ≤ maxN from of_decide_eq_true h)
    have e : ("pause " : Str).length = 6 := by decide +kernel
    simp only [txt, len_app, nd, e]
    omega
  | .fail, h => by
    have e : ("fail" : Str).length = 4 := by decide +kernel
    simp only [txt, nd, e]
    omega
  | .hole, h => by
    have e : ("hole" : Str).length = 4 := by decide +kernel
    simp only [txt, nd, e]
    omega
  | .within none t, h => by
    have ih := txt_len (t := t) h
    have e : ("within ? " : Str).length = 9 := by decide +kernel
    simp only [txt, len_app, nd, e]
    omega
  | .within (some n) t, h => by
    obtain ⟨h1, h3⟩ := Bool.and_eq_true_iff.mp (show (decide (n ≤ maxN) && wf t) = true from h)
    have h2 := numS_len (of_decide_eq_true h1)
    have ih := txt_len h3
    have e : ("within " : Str).length = 7 := by decide +kernel
    have e2 : (" " : Str).length = 1 := by decide +kernel
    simp only [txt, len_app, nd, e, e2]
    omega
  | .retry k n t, h => by
    simp only [wf, Bool.and_eq_true, decide_eq_true_eq] at h
    obtain ⟨h1, h2, h3, h4⟩ := h
    have h5 := numS_len h3
    have h6 : (numS k).length ≤ 1 := by
      rw [TL.len_tl]
      show (tl (numS k)).length ≤ 1
      rw [tl_numS]
      exact TL.numL_len (by decide) (by omega)
    have ih := txt_len h4
    have e : ("retry " : Str).length = 6 := by decide +kernel
    have e2 : (" " : Str).length = 1 := by decide +kernel
    simp only [txt, len_app, nd, e, e2]
    omega
  | .pair w a b, h => by
    obtain ⟨h1, h2⟩ := Bool.and_eq_true_iff.mp h
    have ia := txt_len h1
    have ib := txt_len h2
    have hw := wd_len w
    have e : ("(" : Str).length = 1 := by decide +kernel
    have e1 : (")" : Str).length = 1 := by decide +kernel
    have e2 : (" " : Str).length = 1 := by decide +kernel
    simp only [txt, len_app, nd, e, e1, e2]
    omega
/-- what pForm reads is well formed -/
theorem num_le {w : Str} {l m v : Nat} (h : numW w l m = some v) : l ≤ v ∧ v ≤ m := by
  unfold numW at h
  split at h
  · cases h
  · split at h
    · cases h
    · split at h
      · cases h; assumption
      · cases h
theorem pForm_wf : ∀ n : Nat, (∀ ws t r, pForm n ws = .ok t r → wf t = true ∧ dpt t ≤ n ∧ ∃ j, j ≤ ws.length ∧ ws.drop j = r) ∧ (∀ ws t r, pPair n ws = .ok t r → wf t = true ∧ dpt t ≤ n ∧ ∃ j, j ≤ ws.length ∧ ws.drop j = r) := by
  intro n
  induction n with
  | zero => exact ⟨fun ws t r h => (by simp [pForm] at h), fun ws t r h => (by simp [pPair] at h)⟩
  | succ n ih =>
    obtain ⟨ihf, ihp⟩ := ih
    refine ⟨fun ws t r h => ?_, fun ws t r h => ?_⟩
    · cases ws with
      | nil => simp [pForm] at h
      | cons w ws =>
        simp only [pForm] at h
        cases hk : kw w with
        | open_ =>
          simp only [hk] at h
          obtain ⟨h1, h2, j, h3, h4⟩ := ihp _ _ _ h
          exact ⟨h1, by omega, j + 1, by simp; omega, by simpa using h4⟩
        | call =>
          simp only [hk] at h
          cases ws with
          | nil => cases h
          | cons a ws =>
            simp only at h
            split at h
            · rename_i hn
              cases h
              exact ⟨hn, by simp [dpt], 2, by simp, by simp⟩
            · cases h
        | pause =>
          simp only [hk] at h
          cases ws with
          | nil => cases h
          | cons a ws =>
            simp only at h
            split at h
            · rename_i v hv
              cases h
              exact ⟨decide_eq_true (num_le hv).2, by simp [dpt], 2, by simp, by simp⟩
            · cases h
        | fail =>
          simp only [hk] at h
          cases h
          exact ⟨rfl, by simp [dpt], 1, by simp, by simp⟩
        | hole =>
          simp only [hk] at h
          cases h
          exact ⟨rfl, by simp [dpt], 1, by simp, by simp⟩
        | within =>
          simp only [hk] at h
          cases ws with
          | nil => cases h
          | cons a ws =>
            simp only at h
            split at h
            · split at h
              · rename_i t' r' e
                cases h
                obtain ⟨h1, h2, j, h3, h4⟩ := ihf _ _ _ e
                exact ⟨h1, by simp only [dpt]; omega, j + 2, by simp; omega, by simpa using h4⟩
              · exact absurd h (by rename_i hne; intro e; exact hne _ _ e)
            · split at h
              · rename_i v hv
                split at h
                · rename_i t' r' e
                  cases h
                  obtain ⟨h1, h2, j, h3, h4⟩ := ihf _ _ _ e
                  exact ⟨by simp only [wf, h1, Bool.and_true, decide_eq_true_eq]; exact (num_le hv).2, by simp only [dpt]; omega, j + 2, by simp; omega, by simpa using h4⟩
                · exact absurd h (by rename_i hne; intro e; exact hne _ _ e)
              · cases h
        | retry =>
          simp only [hk] at h
          cases ws with
          | nil => cases h
          | cons a ws =>
            simp only at h
            split at h
            · cases h
            · rename_i k hk2
              cases ws with
              | nil => cases h
              | cons b ws =>
                simp only at h
                split at h
                · cases h
                · rename_i v hv
                  split at h
                  · rename_i t' r' e
                    cases h
                    obtain ⟨h1, h2, j, h3, h4⟩ := ihf _ _ _ e
                    exact ⟨by simp only [wf, h1, Bool.and_true, Bool.and_eq_true, decide_eq_true_eq]; exact ⟨(num_le hk2).1, (num_le hk2).2, (num_le hv).2⟩, by simp only [dpt]; omega, j + 3, by simp; omega, by simpa using h4⟩
                  · exact absurd h (by rename_i hne; intro e; exact hne _ _ e)
        | other =>
          simp only [hk] at h
          cases h
    · simp only [pPair] at h
      split at h
      · cases h
      · rename_i a w r1 e1
        obtain ⟨h1, h2, j, h3, h4⟩ := ihf _ _ _ e1
        split at h
        · cases h
        · rename_i wd hw
          split at h
          · cases h
          · rename_i b c r2 e2
            obtain ⟨k1, k2, i, k3, k4⟩ := ihf _ _ _ e2
            split at h
            · cases h
              have hl : j + 1 ≤ ws.length := by
                have := congrArg List.length h4
                rw [List.length_drop, List.length_cons] at this
                omega
              have h5 : ws.drop (j + 1) = r1 := by
                rw [← List.drop_drop, h4]
                simp
              have hl2 : j + 1 + i + 1 ≤ ws.length := by
                have a1 := congrArg List.length k4
                rw [List.length_drop, List.length_cons] at a1
                have a2 := congrArg List.length h5
                rw [List.length_drop] at a2
                omega
              have h6 : ws.drop (j + 1 + i + 1) = r := by
                have : ws.drop (j + 1 + i) = c :: r := by rw [← List.drop_drop, h5, k4]
                rw [← List.drop_drop, this]
                simp
              rename_i hc
              refine ⟨by simp only [wf, h1, k1, Bool.and_self], by simp only [dpt]; omega, j + 1 + i + 1, hl2, ?_⟩
              simpa using h6
            · cases h
          · exact absurd h (by rename_i h7 h8; intro e; rename_i r3; cases r with | nil => exact h7 _ e | cons c r => exact h8 _ _ _ e)
      · exact absurd h (by rename_i h7 h8; intro e; cases r with | nil => exact h7 _ e | cons c r => exact h8 _ _ _ e)
end DL


set_option Elab.async false
set_option linter.all false
set_option maxRecDepth 100000
set_option maxHeartbeats 1000000
namespace DL
open PySem PySem.Spec PyProof.Rows L2

/-! ### steps found by their heads -/
class Sp (G : Prop) (G' : outParam Prop) : Prop where
  h : G' → G
class SlotAt (ρ : Ro) (i : Nat) (d : outParam D) : Prop where
  h : ρ[i]? = some (some d)
instance {d : D} {r : Ro} : SlotAt (some d :: r) 0 d := ⟨rfl⟩
instance {x : Option D} {d : D} {r : Ro} {i : Nat} [k : SlotAt r i d] : SlotAt (x :: r) (i + 1) d := ⟨by rw [List.getElem?_cons_succ]; exact k.h⟩
class SetN (ρ : Ro) (i : Nat) (d : Option D) (ρ' : outParam Ro) : Prop where
  h : ρ.set i d = ρ'
instance {x d : Option D} {r : Ro} : SetN (x :: r) 0 d (d :: r) := ⟨rfl⟩
instance {x d : Option D} {r r' : Ro} {i : Nat} [k : SetN r i d r'] : SetN (x :: r) (i + 1) d (x :: r') := ⟨by rw [List.set_cons_succ, k.h]⟩
class SetA (ρ : Ro) (bs : List (Nat × D)) (ρ' : outParam Ro) : Prop where
  h : setAll ρ bs = ρ'
instance {ρ : Ro} : SetA ρ [] ρ := ⟨rfl⟩
instance {ρ ρ1 ρ2 : Ro} {i : Nat} {d : D} {r : List (Nat × D)} [k : SetN ρ i (some d) ρ1] [l : SetA ρ1 r ρ2] : SetA ρ ((i, d) :: r) ρ2 := ⟨by rw [setAll, k.h, l.h]⟩
class Wip (ρ : Ro) (vs : List Nat) (ρ' : outParam Ro) : Prop where
  h : wipeR ρ vs = ρ'
instance {ρ : Ro} : Wip ρ [] ρ := ⟨rfl⟩
instance {ρ ρ1 ρ2 : Ro} {i : Nat} {r : List Nat} [k : Wip ρ r ρ1] [l : SetN ρ1 i none ρ2] : Wip ρ (i :: r) ρ2 := ⟨by rw [wipeR, k.h, l.h]⟩
class LenLe (ds : List D) (n : Nat) : Prop where
  h : ds.length ≤ n
instance {n : Nat} : LenLe [] n := ⟨Nat.zero_le _⟩
instance {d : D} {r : List D} {n : Nat} [k : LenLe r n] : LenLe (d :: r) (n + 1) := ⟨by rw [List.length_cons]; exact Nat.succ_le_succ k.h⟩
class LenS (ds : List D) (n : Nat) : Prop where
  h : ds.length = n
instance : LenS [] 0 := ⟨rfl⟩
instance {d : D} {r : List D} {n : Nat} [k : LenS r n] : LenS (d :: r) (n + 1) := ⟨by rw [List.length_cons, k.h]⟩
class Nth (ds : List D) (n : Nat) (d : outParam D) : Prop where
  h : ds[n]? = some d
instance {d : D} {r : List D} : Nth (d :: r) 0 d := ⟨rfl⟩
instance {x d : D} {r : List D} {n : Nat} [k : Nth r n d] : Nth (x :: r) (n + 1) d := ⟨by rw [List.getElem?_cons_succ]; exact k.h⟩
/-- what stands at an address -/
class At (M : Store) (p : Addr) (m : outParam MO) : Prop where
  h : M p = some m
class Apart (p q : Addr) : Prop where
  h : p ≠ q
instance At.top {M : Store} {p : Addr} {m : MO} : At (updM M p m) p m := ⟨updM_same⟩
instance (priority := low) At.below {M : Store} {p q : Addr} {m n : MO} [k : At M p m] [a : Apart p q] : At (updM M q n) p m := ⟨(updM_ne a.h).trans k.h⟩
section
variable {E : DEnds} {ρ ρ' ρ1 ρ2 : Ro} {M : Store} {Q : D → Store → Prop} {Qb : Bool → Store → Prop} {Qa : List D → Store → Prop} {Qr : Ro → Store → Prop} {Qo : Option Int → Store → Prop} {R : List D → (Store → Prop) → Store → Prop} {t u : DTS} {te ta tb tc : DTE} {tt tu : DTT} {tas : DTA} {g : DTG} {gs : DTGs} {x y d : D} {i j : Nat} {c f : Str} {sp : DSp} {W : DWX} {dfl : List D} {rd r r' : DR2} {tr : DTr} {rc : DCl} {ti : DTI}
instance : Sp (dSeq t u E ρ M) (t { E with nx := u E } ρ M) := ⟨fun h => h⟩
instance : Sp (dAsg te g E ρ M) (te ρ M fun x M1 => g x ρ M1 E.nx) := ⟨fun h => h⟩
instance [k : SetN ρ i (some x) ρ'] : Sp (dgName i x ρ M Qr) (Qr ρ' M) := ⟨fun h => by show Qr (ρ.set i (some x)) M; rw [k.h]; exact h⟩
instance : Sp (dNext E ρ M) (E.nx ρ M) := ⟨fun h => h⟩
instance : Sp (dRet te E ρ M) (te ρ M E.rt) := ⟨fun h => h⟩
instance : Sp (dRetN E ρ M) (E.rt .non M) := ⟨fun h => h⟩
instance : Sp (dDrop te E ρ M) (te ρ M fun _ M1 => E.nx ρ M1) := ⟨fun h => h⟩
instance : Sp (dBreak E ρ M) (E.bk ρ M) := ⟨fun h => h⟩
instance : Sp (dCont E ρ M) (E.ct ρ M) := ⟨fun h => h⟩
instance : Sp (dFor ti g t E ρ M) (ti ρ M fun ds L M1 => dLoop L g t ds E ρ M1) := ⟨fun h => h⟩
instance {cs : List (PtT × DTS)} : Sp (dMatch te cs E ρ M) (te ρ M fun d M1 => dCases cs d E ρ M1) := ⟨fun h => h⟩
instance : Sp (dCases [] d E ρ M) (E.nx ρ M) := ⟨fun h => h⟩
instance {cs : List (PtT × DTS)} : Sp (mCs (some none) t cs d E ρ M) (dCases cs d E ρ M) := ⟨fun h => h⟩
instance {cs : List (PtT × DTS)} {bs : List (Nat × D)} [k : SetA ρ bs ρ'] : Sp (mCs (some (some bs)) t cs d E ρ M) (t E ρ' M) := ⟨fun h => by show t E (setAll ρ bs) M; rw [k.h]; exact h⟩
instance : Sp (dRaise0 W c E ρ M) (W c [] ρ M) := ⟨fun h => h⟩
instance : Sp (dAnd tt tu ρ M Qb) (tt ρ M fun b M1 => if b = true then tu ρ M1 Qb else Qb false M1) := ⟨fun h => h⟩
instance : Sp (dOr tt tu ρ M Qb) (tt ρ M fun b M1 => if b = true then Qb true M1 else tu ρ M1 Qb) := ⟨fun h => h⟩
instance : Sp (dNot tt ρ M Qb) (tt ρ M fun b M1 => Qb (!b) M1) := ⟨fun h => h⟩
instance : Sp (dB te ρ M Qb) (te ρ M fun x M1 => mB x M1 Qb) := ⟨fun h => h⟩
instance {b : Bool} : Sp (mB (.bl b) M Qb) (Qb b M) := ⟨fun h => h⟩
instance : Sp (dTr tr te ρ M Qb) (te ρ M fun x M1 => tr x M1 Qb) := ⟨fun h => h⟩
instance {b : Bool} : Sp (trP (.bl b) M Qb) (Qb b M) := ⟨fun h => h⟩
instance : Sp (trP .non M Qb) (Qb false M) := ⟨fun h => h⟩
instance {ds : List D} : Sp (trP (.tup (x :: ds)) M Qb) (Qb true M) := ⟨fun h => h⟩
instance : Sp (dOp rd ta tb ρ M Q) (ta ρ M fun x M1 => tb ρ M1 fun y M2 => rd x y M2 Q) := ⟨fun h => h⟩
instance : Sp (dC x ρ M Q) (Q x M) := ⟨fun h => h⟩
instance [k : SlotAt ρ i d] : Sp (dVar i ρ M Q) (Q d M) := ⟨fun h => s_var k.h h⟩
instance : Sp (dIfE tt ta tb ρ M Q) (tt ρ M fun b M1 => if b = true then ta ρ M1 Q else tb ρ M1 Q) := ⟨fun h => h⟩
instance : Sp (dAndV tr ta tb ρ M Q) (ta ρ M fun x M1 => tr x M1 fun b M2 => if b = true then tb ρ M2 Q else Q x M2) := ⟨fun h => h⟩
instance : Sp (dOrV tr ta tb ρ M Q) (ta ρ M fun x M1 => tr x M1 fun b M2 => if b = true then Q x M2 else tb ρ M2 Q) := ⟨fun h => h⟩
instance : Sp (dNotV tr ta ρ M Q) (ta ρ M fun x M1 => tr x M1 fun b M2 => Q (.bl (!b)) M2) := ⟨fun h => h⟩
instance : Sp (dB1 rc tas ρ M Q) (tas ρ M fun ds M1 => rc ds M1 Q) := ⟨fun h => h⟩
instance : Sp (daCons ta tas ρ M Qa) (ta ρ M fun x M1 => tas ρ M1 fun xs M2 => Qa (x :: xs) M2) := ⟨fun h => h⟩
instance : Sp (daNil ρ M Qa) (Qa [] M) := ⟨fun h => h⟩
def mShort (ds : List D) (A : Prop) : Prop := ds.length ≤ sizeLine ∧ A
instance {ds : List D} {A : Prop} [k : LenLe ds 100] : Sp (mShort ds A) A := ⟨fun h => ⟨Nat.le_trans k.h (by rw [sizeLine_eq]; decide), h⟩⟩
instance : Sp (dTup tas ρ M Q) (tas ρ M fun ds M1 => mShort ds (Q (.tup ds) M1)) := ⟨fun h => h⟩
instance : Sp (dLst tas ρ M Q) (tas ρ M fun ds M1 => mShort ds (Q (.lst ds) M1)) := ⟨fun h => h⟩
instance : Sp (dLstM tas ρ M Q) (tas ρ M fun ds M1 => mShort ds (∀ p, M1 p = none → Q (.ref p) (updM M1 p (.lst ds)))) := ⟨fun h => h⟩
instance : Sp (dCall sp W dfl tas ρ M Q) (tas ρ M fun ds M1 => sp (ds ++ dfl) M1 Q fun c fs M2 => W c fs ρ M2) := ⟨fun h => h⟩
def mMeth (c f : Str) (x : D) (M : Store) (A : Prop) : Prop := mOk c f x M ∧ A
instance : Sp (dMeth c f sp W dfl te tas ρ M Q) (te ρ M fun x M1 => mMeth c f x M1 (tas ρ M1 fun ds M2 => sp (x :: (ds ++ dfl)) M2 Q fun c fs M3 => W c fs ρ M3)) := ⟨fun h => h⟩
instance : Sp (dCMeth c sp W tas ρ M Q) (tas ρ M fun ds M1 => sp (.cls c :: ds) M1 Q fun c fs M2 => W c fs ρ M2) := ⟨fun h => h⟩
def mPar (i j : Nat) (x y : D) (E : DEnds) (ρ : Ro) (M : Store) : Prop := E.nx ((ρ.set i (some x)).set j (some y)) M
instance : Sp (dPar i j (daCons ta (daCons tb daNil)) E ρ M) (ta ρ M fun x M1 => tb ρ M1 fun y M2 => mPar i j x y E ρ M2) := ⟨fun h => h⟩
instance [k : SetN ρ i (some x) ρ1] [l : SetN ρ1 j (some y) ρ2] : Sp (mPar i j x y E ρ M) (E.nx ρ2 M) := ⟨fun h => by unfold mPar; rw [k.h, l.h]; exact h⟩
/-! literal tests -/
instance {A B : Prop} [inst : Decidable (true = true)] : Sp (@ite Prop (true = true) inst A B) A := ⟨fun h => by simpa using h⟩
instance {A B : Prop} [inst : Decidable (false = true)] : Sp (@ite Prop (false = true) inst A B) B := ⟨fun h => by simpa using h⟩
instance {A B : Prop} [inst : Decidable ((!true) = true)] : Sp (@ite Prop ((!true) = true) inst A B) B := ⟨fun h => by simpa using h⟩
instance {A B : Prop} [inst : Decidable ((!false) = true)] : Sp (@ite Prop ((!false) = true) inst A B) A := ⟨fun h => by simpa using h⟩
/-! values -/
instance {a b : Int} : Sp (rdAdd (.int a) (.int b) M Q) (Q (.int (a + b)) M) := ⟨fun h => h⟩
instance {a b : Int} : Sp (rdSub (.int a) (.int b) M Q) (Q (.int (a - b)) M) := ⟨fun h => s_subI h⟩
instance {p : Int → Int → Bool} {a b : Int} : Sp (rdCmp p (.int a) (.int b) M Q) (Q (.bl (p a b)) M) := ⟨fun h => s_cmpI h⟩
instance {neg : Bool} {a b : Int} : Sp (rdEq neg (.int a) (.int b) M Q) (Q (.bl (neg != decide (a = b))) M) := ⟨fun h => h⟩
instance {neg : Bool} {a b : Str} : Sp (rdEq neg (.str a) (.str b) M Q) (Q (.bl (neg != decide (a = b))) M) := ⟨fun h => h⟩
instance {neg : Bool} {a b : Bool} : Sp (rdEq neg (.bl a) (.bl b) M Q) (Q (.bl (neg != (a == b))) M) := ⟨fun h => s_eqB h⟩
instance {a b : Int} : Sp (rcMin [.int a, .int b] M Q) (Q (.int (min a b)) M) := ⟨fun h => s_minI h⟩
instance {a b : Int} : Sp (rcMax [.int a, .int b] M Q) (Q (.int (max a b)) M) := ⟨fun h => s_maxI h⟩
instance {neg : Bool} : Sp (rdIs neg .non .non M Q) (Q (.bl (neg != true)) M) := ⟨fun h => h⟩
instance {neg : Bool} {n : Int} : Sp (rdIs neg (.int n) .non M Q) (Q (.bl (neg != false)) M) := ⟨fun h => h⟩
instance {neg : Bool} {n : Str} : Sp (rdIs neg (.str n) .non M Q) (Q (.bl (neg != false)) M) := ⟨fun h => h⟩
instance {neg : Bool} {ds : List D} : Sp (rdIs neg (.tup ds) .non M Q) (Q (.bl (neg != false)) M) := ⟨fun h => h⟩
theorem ix_nthT {ds : List D} {n : Nat} (h : ds[n]? = some d) (q : Q d M) : rdIx (.tup ds) (.int (n : Int)) M Q := by
  have hl : n < ds.length := by
    rcases Nat.lt_or_ge n ds.length with h1 | h1
    · exact h1
    · rw [List.getElem?_eq_none_iff.mpr h1] at h; cases h
  have e : ixN ds.length (n : Int) = some n := by
    have := ixN_of (n := ds.length) (i := (n : Int)) (by omega) (by omega)
    simpa using this
  simp only [rdIx, asS, e, Option.bind_some, h]
  exact q
theorem ix_nthL {ds : List D} {n : Nat} (h : ds[n]? = some d) (q : Q d M) : rdIx (.lst ds) (.int (n : Int)) M Q := by
  have hl : n < ds.length := by
    rcases Nat.lt_or_ge n ds.length with h1 | h1
    · exact h1
    · rw [List.getElem?_eq_none_iff.mpr h1] at h; cases h
  have e : ixN ds.length (n : Int) = some n := by
    have := ixN_of (n := ds.length) (i := (n : Int)) (by omega) (by omega)
    simpa using this
  simp only [rdIx, asS, asR, asL, e, Option.bind_some, h]
  exact q
instance {x0 : D} {ds : List D} : Sp (rdIx (.tup (x0 :: ds)) (.int 0) M Q) (Q x0 M) := ⟨fun h => ix_nthT (n := 0) rfl h⟩
instance {x0 : D} {ds : List D} : Sp (rdIx (.lst (x0 :: ds)) (.int 0) M Q) (Q x0 M) := ⟨fun h => ix_nthL (n := 0) rfl h⟩
instance {x0 x1 : D} {ds : List D} : Sp (rdIx (.tup (x0 :: x1 :: ds)) (.int 1) M Q) (Q x1 M) := ⟨fun h => ix_nthT (n := 1) rfl h⟩
instance {x0 x1 : D} {ds : List D} : Sp (rdIx (.lst (x0 :: x1 :: ds)) (.int 1) M Q) (Q x1 M) := ⟨fun h => ix_nthL (n := 1) rfl h⟩
instance {x0 x1 x2 : D} {ds : List D} : Sp (rdIx (.tup (x0 :: x1 :: x2 :: ds)) (.int 2) M Q) (Q x2 M) := ⟨fun h => ix_nthT (n := 2) rfl h⟩
instance {x0 x1 x2 : D} {ds : List D} : Sp (rdIx (.lst (x0 :: x1 :: x2 :: ds)) (.int 2) M Q) (Q x2 M) := ⟨fun h => ix_nthL (n := 2) rfl h⟩
instance {x0 x1 x2 x3 : D} {ds : List D} : Sp (rdIx (.tup (x0 :: x1 :: x2 :: x3 :: ds)) (.int 3) M Q) (Q x3 M) := ⟨fun h => ix_nthT (n := 3) rfl h⟩
instance {x0 x1 x2 x3 : D} {ds : List D} : Sp (rdIx (.lst (x0 :: x1 :: x2 :: x3 :: ds)) (.int 3) M Q) (Q x3 M) := ⟨fun h => ix_nthL (n := 3) rfl h⟩
instance {x0 x1 x2 x3 x4 : D} {ds : List D} : Sp (rdIx (.tup (x0 :: x1 :: x2 :: x3 :: x4 :: ds)) (.int 4) M Q) (Q x4 M) := ⟨fun h => ix_nthT (n := 4) rfl h⟩
instance {x0 x1 x2 x3 x4 : D} {ds : List D} : Sp (rdIx (.lst (x0 :: x1 :: x2 :: x3 :: x4 :: ds)) (.int 4) M Q) (Q x4 M) := ⟨fun h => ix_nthL (n := 4) rfl h⟩
instance {x0 x1 x2 x3 x4 x5 : D} {ds : List D} : Sp (rdIx (.tup (x0 :: x1 :: x2 :: x3 :: x4 :: x5 :: ds)) (.int 5) M Q) (Q x5 M) := ⟨fun h => ix_nthT (n := 5) rfl h⟩
instance {x0 x1 x2 x3 x4 x5 : D} {ds : List D} : Sp (rdIx (.lst (x0 :: x1 :: x2 :: x3 :: x4 :: x5 :: ds)) (.int 5) M Q) (Q x5 M) := ⟨fun h => ix_nthL (n := 5) rfl h⟩
instance {x0 x1 x2 x3 x4 x5 x6 : D} {ds : List D} : Sp (rdIx (.tup (x0 :: x1 :: x2 :: x3 :: x4 :: x5 :: x6 :: ds)) (.int 6) M Q) (Q x6 M) := ⟨fun h => ix_nthT (n := 6) rfl h⟩
instance {x0 x1 x2 x3 x4 x5 x6 : D} {ds : List D} : Sp (rdIx (.lst (x0 :: x1 :: x2 :: x3 :: x4 :: x5 :: x6 :: ds)) (.int 6) M Q) (Q x6 M) := ⟨fun h => ix_nthL (n := 6) rfl h⟩
instance {x0 x1 x2 x3 x4 x5 x6 x7 : D} {ds : List D} : Sp (rdIx (.tup (x0 :: x1 :: x2 :: x3 :: x4 :: x5 :: x6 :: x7 :: ds)) (.int 7) M Q) (Q x7 M) := ⟨fun h => ix_nthT (n := 7) rfl h⟩
instance {x0 x1 x2 x3 x4 x5 x6 x7 : D} {ds : List D} : Sp (rdIx (.lst (x0 :: x1 :: x2 :: x3 :: x4 :: x5 :: x6 :: x7 :: ds)) (.int 7) M Q) (Q x7 M) := ⟨fun h => ix_nthL (n := 7) rfl h⟩
instance {x0 : D} : Sp (rdIx (.tup [x0]) (.int (-1)) M Q) (Q x0 M) := ⟨fun h => v_ixL rfl h⟩
instance {x0 : D} : Sp (rdSl (.tup [x0]) none (some (-1)) M Q) (Q (.tup []) M) := ⟨fun h => v_slI (by simp) h⟩
instance {x0 x1 : D} : Sp (rdIx (.tup [x0, x1]) (.int (-1)) M Q) (Q x1 M) := ⟨fun h => v_ixL rfl h⟩
instance {x0 x1 : D} : Sp (rdSl (.tup [x0, x1]) none (some (-1)) M Q) (Q (.tup [x0]) M) := ⟨fun h => v_slI (by simp) h⟩
instance {x0 x1 x2 : D} : Sp (rdIx (.tup [x0, x1, x2]) (.int (-1)) M Q) (Q x2 M) := ⟨fun h => v_ixL rfl h⟩
instance {x0 x1 x2 : D} : Sp (rdSl (.tup [x0, x1, x2]) none (some (-1)) M Q) (Q (.tup [x0, x1]) M) := ⟨fun h => v_slI (by simp) h⟩
instance {x0 x1 x2 x3 : D} : Sp (rdIx (.tup [x0, x1, x2, x3]) (.int (-1)) M Q) (Q x3 M) := ⟨fun h => v_ixL rfl h⟩
instance {x0 x1 x2 x3 : D} : Sp (rdSl (.tup [x0, x1, x2, x3]) none (some (-1)) M Q) (Q (.tup [x0, x1, x2]) M) := ⟨fun h => v_slI (by simp) h⟩
instance {x0 x1 x2 x3 x4 : D} : Sp (rdIx (.tup [x0, x1, x2, x3, x4]) (.int (-1)) M Q) (Q x4 M) := ⟨fun h => v_ixL rfl h⟩
instance {x0 x1 x2 x3 x4 : D} : Sp (rdSl (.tup [x0, x1, x2, x3, x4]) none (some (-1)) M Q) (Q (.tup [x0, x1, x2, x3]) M) := ⟨fun h => v_slI (by simp) h⟩
instance {n : Int} : Sp (dNeg (dC (.int n)) ρ M Q) (Q (.int (-n)) M) := ⟨fun h => h⟩
/-! fields -/
instance : Sp (dFld c f te ρ M Q) (te ρ M fun x M1 => mFld c f x M1 Q) := ⟨fun h => h⟩
instance {to : DTE} : Sp (dSetFld c f to te E ρ M) (te ρ M fun d M1 => to ρ M1 fun x M2 => mSet c f x d M2 (E.nx ρ)) := ⟨fun h => h⟩
/-! targets -/
instance {ds : List D} {n : Nat} [k : LenS ds n] : Sp (dgTup n gs (.tup ds) ρ M Qr) (gs ds ρ M Qr) := ⟨fun h => by simp only [dgTup, asS]; exact ⟨k.h, h⟩⟩
instance {ds : List D} {n : Nat} [k : LenS ds n] : Sp (dgTup n gs (.lst ds) ρ M Qr) (gs ds ρ M Qr) := ⟨fun h => by simp only [dgTup, asS, asR, asL]; exact ⟨k.h, h⟩⟩
instance {ds : List D} : Sp (dgCons g gs (x :: ds) ρ M Qr) (g x ρ M fun ρ1 M1 => gs ds ρ1 M1 Qr) := ⟨fun h => h⟩
instance : Sp (dgNil [] ρ M Qr) (Qr ρ M) := ⟨fun h => h⟩
/-! slices, walks -/
instance {tl th : DTO} : Sp (dSlice te tl th ρ M Q) (te ρ M fun x M1 => tl ρ M1 fun l M2 => th ρ M2 fun h M3 => rdSl x l h M3 Q) := ⟨fun h => h⟩
instance {n : Int} : Sp (doSome (dC (.int n)) ρ M Qo) (Qo (some n) M) := ⟨fun h => h⟩
instance (priority := low) : Sp (doSome te ρ M Qo) (te ρ M fun x M1 => mSome x M1 Qo) := ⟨fun h => h⟩
instance : Sp (doNone ρ M Qo) (Qo none M) := ⟨fun h => h⟩
instance {n : Int} : Sp (mSome (.int n) M Qo) (Qo (some n) M) := ⟨fun h => h⟩
instance {ds : List D} : Sp (rdSl (.tup (x :: ds)) (some 1) none M Q) (Q (.tup ds) M) := ⟨fun h => v_slT1 h⟩
instance : Sp (dItem te ρ M R) (te ρ M fun x M1 => mIt x M1 R) := ⟨fun h => h⟩
instance {ds : List D} : Sp (mIt (.tup ds) M R) (R ds (fun _ => True) M) := ⟨fun h => h⟩
instance {ds : List D} : Sp (mIt (.lst ds) M R) (R ds (fun _ => True) M) := ⟨fun h => h⟩
instance {ds : List D} : Sp (mIt (.fro ds) M R) (R ds (fun _ => True) M) := ⟨fun h => h⟩
instance {p : Addr} {ds : List D} [k : At M p (.lst ds)] : Sp (mIt (.ref p) M R) (R ds (fun M' => M' p = some (.lst ds)) M) := ⟨fun h => v_itR k.h h⟩
instance : Sp (dSigns te ρ M R) (te ρ M fun x M1 => mSg x M1 R) := ⟨fun h => h⟩
instance {z : Str} : Sp (mSg (.str z) M R) (R (signsD z) (fun _ => True) M) := ⟨fun h => h⟩
instance {vs : List Nat} [k : Wip ρ vs ρ'] : Sp (dLc ti g tt te vs ρ M Q) (ti ρ M fun ds L M1 => ∀ p, M1 p = none → dLcLoop L g tt te p ρ' ds [] M1 fun out M2 => Q (.lst out) M2) := ⟨fun h => by show (ti ρ M fun ds L M1 => ∀ p, M1 p = none → dLcLoop L g tt te p (wipeR ρ vs) ds [] M1 fun out M2 => Q (.lst out) M2); rw [k.h]; exact h⟩
instance : Sp (dYes ρ M Qb) (Qb true M) := ⟨fun h => h⟩
/-! texts -/
instance {ts : List DTE} : Sp (dJoined ts ρ M Q) (dJs ts Str.empty ρ M fun out M1 => Q (.str out) M1) := ⟨fun h => h⟩
instance {ts : List DTE} {a : Str} {Qs : Str → Store → Prop} : Sp (dJs (te :: ts) a ρ M Qs) (te ρ M fun x M1 => jsD a x M1 fun a' M2 => dJs ts a' ρ M2 Qs) := ⟨fun h => h⟩
instance {a : Str} {Qs : Str → Store → Prop} : Sp (dJs [] a ρ M Qs) (Qs a M) := ⟨fun h => h⟩
instance : Sp (dFmt te ρ M Q) (te ρ M fun x M1 => fmtD x M1 Q) := ⟨fun h => h⟩
instance : Sp (dChain r r' ta tb tc ρ M Q) (ta ρ M fun x M1 => tb ρ M1 fun y M2 => r x y M2 fun z M3 => mCh z M3 (fun M4 => tc ρ M4 fun w M5 => r' y w M5 Q) (fun M4 => Q (.bl false) M4)) := ⟨fun h => h⟩
instance {b : Bool} {A B : Store → Prop} : Sp (mCh (.bl b) M A B) (if b = true then A M else B M) := ⟨fun h => v_ch h⟩
def mFrz (x : D) (M : Store) (Q : D → Store → Prop) : Prop := dFrz (fun _ M' Q' => Q' x M') [] M Q
/-! loops over what is known -/
class SpL (G : Prop) (G' : outParam Prop) : Prop where
  h : G' → G
instance {tb : DTS} {ds : List D} : SpL (dLoop (fun _ => True) g tb (d :: ds) E ρ M) (g d ρ M fun ρ1 M1 => tb { E with nx := fun ρ M => dLoop (fun _ => True) g tb ds E ρ M, ct := fun ρ M => dLoop (fun _ => True) g tb ds E ρ M, bk := E.nx } ρ1 M1) := ⟨fun h => ⟨trivial, h⟩⟩
instance {tb : DTS} : SpL (dLoop (fun _ => True) g tb [] E ρ M) (E.nx ρ M) := ⟨fun h => ⟨trivial, h⟩⟩
end
/-! objects of plans -/
instance {t : Tr} {M : Store} {Q : D → Store → Prop} : Sp (mFld "Plan" "node" (planO t) M Q) (Q (nodeD t) M) := ⟨fun h => v_fldO rfl h⟩
instance {t : Tr} {M : Store} {Q : D → Store → Prop} : Sp (mFld "Plan" "text" (planO t) M Q) (Q (.str (txt t)) M) := ⟨fun h => v_fldO (by simp only [planF, List.lookup, ofS_beq, String.reduceBEq]) h⟩
instance {t : Tr} {M : Store} {A : Prop} : Sp (mMeth "Plan" "size" (planO t) M A) A := ⟨fun h => ⟨v_okO (by simp only [planF, List.lookup, ofS_beq, String.reduceBEq]), h⟩⟩
instance {t : Tr} {M : Store} {A : Prop} : Sp (mMeth "Plan" "calls" (planO t) M A) A := ⟨fun h => ⟨v_okO (by simp only [planF, List.lookup, ofS_beq, String.reduceBEq]), h⟩⟩
section
variable {M : Store} {p : Addr} {ws : List Str} {i : Nat} {Q : D → Store → Prop} {A : Prop}
instance [k : At M p (rdO ws i)] : Sp (mFld "Reader" "words" (.ref p) M Q) (Q (.lst (ws.map .str)) M) := ⟨fun h => v_fldR k.h rfl h⟩
instance [k : At M p (rdO ws i)] : Sp (mFld "Reader" "place" (.ref p) M Q) (Q (.int (i : Int)) M) := ⟨fun h => v_fldR k.h (by simp only [List.lookup, ofS_beq, String.reduceBEq]) h⟩
instance [k : At M p (rdO ws i)] : Sp (mMeth "Reader" "take" (.ref p) M A) A := ⟨fun h => ⟨v_okR k.h (by simp only [List.lookup, ofS_beq, String.reduceBEq]), h⟩⟩
instance [k : At M p (rdO ws i)] : Sp (mMeth "Reader" "form" (.ref p) M A) A := ⟨fun h => ⟨v_okR k.h (by simp only [List.lookup, ofS_beq, String.reduceBEq]), h⟩⟩
instance [k : At M p (rdO ws i)] : Sp (mMeth "Reader" "pair" (.ref p) M A) A := ⟨fun h => ⟨v_okR k.h (by simp only [List.lookup, ofS_beq, String.reduceBEq]), h⟩⟩
end
example {E : DEnds} {M : Store} {a b : Int} (h : E.nx [some (.int a), some (.int (a + b))] M) : dSeq (dAsg (dOp rdAdd (dVar 0) (dC (.int b))) (dgName 1)) dNext E [some (.int a), none] M := by
  repeat refine Sp.h ?_
  exact h
end DL


set_option Elab.async false
set_option linter.all false
set_option maxRecDepth 100000
set_option maxHeartbeats 1000000
namespace DL
open PySem PySem.Spec PyProof.Rows L2
theorem toPs_strs : ∀ l : List Str, toPs (l.map .str) = some (l.map .str)
  | [] => rfl
  | x :: l => by rw [List.map_cons, List.map_cons, toPs, toPs_strs l]; rfl
theorem okP_str {w : Str} (h : PyData.strOk w = true) : okP (.str w) := by
  unfold okP SeqAt.shaped
  rw [PyData.canLay0, PyData.depth, h]
  rfl
theorem okP_strs {l : List Str} (h : ∀ w ∈ l, PyData.strOk w = true) : okP (.tuple (l.map .str)) ∧ okP (.list (l.map .str)) := by
  have k : PyData.canLayAll0 (l.map .str) = true ∧ PyData.depthAll (l.map PyData.str) ≤ 1 := by
    induction l with
    | nil => exact ⟨by simp [PyData.canLayAll0], by simp [PyData.depthAll]⟩
    | cons w l ih =>
      obtain ⟨h1, h2⟩ := ih fun z hz => h z (List.mem_cons_of_mem _ hz)
      rw [List.map_cons, PyData.canLayAll0, PyData.depthAll, h1, PyData.canLay0, PyData.depth, h w List.mem_cons_self]
      exact ⟨rfl, by omega⟩
  unfold okP SeqAt.shaped
  rw [PyData.canLay0, PyData.canLay0, PyData.depth, PyData.depth, k.1]
  have := k.2
  simp
  omega
/-- a text among written texts -/
theorem v_inStrs {neg : Bool} {w : Str} {l : List Str} {M : Store} {Q : D → Store → Prop} (hw : okP (.str w)) (hl : okP (.tuple (l.map .str))) (q : Q (.bl (neg != decide (w ∈ l))) M) : rdIn neg (.str w) (.tup (l.map .str)) M Q := by
  have e2 : toPM M (.tup (l.map .str)) = some (.tuple (l.map .str)) := by
    show toP (.tup (l.map .str)) = _
    rw [toP, toPs_strs]
    rfl
  have e1 : toPM M (.str w) = some (.str w) := rfl
  have k : (l.map PyData.str).any (fun z => PyData.eqv z (.str w)) = decide (w ∈ l) := by
    rw [List.any_map, Bool.eq_iff_iff, decide_eq_true_eq, List.any_eq_true]
    constructor
    · rintro ⟨z, hz, e⟩
      have e' : z = w := by simpa [PyData.eqv] using e
      rw [← e']
      exact hz
    · exact fun h => ⟨w, h, by simp [PyData.eqv]⟩
  unfold rdIn
  simp only [e1, e2]
  refine ⟨hw, hl, ?_⟩
  rw [k]
  exact q
/-! nodes as plain data -/
def nodeP : Tr → PyData
  | .call a => .tuple [.str "call", .str a]
  | .pause n => .tuple [.str "pause", .int (n : Int)]
  | .fail => .tuple [.str "fail"]
  | .hole => .tuple [.str "hole"]
  | .within none t => .tuple [.str "within", .none, nodeP t]
  | .within (some n) t => .tuple [.str "within", .int (n : Int), nodeP t]
  | .retry k n t => .tuple [.str "retry", .int (k : Int), .int (n : Int), nodeP t]
  | .pair w a b => .tuple [.str (wdS w), nodeP a, nodeP b]
def bareP : Tr → PyData
  | .call a => .tuple [.str "call", .str a]
  | .pause n => .tuple [.str "pause", .int (n : Int)]
  | .fail => .tuple [.str "fail"]
  | .hole => .tuple [.str "hole"]
  | .within none t => .tuple [.str "within", .str "?", bareP t]
  | .within (some n) t => .tuple [.str "within", .int (n : Int), bareP t]
  | .retry k n t => .tuple [.str "retry", .int (k : Int), .int (n : Int), bareP t]
  | .pair w a b => .tuple [.str (wdS w), bareP a, bareP b]
theorem toP_node : ∀ t : Tr, toP (nodeD t) = some (nodeP t)
  | .call _ => rfl
  | .pause _ => rfl
  | .fail => rfl
  | .hole => rfl
  | .within none t => by simp [nodeD, nodeP, toP, toPs, toP_node t]
  | .within (some _) t => by simp [nodeD, nodeP, toP, toPs, toP_node t]
  | .retry _ _ t => by simp [nodeD, nodeP, toP, toPs, toP_node t]
  | .pair _ a b => by simp [nodeD, nodeP, toP, toPs, toP_node a, toP_node b]
theorem toP_bare : ∀ t : Tr, toP (bareD t) = some (bareP t)
  | .call _ => rfl
  | .pause _ => rfl
  | .fail => rfl
  | .hole => rfl
  | .within none t => by simp [bareD, bareP, toP, toPs, toP_bare t]
  | .within (some _) t => by simp [bareD, bareP, toP, toPs, toP_bare t]
  | .retry _ _ t => by simp [bareD, bareP, toP, toPs, toP_bare t]
  | .pair _ a b => by simp [bareD, bareP, toP, toPs, toP_bare a, toP_bare b]
theorem strOk_tl {a : Str} (h : ∀ c ∈ tl a, c < 1114112) : PyData.strOk a = true := by
  unfold PyData.strOk
  rw [← Array.all_toList, List.all_eq_true]
  exact fun c hc => decide_eq_true (h c hc)
theorem let_ok {a : Str} (h : isLet a = true) : PyData.strOk a = true := strOk_tl fun c hc => by have := let_free h c hc; omega
theorem wd_ok (w : Wd) : PyData.strOk (wdS w) = true := strOk_tl fun c hc => by have := wd_free w c hc; omega
theorem ok_within : PyData.strOk ("within" : Str) = true := by decide +kernel
theorem ok_retry : PyData.strOk ("retry" : Str) = true := by decide +kernel
theorem ok_call : PyData.strOk ("call" : Str) = true := by decide +kernel
theorem ok_pause : PyData.strOk ("pause" : Str) = true := by decide +kernel
theorem ok_fail : PyData.strOk ("fail" : Str) = true := by decide +kernel
theorem ok_hole : PyData.strOk ("hole" : Str) = true := by decide +kernel
theorem ok_q : PyData.strOk ("?" : Str) = true := by decide +kernel
theorem nodeP_ok : ∀ {t : Tr}, wf t = true → PyData.canLay0 (nodeP t) = true
  | .call a, h => by simp [nodeP, PyData.canLay0, PyData.canLayAll0, ok_call, let_ok (name_let h).1]
  | .pause n, h => by simp [nodeP, PyData.canLay0, PyData.canLayAll0, ok_pause]
  | .fail, h => by simp [nodeP, PyData.canLay0, PyData.canLayAll0, ok_fail]
  | .hole, h => by simp [nodeP, PyData.canLay0, PyData.canLayAll0, ok_hole]
  | .within none t, h => by simp [nodeP, PyData.canLay0, PyData.canLayAll0, ok_within, nodeP_ok (t := t) h]
  | .within (some n) t, h => by
    simp only [wf, Bool.and_eq_true] at h
    simp [nodeP, PyData.canLay0, PyData.canLayAll0, ok_within, nodeP_ok h.2]
  | .retry k n t, h => by
    simp only [wf, Bool.and_eq_true] at h
    simp [nodeP, PyData.canLay0, PyData.canLayAll0, ok_retry, nodeP_ok h.2.2.2]
  | .pair w a b, h => by
    simp only [wf, Bool.and_eq_true] at h
    simp [nodeP, PyData.canLay0, PyData.canLayAll0, wd_ok, nodeP_ok h.1, nodeP_ok h.2]
theorem bareP_ok : ∀ {t : Tr}, wf t = true → PyData.canLay0 (bareP t) = true
  | .call a, h => by simp [bareP, PyData.canLay0, PyData.canLayAll0, ok_call, let_ok (name_let h).1]
  | .pause n, h => by simp [bareP, PyData.canLay0, PyData.canLayAll0, ok_pause]
  | .fail, h => by simp [bareP, PyData.canLay0, PyData.canLayAll0, ok_fail]
  | .hole, h => by simp [bareP, PyData.canLay0, PyData.canLayAll0, ok_hole]
  | .within none t, h => by simp [bareP, PyData.canLay0, PyData.canLayAll0, ok_within, ok_q, bareP_ok (t := t) h]
  | .within (some n) t, h => by
    simp only [wf, Bool.and_eq_true] at h
    simp [bareP, PyData.canLay0, PyData.canLayAll0, ok_within, bareP_ok h.2]
  | .retry k n t, h => by
    simp only [wf, Bool.and_eq_true] at h
    simp [bareP, PyData.canLay0, PyData.canLayAll0, ok_retry, bareP_ok h.2.2.2]
  | .pair w a b, h => by
    simp only [wf, Bool.and_eq_true] at h
    simp [bareP, PyData.canLay0, PyData.canLayAll0, wd_ok, bareP_ok h.1, bareP_ok h.2]
theorem nodeP_dp : ∀ t : Tr, PyData.depth (nodeP t) ≤ dpt t + 1
  | .call a => by simp [nodeP, PyData.depth, PyData.depthAll, dpt]
  | .pause n => by simp [nodeP, PyData.depth, PyData.depthAll, dpt]
  | .fail => by simp [nodeP, PyData.depth, PyData.depthAll, dpt]
  | .hole => by simp [nodeP, PyData.depth, PyData.depthAll, dpt]
  | .within none t => by
    have := nodeP_dp t
    simp [nodeP, PyData.depth, PyData.depthAll, dpt]; omega
  | .within (some n) t => by
    have := nodeP_dp t
    simp [nodeP, PyData.depth, PyData.depthAll, dpt]; omega
  | .retry k n t => by
    have := nodeP_dp t
    simp [nodeP, PyData.depth, PyData.depthAll, dpt]; omega
  | .pair w a b => by
    have := nodeP_dp a
    have := nodeP_dp b
    simp [nodeP, PyData.depth, PyData.depthAll, dpt]; omega
theorem bareP_dp : ∀ t : Tr, PyData.depth (bareP t) ≤ dpt t + 1
  | .call a => by simp [bareP, PyData.depth, PyData.depthAll, dpt]
  | .pause n => by simp [bareP, PyData.depth, PyData.depthAll, dpt]
  | .fail => by simp [bareP, PyData.depth, PyData.depthAll, dpt]
  | .hole => by simp [bareP, PyData.depth, PyData.depthAll, dpt]
  | .within none t => by
    have := bareP_dp t
    simp [bareP, PyData.depth, PyData.depthAll, dpt]; omega
  | .within (some n) t => by
    have := bareP_dp t
    simp [bareP, PyData.depth, PyData.depthAll, dpt]; omega
  | .retry k n t => by
    have := bareP_dp t
    simp [bareP, PyData.depth, PyData.depthAll, dpt]; omega
  | .pair w a b => by
    have := bareP_dp a
    have := bareP_dp b
    simp [bareP, PyData.depth, PyData.depthAll, dpt]; omega
theorem okP_node {t : Tr} (h : wf t = true) (d : dpt t ≤ 63) : okP (nodeP t) := by
  have := nodeP_dp t
  unfold okP SeqAt.shaped
  rw [nodeP_ok h, Bool.true_and]
  exact decide_eq_true (by omega)
theorem okP_bare {t : Tr} (h : wf t = true) (d : dpt t ≤ 63) : okP (bareP t) := by
  have := bareP_dp t
  unfold okP SeqAt.shaped
  rw [bareP_ok h, Bool.true_and]
  exact decide_eq_true (by omega)
/-- two data that are compared -/
theorem v_eqT {neg : Bool} {xs ys : List D} {x y : PyData} {M : Store} {Q : D → Store → Prop} {b : Bool} (h1 : toP (.tup xs) = some x) (h2 : toP (.tup ys) = some y) (k1 : okP x) (k2 : okP y) (e : PyData.eqv x y = b) (q : Q (.bl (neg != b)) M) : rdEq neg (.tup xs) (.tup ys) M Q := by
  have e1 : toPM M (.tup xs) = some x := h1
  have e2 : toPM M (.tup ys) = some y := h2
  unfold rdEq
  simp only [e1, e2]
  rw [e]
  exact ⟨k1, k2, q⟩
theorem okP2 {x y : PyData} (h1 : okP x) (h2 : okP y) (d1 : x.depth ≤ 63) (d2 : y.depth ≤ 63) : okP (.tuple [x, y]) := by
  unfold okP SeqAt.shaped at *
  simp only [Bool.and_eq_true, decide_eq_true_eq] at h1 h2
  simp [PyData.canLay0, PyData.canLayAll0, PyData.depth, PyData.depthAll, h1, h2]
  omega
/-! more steps -/
class OkS (w : Str) : Prop where
  h : PyData.strOk w = true
instance : OkS ("within" : Str) := ⟨ok_within⟩
instance : OkS ("retry" : Str) := ⟨ok_retry⟩
instance : OkS ("call" : Str) := ⟨ok_call⟩
instance : OkS ("pause" : Str) := ⟨ok_pause⟩
instance : OkS ("fail" : Str) := ⟨ok_fail⟩
instance : OkS ("hole" : Str) := ⟨ok_hole⟩
instance : OkS ("?" : Str) := ⟨ok_q⟩
instance : OkS ("then" : Str) := ⟨by decide +kernel⟩
instance : OkS ("else" : Str) := ⟨by decide +kernel⟩
instance : OkS ("both" : Str) := ⟨by decide +kernel⟩
instance : OkS ("either" : Str) := ⟨by decide +kernel⟩
instance {w : Wd} : OkS (wdS w) := ⟨wd_ok w⟩
class StrsL (ds : List D) (ws : outParam (List Str)) : Prop where
  e : ds = ws.map .str
  ok : ∀ w ∈ ws, PyData.strOk w = true
instance : StrsL [] [] := ⟨rfl, fun _ h => by cases h⟩
instance {w : Str} {ds : List D} {ws : List Str} [a : OkS w] [k : StrsL ds ws] : StrsL (.str w :: ds) (w :: ws) := ⟨by rw [k.e]; rfl, fun z hz => by
  rcases List.mem_cons.mp hz with rfl | hz
  · exact a.h
  · exact k.ok z hz⟩
section
variable {E : DEnds} {ρ ρ' : Ro} {M : Store} {Q : D → Store → Prop} {Qb : Bool → Store → Prop} {Qr : Ro → Store → Prop} {x y d : D} {p : Addr}
instance {neg : Bool} {w : Str} {ds : List D} {ws : List Str} [a : OkS w] [k : StrsL ds ws] : Sp (rdIn neg (.str w) (.tup ds) M Q) (Q (.bl (neg != decide (w ∈ ws))) M) := ⟨fun h => by rw [k.e]; exact v_inStrs (okP_str a.h) (okP_strs k.ok).1 h⟩
instance {w : Str} : Sp (rcIsi [.str w, .ty "tuple"] M Q) (Q (.bl false) M) := ⟨fun h => by simpa [rcIsi, tyD, isiD, isiB] using h⟩
instance {n : Int} : Sp (rcIsi [.int n, .ty "tuple"] M Q) (Q (.bl false) M) := ⟨fun h => by simpa [rcIsi, tyD, isiD, isiB] using h⟩
instance : Sp (rcIsi [.non, .ty "tuple"] M Q) (Q (.bl false) M) := ⟨fun h => by simpa [rcIsi, tyD, isiD, isiB] using h⟩
theorem v_isiT {ds : List D} (h : Q (.bl true) M) : rcIsi [.tup ds, .ty "tuple"] M Q := by simpa [rcIsi, tyD, isiD, isiB] using h
instance {ds : List D} : Sp (rcIsi [.tup ds, .ty "tuple"] M Q) (Q (.bl true) M) := ⟨v_isiT⟩
theorem node_tup (t : Tr) : ∃ d ds, nodeD t = .tup (d :: ds) := by
  cases t with
  | within o t => cases o <;> exact ⟨_, _, rfl⟩
  | _ => exact ⟨_, _, rfl⟩
theorem bare_tup (t : Tr) : ∃ d ds, bareD t = .tup (d :: ds) := by
  cases t with
  | within o t => cases o <;> exact ⟨_, _, rfl⟩
  | _ => exact ⟨_, _, rfl⟩
instance {t : Tr} : Sp (rcIsi [nodeD t, .ty "tuple"] M Q) (Q (.bl true) M) := ⟨fun h => by obtain ⟨d, ds, e⟩ := node_tup t; rw [e]; exact v_isiT h⟩
instance {t : Tr} : Sp (rcIsi [bareD t, .ty "tuple"] M Q) (Q (.bl true) M) := ⟨fun h => by obtain ⟨d, ds, e⟩ := bare_tup t; rw [e]; exact v_isiT h⟩
theorem cutD_init (ds : List D) : cutD ds none (some 2) = ds.take 2 := by
  have e : HT.sIx ds.length ds.length (some ((2 : Nat) : Int)) = min 2 ds.length := HT.sIx_nat _ _ _
  have e1 : HT.sIx ds.length ds.length (some 2) = min 2 ds.length := e
  unfold cutD
  rw [e1, HT.sIx_none, List.drop_zero, Nat.sub_zero]
  rw [Nat.min_def]
  split
  · rfl
  · rw [List.take_length, List.take_of_length_le (by omega)]
theorem v_slT2 {ds : List D} (q : Q (.tup (ds.take 2)) M) : rdSl (.tup ds) none (some 2) M Q := by
  show Q (.tup (cutD ds none (some 2))) M
  rw [cutD_init]
  exact q
instance {x y : D} {ds : List D} : Sp (rdSl (.tup (x :: y :: ds)) none (some 2) M Q) (Q (.tup [x, y]) M) := ⟨fun h => v_slT2 h⟩
instance {x : D} : Sp (rdSl (.tup [x]) none (some 2) M Q) (Q (.tup [x]) M) := ⟨fun h => v_slT2 h⟩
/-! lists that are built by a comprehension, over what is known -/
class Free (M : Store) (p : Addr) : Prop where
  h : M p = none
class Snoc (a : List D) (y : D) (b : outParam (List D)) : Prop where
  h : a ++ [y] = b
instance : Snoc [] y [y] := ⟨rfl⟩
instance {a b : List D} [k : Snoc a y b] : Snoc (x :: a) y (x :: b) := ⟨by rw [List.cons_append, k.h]⟩
def mLcA (M4 : Store) (p : Addr) (acc : List D) (y : D) (K : List D → Store → Prop) : Prop := ∃ M5, M4 = updM M5 p (.lst acc) ∧ M5 p = none ∧ acc.length < sizeLine ∧ K (acc ++ [y]) M5
def mLcN (M4 : Store) (p : Addr) (acc : List D) (K : Store → Prop) : Prop := ∃ M5, M4 = updM M5 p (.lst acc) ∧ M5 p = none ∧ K M5
instance {acc acc' : List D} {K : List D → Store → Prop} [f : Free M p] [l : LenLe acc 100] [k : Snoc acc y acc'] : Sp (mLcA (updM M p (.lst acc)) p acc y K) (K acc' M) := ⟨fun h => ⟨M, rfl, f.h, Nat.lt_of_le_of_lt l.h (by rw [sizeLine_eq]; decide), by rw [k.h]; exact h⟩⟩
instance {acc : List D} {K : Store → Prop} [f : Free M p] : Sp (mLcN (updM M p (.lst acc)) p acc K) (K M) := ⟨fun h => ⟨M, rfl, f.h, h⟩⟩
instance {g : DTG} {tt : DTT} {te : DTE} {ds acc : List D} {Ql : List D → Store → Prop} : Sp (dLcLoop (fun _ => True) g tt te p ρ (d :: ds) acc M Ql) (g d ρ (updM M p (.lst acc)) fun ρ2 M2 => tt ρ2 M2 fun b M3 => if b = true then te ρ2 M3 fun y M4 => mLcA M4 p acc y (fun acc' M5 => dLcLoop (fun _ => True) g tt te p ρ ds acc' M5 Ql) else mLcN M3 p acc (fun M5 => dLcLoop (fun _ => True) g tt te p ρ ds acc M5 Ql)) := ⟨fun h => ⟨trivial, h⟩⟩
instance {g : DTG} {tt : DTT} {te : DTE} {acc : List D} {Ql : List D → Store → Prop} : Sp (dLcLoop (fun _ => True) g tt te p ρ [] acc M Ql) (Ql acc M) := ⟨fun h => ⟨trivial, h⟩⟩
class IntsL (ds : List D) (ns : outParam (List Int)) : Prop where
  h : ds = ns.map .int
instance : IntsL [] [] := ⟨rfl⟩
instance {n : Int} {ds : List D} {ns : List Int} [k : IntsL ds ns] : IntsL (.int n :: ds) (n :: ns) := ⟨by rw [k.h]; rfl⟩
instance {ds : List D} {ns : List Int} [k : IntsL ds ns] : Sp (rcSum [.lst ds] M Q) (Q (.int ns.sum) M) := ⟨fun h => by simp only [rcSum, asR, asL, k.h, toIs_map]; exact h⟩
instance {ds : List D} : Sp (rcTuple [.lst ds] M Q) (Q (.tup ds) M) := ⟨fun h => h⟩
instance {ds : List D} : Sp (rcTuple [.tup ds] M Q) (Q (.tup ds) M) := ⟨fun h => h⟩
instance {a : Str} : Sp (rcStr [.str a] M Q) (Q (.str a) M) := ⟨fun h => h⟩
theorem v_mulI {i j : Int} (h : -(2 ^ 64) < i ∧ i < 2 ^ 64) (q : Q (.int (i * j)) M) : rdMul (.int i) (.int j) M Q := ⟨.inl (.inl h), q⟩
instance [k : SlotAt ρ i x] {te : DTE} {ti : DR2} : Sp (dAug i te ti E ρ M) (te ρ M fun y M1 => ti x y M1 fun z M2 => dgName i z ρ M2 E.nx) := ⟨fun h => v_aug k.h h⟩
instance {a b : Int} : Sp (rdIAdd (.int a) (.int b) M Q) (Q (.int (a + b)) M) := ⟨fun h => h⟩
end
theorem wd_q (w : Wd) : (wdS w = Str.ofString "?") = False := wd_other (by decide) w
theorem wd_mem (w : Wd) : (wdS w ∈ [("then" : Str), "else", "both", "either"]) = True := eq_true (by cases w <;> simp [wdS])
theorem wd_nmem (w : Wd) : (wdS w ∈ [("within" : Str), "retry"]) = False := by
  rw [eq_iff_iff, iff_false]
  intro h
  simp only [List.mem_cons, List.not_mem_nil, or_false, wd_within, wd_retry] at h
theorem lit_mem (a : String) (l : List Str) : (Str.ofString a ∈ l) = (l.any fun z => decide (Str.ofString a = z)) := by simp
/-! words of a text -/
theorem spl_mem : ∀ (l acc p : List Nat), p ∈ TL.spl [32] 0 acc l → p.length ≤ acc.length + l.length ∧ ∀ c ∈ p, c ∈ acc ∨ c ∈ l
  | [], acc, p, h => by
    rw [TL.spl_nil, List.mem_singleton] at h
    subst h
    exact ⟨Nat.le_refl _, fun c hc => .inl hc⟩
  | c :: r, acc, p, h => by
    by_cases hp : TL.pre [32] (c :: r) = true
    · rw [TL.spl_hit hp] at h
      rcases List.mem_cons.mp h with rfl | h
      · exact ⟨by simp, fun c hc => .inl hc⟩
      · obtain ⟨h1, h2⟩ := spl_mem r [] p h
        refine ⟨by simp at h1 ⊢; omega, fun z hz => ?_⟩
        rcases h2 z hz with h | h
        · cases h
        · exact .inr (List.mem_cons_of_mem _ h)
    · rw [TL.spl_miss (by simpa using hp)] at h
      obtain ⟨h1, h2⟩ := spl_mem r (acc ++ [c]) p h
      refine ⟨by simp at h1 ⊢; omega, fun z hz => ?_⟩
      rcases h2 z hz with h | h
      · rcases List.mem_append.mp h with h | h
        · exact .inl h
        · rw [List.mem_singleton] at h
          exact .inr (by rw [h]; exact List.mem_cons_self)
      · exact .inr (List.mem_cons_of_mem _ h)
theorem spc_mem {c : Nat} {l : List Nat} (h : c ∈ spc l) : c ∈ l ∨ c < 128 := by
  unfold spc at h
  obtain ⟨z, hz, h⟩ := List.mem_flatMap.mp h
  split at h
  · simp at h; omega
  · split at h
    · simp at h; omega
    · rw [List.mem_singleton] at h
      exact .inl (by rw [h]; exact hz)
theorem spc_len2 : ∀ l : List Nat, (spc l).length ≤ 2 * l.length
  | [] => by simp [spc]
  | c :: l => by
    have ih := spc_len2 l
    unfold spc at ih ⊢
    rw [List.flatMap_cons, List.length_append, List.length_cons]
    have : (if c = 40 then [40, 32] else if c = 41 then [32, 41] else [c]).length ≤ 2 := by
      split
      · simp
      · split <;> simp
    omega
theorem words_ok {x : Str} (ok : PyData.strOk x = true) (hl : x.length ≤ 500000) : ∀ w ∈ wordsIn x, okW w := by
  intro w hw
  rw [words_spl] at hw
  obtain ⟨p, hp, rfl⟩ := List.mem_map.mp hw
  obtain ⟨h1, h2⟩ := spl_mem _ _ _ hp
  have h3 := spc_len2 (tl x)
  have e : tl (SX.S p) = p := by simp [tl, SX.S]
  have hx : (tl x).length = x.length := (TL.len_tl x).symm
  have hxc : ∀ c ∈ tl x, c < 1114112 := by
    unfold PyData.strOk at ok
    rw [← Array.all_toList, List.all_eq_true] at ok
    exact fun c hc => of_decide_eq_true (ok c hc)
  refine ⟨?_, strOk_tl fun c hc => ?_⟩
  · rw [TL.len_tl]
    show (tl (SX.S p)).length ≤ _
    rw [e]
    simp at h1
    omega
  · rw [e] at hc
    rcases h2 c hc with h | h
    · cases h
    · rcases spc_mem h with h | h
      · exact hxc c h
      · omega
section
variable {ρ : Ro} {M : Store} {Q : D → Store → Prop} {p : Addr} {c : Str} {ta : DTA} {te : DTE} {W : DWX} {sp : DSp} {dfl : List D} {i : Nat}
def mNew (c : Str) (sp : DSp) (W : DWX) (ds : List D) (ρ : Ro) (M : Store) (Q : D → Store → Prop) : Prop := ∀ p, M p = none → sp (.ref p :: ds) (updM M p (.ins c [])) (fun v M2 => v = .non ∧ Q (.ref p) M2) fun c fs M2 => W c fs ρ M2
instance : Sp (dMakeM c sp W dfl ta ρ M Q) (ta ρ M fun ds M1 => mNew c sp W (ds ++ dfl) ρ M1 Q) := ⟨fun h => h⟩
instance [k : SlotAt ρ i (.cls c)] : Sp (dMakeV i c sp W dfl ta ρ M Q) (dMakeM c sp W dfl ta ρ M Q) := ⟨fun h => ⟨k.h, h⟩⟩
instance : Sp (dFrz te ρ M Q) (te ρ M fun x M1 => mFrz x M1 Q) := ⟨fun h => h⟩
theorem v_frz {fs : List (Str × D)} (hp : M p = some (.ins c fs)) (q : Q (.obj c fs) (delM M p)) : mFrz (.ref p) M Q := by
  unfold mFrz dFrz
  simp only [hp]
  exact q
/-- a plan that is made -/
theorem v_plan {t : Tr} (ok : OkP t) (q : Q (planO t) M) : mNew "Plan" sp_Plan_init W ([nodeD t] ++ []) ρ M fun x M1 => mFrz x M1 Q := by
  intro p hp
  refine ⟨p, t, rfl, updM_same, ok, rfl, ?_⟩
  rw [updM_updM]
  refine v_frz updM_same ?_
  rw [delM_updM hp]
  exact q
end
section
variable {ρ : Ro} {M : Store} {Q : D → Store → Prop} {A : Prop} {a b c y : Str} {to te : DTE}
def mJn (x : D) (A : Prop) : Prop := (∃ a, x = .str a) ∧ A
instance : Sp (dJoin to te ρ M Q) (to ρ M fun x M1 => mJn x (te ρ M1 fun z M2 => rmJoin x z M2 Q)) := ⟨fun h => h⟩
instance : Sp (mJn (.str a) A) A := ⟨fun h => ⟨⟨a, rfl⟩, h⟩⟩
theorem v_join {ys : List Str} (h : (ys.map (·.length)).sum + ys.length * y.length ≤ 16777216) (q : Q (.str (Str.join y ys)) M) : rmJoin (.str y) (.lst (ys.map .str)) M Q := by
  simp only [rmJoin, asS, asR, asL, toSs_map]
  refine ⟨h, ?_⟩
  rw [TL.join_eq]
  exact q
theorem v_join1 (h : a.length + y.length ≤ 16000000) (q : Q (.str a) M) : rmJoin (.str y) (.lst [.str a]) M Q := v_join (ys := [a]) (by simp; omega) q
theorem v_join2 (h : a.length + b.length + 2 * y.length ≤ 16000000) (q : Q (.str (a ++ y ++ b)) M) : rmJoin (.str y) (.lst [.str a, .str b]) M Q := v_join (ys := [a, b]) (by simp; omega) q
theorem v_join3 (h : a.length + b.length + c.length + 3 * y.length ≤ 16000000) (q : Q (.str (a ++ y ++ (b ++ y ++ c))) M) : rmJoin (.str y) (.lst [.str a, .str b, .str c]) M Q := v_join (ys := [a, b, c]) (by simp; omega) q
theorem v_addS {a b : Str} (h : a.length + b.length ≤ 16000000) (q : Q (.str (a ++ b)) M) : rdAdd (.str a) (.str b) M Q := ⟨by rw [sizeLine_eq]; omega, q⟩
theorem v_strI {n : Int} (h : n.natAbs.log2 < 1920) (q : Q (.str (toString n)) M) : rcStr [.int n] M Q := ⟨h, q⟩
end
section
variable {ρ : Ro} {M : Store} {Q : D → Store → Prop} {ta : DTA} {R : List D → (Store → Prop) → Store → Prop}
def mRng (ds : List D) (M : Store) (R : List D → (Store → Prop) → Store → Prop) : Prop := match ds with
  | [.int j] => -(2 ^ 62) ≤ j ∧ j < 2 ^ 62 ∧ R (rangeD 0 j.toNat) (fun _ => True) M
  | _ => False
instance : Sp (dRange1 ta ρ M R) (ta ρ M fun ds M1 => mRng ds M1 R) := ⟨fun h => h⟩
theorem v_rng {n : Int} (h0 : -1000000 ≤ n) (h1 : n ≤ 1000000) (k : R (rangeD 0 n.toNat) (fun _ => True) M) : mRng [.int n] M R := ⟨by omega, by omega, k⟩
/-- a datum that is no text, beside a text -/
theorem v_eqN {neg : Bool} {x : D} {y : PyData} {w : Str} (h1 : toP x = some y) (k1 : okP y) (kw : PyData.strOk w = true) (hx : ∀ s, x ≠ .str s) (e : PyData.eqv y (.str w) = false) (h2 : ∀ p, x ≠ .ref p) (q : Q (.bl (neg != false)) M) : rdEq neg x (.str w) M Q := by
  have e1 : toPM M x = some y := by
    cases x with
    | ref p => exact absurd rfl (h2 p)
    | _ => exact h1
  have e2 : toPM M (.str w) = some (.str w) := rfl
  unfold rdEq
  split
  · rename_i a b ea
    exact absurd rfl (hx a)
  · rename_i ea
    cases ea
  · simp only [e1, e2, e]
    exact ⟨k1, okP_str kw, q⟩
theorem v_eqNi {neg : Bool} {n : Int} {w : Str} [k : OkS w] (q : Q (.bl (neg != false)) M) : rdEq neg (.int n) (.str w) M Q := v_eqN rfl (by unfold okP SeqAt.shaped; simp [PyData.canLay0, PyData.depth]) k.h (fun _ e => by cases e) (by simp [PyData.eqv]) (fun _ e => by cases e) q
instance {neg : Bool} {n : Int} {w : Str} [k : OkS w] : Sp (rdEq neg (.int n) (.str w) M Q) (Q (.bl (neg != false)) M) := ⟨v_eqNi⟩
end
end DL


set_option Elab.async false
set_option linter.all false
set_option maxRecDepth 100000
set_option maxHeartbeats 1000000
namespace DL
open PySem PySem.Spec PyProof.Rows L2
/-! ### what the laws of plans lean on -/
/-- names with at most one sign of the words within, retry -/
def nmOk : Tr → Bool
  | .call a => decide ((tl a).countP (fun c => c == 40 || (c == 119 || c == 121)) ≤ 1)
  | .within _ t => nmOk t
  | .retry _ _ t => nmOk t
  | .pair _ a b => nmOk a && nmOk b
  | _ => true
/-- what is drawn with some room -/
structure drawn (r : Int) (t : Tr) : Prop where
  wf : wf t = true
  dp : (dpt t : Int) ≤ r + 1
  nd : (nd t : Int) + 1 ≤ 3 * r
  nm : nmOk t = true
def cntH : Tr → Nat
  | .hole => 1
  | .within _ t => cntH t
  | .retry _ _ t => cntH t
  | .pair _ a b => cntH a + cntH b
  | _ => 0
def cntQ : Tr → Nat
  | .within none t => cntQ t + 1
  | .within (some _) t => cntQ t
  | .retry _ _ t => cntQ t
  | .pair _ a b => cntQ a + cntQ b
  | _ => 0
def plu (u : Tr) : Tr → Tr
  | .hole => u
  | .within o t => .within o (plu u t)
  | .retry k m t => .retry k m (plu u t)
  | .pair w a b => .pair w (plu u a) (plu u b)
  | t => t
/-- written out -/
def rep (m : Nat) (a : Tr) : Nat → Tr
  | 0 => a
  | i + 1 => .pair .else_ a (.pair .then_ (.pause m) (rep m a i))
def wrt : Tr → Tr
  | .within o t => .within o (wrt t)
  | .retry k m t => rep m (wrt t) (k - 1)
  | .pair w a b => .pair w (wrt a) (wrt b)
  | t => t
def wout : Tr → Tr
  | .hole => .fail
  | .within none t => .within (some 4) (wout t)
  | .within (some n) t => .within (some n) (wout t)
  | .retry k m t => .retry k m (wout t)
  | .pair w a b => .pair w (wout a) (wout b)
  | t => t
theorem wf_wout : ∀ {t : Tr}, wf t = true → wf (wout t) = true
  | .call _, h => h
  | .pause _, h => h
  | .fail, h => h
  | .hole, h => rfl
  | .within none t, h => by
    simp only [wout, wf, wf_wout (t := t) h]
    decide
  | .within (some n) t, h => by
    simp only [wf, Bool.and_eq_true] at h
    simp only [wout, wf, h.1, wf_wout h.2, Bool.and_self]
  | .retry k m t, h => by
    simp only [wf, Bool.and_eq_true] at h
    simp only [wout, wf, h.1, h.2.1, h.2.2.1, wf_wout h.2.2.2, Bool.and_self]
  | .pair w a b, h => by
    simp only [wf, Bool.and_eq_true] at h
    simp only [wout, wf, wf_wout h.1, wf_wout h.2, Bool.and_self]
theorem dpt_wout : ∀ t : Tr, dpt (wout t) = dpt t
  | .call _ => rfl
  | .pause _ => rfl
  | .fail => rfl
  | .hole => rfl
  | .within none t => by simp only [wout, dpt, dpt_wout t]
  | .within (some n) t => by simp only [wout, dpt, dpt_wout t]
  | .retry k m t => by simp only [wout, dpt, dpt_wout t]
  | .pair w a b => by simp only [wout, dpt, dpt_wout a, dpt_wout b]
theorem nd_pos : ∀ t : Tr, 1 ≤ nd t
  | .call _ => Nat.le_refl _
  | .pause _ => Nat.le_refl _
  | .fail => Nat.le_refl _
  | .hole => Nat.le_refl _
  | .within _ _ => Nat.le_add_left _ _
  | .retry _ _ _ => Nat.le_add_left _ _
  | .pair _ _ _ => Nat.le_add_left _ _
theorem dp_nd : ∀ t : Tr, dp t ≤ nd t
  | .call _ => Nat.le_refl _
  | .pause _ => Nat.le_refl _
  | .fail => Nat.le_refl _
  | .hole => Nat.le_refl _
  | .within _ t => by have := dp_nd t; simp only [dp, nd]; omega
  | .retry _ _ t => by have := dp_nd t; simp only [dp, nd]; omega
  | .pair _ a b => by have := dp_nd a; have := dp_nd b; have := nd_pos a; have := nd_pos b; simp only [dp, nd]; omega
theorem dpt_dp : ∀ t : Tr, dpt t ≤ dp t
  | .call _ => Nat.le_refl _
  | .pause _ => Nat.le_refl _
  | .fail => Nat.le_refl _
  | .hole => Nat.le_refl _
  | .within _ t => by have := dpt_dp t; simp only [dp, dpt]; omega
  | .retry _ _ t => by have := dpt_dp t; simp only [dp, dpt]; omega
  | .pair _ a b => by have := dpt_dp a; have := dpt_dp b; simp only [dp, dpt]; omega
theorem nd_wout : ∀ t : Tr, nd (wout t) = nd t
  | .call _ => rfl
  | .pause _ => rfl
  | .fail => rfl
  | .hole => rfl
  | .within none t => by simp only [wout, nd, nd_wout t]
  | .within (some n) t => by simp only [wout, nd, nd_wout t]
  | .retry k m t => by simp only [wout, nd, nd_wout t]
  | .pair w a b => by simp only [wout, nd, nd_wout a, nd_wout b]
theorem cnt_wout : ∀ t : Tr, cntH (wout t) = 0 ∧ cntQ (wout t) = 0
  | .call _ => ⟨rfl, rfl⟩
  | .pause _ => ⟨rfl, rfl⟩
  | .fail => ⟨rfl, rfl⟩
  | .hole => ⟨rfl, rfl⟩
  | .within none t => by have := cnt_wout t; simp only [wout, cntH, cntQ, this, and_self]
  | .within (some n) t => by have := cnt_wout t; simp only [wout, cntH, cntQ, this, and_self]
  | .retry k m t => by have := cnt_wout t; simp only [wout, cntH, cntQ, this, and_self]
  | .pair w a b => by have := cnt_wout a; have h := cnt_wout b; simp only [wout, cntH, cntQ, this, h, and_self]
/-! written out -/
theorem rep_facts (m : Nat) (a : Tr) (hm : m ≤ maxN) (ha : wf a = true) : ∀ i, wf (rep m a i) = true ∧ nd (rep m a i) = nd a + i * (nd a + 3) ∧ szC (rep m a i) = (i + 1) * szC a ∧ szW (rep m a i) = (i + 1) * szW a ∧ szF (rep m a i) = (i + 1) * szF a + 3 * i ∧ cl (rep m a i) = (List.replicate (i + 1) (cl a)).flatten
  | 0 => by simp [rep, ha]
  | i + 1 => by
    obtain ⟨h1, h2, h3, h4, h5, h6⟩ := rep_facts m a hm ha i
    refine ⟨?_, ?_, ?_, ?_, ?_, ?_⟩
    · simp only [rep, wf, ha, h1, Bool.true_and, Bool.and_true]
      exact decide_eq_true hm
    · simp only [rep, nd, h2, Nat.succ_mul]; omega
    · simp only [rep, szC, h3, Nat.succ_mul]; omega
    · simp only [rep, szW, h4, Nat.succ_mul]; omega
    · simp only [rep, szF, h5, Nat.succ_mul]; omega
    · rw [List.replicate_succ, List.flatten_cons, ← h6]
      rfl
structure WrtOk (t : Tr) : Prop where
  wf : wf (wrt t) = true
  nd : nd (wrt t) = szF t
  c : szC (wrt t) = szC t
  w : szW (wrt t) = szW t
  f : szF (wrt t) = szF t
  l : cl (wrt t) = cl t
theorem wrt_ok : ∀ {t : Tr}, wf t = true → cntQ t = 0 → WrtOk t
  | .call _, h, _ => ⟨h, rfl, rfl, rfl, rfl, rfl⟩
  | .pause _, h, _ => ⟨h, rfl, rfl, rfl, rfl, rfl⟩
  | .fail, h, _ => ⟨h, rfl, rfl, rfl, rfl, rfl⟩
  | .hole, h, _ => ⟨h, rfl, rfl, rfl, rfl, rfl⟩
  | .within none t, h, q => by simp [cntQ] at q
  | .within (some n) t, h, q => by
    simp only [DL.wf, Bool.and_eq_true] at h
    have k := wrt_ok h.2 q
    refine ⟨?_, ?_, ?_, ?_, ?_, ?_⟩
    · simp only [wrt, DL.wf, h.1, k.wf, Bool.and_self]
    · simp only [wrt, DL.nd, szF, k.nd]
    · simp only [wrt, szC, k.c]
    · simp only [wrt, szW, k.w]
    · simp only [wrt, szF, k.f]
    · simp only [wrt, cl, k.l]
  | .retry n m t, h, q => by
    simp only [DL.wf, Bool.and_eq_true, decide_eq_true_eq] at h
    obtain ⟨h1, h2, h3, h4⟩ := h
    have k := wrt_ok h4 q
    obtain ⟨r1, r2, r3, r4, r5, r6⟩ := rep_facts m (wrt t) h3 k.wf (n - 1)
    have e : n - 1 + 1 = n := by omega
    rw [e] at r3 r4 r5 r6
    refine ⟨r1, ?_, ?_, ?_, ?_, ?_⟩
    · show DL.nd (rep m (wrt t) (n - 1)) = _
      rw [r2, k.nd]
      simp only [szF]
      obtain ⟨j, rfl⟩ : ∃ j, n = j + 1 := ⟨n - 1, by omega⟩
      simp only [Nat.add_sub_cancel, Nat.succ_mul, Nat.mul_add]
      omega
    · show szC (rep m (wrt t) (n - 1)) = _
      rw [r3, k.c]; rfl
    · show szW (rep m (wrt t) (n - 1)) = _
      rw [r4, k.w]; rfl
    · show szF (rep m (wrt t) (n - 1)) = _
      rw [r5, k.f]; rfl
    · show cl (rep m (wrt t) (n - 1)) = _
      rw [r6, k.l]; rfl
  | .pair w a b, h, q => by
    simp only [DL.wf, Bool.and_eq_true] at h
    simp only [cntQ] at q
    have ka := wrt_ok h.1 (by omega)
    have kb := wrt_ok h.2 (by omega)
    refine ⟨?_, ?_, ?_, ?_, ?_, ?_⟩
    · simp only [wrt, DL.wf, ka.wf, kb.wf, Bool.and_self]
    · simp only [wrt, DL.nd, szF, ka.nd, kb.nd]
    · simp only [wrt, szC, ka.c, kb.c]
    · simp only [wrt, szW, ka.w, kb.w]
    · simp only [wrt, szF, ka.f, kb.f]
    · simp only [wrt, cl, ka.l, kb.l]
/-! plugging -/
theorem wf_plu {u : Tr} (hu : wf u = true) : ∀ {t : Tr}, wf t = true → wf (plu u t) = true
  | .call _, h => h
  | .pause _, h => h
  | .fail, h => h
  | .hole, h => hu
  | .within none t, h => wf_plu hu (t := t) h
  | .within (some n) t, h => by
    simp only [wf, Bool.and_eq_true] at h
    simp only [plu, wf, h.1, wf_plu hu h.2, Bool.and_self]
  | .retry k m t, h => by
    simp only [wf, Bool.and_eq_true] at h
    simp only [plu, wf, h.1, h.2.1, h.2.2.1, wf_plu hu h.2.2.2, Bool.and_self]
  | .pair w a b, h => by
    simp only [wf, Bool.and_eq_true] at h
    simp only [plu, wf, wf_plu hu h.1, wf_plu hu h.2, Bool.and_self]
theorem dpt_plu (u : Tr) : ∀ t : Tr, dpt (plu u t) ≤ dpt t + dpt u
  | .call _ => by simp only [plu, dpt]; omega
  | .pause _ => by simp only [plu, dpt]; omega
  | .fail => by simp only [plu, dpt]; omega
  | .hole => by simp only [plu, dpt]; omega
  | .within o t => by have := dpt_plu u t; simp only [plu, dpt]; omega
  | .retry k m t => by have := dpt_plu u t; simp only [plu, dpt]; omega
  | .pair w a b => by have := dpt_plu u a; have := dpt_plu u b; simp only [plu, dpt]; omega
theorem nd_plu (u : Tr) : ∀ t : Tr, nd (plu u t) ≤ nd t * nd u
  | .call _ => by have := nd_pos u; simp only [plu, nd]; omega
  | .pause _ => by have := nd_pos u; simp only [plu, nd]; omega
  | .fail => by have := nd_pos u; simp only [plu, nd]; omega
  | .hole => by have := nd_pos u; simp only [plu, nd]; omega
  | .within o t => by have := nd_plu u t; have := nd_pos u; simp only [plu, nd, Nat.add_mul]; omega
  | .retry k m t => by have := nd_plu u t; have := nd_pos u; simp only [plu, nd, Nat.add_mul]; omega
  | .pair w a b => by have := nd_plu u a; have := nd_plu u b; have := nd_pos u; simp only [plu, nd, Nat.add_mul]; omega
theorem cntH_plu (u : Tr) : ∀ t : Tr, cntH (plu u t) = cntH t * cntH u
  | .call _ => by simp [plu, cntH]
  | .pause _ => by simp [plu, cntH]
  | .fail => by simp [plu, cntH]
  | .hole => by simp [plu, cntH]
  | .within o t => by simp only [plu, cntH, cntH_plu u t]
  | .retry k m t => by simp only [plu, cntH, cntH_plu u t]
  | .pair w a b => by simp only [plu, cntH, cntH_plu u a, cntH_plu u b, Nat.add_mul]
theorem cntQ_plu {u : Tr} (hu : cntQ u = 0) : ∀ t : Tr, cntQ (plu u t) = cntQ t
  | .call _ => rfl
  | .pause _ => rfl
  | .fail => rfl
  | .hole => by simp only [plu, hu, cntQ]
  | .within none t => by simp only [plu, cntQ, cntQ_plu hu t]
  | .within (some _) t => by simp only [plu, cntQ, cntQ_plu hu t]
  | .retry k m t => by simp only [plu, cntQ, cntQ_plu hu t]
  | .pair w a b => by simp only [plu, cntQ, cntQ_plu hu a, cntQ_plu hu b]
theorem plu_assoc (a b : Tr) : ∀ t : Tr, plu (plu a b) t = plu a (plu b t)
  | .call _ => rfl
  | .pause _ => rfl
  | .fail => rfl
  | .hole => rfl
  | .within o t => by simp only [plu, plu_assoc a b t]
  | .retry k m t => by simp only [plu, plu_assoc a b t]
  | .pair w x y => by simp only [plu, plu_assoc a b x, plu_assoc a b y]
theorem plu_hole : ∀ t : Tr, plu .hole t = t
  | .call _ => rfl
  | .pause _ => rfl
  | .fail => rfl
  | .hole => rfl
  | .within o t => by simp only [plu, plu_hole t]
  | .retry k m t => by simp only [plu, plu_hole t]
  | .pair w x y => by simp only [plu, plu_hole x, plu_hole y]
theorem szF_plu (u : Tr) : ∀ {t : Tr}, wf t = true → 1 ≤ cntH t → szF u ≤ szF (plu u t)
  | .call _, _, h => by simp [cntH] at h
  | .pause _, _, h => by simp [cntH] at h
  | .fail, _, h => by simp [cntH] at h
  | .hole, _, _ => Nat.le_refl _
  | .within none t, w, h => by have := szF_plu u (t := t) w h; simp only [plu, szF]; omega
  | .within (some _) t, w, h => by
    simp only [wf, Bool.and_eq_true] at w
    have := szF_plu u w.2 h; simp only [plu, szF]; omega
  | .retry k m t, w, h => by
    simp only [wf, Bool.and_eq_true, decide_eq_true_eq] at w
    have := szF_plu u w.2.2.2 h
    have h2 : szF (plu u t) ≤ k * szF (plu u t) := Nat.le_mul_of_pos_left _ w.1
    simp only [plu, szF]; omega
  | .pair _ a b, w, h => by
    simp only [wf, Bool.and_eq_true] at w
    simp only [cntH] at h
    simp only [plu, szF]
    rcases Nat.lt_or_ge 0 (cntH a) with h1 | h1
    · have := szF_plu u w.1 h1; omega
    · have := szF_plu u w.2 (by omega); omega
/-! signs of a text -/
theorem ok_app {a b : Str} (ha : PyData.strOk a = true) (hb : PyData.strOk b = true) : PyData.strOk (a ++ b) = true := strOk_tl fun c hc => by
  have k : ∀ {x : Str}, PyData.strOk x = true → ∀ c ∈ tl x, c < 1114112 := fun {x} h c hc => by
    unfold PyData.strOk at h
    rw [← Array.all_toList, List.all_eq_true] at h
    exact of_decide_eq_true (h c hc)
  rw [tl_app] at hc
  rcases List.mem_append.mp hc with h | h
  · exact k ha c h
  · exact k hb c h
theorem num_ok (n : Nat) : PyData.strOk (numS n) = true := strOk_tl fun c hc => by
  rw [tl_numS] at hc
  have := num_free n c hc
  omega
theorem txt_ok : ∀ {t : Tr}, wf t = true → PyData.strOk (txt t) = true
  | .call a, h => ok_app (by decide +kernel) (let_ok (name_let h).1)
  | .pause n, h => ok_app (by decide +kernel) (num_ok n)
  | .fail, h => ok_fail
  | .hole, h => ok_hole
  | .within none t, h => ok_app (by decide +kernel) (txt_ok (t := t) h)
  | .within (some n) t, h => by
    simp only [wf, Bool.and_eq_true] at h
    exact ok_app (ok_app (ok_app (by decide +kernel) (num_ok n)) (by decide +kernel)) (txt_ok h.2)
  | .retry k m t, h => by
    simp only [wf, Bool.and_eq_true] at h
    exact ok_app (ok_app (ok_app (ok_app (ok_app (by decide +kernel) (num_ok k)) (by decide +kernel)) (num_ok m)) (by decide +kernel)) (txt_ok h.2.2.2)
  | .pair w a b, h => by
    simp only [wf, Bool.and_eq_true] at h
    exact ok_app (ok_app (ok_app (ok_app (ok_app (ok_app (by decide +kernel) (txt_ok h.1)) (by decide +kernel)) (wd_ok w)) (by decide +kernel)) (txt_ok h.2)) (by decide +kernel)
/-- a plan of bounded size -/
theorem okP_nd {t : Tr} (h : wf t = true) (hd : dpt t ≤ 120) (hn : nd t ≤ 20000) : OkP t := ⟨h, hd, by have := txt_len h; omega⟩
theorem read_txt {t : Tr} (h : wf t = true) (hd : dp t ≤ 120) : pForm 120 (wordsIn (txt t)) = .ok t [] := by
  have := parse_toks t 120 [] h hd
  rw [List.append_nil] at this
  rw [words_txt h, this]
theorem rngD_cons {lo : Int} {n : Nat} {d : D} {r : List D} (h : d :: r = rangeD lo n) : ∃ m, n = m + 1 ∧ d = .int lo ∧ r = rangeD (lo + 1) m := by
  cases n with
  | zero => cases h
  | succ m =>
    have e : rangeD lo (m + 1) = .int lo :: rangeD (lo + 1) m := by
      unfold rangeD
      rw [List.range_succ_eq_map, List.map_cons, List.map_map]
      congr 1
      · simp
      · apply List.map_congr_left
        intro a _
        simp
        omega
    rw [e] at h
    injection h with h1 h2
    exact ⟨m, rfl, h1, h2⟩
end DL


set_option Elab.async false
set_option linter.all false
set_option maxRecDepth 100000
set_option maxHeartbeats 1600000
namespace DL
open PySem PySem.Spec PyProof.Rows L2
section
variable {X : Cx} {F0 : Hp} {o e : Expr} {to te : DTE} {apos pos : Pos} {st : Stmt}
/-! ### what is not reached -/
def dBad : DTS := fun _ _ _ => False
theorem ds_bad : DS X F0 st dBad := ⟨⟨fun pins s σ H D I h => by
  obtain ⟨ρ, M, F, E, l0, sl, g, t, _⟩ := h
  exact t.elim⟩⟩
/-! ### x.split(sep), a list that may change -/
def rmSplitM (x y : D) (M : Store) (Q : D → Store → Prop) : Prop := match x, y with
  | .str a, .str b => (b.length == 0) = false ∧ a.length + 2 ≤ sizeLine ∧ ∀ p, M p = none → Q (.ref p) (updM M p (.lst ((Txt.split a b).map .str)))
  | _, _ => False
def dSplitM (to te : DTE) : DTE := fun ρ M Q => to ρ M fun x M1 => (∃ a, x = .str a) ∧ te ρ M1 fun y M2 => rmSplitM x y M2 Q
theorem de_splitM (ho : DE X F0 o to) (he : DE X F0 e te) (hs : starEach [e] X.env = [(false, eval e X.env)] := by rfl) (hbase : attributeBase o "split" X.env (eval o X.env) = eval o X.env := by rfl) (hline : (apos.endLine == pos.line) = true := by rfl) :
    DE X F0 (.Call (.Attribute o "split" apos) [e] [] pos) (dSplitM to te) := by
  refine ⟨PE.weak (pe_split ho.pe he.pe hs hbase hline) fun σ H Q ⟨ρ, M, F, P, l0, sl, g, t, k⟩ => ?_⟩
  refine ⟨ρ, M, F, _, l0, sl, g, t, fun v d M1 F1 H1 l1 g1 r1 p1 => ?_⟩
  obtain ⟨⟨a, rfl⟩, p1⟩ := p1
  cases r1
  refine ⟨⟨a, rfl⟩, ρ, M1, F1, _, l0.trans l1, sl.mono l1, g1, p1, fun w e M2 F2 H2 l2 g2 r2 p2 => ?_⟩
  unfold rmSplitM at p2
  split at p2
  · rename_i a' b ea
    cases ea
    cases r2
    refine ⟨a, b, rfl, rfl, p2.1, p2.2.1, fun p hp => ?_⟩
    exact k _ _ _ F2 _ (l1.trans l2) (g2.newM hp (.lst (reps_strs _))) (.ref p) (p2.2.2 p (g2.freshM hp))
  · exact p2.elim
/-! ### list(x), x a text -/
theorem signs_at : ∀ {us : List Value} {cs : List Nat}, us.length = cs.length → (∀ (j : Nat) (v : Value), us[j]? = some v → ∃ c t, cs[j]? = some c ∧ v = .str ⟨#[c]⟩ t) → Vals (cs.map fun c => V.str ⟨#[c]⟩) us
  | [], [], _, _ => .nil
  | u :: us, c :: cs, hl, h => by
    obtain ⟨c', t, e1, e2⟩ := h 0 u rfl
    have e1' : c = c' := Option.some.inj e1
    subst e1'
    rw [List.map_cons]
    refine .cons ⟨t, e2⟩ (signs_at (by simpa using hl) fun j v e => ?_)
    obtain ⟨c', t, e1, e2⟩ := h (j + 1) v (by simpa using e)
    exact ⟨c', t, by simpa using e1, e2⟩
  | [], _ :: _, hl, _ => by cases hl
  | _ :: _, [], hl, _ => by cases hl
theorem reps_signs {S : SE} {F : Hp} : ∀ cs : List Nat, Reps S F (cs.map fun c => V.str ⟨#[c]⟩) (cs.map fun c => D.str ⟨#[c]⟩)
  | [] => .nil
  | c :: cs => .cons (.str _) (reps_signs cs)
def rcListS : DCl := fun ds M Q => match ds with
  | [.str z] => z.length ≤ 1000000 ∧ Q (.lst (signsD z)) M
  | _ => False
theorem dc_listS (hc : X.calm = true) : DCallR X F0 (.type "list") rcListS := by
  intro pins s σ H xs us Q I r ⟨ds, M, F, P, l0, g, rs, t, k⟩
  unfold rcListS at t
  split at t
  · rename_i z
    cases rs with
    | cons a b =>
      cases a; cases b
      obtain ⟨u, rfl, ru⟩ := r.one
      obtain ⟨tk, rfl⟩ := ru
      have hz : z.cps.size ≤ 1000000 := t.1
      refine PySem.call_list_str (I.ok.hd hc) z tk (fun h' tk2 acc c hk hS hacc => ?_) (by rw [sizeLine_eq]; omega)
      have hp := I.hok.fresh (Nat.le_refl s.heap.objs.size)
      refine ⟨.ref s.heap.objs.size, upd H s.heap.objs.size (.lst (z.cps.toList.map fun c => V.str ⟨#[c]⟩)), I.laid hk (Nat.le_refl _) ⟨?_, acc.toList, c, ?_, ?_⟩, rfl, k _ _ M _ _ (Le.new (g.freshF hp)) (g.new hp) (.lst upd_same (reps_signs _)) t.2⟩
      · rw [List.length_map, Array.length_toList, sizeLine_eq]; omega
      · exact signs_at (by rw [Array.length_toList, Array.length_toList]; exact hacc.1) fun j v e => by
          obtain ⟨c, u, e1, e2⟩ := hacc.2 j v (by rw [← Array.getElem?_toList]; exact e)
          exact ⟨c, u, by rw [Array.getElem?_toList]; exact e1, e2⟩
      · simpa using hS
  · exact t.elim
end
end DL


set_option Elab.async false
set_option linter.all false
set_option maxRecDepth 100000
set_option maxHeartbeats 1000000
namespace DL
open PySem PySem.Spec PyProof.Rows L2
/-! ### a reader of signs -/
theorem dv_snoc (l : List Nat) (d : Nat) : NumText.digitsVal (l ++ [d]) = 10 * NumText.digitsVal l + (d - 48) := by
  simp [NumText.digitsVal, List.foldl_append]
  try omega
/-- digits without a zero ahead are the number as it is written -/
theorem num_canon : ∀ (n : Nat) (l : List Nat), l.length = n → NumText.AllDigits l → l ≠ [] → (l.head? = some 48 → l = [48]) → l = TL.numL (NumText.digitsVal l) := by
  intro n
  induction n with
  | zero =>
    intro l hl _ h _
    exact absurd (List.length_eq_zero_iff.mp hl) h
  | succ n ih =>
    intro l hl hd hne hz
    obtain ⟨i, d, rfl⟩ : ∃ i d, l = i ++ [d] := ⟨l.dropLast, l.getLast hne, (List.dropLast_concat_getLast hne).symm⟩
    have hdd := hd d (by simp)
    rw [dv_snoc]
    by_cases hi : i = []
    · subst hi
      rw [TL.numL_lt (by simp [NumText.digitsVal]; omega)]
      simp [NumText.digitsVal]
      omega
    · have hh : i.head? ≠ some 48 := fun e => by
        have : (i ++ [d]).head? = some 48 := by
          cases i with
          | nil => exact absurd rfl hi
          | cons c r => simpa using e
        have := hz this
        cases i with
        | nil => exact absurd rfl hi
        | cons c r => simp at this
      have e := ih i (by simp at hl; omega) (fun c hc => hd c (by simp [hc])) hi (fun e => absurd e hh)
      have hv : 1 ≤ NumText.digitsVal i := by
        rcases Nat.eq_zero_or_pos (NumText.digitsVal i) with h0 | h0
        · rw [h0] at e
          rw [e] at hh
          exact absurd (by decide +kernel) hh
        · exact h0
      rw [TL.numL_step (by omega)]
      have e1 : (10 * NumText.digitsVal i + (d - 48)) / 10 = NumText.digitsVal i := by omega
      have e2 : (10 * NumText.digitsVal i + (d - 48)) % 10 = d - 48 := by omega
      rw [e1, e2, ← e]
      congr 2
      omega
def isD (c : Nat) : Bool := decide (48 ≤ c) && decide (c ≤ 57)
def isL (c : Nat) : Bool := decide (97 ≤ c) && decide (c ≤ 122)
theorem numW_canon {w : Str} {l m v : Nat} (h : numW w l m = some v) : w = numS v ∧ l ≤ v ∧ v ≤ m := by
  unfold numW at h
  split at h
  · cases h
  · rename_i h1
    split at h
    · cases h
    · rename_i h2
      split at h
      · rename_i h3
        cases h
        have hne : w ≠ "" := fun e => h1 (.inl e)
        have hd : isDig w = true := by
          cases e : isDig w with
          | true => rfl
          | false => exact absurd (.inr (.inr e)) h1
        refine ⟨TL.ext_tl ?_, h3⟩
        show tl w = tl (numS (valOf w))
        rw [tl_numS]
        refine num_canon _ (tl w) rfl (dig_all hd) (ne_tl hne) fun e => ?_
        have : w = "0" := by
          apply Classical.byContradiction
          exact fun c => h2 ⟨e, c⟩
        rw [this]
        decide +kernel
      · cases h
def wEnd (f : Nat → Bool) (l : List Nat) : Nat := (l.takeWhile f).length
def nEnd (l : List Nat) (lo hi : Nat) : Option Nat := match numW (SX.S (l.takeWhile isD)) lo hi with
  | some _ => some (wEnd isD l)
  | none => none
/-- the length of the word between two parts -/
def wdAt (l : List Nat) : Option (Wd × Nat) :=
  if l.take 6 = tl " then " then some (.then_, 6) else if l.take 6 = tl " else " then some (.else_, 6) else if l.take 6 = tl " both " then some (.both, 6) else if l.take 8 = tl " either " then some (.either, 8) else none
/-- where a form that begins here ends -/
def fEnd : Nat → List Nat → Option Nat
  | 0, _ => none
  | n + 1, l =>
    if l.take 1 = [40] then match fEnd n (l.drop 1) with
      | none => none
      | some e => match wdAt (l.drop (1 + e)) with
        | none => none
        | some (_, k) => match fEnd n (l.drop (1 + e + k)) with
          | none => none
          | some e2 => if (l.drop (1 + e + k + e2)).take 1 = [41] then some (1 + e + k + e2 + 1) else none
    else if l.take 4 = tl "fail" ∨ l.take 4 = tl "hole" then some 4
    else if l.take 5 = tl "call " then (if 1 ≤ wEnd isL (l.drop 5) ∧ wEnd isL (l.drop 5) ≤ 8 then some (5 + wEnd isL (l.drop 5)) else none)
    else if l.take 6 = tl "pause " then (nEnd (l.drop 6) 0 maxN).map (6 + ·)
    else if l.take 9 = tl "within ? " then (fEnd n (l.drop 9)).map (9 + ·)
    else if l.take 7 = tl "within " then match nEnd (l.drop 7) 0 maxN with
      | none => none
      | some k => if (l.drop (7 + k)).take 1 = [32] then (fEnd n (l.drop (7 + k + 1))).map (7 + k + 1 + ·) else none
    else if l.take 6 = tl "retry " then match nEnd (l.drop 6) 1 8 with
      | none => none
      | some k => if (l.drop (6 + k)).take 1 = [32] then match nEnd (l.drop (6 + k + 1)) 0 maxN with
          | none => none
          | some j => if (l.drop (6 + k + 1 + j)).take 1 = [32] then (fEnd n (l.drop (6 + k + 1 + j + 1))).map (6 + k + 1 + j + 1 + ·) else none
        else none
    else none
/-! literals -/
theorem t_then : tl " then " = [32, 116, 104, 101, 110, 32] := by decide +kernel
theorem t_else : tl " else " = [32, 101, 108, 115, 101, 32] := by decide +kernel
theorem t_both : tl " both " = [32, 98, 111, 116, 104, 32] := by decide +kernel
theorem t_either : tl " either " = [32, 101, 105, 116, 104, 101, 114, 32] := by decide +kernel
theorem t_fail : tl "fail" = [102, 97, 105, 108] := by decide +kernel
theorem t_hole : tl "hole" = [104, 111, 108, 101] := by decide +kernel
theorem t_call : tl "call " = [99, 97, 108, 108, 32] := by decide +kernel
theorem t_pause : tl "pause " = [112, 97, 117, 115, 101, 32] := by decide +kernel
theorem t_withq : tl "within ? " = [119, 105, 116, 104, 105, 110, 32, 63, 32] := by decide +kernel
theorem t_within : tl "within " = [119, 105, 116, 104, 105, 110, 32] := by decide +kernel
theorem t_retry : tl "retry " = [114, 101, 116, 114, 121, 32] := by decide +kernel
theorem t_sp : tl " " = [32] := by decide +kernel
theorem t_op : tl "(" = [40] := by decide +kernel
theorem t_cl : tl ")" = [41] := by decide +kernel
theorem t_w1 : tl (wdS .then_) = [116, 104, 101, 110] := by decide +kernel
theorem t_w2 : tl (wdS .else_) = [101, 108, 115, 101] := by decide +kernel
theorem t_w3 : tl (wdS .both) = [98, 111, 116, 104] := by decide +kernel
theorem t_w4 : tl (wdS .either) = [101, 105, 116, 104, 101, 114] := by decide +kernel
def tx (t : Tr) : List Nat := tl (txt t)
theorem tx_call (a : Str) : tx (.call a) = [99, 97, 108, 108, 32] ++ tl a := by rw [tx, txt, tl_app, t_call]
theorem tx_pause (n : Nat) : tx (.pause n) = [112, 97, 117, 115, 101, 32] ++ TL.numL n := by rw [tx, txt, tl_app, t_pause, tl_numS]
theorem tx_fail : tx .fail = [102, 97, 105, 108] := t_fail
theorem tx_hole : tx .hole = [104, 111, 108, 101] := t_hole
theorem tx_withq (t : Tr) : tx (.within none t) = [119, 105, 116, 104, 105, 110, 32, 63, 32] ++ tx t := by rw [tx, txt, tl_app, t_withq]; rfl
theorem tx_within (n : Nat) (t : Tr) : tx (.within (some n) t) = [119, 105, 116, 104, 105, 110, 32] ++ (TL.numL n ++ ([32] ++ tx t)) := by
  rw [tx, txt, tl_app, tl_app, tl_app, t_within, tl_numS, t_sp]; simp [tx]
theorem tx_retry (k n : Nat) (t : Tr) : tx (.retry k n t) = [114, 101, 116, 114, 121, 32] ++ (TL.numL k ++ ([32] ++ (TL.numL n ++ ([32] ++ tx t)))) := by
  rw [tx, txt, tl_app, tl_app, tl_app, tl_app, tl_app, t_retry, tl_numS, t_sp, tl_numS]; simp [tx]
theorem tx_pair (w : Wd) (a b : Tr) : tx (.pair w a b) = [40] ++ (tx a ++ (([32] ++ (tl (wdS w) ++ [32])) ++ (tx b ++ [41]))) := by
  rw [tx, txt, tl_app, tl_app, tl_app, tl_app, tl_app, tl_app, t_op, t_cl, t_sp]; simp [tx]
theorem tk_eq {l p : List Nat} {k : Nat} (h : l.take k = p) : l = p ++ l.drop k := by
  rw [← h, List.take_append_drop]
theorem tw_take {f : Nat → Bool} (l : List Nat) : l = l.takeWhile f ++ l.drop (l.takeWhile f).length := by
  have := List.takeWhile_append_dropWhile (p := f) (l := l)
  have e : l.drop (l.takeWhile f).length = l.dropWhile f := by
    conv => lhs; rw [← this]
    rw [this]
    conv => lhs; arg 2; rw [← this]
    exact List.drop_left
  rw [e, this]
theorem nEnd_some {l : List Nat} {lo hi k : Nat} (h : nEnd l lo hi = some k) : ∃ v, lo ≤ v ∧ v ≤ hi ∧ l = TL.numL v ++ l.drop k ∧ k = (TL.numL v).length := by
  unfold nEnd at h
  split at h
  · rename_i v hv
    cases h
    obtain ⟨e, h1, h2⟩ := numW_canon hv
    have e2 : l.takeWhile isD = TL.numL v := by
      rw [← tl_numS, ← e]
    have e3 := tw_take (f := isD) l
    refine ⟨v, h1, h2, ?_, by rw [wEnd, e2]⟩
    rw [wEnd]
    rw [e2] at e3 ⊢
    exact e3
  · cases h
theorem wdAt_some {l : List Nat} {w : Wd} {k : Nat} (h : wdAt l = some (w, k)) : l = ([32] ++ (tl (wdS w) ++ [32])) ++ l.drop k ∧ k = ([32] ++ (tl (wdS w) ++ [32])).length := by
  unfold wdAt at h
  split at h
  · rename_i e; cases h; rw [t_w1]; exact ⟨tk_eq (e.trans t_then), rfl⟩
  split at h
  · rename_i e; cases h; rw [t_w2]; exact ⟨tk_eq (e.trans t_else), rfl⟩
  split at h
  · rename_i e; cases h; rw [t_w3]; exact ⟨tk_eq (e.trans t_both), rfl⟩
  split at h
  · rename_i e; cases h; rw [t_w4]; exact ⟨tk_eq (e.trans t_either), rfl⟩
  · cases h
theorem fEnd_sound : ∀ (n : Nat) (l : List Nat) (k : Nat), fEnd n l = some k → ∃ t r, wf t = true ∧ l = tx t ++ r ∧ k = (tx t).length
  | 0, l, k, h => by cases h
  | n + 1, l, k, h => by
    rw [fEnd] at h
    split at h
    · rename_i h0
      have e0 := tk_eq h0
      split at h
      · cases h
      · rename_i e he
        obtain ⟨a, r1, wa, ea, la⟩ := fEnd_sound n _ _ he
        split at h
        · cases h
        · rename_i w kw hw
          obtain ⟨ew, lw⟩ := wdAt_some hw
          split at h
          · cases h
          · rename_i e2 he2
            obtain ⟨b, r2, wb, eb, lb⟩ := fEnd_sound n _ _ he2
            split at h
            · rename_i hc
              cases h
              have ec := tk_eq hc
              refine ⟨.pair w a b, (l.drop (1 + e + kw + e2)).drop 1, by simp [wf, wa, wb], ?_, ?_⟩
              · have d1 : l.drop (1 + e) = r1 := by rw [← List.drop_drop, ea, la, List.drop_left]
                have d2 : l.drop (1 + e + kw + e2) = r2 := by rw [← List.drop_drop, eb, lb, List.drop_left]
                have d3 : (l.drop (1 + e)).drop kw = l.drop (1 + e + kw) := by rw [List.drop_drop]
                rw [d3, eb] at ew
                rw [d1] at ew
                rw [d2] at ec ⊢
                rw [ew, ec] at ea
                rw [ea] at e0
                rw [e0, tx_pair]
                simp
              · rw [tx_pair]
                simp at la lb lw ⊢
                omega
            · cases h
    split at h
    · rename_i h0
      cases h
      rcases h0 with h0 | h0
      · exact ⟨.fail, _, rfl, tk_eq h0, by rw [tx_fail]; rfl⟩
      · exact ⟨.hole, _, rfl, tk_eq h0, by rw [tx_hole]; rfl⟩
    split at h
    · rename_i h0
      have e0 := tk_eq h0
      split at h
      · rename_i h1
        cases h
        have e1 := tw_take (f := isL) (l.drop 5)
        have hs : tl (SX.S ((l.drop 5).takeWhile isL)) = (l.drop 5).takeWhile isL := by simp [tl, SX.S]
        refine ⟨.call (SX.S ((l.drop 5).takeWhile isL)), (l.drop 5).drop ((l.drop 5).takeWhile isL).length, ?_, ?_, ?_⟩
        · unfold wf isName isLet
          rw [TL.len_tl]
          show (decide (1 ≤ (tl (SX.S ((l.drop 5).takeWhile isL))).length) && (decide ((tl (SX.S ((l.drop 5).takeWhile isL))).length ≤ 8) && _)) = true
          rw [hs]
          simp only [Bool.and_eq_true, decide_eq_true_eq]
          refine ⟨h1.1, h1.2, List.all_eq_true.mpr fun c hc => ?_⟩
          have := List.all_takeWhile (p := isL) (l := l.drop 5)
          exact List.all_eq_true.mp this c hc
        · rw [tx_call, hs, List.append_assoc, ← e1, ← t_call]
          exact e0
        · rw [tx_call, hs, wEnd, List.length_append]
          rfl
      · cases h
    split at h
    · rename_i h0
      have e0 := tk_eq h0
      obtain ⟨k', hk, rfl⟩ := Option.map_eq_some_iff.mp h
      obtain ⟨v, h1, h2, e1, l1⟩ := nEnd_some hk
      refine ⟨.pause v, (l.drop 6).drop k', decide_eq_true h2, ?_, ?_⟩
      · rw [tx_pause, List.append_assoc, ← e1, ← t_pause]
        exact e0
      · rw [tx_pause, List.length_append, l1]
        rfl
    split at h
    · rename_i h0
      have e0 := tk_eq h0
      obtain ⟨k', hk, rfl⟩ := Option.map_eq_some_iff.mp h
      obtain ⟨t, r, wt, et, lt⟩ := fEnd_sound n _ _ hk
      refine ⟨.within none t, r, wt, ?_, ?_⟩
      · rw [tx_withq, List.append_assoc, ← et, ← t_withq]
        exact e0
      · rw [tx_withq, List.length_append, lt]
        rfl
    split at h
    · rename_i h0
      have e0 := tk_eq h0
      split at h
      · cases h
      · rename_i k1 hk1
        obtain ⟨v, h1, h2, e1, l1⟩ := nEnd_some hk1
        split at h
        · rename_i hs
          have es := tk_eq hs
          obtain ⟨k', hk, rfl⟩ := Option.map_eq_some_iff.mp h
          obtain ⟨t, r, wt, et, lt⟩ := fEnd_sound n _ _ hk
          refine ⟨.within (some v) t, r, by simp [wf, wt, h2], ?_, ?_⟩
          · rw [List.drop_drop] at es
            rw [et] at es
            rw [List.drop_drop, es] at e1
            rw [e1] at e0
            rw [e0, tx_within, t_within]
            simp
          · rw [tx_within]
            simp at l1 lt ⊢
            omega
        · cases h
    split at h
    · rename_i h0
      have e0 := tk_eq h0
      split at h
      · cases h
      · rename_i k1 hk1
        obtain ⟨v, h1, h2, e1, l1⟩ := nEnd_some hk1
        split at h
        · rename_i hs
          have es := tk_eq hs
          split at h
          · cases h
          · rename_i j hj
            obtain ⟨m, h3, h4, e2, l2⟩ := nEnd_some hj
            split at h
            · rename_i hs2
              have es2 := tk_eq hs2
              obtain ⟨k', hk, rfl⟩ := Option.map_eq_some_iff.mp h
              obtain ⟨t, r, wt, et, lt⟩ := fEnd_sound n _ _ hk
              refine ⟨.retry v m t, r, by simp [wf, wt, h1, h2, h4], ?_, ?_⟩
              · rw [List.drop_drop] at es es2
                rw [et] at es2
                rw [List.drop_drop, es2] at e2
                rw [e2] at es
                rw [List.drop_drop, es] at e1
                rw [e1] at e0
                rw [e0, tx_retry, t_retry]
                simp
              · rw [tx_retry]
                simp at l1 l2 lt ⊢
                omega
            · cases h
        · cases h
    · cases h
end DL


set_option Elab.async false
set_option linter.all false
set_option maxRecDepth 100000
set_option maxHeartbeats 1000000
namespace DL
open PySem PySem.Spec PyProof.Rows L2
/-- what may follow a form -/
def Fol (r : List Nat) : Prop := ∀ c, r.head? = some c → isL c = false ∧ isD c = false
theorem fol_sp (r : List Nat) : Fol (32 :: r) := fun c h => by cases h; decide
theorem fol_cl (r : List Nat) : Fol (41 :: r) := fun c h => by cases h; decide
theorem fol_nil : Fol [] := fun c h => by cases h
theorem tw_app {f : Nat → Bool} : ∀ {a r : List Nat}, (∀ c ∈ a, f c = true) → (∀ c, r.head? = some c → f c = false) → (a ++ r).takeWhile f = a
  | [], r, _, h => by
    cases r with
    | nil => rfl
    | cons c r => rw [List.nil_append, List.takeWhile_cons, h c rfl]; rfl
  | c :: a, r, h, k => by
    rw [List.cons_append, List.takeWhile_cons, h c List.mem_cons_self]
    simp only [if_true]
    rw [tw_app (fun z hz => h z (List.mem_cons_of_mem _ hz)) k]
theorem nEnd_num {n lo hi : Nat} {r : List Nat} (hn : n ≤ maxN) (h1 : lo ≤ n) (h2 : n ≤ hi) (hr : Fol r) : nEnd (TL.numL n ++ r) lo hi = some (TL.numL n).length := by
  have e : (TL.numL n ++ r).takeWhile isD = TL.numL n := tw_app (fun c hc => by have := num_free n c hc; simp [isD]; omega) fun c hc => (hr c hc).2
  have e2 : SX.S (TL.numL n) = numS n := TL.ext_tl (by
    show tl (SX.S (TL.numL n)) = tl (numS n)
    rw [tl_numS])
  unfold nEnd wEnd
  rw [e, e2, numW_num hn h1 h2]
theorem wdAt_wd (w : Wd) (r : List Nat) : wdAt (([32] ++ (tl (wdS w) ++ [32])) ++ r) = some (w, ([32] ++ (tl (wdS w) ++ [32])).length) := by
  unfold wdAt
  cases w <;> simp [t_then, t_else, t_both, t_either, t_w1, t_w2, t_w3, t_w4]
theorem tx_head (t : Tr) : (tx t).take 1 = [40] ∨ ∃ c r, tx t = c :: r ∧ 97 ≤ c := by
  cases t with
  | call a => exact .inr ⟨_, _, by rw [tx_call]; rfl, by decide⟩
  | pause a => exact .inr ⟨_, _, by rw [tx_pause]; rfl, by decide⟩
  | fail => exact .inr ⟨_, _, by rw [tx_fail], by decide⟩
  | hole => exact .inr ⟨_, _, by rw [tx_hole], by decide⟩
  | within o t =>
    cases o with
    | none => exact .inr ⟨_, _, by rw [tx_withq]; rfl, by decide⟩
    | some n => exact .inr ⟨_, _, by rw [tx_within]; rfl, by decide⟩
  | retry k n t => exact .inr ⟨_, _, by rw [tx_retry]; rfl, by decide⟩
  | pair w a b => exact .inl (by rw [tx_pair]; rfl)
/-- nesting -/
def md : Tr → Nat
  | .within _ t => md t + 1
  | .retry _ _ t => md t + 1
  | .pair _ a b => max (md a) (md b) + 1
  | _ => 0
theorem dr_app (a b : List Nat) (k : Nat) : (a ++ b).drop (a.length + k) = b.drop k := by
  rw [List.drop_append]
  simp
theorem numL_head_ne (n : Nat) : ∃ c r, TL.numL n = c :: r ∧ 48 ≤ c ∧ c ≤ 57 := by
  cases h : TL.numL n with
  | nil => exact absurd h (TL.numL_ne n)
  | cons c r => exact ⟨c, r, rfl, num_free n c (by rw [h]; exact List.mem_cons_self)⟩
theorem fEnd_full : ∀ (t : Tr) (n : Nat) (r : List Nat), wf t = true → md t < n → Fol r → fEnd n (tx t ++ r) = some (tx t).length
  | .call a, 0, r, _, h, _ => by simp [md] at h
  | .call a, n + 1, r, hw, _, hr => by
    obtain ⟨h1, h2, h3⟩ := name_let hw
    have e : (tl a ++ r).takeWhile isL = tl a := tw_app (fun c hc => by have := let_free h1 c hc; simp [isL]; omega) fun c hc => (hr c hc).1
    have hl : (tl a).length = a.length := (TL.len_tl a).symm
    rw [fEnd, tx_call]
    have h2' : 1 ≤ a.cps.size := h2
    have h3' : a.cps.size ≤ 8 := h3
    simp [t_fail, t_hole, t_call, wEnd, e]
    omega
  | .pause m, 0, r, _, h, _ => by simp [md] at h
  | .pause m, n + 1, r, hw, _, hr => by
    have hm : m ≤ maxN := of_decide_eq_true hw
    rw [fEnd, tx_pause]
    simp [t_fail, t_hole, t_call, t_pause, nEnd_num hm (Nat.zero_le _) hm hr]
    omega
  | .fail, 0, r, _, h, _ => by simp [md] at h
  | .fail, n + 1, r, hw, _, hr => by
    rw [fEnd, tx_fail]
    simp [t_fail]
  | .hole, 0, r, _, h, _ => by simp [md] at h
  | .hole, n + 1, r, hw, _, hr => by
    rw [fEnd, tx_hole]
    simp [t_fail, t_hole]
  | .within o t, 0, r, _, h, _ => by simp [md] at h
  | .within none t, n + 1, r, hw, h, hr => by
    have ih := fEnd_full t n r hw (by simp only [md] at h; omega) hr
    rw [fEnd, tx_withq]
    simp [t_fail, t_hole, t_call, t_pause, t_withq, ih]
    omega
  | .within (some m) t, n + 1, r, hw, h, hr => by
    simp only [wf, Bool.and_eq_true, decide_eq_true_eq] at hw
    obtain ⟨hm, hw⟩ := hw
    have ih := fEnd_full t n r hw (by simp only [md] at h; omega) hr
    obtain ⟨c, q, hc, hc1, hc2⟩ := numL_head_ne m
    have e1 := nEnd_num (r := 32 :: (tx t ++ r)) hm (Nat.zero_le _) hm (fol_sp _)
    have q1 : ¬ (119 :: 105 :: 116 :: 104 :: 105 :: 110 :: 32 :: (TL.numL m ++ 32 :: (tx t ++ r))).take 9 = [119, 105, 116, 104, 105, 110, 32, 63, 32] := by
      rw [hc]
      simp
      omega
    have d1 : (TL.numL m ++ 32 :: (tx t ++ r)).drop ((TL.numL m).length) = 32 :: (tx t ++ r) := List.drop_left
    have d2 : (TL.numL m ++ 32 :: (tx t ++ r)).drop ((TL.numL m).length + 1) = tx t ++ r := by rw [dr_app]; rfl
    rw [fEnd, tx_within]
    simp only [List.cons_append, List.nil_append, List.append_assoc, t_fail, t_hole, t_call, t_pause, t_withq, t_within] at q1 ⊢
    rw [if_neg (by simp), if_neg (by simp), if_neg (by simp), if_neg (by simp), if_neg q1, if_pos (by simp)]
    have a1 : ∀ k : Nat, 7 + k = k + 7 := fun k => Nat.add_comm _ _
    simp only [List.drop_succ_cons, List.drop_zero, e1]
    rw [show 7 + (TL.numL m).length = (TL.numL m).length + 7 from Nat.add_comm _ _]
    simp only [List.drop_succ_cons, d1, List.take_succ_cons, List.take_zero, if_true]
    rw [show (TL.numL m).length + 7 + 1 = (TL.numL m).length + 1 + 7 from by omega]
    simp only [List.drop_succ_cons, d2, ih, Option.map_some, List.length_cons, List.length_append, List.length_nil]
    congr 1
    omega
  | .retry k m t, 0, r, _, h, _ => by simp [md] at h
  | .retry k m t, n + 1, r, hw, h, hr => by
    simp only [wf, Bool.and_eq_true, decide_eq_true_eq] at hw
    obtain ⟨hk1, hk2, hm, hw⟩ := hw
    have ih := fEnd_full t n r hw (by simp only [md] at h; omega) hr
    have e1 := nEnd_num (r := 32 :: (TL.numL m ++ 32 :: (tx t ++ r))) (n := k) (lo := 1) (hi := 8) (by unfold maxN; omega) hk1 hk2 (fol_sp _)
    have e2 := nEnd_num (r := 32 :: (tx t ++ r)) hm (Nat.zero_le _) hm (fol_sp _)
    have d1 : (TL.numL k ++ 32 :: (TL.numL m ++ 32 :: (tx t ++ r))).drop ((TL.numL k).length) = 32 :: (TL.numL m ++ 32 :: (tx t ++ r)) := List.drop_left
    have d2 : (TL.numL k ++ 32 :: (TL.numL m ++ 32 :: (tx t ++ r))).drop ((TL.numL k).length + 1) = TL.numL m ++ 32 :: (tx t ++ r) := by rw [dr_app]; rfl
    have d3 : (TL.numL k ++ 32 :: (TL.numL m ++ 32 :: (tx t ++ r))).drop ((TL.numL k).length + (1 + (TL.numL m).length)) = 32 :: (tx t ++ r) := by
      rw [dr_app, Nat.add_comm 1, List.drop_succ_cons]
      exact List.drop_left
    have d4 : (TL.numL k ++ 32 :: (TL.numL m ++ 32 :: (tx t ++ r))).drop ((TL.numL k).length + (1 + ((TL.numL m).length + 1))) = tx t ++ r := by
      rw [dr_app, Nat.add_comm 1, List.drop_succ_cons, dr_app]
      rfl
    have d5 : (TL.numL k ++ 32 :: (TL.numL m ++ 32 :: (tx t ++ r))).drop ((TL.numL k).length + (1 + (TL.numL m).length) + 1) = tx t ++ r := by
      rw [show (TL.numL k).length + (1 + (TL.numL m).length) + 1 = (TL.numL k).length + (1 + ((TL.numL m).length + 1)) from by omega]
      exact d4
    rw [fEnd, tx_retry]
    simp only [List.cons_append, List.nil_append, List.append_assoc, t_fail, t_hole, t_call, t_pause, t_withq, t_within, t_retry]
    rw [if_neg (by simp), if_neg (by simp), if_neg (by simp), if_neg (by simp), if_neg (by simp), if_neg (by simp), if_pos (by simp)]
    simp only [List.drop_succ_cons, List.drop_zero, e1]
    rw [show 6 + (TL.numL k).length = (TL.numL k).length + 6 from Nat.add_comm _ _]
    simp only [List.drop_succ_cons, d1, List.take_succ_cons, List.take_zero, if_true]
    rw [show (TL.numL k).length + 6 + 1 = (TL.numL k).length + 1 + 6 from by omega]
    simp only [List.drop_succ_cons, d2, e2]
    rw [show (TL.numL k).length + 1 + 6 + (TL.numL m).length = (TL.numL k).length + (1 + (TL.numL m).length) + 6 from by omega]
    simp only [List.drop_succ_cons, d3, List.take_succ_cons, List.take_zero, if_true]
    rw [show (TL.numL k).length + (1 + (TL.numL m).length) + 6 + 1 = (TL.numL k).length + (1 + ((TL.numL m).length + 1)) + 6 from by omega]
    simp only [List.drop_succ_cons, d4, d5, ih, Option.map_some, List.length_cons, List.length_append, List.length_nil]
    congr 1
    omega
  | .pair w a b, 0, r, _, h, _ => by simp [md] at h
  | .pair w a b, n + 1, r, hw, h, hr => by
    simp only [wf, Bool.and_eq_true] at hw
    have ia := fEnd_full a n (([32] ++ (tl (wdS w) ++ [32])) ++ (tx b ++ 41 :: r)) hw.1 (by simp only [md] at h; omega) (fol_sp _)
    have ib := fEnd_full b n (41 :: r) hw.2 (by simp only [md] at h; omega) (fol_cl _)
    have ew := wdAt_wd w (tx b ++ 41 :: r)
    have e0 : tx (.pair w a b) ++ r = 40 :: (tx a ++ (([32] ++ (tl (wdS w) ++ [32])) ++ (tx b ++ 41 :: r))) := by rw [tx_pair]; simp
    have hlen : (tx (.pair w a b)).length = 1 + (tx a).length + ([32] ++ (tl (wdS w) ++ [32])).length + (tx b).length + 1 := by
      rw [tx_pair]
      simp only [List.length_append, List.length_cons, List.length_nil]
      omega
    rw [e0, hlen]
    generalize [32] ++ (tl (wdS w) ++ [32]) = ws at ia ew ⊢
    have d1 : (40 :: (tx a ++ (ws ++ (tx b ++ 41 :: r)))).drop (1 + (tx a).length) = ws ++ (tx b ++ 41 :: r) := by
      rw [Nat.add_comm, List.drop_succ_cons]; exact List.drop_left
    have d2 : (40 :: (tx a ++ (ws ++ (tx b ++ 41 :: r)))).drop (1 + (tx a).length + ws.length) = tx b ++ 41 :: r := by
      rw [← List.drop_drop, d1]; exact List.drop_left
    have d3 : (40 :: (tx a ++ (ws ++ (tx b ++ 41 :: r)))).drop (1 + (tx a).length + ws.length + (tx b).length) = 41 :: r := by
      rw [← List.drop_drop, d2]; exact List.drop_left
    rw [fEnd, if_pos (by simp)]
    simp only [List.drop_succ_cons, List.drop_zero, ia]
    rw [d1, ew]
    simp only [d2, ib, d3, List.take_succ_cons, List.take_zero, if_true]
end DL


set_option Elab.async false
set_option linter.all false
set_option maxRecDepth 100000
set_option maxHeartbeats 1000000
namespace DL
open PySem PySem.Spec PyProof.Rows L2
/-! ### what bounds the readers -/
def isF (c : Nat) : Bool := c == 40 || (c == 119 || c == 121)
def fm (l : List Nat) : Nat := l.countP isF
def cc (l : List Nat) : Nat := l.countP (· == 40) + fm l
theorem fm_app (a b : List Nat) : fm (a ++ b) = fm a + fm b := List.countP_append
theorem cc_app (a b : List Nat) : cc (a ++ b) = cc a + cc b := by unfold cc; rw [fm_app, List.countP_append]; omega
theorem fm_cc (l : List Nat) : fm l ≤ cc l := by unfold cc; omega
theorem fm_drop (l : List Nat) (k : Nat) : fm (l.drop k) ≤ fm l := by
  have := fm_app (l.take k) (l.drop k)
  rw [List.take_append_drop] at this
  omega
theorem cc_drop (l : List Nat) (k : Nat) : cc (l.drop k) ≤ cc l := by
  have := cc_app (l.take k) (l.drop k)
  rw [List.take_append_drop] at this
  omega
theorem cc_take (l : List Nat) (k : Nat) : cc (l.take k) ≤ cc l := by
  have := cc_app (l.take k) (l.drop k)
  rw [List.take_append_drop] at this
  omega
theorem fm_step {l p : List Nat} {k : Nat} (h : l.take k = p) (hp : 1 ≤ fm p) : fm (l.drop k) + 1 ≤ fm l := by
  have e := tk_eq h
  have := fm_app p (l.drop k)
  rw [← e] at this
  omega
theorem md_fm : ∀ t : Tr, md t ≤ fm (tx t)
  | .call _ => Nat.zero_le _
  | .pause _ => Nat.zero_le _
  | .fail => Nat.zero_le _
  | .hole => Nat.zero_le _
  | .within none t => by
    have := md_fm t
    have e : fm [119, 105, 116, 104, 105, 110, 32, 63, 32] = 1 := by decide
    rw [tx_withq, fm_app, e]; simp only [md]; omega
  | .within (some n) t => by
    have := md_fm t
    have e : fm [119, 105, 116, 104, 105, 110, 32] = 1 := by decide
    rw [tx_within, fm_app, fm_app, fm_app, e]; simp only [md]; omega
  | .retry k n t => by
    have := md_fm t
    have e : fm [114, 101, 116, 114, 121, 32] = 1 := by decide
    rw [tx_retry, fm_app, fm_app, fm_app, fm_app, fm_app, e]; simp only [md]; omega
  | .pair w a b => by
    have := md_fm a
    have := md_fm b
    have e : fm [40] = 1 := by decide
    rw [tx_pair]; simp only [fm_app, e, md]; omega
theorem dp_cc : ∀ t : Tr, dp t ≤ cc (tx t) + 1
  | .call _ => Nat.le_add_left _ _
  | .pause _ => Nat.le_add_left _ _
  | .fail => Nat.le_add_left _ _
  | .hole => Nat.le_add_left _ _
  | .within none t => by
    have := dp_cc t
    have e : cc [119, 105, 116, 104, 105, 110, 32, 63, 32] = 1 := by decide
    rw [tx_withq, cc_app, e]; simp only [dp]; omega
  | .within (some n) t => by
    have := dp_cc t
    have e : cc [119, 105, 116, 104, 105, 110, 32] = 1 := by decide
    rw [tx_within, cc_app, cc_app, cc_app, e]; simp only [dp]; omega
  | .retry k n t => by
    have := dp_cc t
    have e : cc [114, 101, 116, 114, 121, 32] = 1 := by decide
    rw [tx_retry, cc_app, cc_app, cc_app, cc_app, cc_app, e]; simp only [dp]; omega
  | .pair w a b => by
    have := dp_cc a
    have := dp_cc b
    have e : cc [40] = 2 := by decide
    rw [tx_pair]; simp only [cc_app, e, dp]; omega
/-! the reader of words does not run out -/
def wtW (w : Str) : Nat := if w = "(" then 2 else if w = "within" ∨ w = "retry" then 1 else 0
def mw (ws : List Str) : Nat := (ws.map wtW).sum
theorem mw_drop (ws : List Str) (j : Nat) : mw (ws.drop j) ≤ mw ws := by
  have : mw (ws.take j) + mw (ws.drop j) = mw ws := by
    unfold mw
    rw [← List.sum_append, ← List.map_append, List.take_append_drop]
  omega
theorem mw_cons (w : Str) (ws : List Str) : mw (w :: ws) = wtW w + mw ws := by simp [mw]
theorem form_in : ∀ n : Nat, (∀ ws, mw ws < n → pForm n ws ≠ .out) ∧ (∀ ws, mw ws + 1 < n → pPair n ws ≠ .out) := by
  intro n
  induction n with
  | zero => exact ⟨fun ws h => by omega, fun ws h => by omega⟩
  | succ n ih =>
    obtain ⟨ihf, ihp⟩ := ih
    refine ⟨fun ws h => ?_, fun ws h => ?_⟩
    · cases ws with
      | nil => simp [pForm]
      | cons w r =>
        rw [mw_cons] at h
        simp only [pForm]
        cases hk : kw w with
        | open_ =>
          simp only
          have hw : w = "(" := by
            unfold kw at hk
            split at hk
            · assumption
            · split at hk
              · cases hk
              split at hk
              · cases hk
              split at hk
              · cases hk
              split at hk
              · cases hk
              split at hk
              · cases hk
              split at hk <;> cases hk
          have : wtW w = 2 := by rw [hw]; decide +kernel
          exact ihp r (by omega)
        | call =>
          simp only
          cases r with
          | nil => simp
          | cons a r => simp only; split <;> simp
        | pause =>
          simp only
          cases r with
          | nil => simp
          | cons a r => simp only; split <;> simp
        | fail => simp
        | hole => simp
        | other => simp
        | within =>
          simp only
          have hw : w = "within" := by
            unfold kw at hk
            split at hk
            · cases hk
            split at hk
            · cases hk
            split at hk
            · cases hk
            split at hk
            · cases hk
            split at hk
            · cases hk
            split at hk
            · assumption
            split at hk <;> cases hk
          have : wtW w = 1 := by rw [hw]; decide +kernel
          cases r with
          | nil => simp
          | cons a r =>
            rw [mw_cons] at h
            have k := ihf r (by omega)
            simp only
            split
            · split
              · simp
              · exact k
            · split
              · split
                · simp
                · exact k
              · simp
        | retry =>
          simp only
          have hw : w = "retry" := by
            unfold kw at hk
            split at hk
            · cases hk
            split at hk
            · cases hk
            split at hk
            · cases hk
            split at hk
            · cases hk
            split at hk
            · cases hk
            split at hk
            · cases hk
            split at hk
            · assumption
            · cases hk
          have : wtW w = 1 := by rw [hw]; decide +kernel
          cases r with
          | nil => simp
          | cons a r =>
            simp only
            split
            · simp
            · cases r with
              | nil => simp
              | cons b r =>
                rw [mw_cons, mw_cons] at h
                have k := ihf r (by omega)
                simp only
                split
                · simp
                · split
                  · simp
                  · exact k
    · simp only [pPair]
      have k1 := ihf ws (by omega)
      split
      · simp
      · rename_i a w r e1
        split
        · simp
        · obtain ⟨_, _, j, _, hj⟩ := (pForm_wf n).1 _ _ _ e1
          have hm := mw_drop ws j
          rw [hj, mw_cons] at hm
          have k2 := ihf r (by omega)
          split
          · simp
          · split <;> simp
          · exact k2
      · exact k1
theorem spl_cc : ∀ (l acc : List Nat), ((TL.spl [32] 0 acc l).map cc).sum = cc acc + cc l
  | [], acc => by rw [TL.spl_nil]; simp [cc, fm]
  | c :: r, acc => by
    by_cases hp : TL.pre [32] (c :: r) = true
    · have hc : c = 32 := by
        have : (c == 32) = true := by simpa [TL.pre] using hp
        exact eq_of_beq this
      rw [TL.spl_hit hp, List.map_cons, List.sum_cons]
      have := spl_cc r []
      show cc acc + ((TL.spl [32] 0 [] r).map cc).sum = _
      rw [this, hc]
      have e : cc (32 :: r) = cc r := by
        have := cc_app [32] r
        have e2 : cc [32] = 0 := by decide
        rw [e2] at this
        simpa using this
      rw [e]
      have e3 : cc [] = 0 := rfl
      omega
    · rw [TL.spl_miss (by simpa using hp), spl_cc r (acc ++ [c]), cc_app]
      have := cc_app [c] r
      simp at this
      omega
theorem spl_count : ∀ (l acc : List Nat), (TL.spl [32] 0 acc l).length ≤ l.length + 1
  | [], acc => by rw [TL.spl_nil]; simp
  | c :: r, acc => by
    by_cases hp : TL.pre [32] (c :: r) = true
    · rw [TL.spl_hit hp, List.length_cons]
      have : (TL.spl [32] 0 [] r).length ≤ r.length + 1 := spl_count r []
      show (TL.spl [32] 0 [] r).length + 1 ≤ _
      simp; omega
    · rw [TL.spl_miss (by simpa using hp)]
      have := spl_count r (acc ++ [c])
      simp; omega
theorem cc_spc : ∀ l : List Nat, cc (spc l) = cc l
  | [] => rfl
  | c :: l => by
    have ih := cc_spc l
    have e : spc (c :: l) = (if c = 40 then [40, 32] else if c = 41 then [32, 41] else [c]) ++ spc l := by simp [spc]
    rw [e, cc_app, ih]
    have := cc_app [c] l
    have e2 : cc (if c = 40 then [40, 32] else if c = 41 then [32, 41] else [c]) = cc [c] := by
      split
      · rename_i h; rw [h]; decide
      · split
        · rename_i h; rw [h]; decide
        · rfl
    rw [e2]
    simpa using this.symm
theorem wt_cc (w : Str) : wtW w ≤ cc (tl w) := by
  unfold wtW
  split
  · rename_i h; rw [h]; decide +kernel
  · split
    · rename_i h
      rcases h with h | h <;> rw [h] <;> decide +kernel
    · omega
theorem sum_le {α : Type} (f g : α → Nat) (h : ∀ x, f x ≤ g x) : ∀ l : List α, (l.map f).sum ≤ (l.map g).sum
  | [] => Nat.le_refl _
  | x :: l => by have := sum_le f g h l; have := h x; simp; omega
theorem mw_words (x : Str) : mw (wordsIn x) ≤ cc (tl x) := by
  unfold mw
  rw [words_spl, List.map_map]
  refine Nat.le_trans (sum_le (wtW ∘ SX.S) cc (fun p => ?_) _) ?_
  · have := wt_cc (SX.S p)
    have e : tl (SX.S p) = p := by simp [tl, SX.S]
    rw [e] at this
    exact this
  · rw [spl_cc, cc_spc]
    have : cc [] = 0 := rfl
    omega
theorem words_count (x : Str) : (wordsIn x).length ≤ 2 * x.length + 1 := by
  rw [words_spl, List.length_map]
  have := spl_count (spc (tl x)) []
  have h2 := spc_len2 (tl x)
  have h3 : (tl x).length = x.length := (TL.len_tl x).symm
  omega
theorem form_nd : ∀ n : Nat, (∀ ws t s, pForm n ws = .ok t s → nd t + s.length ≤ ws.length) ∧ (∀ ws t s, pPair n ws = .ok t s → nd t + s.length ≤ ws.length + 1) := by
  intro n
  induction n with
  | zero => exact ⟨fun ws t r h => (by simp [pForm] at h), fun ws t r h => (by simp [pPair] at h)⟩
  | succ n ih =>
    obtain ⟨ihf, ihp⟩ := ih
    refine ⟨fun ws t s h => ?_, fun ws t s h => ?_⟩
    · cases ws with
      | nil => simp [pForm] at h
      | cons w r =>
        simp only [pForm] at h
        cases hk : kw w with
        | open_ =>
          simp only [hk] at h
          have := ihp _ _ _ h
          simp; omega
        | call =>
          simp only [hk] at h
          cases r with
          | nil => cases h
          | cons a r =>
            simp only at h
            split at h
            · cases h; simp [nd]; omega
            · cases h
        | pause =>
          simp only [hk] at h
          cases r with
          | nil => cases h
          | cons a r =>
            simp only at h
            split at h
            · cases h; simp [nd]; omega
            · cases h
        | fail => simp only [hk] at h; cases h; simp [nd]; omega
        | hole => simp only [hk] at h; cases h; simp [nd]; omega
        | other => simp only [hk] at h; cases h
        | within =>
          simp only [hk] at h
          cases r with
          | nil => cases h
          | cons a r =>
            simp only at h
            split at h
            · split at h
              · rename_i e
                cases h
                have := ihf _ _ _ e
                simp [nd]; omega
              · rename_i hne; exact absurd h (fun e => hne _ _ e)
            · split at h
              · split at h
                · rename_i e
                  cases h
                  have := ihf _ _ _ e
                  simp [nd]; omega
                · rename_i hne; exact absurd h (fun e => hne _ _ e)
              · cases h
        | retry =>
          simp only [hk] at h
          cases r with
          | nil => cases h
          | cons a r =>
            simp only at h
            split at h
            · cases h
            · cases r with
              | nil => cases h
              | cons b r =>
                simp only at h
                split at h
                · cases h
                · split at h
                  · rename_i e
                    cases h
                    have := ihf _ _ _ e
                    simp [nd]; omega
                  · rename_i hne; exact absurd h (fun e => hne _ _ e)
    · simp only [pPair] at h
      split at h
      · cases h
      · rename_i a w r e1
        have h1 := ihf _ _ _ e1
        split at h
        · cases h
        · split at h
          · cases h
          · rename_i b c r2 e2
            have h2 := ihf _ _ _ e2
            split at h
            · cases h
              simp [nd] at h1 h2 ⊢; omega
            · cases h
          · rename_i h7 h8; exact absurd h (fun e => by cases s with | nil => exact h7 _ e | cons c r => exact h8 _ _ _ e)
      · rename_i h7 h8; exact absurd h (fun e => by cases s with | nil => exact h7 _ e | cons c r => exact h8 _ _ _ e)
/-! texts that are drawn -/
theorem cw : ∀ {t : Tr}, wf t = true → nmOk t = true → 2 * cc (tx t) + 1 ≤ 3 * nd t
  | .call a, h, k => by
    have k' : fm (tl a) ≤ 1 := of_decide_eq_true k
    have h40 : (tl a).countP (· == 40) = 0 := List.countP_eq_zero.mpr fun c hc => by
      have := let_free (name_let h).1 c hc
      simp; omega
    have e : cc [99, 97, 108, 108, 32] = 0 := by decide
    rw [tx_call, cc_app, e]
    simp only [nd, cc, h40]
    omega
  | .pause n, h, _ => by
    have e : cc [112, 97, 117, 115, 101, 32] = 0 := by decide
    have e2 : cc (TL.numL n) = 0 := by
      unfold cc fm
      rw [List.countP_eq_zero.mpr fun c hc => (by have := num_free n c hc; simp; omega), List.countP_eq_zero.mpr fun c hc => (by have := num_free n c hc; simp [isF]; omega)]
    rw [tx_pause, cc_app, e, e2]
    simp only [nd]; omega
  | .fail, _, _ => by rw [tx_fail]; decide
  | .hole, _, _ => by rw [tx_hole]; decide
  | .within none t, h, k => by
    have := cw (t := t) h k
    have e : cc [119, 105, 116, 104, 105, 110, 32, 63, 32] = 1 := by decide
    rw [tx_withq, cc_app, e]; simp only [nd]; omega
  | .within (some n) t, h, k => by
    simp only [wf, Bool.and_eq_true] at h
    have := cw h.2 k
    have e : cc [119, 105, 116, 104, 105, 110, 32] = 1 := by decide
    have e0 : cc [32] = 0 := by decide
    have e2 : cc (TL.numL n) = 0 := by
      unfold cc fm
      rw [List.countP_eq_zero.mpr fun c hc => (by have := num_free n c hc; simp; omega), List.countP_eq_zero.mpr fun c hc => (by have := num_free n c hc; simp [isF]; omega)]
    rw [tx_within]; simp only [cc_app, e, e0, e2, nd]; omega
  | .retry j n t, h, k => by
    simp only [wf, Bool.and_eq_true] at h
    have := cw h.2.2.2 k
    have e : cc [114, 101, 116, 114, 121, 32] = 1 := by decide
    have e0 : cc [32] = 0 := by decide
    have e2 : ∀ n, cc (TL.numL n) = 0 := fun n => by
      unfold cc fm
      rw [List.countP_eq_zero.mpr fun c hc => (by have := num_free n c hc; simp; omega), List.countP_eq_zero.mpr fun c hc => (by have := num_free n c hc; simp [isF]; omega)]
    rw [tx_retry]; simp only [cc_app, e, e0, e2, nd]; omega
  | .pair w a b, h, k => by
    simp only [wf, Bool.and_eq_true] at h
    simp only [nmOk, Bool.and_eq_true] at k
    have := cw h.1 k.1
    have := cw h.2 k.2
    have e : cc [40] = 2 := by decide
    have e0 : cc [32] = 0 := by decide
    have e1 : cc [41] = 0 := by decide
    have e2 : cc (tl (wdS w)) = 0 := by cases w <;> decide +kernel
    rw [tx_pair]; simp only [cc_app, e, e0, e1, e2, nd]; omega
end DL


set_option Elab.async false
set_option linter.all false
set_option maxRecDepth 100000
set_option maxHeartbeats 1000000
namespace DL
open PySem PySem.Spec PyProof.Rows L2
/-! ### texts that are spoilt -/
theorem strOk_iff (x : Str) : PyData.strOk x = true ↔ ∀ c ∈ tl x, c < 1114112 := by
  constructor
  · intro ok
    unfold PyData.strOk at ok
    rw [← Array.all_toList, List.all_eq_true] at ok
    exact fun c hc => of_decide_eq_true (ok c hc)
  · exact strOk_tl
theorem spl_len : ∀ (l acc : List Nat), ((TL.spl [32] 0 acc l).map List.length).sum + (TL.spl [32] 0 acc l).length = acc.length + l.length + 1
  | [], acc => by rw [TL.spl_nil]; simp
  | c :: r, acc => by
    by_cases hp : TL.pre [32] (c :: r) = true
    · rw [TL.spl_hit hp, List.map_cons, List.sum_cons, List.length_cons]
      have := spl_len r []
      show acc.length + ((TL.spl [32] 0 [] r).map List.length).sum + ((TL.spl [32] 0 [] r).length + 1) = _
      simp at this ⊢; omega
    · rw [TL.spl_miss (by simpa using hp)]
      have := spl_len r (acc ++ [c])
      simp at this ⊢; omega
theorem joinL_cc : ∀ ps : List (List Nat), cc (TL.joinL [32] ps) = (ps.map cc).sum
  | [] => rfl
  | [p] => by simp [TL.joinL]
  | p :: q :: r => by
    have ih := joinL_cc (q :: r)
    have e : TL.joinL [32] (p :: q :: r) = p ++ ([32] ++ TL.joinL [32] (q :: r)) := rfl
    have e0 : cc [32] = 0 := by decide
    rw [e, cc_app, cc_app, ih, e0]
    simp only [List.map_cons, List.sum_cons]
    omega
theorem joinL_len : ∀ ps : List (List Nat), (TL.joinL [32] ps).length ≤ (ps.map List.length).sum + ps.length
  | [] => by simp [TL.joinL]
  | [p] => by simp [TL.joinL]
  | p :: q :: r => by
    have ih := joinL_len (q :: r)
    have e : TL.joinL [32] (p :: q :: r) = p ++ ([32] ++ TL.joinL [32] (q :: r)) := rfl
    rw [e, List.length_append, List.length_append, List.map_cons, List.sum_cons, List.length_cons]
    simp at ih ⊢; omega
theorem joinL_mem : ∀ (ps : List (List Nat)) (c : Nat), c ∈ TL.joinL [32] ps → c = 32 ∨ ∃ p ∈ ps, c ∈ p
  | [], c, h => by cases h
  | [p], c, h => .inr ⟨p, List.mem_cons_self, by simpa [TL.joinL] using h⟩
  | p :: q :: r, c, h => by
    have e : TL.joinL [32] (p :: q :: r) = p ++ ([32] ++ TL.joinL [32] (q :: r)) := rfl
    rw [e] at h
    rcases List.mem_append.mp h with h | h
    · exact .inr ⟨p, List.mem_cons_self, h⟩
    · rcases List.mem_append.mp h with h | h
      · exact .inl (by simpa using h)
      · rcases joinL_mem (q :: r) c h with h | ⟨z, hz, h⟩
        · exact .inl h
        · exact .inr ⟨z, List.mem_cons_of_mem _ hz, h⟩
/-- words of a text with their weights -/
structure Wds (x : Str) (ws : List Str) : Prop where
  ok : ∀ w ∈ ws, PyData.strOk w = true
  c : (ws.map fun w => cc (tl w)).sum = cc (tl x)
  l : (ws.map fun w => w.length).sum + ws.length = x.length + 1
theorem split_wds {x : Str} (ho : PyData.strOk x = true) : Wds x (Txt.split x " ") := by
  have e : Txt.split x " " = (TL.spl [32] 0 [] (tl x)).map SX.S := by
    have h := SX.split_S (a := tl x) (b := [32]) (by simp) (by decide)
    have e1 : SX.S (tl x) = x := SX.S_tl x
    have e2 : (SX.S [32] : Str) = " " := TL.ext_tl (by decide +kernel)
    rw [e1, e2] at h
    exact h
  have ts : ∀ p : List Nat, tl (SX.S p) = p := fun p => by simp [tl, SX.S]
  rw [e]
  refine ⟨fun w hw => ?_, ?_, ?_⟩
  · obtain ⟨p, hp, rfl⟩ := List.mem_map.mp hw
    rw [strOk_iff, ts]
    intro c hc
    rcases (spl_mem _ _ _ hp).2 c hc with h | h
    · cases h
    · exact (strOk_iff x).mp ho c h
  · rw [List.map_map]
    have := spl_cc (tl x) []
    have e3 : cc [] = 0 := rfl
    rw [e3, Nat.zero_add] at this
    have e4 : ((fun w : Str => cc (tl w)) ∘ SX.S) = cc := by
      funext p
      exact congrArg cc (ts p)
    rw [e4]
    exact this
  · rw [List.map_map, List.length_map]
    have := spl_len (tl x) []
    have e3 : ((fun w : Str => w.length) ∘ SX.S) = List.length := by
      funext p
      exact (TL.len_tl (SX.S p)).trans (congrArg List.length (ts p))
    rw [e3]
    have hx : (tl x).length = x.length := (TL.len_tl x).symm
    rw [hx, List.length_nil] at this
    omega
theorem join_ok {ws : List Str} (h : ∀ w ∈ ws, PyData.strOk w = true) : PyData.strOk (Str.join " " ws) = true := by
  rw [strOk_iff]
  intro c hc
  have e : tl (Str.join " " ws) = TL.joinL [32] (ws.map tl) := by rw [show [32] = tl " " from (by decide +kernel)]; exact TL.tl_join _ _
  rw [e] at hc
  rcases joinL_mem _ _ hc with h1 | ⟨p, hp, h1⟩
  · omega
  · obtain ⟨w, hw, rfl⟩ := List.mem_map.mp hp
    exact (strOk_iff w).mp (h w hw) c h1
theorem join_cc (ws : List Str) : cc (tl (Str.join " " ws)) = (ws.map fun w => cc (tl w)).sum := by
  have e : tl (Str.join " " ws) = TL.joinL [32] (ws.map tl) := by rw [show [32] = tl " " from (by decide +kernel)]; exact TL.tl_join _ _
  rw [e, joinL_cc, List.map_map]
  rfl
theorem join_len (ws : List Str) : (Str.join " " ws).length ≤ (ws.map fun w => w.length).sum + ws.length := by
  have e : tl (Str.join " " ws) = TL.joinL [32] (ws.map tl) := by rw [show [32] = tl " " from (by decide +kernel)]; exact TL.tl_join _ _
  rw [TL.len_tl]
  show (tl (Str.join " " ws)).length ≤ _
  rw [e]
  have := joinL_len (ws.map tl)
  rw [List.map_map, List.length_map] at this
  have e3 : (List.length ∘ tl) = fun w : Str => w.length := by
    funext w
    exact (TL.len_tl w).symm
  rw [e3] at this
  exact this
theorem sum_set {α : Type} (f : α → Nat) (v : α) : ∀ (l : List α) (k : Nat), ((l.set k v).map f).sum ≤ (l.map f).sum + f v
  | [], k => by simp
  | x :: l, 0 => by simp only [List.set, List.map_cons, List.sum_cons]; omega
  | x :: l, k + 1 => by have := sum_set f v l k; simp only [List.set, List.map_cons, List.sum_cons]; omega
theorem sum_mem {α : Type} (f : α → Nat) {x : α} : ∀ {l : List α}, x ∈ l → f x ≤ (l.map f).sum
  | y :: l, h => by
    rcases List.mem_cons.mp h with rfl | h
    · simp
    · have := sum_mem f h; simp; omega
theorem sum_rep {α : Type} (f : α → Nat) (l : List α) (m : Nat) : ((List.replicate m l).flatten.map f).sum = m * (l.map f).sum := by
  induction m with
  | zero => simp
  | succ m ih => rw [List.replicate_succ, List.flatten_cons, List.map_append, List.sum_append, ih, Nat.succ_mul]; omega
theorem sum_cut {α : Type} (f : α → Nat) (l : List α) (k m : Nat) (hm : m ≤ 2) : ((l.take k ++ (List.replicate m ((l.drop k).take 1)).flatten ++ l.drop (k + 1)).map f).sum ≤ 2 * (l.map f).sum := by
  rw [List.map_append, List.map_append, List.sum_append, List.sum_append, sum_rep]
  have e : (l.map f).sum = ((l.take k).map f).sum + ((((l.drop k).take 1).map f).sum + ((l.drop (k + 1)).map f).sum) := by
    have e1 : l = l.take k ++ ((l.drop k).take 1 ++ l.drop (k + 1)) := by
      rw [← List.drop_drop, List.take_append_drop, List.take_append_drop]
    conv => lhs; rw [e1]
    rw [List.map_append, List.map_append, List.sum_append, List.sum_append]
  rw [e]
  have : m * (((l.drop k).take 1).map f).sum ≤ 2 * (((l.drop k).take 1).map f).sum := Nat.mul_le_mul_right _ hm
  omega
/-! list + list, a new list that may change -/
def rdAddM : DR2 := fun x y M Q => match asL M x, asL M y with
  | some xs, some ys => xs.length + ys.length ≤ 100000 ∧ ∀ p, M p = none → Q (.ref p) (updM M p (.lst (xs ++ ys)))
  | _, _ => False
theorem do_addM {X : Cx} {F0 : Hp} : DOp X F0 (binaryOp .Add) rdAddM := by
  intro pins s σ H x y v u Q I rx ry ⟨dx, dy, M, F, P, l0, g, hx, hy, t, k⟩
  unfold rdAddM at t
  split at t
  · rename_i xs ys e1 e2
    obtain ⟨a, vs, rfl, h1, r1⟩ := asL_at g hx e1
    obtain ⟨b, ws, rfl, h2, r2⟩ := asL_at g hy e2
    refine op_cat pins s σ H _ _ v u Q I rx ry ⟨a, b, vs, ws, rfl, rfl, h1, h2, by rw [r1.len, r2.len, sizeLine_eq]; omega, fun p hp => ?_⟩
    exact k _ _ _ F _ (Le.refl F) (g.newM hp (.lst (r1.append r2))) (.ref p) (t.2 p (g.freshM hp))
  · exact t.elim
end DL


set_option Elab.async false
set_option linter.all false
set_option maxRecDepth 100000
set_option maxHeartbeats 400000
namespace DL
open PySem PySem.Spec PyProof.Rows L2
/-! ### texts made by text * n -/
theorem fold_reps (c : Array Nat) : ∀ (k : Nat) (acc : Array Nat), ((List.replicate k c).foldl (· ++ ·) acc).toList = acc.toList ++ (List.replicate k c.toList).flatten
  | 0, acc => by simp
  | k + 1, acc => by
    rw [List.replicate_succ, List.foldl_cons, fold_reps c k, List.replicate_succ, List.flatten_cons, Array.toList_append, List.append_assoc]
theorem tl_mul {x : Str} {k : Nat} (hk : 2 ≤ k) (hx : 1 ≤ x.length) : tl (Txt.mul x (k : Int)) = (List.replicate k (tl x)).flatten := by
  unfold Txt.mul
  rw [if_neg (by omega), if_neg (by simp; omega)]
  show ((List.replicate (k : Int).toNat x.cps).foldl (· ++ ·) #[]).toList = _
  rw [Int.toNat_natCast, fold_reps]
  rfl
theorem flat_succ (l : List Nat) (n : Nat) : (List.replicate (n + 1) l).flatten = (List.replicate n l).flatten ++ l := by
  rw [List.replicate_succ', List.flatten_append]
  simp
def wN : Nat → Tr
  | 0 => .fail
  | n + 1 => .within (some 1) (wN n)
def rN : Nat → Tr
  | 0 => .call "a"
  | n + 1 => .retry 1 0 (rN n)
def pN : Nat → Tr
  | 0 => .hole
  | n + 1 => .pair .both (pN n) .fail
def eN : Nat → Tr
  | 0 => .call "a"
  | n + 1 => .pair .either (eN n) (.within (some maxN) (.pause maxN))
theorem n1 : TL.numL 1 = [49] := by decide +kernel
theorem n0 : TL.numL 0 = [48] := by decide +kernel
theorem tx_wN : ∀ n, tx (wN n) = (List.replicate n (tl "within 1 ")).flatten ++ tl "fail"
  | 0 => t_fail.symm ▸ (by rw [wN, tx_fail]; rfl)
  | n + 1 => by
    have e : tl "within 1 " = [119, 105, 116, 104, 105, 110, 32, 49, 32] := by decide +kernel
    rw [wN, tx_within, tx_wN n, n1, List.replicate_succ, List.flatten_cons, e]
    simp
theorem tx_rN : ∀ n, tx (rN n) = (List.replicate n (tl "retry 1 0 ")).flatten ++ tl "call a"
  | 0 => by
    rw [rN, tx_call]
    decide +kernel
  | n + 1 => by
    have e : tl "retry 1 0 " = [114, 101, 116, 114, 121, 32, 49, 32, 48, 32] := by decide +kernel
    rw [rN, tx_retry, tx_rN n, n1, n0, List.replicate_succ, List.flatten_cons, e]
    simp
theorem tx_pN : ∀ n, tx (pN n) = (List.replicate n (tl "(")).flatten ++ tl "hole" ++ (List.replicate n (tl " both fail)")).flatten
  | 0 => by
    rw [pN, tx_hole]
    decide +kernel
  | n + 1 => by
    have e : tl " both fail)" = [32, 98, 111, 116, 104, 32, 102, 97, 105, 108, 41] := by decide +kernel
    rw [pN, tx_pair, tx_pN n, tx_fail, t_w3, List.replicate_succ, List.flatten_cons, flat_succ, t_op, e]
    simp
theorem tx_eN : ∀ n, tx (eN n) = (List.replicate n (tl "(")).flatten ++ tl "call a" ++ (List.replicate n (tl " either within 1000000000 pause 1000000000)")).flatten
  | 0 => by
    rw [eN, tx_call]
    decide +kernel
  | n + 1 => by
    have e : tl " either within 1000000000 pause 1000000000)" = ([32] ++ (tl (wdS .either) ++ [32])) ++ (tx (.within (some maxN) (.pause maxN)) ++ [41]) := by
      rw [tx_within, tx_pause]
      decide +kernel
    rw [eN, tx_pair, tx_eN n, List.replicate_succ, List.flatten_cons, flat_succ, t_op, e]
    simp
/-- a text that may be judged -/
structure Rok (x : Str) : Prop where
  ok : PyData.strOk x = true
  l : x.length ≤ 5000
  f : fm (tl x) < 120
  c : cc (tl x) < 120 ∨ ∃ t, wf t = true ∧ txt t = x ∧ dp t ≤ 120
theorem rok_tree {t : Tr} {x : Str} (e : tx t = tl x) (h : wf t = true) (hd : dp t ≤ 120) (hn : nd t ≤ 200) (hf : fm (tx t) < 120) : Rok x := by
  have ex : txt t = x := TL.ext_tl e
  subst ex
  exact ⟨txt_ok h, by have := txt_len h; omega, hf, .inr ⟨t, h, rfl, hd⟩⟩
theorem wN_ok : ∀ n, wf (wN n) = true ∧ dp (wN n) = n + 1 ∧ nd (wN n) = n + 1 ∧ fm (tx (wN n)) = n
  | 0 => ⟨rfl, rfl, rfl, by rw [wN, tx_fail]; decide⟩
  | n + 1 => by
    obtain ⟨h1, h2, h3, h4⟩ := wN_ok n
    refine ⟨by simp [wN, wf, h1, maxN], by simp [wN, dp, h2], by simp [wN, nd, h3], ?_⟩
    have e : fm [119, 105, 116, 104, 105, 110, 32] = 1 := by decide
    have e2 : fm [49] = 0 := by decide
    have e3 : fm [32] = 0 := by decide
    rw [wN, tx_within, n1]
    simp only [fm_app, e, e2, e3, h4]; omega
theorem rN_ok : ∀ n, wf (rN n) = true ∧ dp (rN n) = n + 1 ∧ nd (rN n) = n + 1 ∧ fm (tx (rN n)) = n
  | 0 => ⟨by decide +kernel, rfl, rfl, by rw [rN, tx_call]; decide +kernel⟩
  | n + 1 => by
    obtain ⟨h1, h2, h3, h4⟩ := rN_ok n
    refine ⟨by simp [rN, wf, h1, maxN], by simp [rN, dp, h2], by simp [rN, nd, h3], ?_⟩
    have e : fm [114, 101, 116, 114, 121, 32] = 1 := by decide
    have e1 : fm [48] = 0 := by decide
    have e2 : fm [49] = 0 := by decide
    have e3 : fm [32] = 0 := by decide
    rw [rN, tx_retry, n1, n0]
    simp only [fm_app, e, e1, e2, e3, h4]; omega
theorem pN_ok : ∀ n, wf (pN n) = true ∧ dp (pN n) = 2 * n + 1 ∧ nd (pN n) = 2 * n + 1 ∧ fm (tx (pN n)) = n
  | 0 => ⟨rfl, rfl, rfl, by rw [pN, tx_hole]; decide⟩
  | n + 1 => by
    obtain ⟨h1, h2, h3, h4⟩ := pN_ok n
    refine ⟨by simp [pN, wf, h1], by simp [pN, dp, h2]; omega, by simp [pN, nd, h3]; omega, ?_⟩
    have e : fm [40] = 1 := by decide
    have e1 : fm [41] = 0 := by decide
    have e3 : fm [32] = 0 := by decide
    have e4 : fm [98, 111, 116, 104] = 0 := by decide
    have e5 : fm [102, 97, 105, 108] = 0 := by decide
    rw [pN, tx_pair, t_w3, tx_fail]
    simp only [fm_app, e, e1, e3, e4, e5, h4]; omega
theorem eN_ok : ∀ n, wf (eN n) = true ∧ dp (eN n) ≤ 2 * n + 2 ∧ nd (eN n) = 3 * n + 1 ∧ fm (tx (eN n)) = 2 * n
  | 0 => ⟨by decide +kernel, by decide, rfl, by rw [eN, tx_call]; decide +kernel⟩
  | n + 1 => by
    obtain ⟨h1, h2, h3, h4⟩ := eN_ok n
    refine ⟨by simp [eN, wf, h1], by simp [eN, dp]; omega, by simp [eN, nd, h3]; omega, ?_⟩
    have e : fm [40] = 1 := by decide
    have e1 : fm [41] = 0 := by decide
    have e3 : fm [32] = 0 := by decide
    have e4 : fm [101, 105, 116, 104, 101, 114] = 0 := by decide
    have e5 : fm (tx (.within (some maxN) (.pause maxN))) = 1 := by rw [tx_within, tx_pause]; decide +kernel
    rw [eN, tx_pair, t_w4]
    simp only [fm_app, e, e1, e3, e4, e5, h4]; omega
theorem rok_w : Rok (Txt.mul "within 1 " 50 ++ "fail") := by
  obtain ⟨h1, h2, h3, h4⟩ := wN_ok 50
  refine rok_tree (t := wN 50) ?_ h1 (by omega) (by omega) (by omega)
  rw [tx_wN, tl_app]
  exact congrArg (· ++ tl "fail") (tl_mul (k := 50) (by decide) (by decide +kernel)).symm
theorem rok_r : Rok (Txt.mul "retry 1 0 " 50 ++ "call a") := by
  obtain ⟨h1, h2, h3, h4⟩ := rN_ok 50
  refine rok_tree (t := rN 50) ?_ h1 (by omega) (by omega) (by omega)
  rw [tx_rN, tl_app]
  exact congrArg (· ++ tl "call a") (tl_mul (k := 50) (by decide) (by decide +kernel)).symm
theorem rok_p : Rok (Txt.mul "(" 50 ++ "hole" ++ Txt.mul " both fail)" 50) := by
  obtain ⟨h1, h2, h3, h4⟩ := pN_ok 50
  refine rok_tree (t := pN 50) ?_ h1 (by omega) (by omega) (by omega)
  have a1 : tl (Txt.mul "(" 50) = _ := tl_mul (k := 50) (by decide) (by decide +kernel)
  have a2 : tl (Txt.mul " both fail)" 50) = _ := tl_mul (k := 50) (by decide) (by decide +kernel)
  rw [tx_pN, tl_app, tl_app, a1, a2]
theorem rok_e : Rok (Txt.mul "(" 45 ++ "call a" ++ Txt.mul " either within 1000000000 pause 1000000000)" 45) := by
  obtain ⟨h1, h2, h3, h4⟩ := eN_ok 45
  refine rok_tree (t := eN 45) ?_ h1 (by omega) (by omega) (by omega)
  have a1 : tl (Txt.mul "(" 45) = _ := tl_mul (k := 45) (by decide) (by decide +kernel)
  have a2 : tl (Txt.mul " either within 1000000000 pause 1000000000)" 45) = _ := tl_mul (k := 45) (by decide) (by decide +kernel)
  rw [tx_eN, tl_app, tl_app, a1, a2]
end DL


set_option Elab.async false
set_option linter.all false
set_option maxRecDepth 100000
set_option maxHeartbeats 400000
namespace K
open PySem PySem.Spec PyProof.Rows L2 DL
def isIntD (v : D) (l : Int) (mo : D) : Bool := match v with
  | .int i => decide (l ≤ i) && (match mo with
    | .int m => decide (i ≤ m)
    | _ => true)
  | _ => false
def isMost (d : D) : Prop := d = .non ∨ ∃ m, d = .int m
def sp_is_integer : DSp := fun ds M P E => ∃ v l mo, ds = [v, .int l, mo] ∧ (tyD M v).isSome = true ∧ isMost mo ∧ P (.bl (isIntD v l mo)) M
def isRangeD (v : D) (l : Int) (mo : D) : Bool := match v with
  | .tup [.int a, b] => isIntD (.int a) l mo && isIntD b (if l < a then a else l) mo
  | _ => false
/-- a range's place has a known kind, and so have its two ends -/
def kindR (M : Store) (v : D) : Prop := (tyD M v).isSome = true ∧ match v with
  | .tup [a, b] => (tyD M a).isSome = true ∧ (tyD M b).isSome = true
  | _ => True
def sp_is_range : DSp := fun ds M P E => ∃ v l mo, ds = [v, .int l, mo] ∧ kindR M v ∧ isMost mo ∧ P (.bl (isRangeD v l mo)) M
def timesO (L : PrL) : List (Str × D) := [("ranges", .tup (L.map rngD))]
def objT (L : PrL) : D := .obj "Times" (timesO L)
def sp_Times_init : DSp := fun ds M P E => ∃ (p : Addr) (r : D) (L : PrL), ds = [.ref p, r] ∧ M p = some (.ins "Times" []) ∧ asR M r = some (L.map rngD) ∧ okR L ∧ L.length ≤ 100000 ∧ P .non (updM M p (.ins "Times" (timesO (norm L))))
def sp_Times_eq : DSp := fun ds M P E => ∃ (a : PrL) (d : D), ds = [objT a, d] ∧ ((∃ b : PrL, d = objT b ∧ P (.bl (decide (a = b))) M) ∨ ((∃ n, tyD M d = some (.b n)) ∧ P (.bl false) M))
abbrev Feed : Type := Int × Int
def feedL (f : Feed) : MO := .lst [.int f.1, .int f.2]
def sp_law_feed : DSp := fun ds M P E => ∃ (ns : List Int) (k : Int), ds = [.fro (ns.map .int), .int k] ∧ 0 ≤ k ∧ k < 2 ^ 62 ∧ ∀ p f, M p = none → P (.ref p) (updM M p (feedL f))
def sp_law_take : DSp := fun ds M P E => ∃ (p : Addr) (f : Feed) (n : Int), ds = [.ref p, .int n] ∧ M p = some (feedL f) ∧ 0 < n ∧ n < 2 ^ 64 ∧ ∀ r f', 0 ≤ r → r < n → P (.int r) (updM M p (feedL f'))
def sp_law_pick : DSp := fun ds M P E => ∃ (p : Addr) (f : Feed) (xs : List D), ds = [.ref p, .lst xs] ∧ M p = some (feedL f) ∧ xs ≠ [] ∧ xs.length < 2 ^ 62 ∧ ∀ x f', x ∈ xs → P x (updM M p (feedL f'))
def okL (n : Nat) (L : PrL) : Prop := L.length ≤ n ∧ ∀ x ∈ L, 0 ≤ x.1 ∧ x.1 ≤ x.2 ∧ x.2 ≤ 2 ^ 38
def sp_law_pairs : DSp := fun ds M P E => ∃ (p : Addr) (f : Feed) (m : Int) (n : Nat), ds = [.ref p, .int m, .int n] ∧ n ≤ 8 ∧ M p = some (feedL f) ∧ 0 ≤ m ∧ m ≤ 10 ^ 9 ∧ ∀ L f', okL n L → P (.lst (L.map rngD)) (updM M p (feedL f'))
def sp_law_joined : DSp := fun ds M P E => ∃ L : PrL, ds = [.lst (L.map rngD)] ∧ okR L ∧ L.length ≤ 100000 ∧ P (.tup ((norm L).map rngD)) M
def sp_law_text (n : Nat) : DSp := fun ds M P E => ∃ t : Tr, ds = [bareD t] ∧ dpt t ≤ n ∧ wf t = true ∧ (txt t).length ≤ 1000000 ∧ P (.str (txt t)) M
def sp_law_bare (n : Nat) : DSp := fun ds M P E => ∃ (p : Addr) (f : Feed) (r : Int), ds = [.ref p, .int r] ∧ M p = some (feedL f) ∧ 1 ≤ r ∧ r ≤ 100 ∧ r < n ∧ ∀ t f', drawn r t → P (bareD t) (updM M p (feedL f'))
def resI (a : Nat) : Option Nat → Int
  | some k => ((a + k : Nat) : Int)
  | none => -1
def sp_law_word_end : DSp := fun ds M P E => ∃ (x sg : Str) (a : Nat), ds = [.str x, .int (a : Int), .str sg] ∧ x.length ≤ 1000000 ∧ P (.int ((a + wEnd (fun c => decide (c ∈ tl sg)) ((tl x).drop a) : Nat) : Int)) M
def sp_law_number_end : DSp := fun ds M P E => ∃ (x : Str) (a lo hi : Nat), ds = [.str x, .int (a : Int), .int (lo : Int), .int (hi : Int)] ∧ x.length ≤ 1000000 ∧ P (.int (resI a (nEnd ((tl x).drop a) lo hi))) M
def sp_law_form_end (n : Nat) : DSp := fun ds M P E => ∃ (x : Str) (a : Nat), ds = [.str x, .int (a : Int)] ∧ PyData.strOk x = true ∧ x.length ≤ 1000000 ∧ fm ((tl x).drop a) < n ∧ P (.int (resI a (fEnd n ((tl x).drop a)))) M
def sp_law_is_right : DSp := fun ds M P E => ∃ x : Str, ds = [.str x] ∧ PyData.strOk x = true ∧ x.length ≤ 5000 ∧ fm (tl x) < 120 ∧ (cc (tl x) < 120 ∨ ∃ t, wf t = true ∧ txt t = x ∧ dp t ≤ 120) ∧ P (.bl true) M
def sp_law_spoilt : DSp := fun ds M P E => ∃ (p : Addr) (f : Feed) (x : Str), ds = [.ref p, .str x] ∧ M p = some (feedL f) ∧ PyData.strOk x = true ∧ x.length ≤ 20000 ∧ ∀ y f', PyData.strOk y = true → y.length ≤ 2 * x.length + 100 → cc (tl y) ≤ max (2 * cc (tl x)) (cc (tl x) + 2) → P (.str y) (updM M p (feedL f'))
def sp_law : DSp := fun ds M P E => ∃ ns : List Int, ds = [.fro (ns.map .int)] ∧ ns.length ≤ 63 ∧ ∀ M', P (.bl true) M'
/-- slots: 0=word 1=letter -/
def t_is_name (W : DWX) : DTS := dRet (dAndV trP (dChain (rdCmp fun i j => decide (i ≤ j)) (rdCmp fun i j => decide (i ≤ j)) (dC (.int 1)) (dB1 rcLen (daCons (dVar 0) (daNil))) (dC (.int 8))) (dB1 rcAll (daCons (dLc (dSigns (dVar 0)) (dgName 1) (dYes) (dOp (rdIn false) (dVar 1) (dC (.str "abcdefghijklmnopqrstuvwxyz"))) [1]) (daNil))))
/-- slots: 0=word 1=least 2=most 3=digit -/
def t_read_number (W : DWX) : DTS := dSeq (dIf (dOr (dB (dOp (rdEq false) (dVar 0) (dC (.str "")))) (dOr (dB (dOp (rdCmp fun i j => decide (j < i)) (dB1 rcLen (daCons (dVar 0) (daNil))) (dC (.int 10)))) (dNot (dB (dB1 rcAll (daCons (dLc (dSigns (dVar 0)) (dgName 3) (dYes) (dOp (rdIn false) (dVar 3) (dC (.str "0123456789"))) [3]) (daNil))))))) (dRaise0 W "InvalidText") (dNext)) (dSeq (dIf (dOr (dAnd (dB (dOp (rdEq false) (dOp rdIx (dVar 0) (dC (.int 0))) (dC (.str "0")))) (dB (dOp (rdEq true) (dVar 0) (dC (.str "0"))))) (dNot (dB (dChain (rdCmp fun i j => decide (i ≤ j)) (rdCmp fun i j => decide (i ≤ j)) (dVar 1) (dB1 rcInt (daCons (dVar 0) (daNil))) (dVar 2))))) (dRaise0 W "InvalidText") (dNext)) (dRet (dB1 rcInt (daCons (dVar 0) (daNil)))))
/-- slots: 0=self 1=text -/
def t_Reader_init (W : DWX) : DTS := dSeq (dSetFld "Reader" "words" (dVar 0) (dSplit (dReplC ")" " )" (dReplC "(" "( " (dVar 1))) (dC (.str " ")))) (dSetFld "Reader" "place" (dVar 0) (dC (.int 0)))
/-- slots: 0=self -/
def t_Reader_take (W : DWX) : DTS := dSeq (dIf (dB (dOp (rdEq false) (dFld "Reader" "place" (dVar 0)) (dB1 rcLen (daCons (dFld "Reader" "words" (dVar 0)) (daNil))))) (dRaise0 W "InvalidText") (dNext)) (dSeq (dAugFld "Reader" "place" rdIAdd (dVar 0) (dC (.int 1))) (dRet (dOp rdIx (dFld "Reader" "words" (dVar 0)) (dOp rdSub (dFld "Reader" "place" (dVar 0)) (dC (.int 1))))))
/-- slots: 0=self 1=name 2=word 3=number 4=tries -/
def t_Reader_form (n : Nat) (W : DWX) : DTS := dSeq (dMatch (dMeth "Reader" "take" sp_Reader_take W [] (dVar 0) (daNil)) [(.one "(", dRet (dMeth "Reader" "pair" (sp_Reader_pair n) W [] (dVar 0) (daNil))), (.one "call", dSeq (dAsg (dMeth "Reader" "take" sp_Reader_take W [] (dVar 0) (daNil)) (dgName 1)) (dSeq (dIf (dNot (dB (dCall sp_is_name W [] (daCons (dVar 1) (daNil))))) (dRaise0 W "InvalidText") (dNext)) (dRet (dTup (daCons (dC (.str "call")) (daCons (dVar 1) (daNil))))))), (.one "pause", dRet (dTup (daCons (dC (.str "pause")) (daCons (dCall sp_read_number W [] (daCons (dMeth "Reader" "take" sp_Reader_take W [] (dVar 0) (daNil)) (daCons (dC (.int 0)) (daCons (dC (.int 1000000000)) (daNil))))) (daNil))))), (.one "fail", dRet (dTup (daCons (dC (.str "fail")) (daNil)))), (.one "hole", dRet (dTup (daCons (dC (.str "hole")) (daNil)))), (.one "within", dSeq (dAsg (dMeth "Reader" "take" sp_Reader_take W [] (dVar 0) (daNil)) (dgName 2)) (dSeq (dAsg (dIfE (dB (dOp (rdEq false) (dVar 2) (dC (.str "?")))) (dC .non) (dCall sp_read_number W [] (daCons (dVar 2) (daCons (dC (.int 0)) (daCons (dC (.int 1000000000)) (daNil)))))) (dgName 3)) (dRet (dTup (daCons (dC (.str "within")) (daCons (dVar 3) (daCons (dMeth "Reader" "form" (sp_Reader_form n) W [] (dVar 0) (daNil)) (daNil)))))))), (.one "retry", dSeq (dAsg (dCall sp_read_number W [] (daCons (dMeth "Reader" "take" sp_Reader_take W [] (dVar 0) (daNil)) (daCons (dC (.int 1)) (daCons (dC (.int 8)) (daNil))))) (dgName 4)) (dSeq (dAsg (dCall sp_read_number W [] (daCons (dMeth "Reader" "take" sp_Reader_take W [] (dVar 0) (daNil)) (daCons (dC (.int 0)) (daCons (dC (.int 1000000000)) (daNil))))) (dgName 3)) (dRet (dTup (daCons (dC (.str "retry")) (daCons (dVar 4) (daCons (dVar 3) (daCons (dMeth "Reader" "form" (sp_Reader_form n) W [] (dVar 0) (daNil)) (daNil)))))))))]) (dRaise0 W "InvalidText")
/-- slots: 0=self 1=first 2=word 3=second -/
def t_Reader_pair (n : Nat) (W : DWX) : DTS := dSeq (dAsg (dMeth "Reader" "form" (sp_Reader_form n) W [] (dVar 0) (daNil)) (dgName 1)) (dSeq (dAsg (dMeth "Reader" "take" sp_Reader_take W [] (dVar 0) (daNil)) (dgName 2)) (dSeq (dIf (dB (dOp (rdIn true) (dVar 2) (dC (.tup [.str "then", .str "else", .str "both", .str "either"])))) (dRaise0 W "InvalidText") (dNext)) (dSeq (dAsg (dMeth "Reader" "form" (sp_Reader_form n) W [] (dVar 0) (daNil)) (dgName 3)) (dSeq (dIf (dB (dOp (rdEq true) (dMeth "Reader" "take" sp_Reader_take W [] (dVar 0) (daNil)) (dC (.str ")")))) (dRaise0 W "InvalidText") (dNext)) (dRet (dTup (daCons (dVar 2) (daCons (dVar 1) (daCons (dVar 3) (daNil))))))))))
/-- slots: 0=node 1=number 2=part 3=tries 4=word 5=first 6=second 7=value -/
def t_text_of (n : Nat) (W : DWX) : DTS := dSeq (dMatch (dVar 0) [(.seq [.val "within", .cap 1, .cap 2], dRet (dJoined [dC (.str "within "), dFmt (dIfE (dB (dOp (rdIs false) (dVar 1) (dC .non))) (dC (.str "?")) (dVar 1)), dC (.str " "), dFmt (dCall (sp_text_of n) W [] (daCons (dVar 2) (daNil)))])), (.seq [.val "retry", .cap 3, .cap 1, .cap 2], dRet (dJoined [dC (.str "retry "), dFmt (dVar 3), dC (.str " "), dFmt (dVar 1), dC (.str " "), dFmt (dCall (sp_text_of n) W [] (daCons (dVar 2) (daNil)))])), (.seq [.cap 4, .cap 5, .cap 6], dRet (dJoined [dC (.str "("), dFmt (dCall (sp_text_of n) W [] (daCons (dVar 5) (daNil))), dC (.str " "), dFmt (dVar 4), dC (.str " "), dFmt (dCall (sp_text_of n) W [] (daCons (dVar 6) (daNil))), dC (.str ")")])), (.seq [.cap 4, .cap 7], dRet (dJoined [dFmt (dVar 4), dC (.str " "), dFmt (dVar 7)]))]) (dRet (dOp rdIx (dVar 0) (dC (.int 0))))
/-- slots: 0=self 1=node -/
def t_Plan_init (W : DWX) : DTS := dSeq (dSetFld "Plan" "node" (dVar 0) (dVar 1)) (dSetFld "Plan" "text" (dVar 0) (dCall (sp_text_of 120) W [] (daCons (dVar 1) (daNil))))
/-- slots: 0=cls 1=text 2=reader 3=made -/
def t_Plan_parse (W : DWX) : DTS := dSeq (dAsg (dMakeM "Reader" sp_Reader_init W [] (daCons (dVar 1) (daNil))) (dgName 2)) (dSeq (dAsg (dFrz (dMakeV 0 "Plan" sp_Plan_init W [] (daCons (dMeth "Reader" "form" (sp_Reader_form 120) W [] (dVar 2) (daNil)) (daNil)))) (dgName 3)) (dSeq (dIf (dB (dOp (rdEq true) (dFld "Plan" "text" (dVar 3)) (dVar 1))) (dRaise0 W "InvalidText") (dNext)) (dRet (dVar 3))))
/-- slots: 0=self -/
def t_Plan_str (W : DWX) : DTS := dRet (dFmt (dFld "Plan" "text" (dVar 0)))
/-- slots: 0=self 1=other -/
def t_Plan_eq (W : DWX) : DTS := dRet (dAndV trP (dB1 rcIsi (daCons (dVar 1) (daCons (dC (.cls "Plan")) (daNil)))) (dOp (rdEq false) (dFld "Plan" "text" (dVar 0)) (dFld "Plan" "text" (dVar 1))))
/-- slots: 0=script 1=k 2=seed 3=digits -/
def t_law_feed (W : DWX) : DTS := dSeq (dAsg (dOp rdIx (dOp rdAdd (dB1 rcList (daCons (dSlice (dVar 0) (doSome (dVar 1)) (doSome (dOp rdAdd (dVar 1) (dC (.int 1))))) (daNil))) (dLst (daCons (dOp rdAdd (dOp rdMul (dC (.int 71)) (dVar 1)) (dC (.int 23))) (daNil)))) (dC (.int 0))) (dgName 2)) (dSeq (dAsg (dB1 rcMax (daCons (dC (.int 0)) (daCons (dOp rdSub (dB1 rcAbs (daCons (dVar 2) (daNil))) (dOp rdPow (dC (.int 10)) (dC (.int 18)))) (daNil)))) (dgName 3)) (dRet (dLstM (daCons (dVar 3) (daCons (dOp rdMod (dOp rdAdd (dOp rdAdd (dOp rdMul (dOp rdMod (dB1 rcAbs (daCons (dVar 2) (daNil))) (dC (.int 1000003))) (dC (.int 7919))) (dOp rdMul (dC (.int 31)) (dVar 1))) (dC (.int 17))) (dC (.int 1000033))) (daNil))))))
/-- slots: 0=feed 1=size 2=digit -/
def t_law_take (W : DWX) : DTS := dSeq (dIf (dB (dOp (rdCmp fun i j => decide (j < i)) (dOp rdIx (dVar 0) (dC (.int 0))) (dC (.int 0)))) (dSeq (dAsg (dOp rdMod (dOp rdIx (dVar 0) (dC (.int 0))) (dVar 1)) (dgName 2)) (dSeq (dAsg (dOp rdDiv (dOp rdIx (dVar 0) (dC (.int 0))) (dVar 1)) (dgSub (dVar 0) (dC (.int 0)) rdSetL)) (dRet (dVar 2)))) (dNext)) (dSeq (dAsg (dOp rdMod (dOp rdAdd (dOp rdMul (dOp rdIx (dVar 0) (dC (.int 1))) (dC (.int 69069))) (dC (.int 12345))) (dC (.int 4294967311))) (dgSub (dVar 0) (dC (.int 1)) rdSetL)) (dRet (dOp rdMod (dOp rdDiv (dOp rdIx (dVar 0) (dC (.int 1))) (dC (.int 65536))) (dVar 1))))
/-- slots: 0=feed 1=choices -/
def t_law_pick (W : DWX) : DTS := dRet (dOp rdIx (dVar 1) (dCall sp_law_take W [] (daCons (dVar 0) (daCons (dB1 rcLen (daCons (dVar 1) (daNil))) (daNil)))))
/-- slots: 0=plan 1=part -/
def t_law_text (n : Nat) (W : DWX) : DTS := dSeq (dIf (dB (dOp (rdIn false) (dOp rdIx (dVar 0) (dC (.int 0))) (dTup (daCons (dC (.str "then")) (daCons (dC (.str "else")) (daCons (dC (.str "both")) (daCons (dC (.str "either")) (daNil)))))))) (dRet (dOp rdAdd (dOp rdAdd (dOp rdAdd (dOp rdAdd (dOp rdAdd (dOp rdAdd (dC (.str "(")) (dCall (sp_law_text n) W [] (daCons (dOp rdIx (dVar 0) (dC (.int 1))) (daNil)))) (dC (.str " "))) (dOp rdIx (dVar 0) (dC (.int 0)))) (dC (.str " "))) (dCall (sp_law_text n) W [] (daCons (dOp rdIx (dVar 0) (dC (.int 2))) (daNil)))) (dC (.str ")")))) (dNext)) (dSeq (dIf (dB (dOp (rdIn false) (dOp rdIx (dVar 0) (dC (.int 0))) (dTup (daCons (dC (.str "within")) (daCons (dC (.str "retry")) (daNil)))))) (dRet (dOp rdAdd (dOp rdAdd (dJoin (dC (.str " ")) (dLc (dItem (dSlice (dVar 0) (doNone) (doSome (dNeg (dC (.int 1)))))) (dgName 1) (dYes) (dB1 rcStr (daCons (dVar 1) (daNil))) [1])) (dC (.str " "))) (dCall (sp_law_text n) W [] (daCons (dOp rdIx (dVar 0) (dNeg (dC (.int 1)))) (daNil))))) (dNext)) (dRet (dJoin (dC (.str " ")) (dLc (dItem (dVar 0)) (dgName 1) (dYes) (dB1 rcStr (daCons (dVar 1) (daNil))) [1]))))
/-- slots: 0=feed 1=room 2=way 3=names 4=name 5=word 6=first -/
def t_law_bare (n : Nat) (W : DWX) : DTS := dSeq (dAsg (dCall sp_law_take W [] (daCons (dVar 0) (daCons (dC (.int 16)) (daNil)))) (dgName 2)) (dSeq (dIf (dB (dOp (rdEq false) (dVar 2) (dC (.int 13)))) (dRet (dTup (daCons (dC (.str "hole")) (daNil)))) (dNext)) (dSeq (dIf (dB (dOp (rdEq false) (dVar 2) (dC (.int 14)))) (dRet (dTup (daCons (dC (.str "within")) (daCons (dC (.str "?")) (daCons (dIfE (dB (dOp (rdCmp fun i j => decide (j < i)) (dVar 1) (dC (.int 1)))) (dCall (sp_law_bare n) W [] (daCons (dVar 0) (daCons (dOp rdSub (dVar 1) (dC (.int 1))) (daNil)))) (dTup (daCons (dC (.str "fail")) (daNil)))) (daNil)))))) (dNext)) (dSeq (dIf (dB (dOp (rdEq false) (dVar 2) (dC (.int 15)))) (dRet (dTup (daCons (dC (.str "pause")) (daCons (dCall sp_law_pick W [] (daCons (dVar 0) (daCons (dLst (daCons (dOp rdPow (dC (.int 10)) (dC (.int 9))) (daCons (dC (.int 999999999)) (daCons (dC (.int 10)) (daCons (dC (.int 100)) (daNil)))))) (daNil)))) (daNil))))) (dNext)) (dSeq (dIf (dOr (dB (dOp (rdCmp fun i j => decide (i ≤ j)) (dVar 1) (dC (.int 1)))) (dB (dOp (rdCmp fun i j => decide (i < j)) (dVar 2) (dC (.int 3))))) (dSeq (dAsg (dLst (daCons (dC (.str "a")) (daCons (dC (.str "abcdefgh")) (daCons (dC (.str "ijklmnop")) (daCons (dC (.str "qrstuvwx")) (daCons (dC (.str "yz")) (daCons (dC (.str "call")) (daCons (dC (.str "then")) (daCons (dC (.str "pause")) (daCons (dC (.str "hole")) (daCons (dC (.str "retry")) (daCons (dC (.str "fail")) (daNil))))))))))))) (dgName 3)) (dSeq (dAsg (dCall sp_law_pick W [] (daCons (dVar 0) (daCons (dOp rdAdd (dVar 3) (dLst (daCons (dC (.str "within")) (daCons (dC (.str "both")) (daCons (dC (.str "either")) (daCons (dC (.str "else")) (daNil))))))) (daNil)))) (dgName 4)) (dRet (dCall sp_law_pick W [] (daCons (dVar 0) (daCons (dLst (daCons (dTup (daCons (dC (.str "call")) (daCons (dVar 4) (daNil)))) (daCons (dTup (daCons (dC (.str "pause")) (daCons (dCall sp_law_take W [] (daCons (dVar 0) (daCons (dC (.int 12)) (daNil)))) (daNil)))) (daCons (dTup (daCons (dC (.str "fail")) (daNil))) (daNil))))) (daNil))))))) (dNext)) (dSeq (dIf (dB (dOp (rdCmp fun i j => decide (i < j)) (dVar 2) (dC (.int 6)))) (dRet (dTup (daCons (dC (.str "within")) (daCons (dCall sp_law_pick W [] (daCons (dVar 0) (daCons (dLst (daCons (dC (.int 0)) (daCons (dC (.int 7)) (daCons (dC (.int 10)) (daCons (dOp rdPow (dC (.int 10)) (dC (.int 9))) (daNil)))))) (daNil)))) (daCons (dCall (sp_law_bare n) W [] (daCons (dVar 0) (daCons (dOp rdSub (dVar 1) (dC (.int 1))) (daNil)))) (daNil)))))) (dNext)) (dSeq (dIf (dB (dOp (rdCmp fun i j => decide (i < j)) (dVar 2) (dC (.int 8)))) (dRet (dTup (daCons (dC (.str "retry")) (daCons (dOp rdAdd (dC (.int 1)) (dCall sp_law_take W [] (daCons (dVar 0) (daCons (dC (.int 8)) (daNil))))) (daCons (dCall sp_law_pick W [] (daCons (dVar 0) (daCons (dLst (daCons (dC (.int 0)) (daCons (dC (.int 3)) (daCons (dOp rdPow (dC (.int 10)) (dC (.int 9))) (daNil))))) (daNil)))) (daCons (dCall (sp_law_bare n) W [] (daCons (dVar 0) (daCons (dOp rdSub (dVar 1) (dC (.int 1))) (daNil)))) (daNil))))))) (dNext)) (dSeq (dAsg (dCall sp_law_pick W [] (daCons (dVar 0) (daCons (dLst (daCons (dC (.str "then")) (daCons (dC (.str "else")) (daCons (dC (.str "both")) (daCons (dC (.str "either")) (daNil)))))) (daNil)))) (dgName 5)) (dSeq (dAsg (dOp rdAdd (dC (.int 1)) (dCall sp_law_take W [] (daCons (dVar 0) (daCons (dOp rdSub (dVar 1) (dC (.int 1))) (daNil))))) (dgName 6)) (dRet (dTup (daCons (dVar 5) (daCons (dCall (sp_law_bare n) W [] (daCons (dVar 0) (daCons (dVar 6) (daNil)))) (daCons (dCall (sp_law_bare n) W [] (daCons (dVar 0) (daCons (dOp rdSub (dVar 1) (dVar 6)) (daNil)))) (daNil))))))))))))))
/-- slots: 0=text 1=at 2=signs -/
def t_law_word_end (W : DWX) : DTS := dSeq (dWhile (dAnd (dB (dOp (rdCmp fun i j => decide (i < j)) (dVar 1) (dB1 rcLen (daCons (dVar 0) (daNil))))) (dB (dOp (rdIn false) (dOp rdIx (dVar 0) (dVar 1)) (dVar 2)))) (dAsg (dOp rdAdd (dVar 1) (dC (.int 1))) (dgName 1))) (dRet (dVar 1))
/-- slots: 0=text 1=at 2=least 3=most 4=end 5=word -/
def t_law_number_end (W : DWX) : DTS := dSeq (dAsg (dCall sp_law_word_end W [] (daCons (dVar 0) (daCons (dVar 1) (daCons (dC (.str "0123456789")) (daNil))))) (dgName 4)) (dSeq (dAsg (dSlice (dVar 0) (doSome (dVar 1)) (doSome (dVar 4))) (dgName 5)) (dSeq (dIf (dOr (dB (dOp (rdEq false) (dVar 5) (dC (.str "")))) (dOr (dB (dOp (rdCmp fun i j => decide (j < i)) (dB1 rcLen (daCons (dVar 5) (daNil))) (dC (.int 10)))) (dOr (dAnd (dB (dOp (rdEq false) (dOp rdIx (dVar 5) (dC (.int 0))) (dC (.str "0")))) (dB (dOp (rdCmp fun i j => decide (j < i)) (dB1 rcLen (daCons (dVar 5) (daNil))) (dC (.int 1))))) (dNot (dB (dChain (rdCmp fun i j => decide (i ≤ j)) (rdCmp fun i j => decide (i ≤ j)) (dVar 2) (dB1 rcInt (daCons (dVar 5) (daNil))) (dVar 3))))))) (dRet (dNeg (dC (.int 1)))) (dNext)) (dRet (dVar 4))))
/-- slots: 0=text 1=at 2=end 3=word 4=last -/
def t_law_form_end (n : Nat) (W : DWX) : DTS := dSeq (dIf (dB (dOp (rdEq false) (dSlice (dVar 0) (doSome (dVar 1)) (doSome (dOp rdAdd (dVar 1) (dC (.int 1))))) (dC (.str "(")))) (dSeq (dAsg (dCall (sp_law_form_end n) W [] (daCons (dVar 0) (daCons (dOp rdAdd (dVar 1) (dC (.int 1))) (daNil)))) (dgName 2)) (dSeq (dFor (dItem (dLst (daCons (dC (.str " then ")) (daCons (dC (.str " else ")) (daCons (dC (.str " both ")) (daCons (dC (.str " either ")) (daNil))))))) (dgName 3) (dIf (dAnd (dB (dOp (rdCmp fun i j => decide (j < i)) (dVar 2) (dC (.int 0)))) (dB (dOp (rdEq false) (dSlice (dVar 0) (doSome (dVar 2)) (doSome (dOp rdAdd (dVar 2) (dB1 rcLen (daCons (dVar 3) (daNil)))))) (dVar 3)))) (dSeq (dAsg (dCall (sp_law_form_end n) W [] (daCons (dVar 0) (daCons (dOp rdAdd (dVar 2) (dB1 rcLen (daCons (dVar 3) (daNil)))) (daNil)))) (dgName 4)) (dRet (dIfE (dAnd (dB (dOp (rdCmp fun i j => decide (j < i)) (dVar 4) (dC (.int 0)))) (dB (dOp (rdEq false) (dSlice (dVar 0) (doSome (dVar 4)) (doSome (dOp rdAdd (dVar 4) (dC (.int 1))))) (dC (.str ")"))))) (dOp rdAdd (dVar 4) (dC (.int 1))) (dNeg (dC (.int 1)))))) (dNext))) (dRet (dNeg (dC (.int 1)))))) (dNext)) (dSeq (dIf (dB (dOp (rdIn false) (dSlice (dVar 0) (doSome (dVar 1)) (doSome (dOp rdAdd (dVar 1) (dC (.int 4))))) (dTup (daCons (dC (.str "fail")) (daCons (dC (.str "hole")) (daNil)))))) (dRet (dOp rdAdd (dVar 1) (dC (.int 4)))) (dNext)) (dSeq (dIf (dB (dOp (rdEq false) (dSlice (dVar 0) (doSome (dVar 1)) (doSome (dOp rdAdd (dVar 1) (dC (.int 5))))) (dC (.str "call ")))) (dSeq (dAsg (dCall sp_law_word_end W [] (daCons (dVar 0) (daCons (dOp rdAdd (dVar 1) (dC (.int 5))) (daCons (dC (.str "abcdefghijklmnopqrstuvwxyz")) (daNil))))) (dgName 2)) (dRet (dIfE (dB (dChain (rdCmp fun i j => decide (i ≤ j)) (rdCmp fun i j => decide (i ≤ j)) (dC (.int 1)) (dOp rdSub (dOp rdSub (dVar 2) (dVar 1)) (dC (.int 5))) (dC (.int 8)))) (dVar 2) (dNeg (dC (.int 1)))))) (dNext)) (dSeq (dIf (dB (dOp (rdEq false) (dSlice (dVar 0) (doSome (dVar 1)) (doSome (dOp rdAdd (dVar 1) (dC (.int 6))))) (dC (.str "pause ")))) (dRet (dCall sp_law_number_end W [] (daCons (dVar 0) (daCons (dOp rdAdd (dVar 1) (dC (.int 6))) (daCons (dC (.int 0)) (daCons (dOp rdPow (dC (.int 10)) (dC (.int 9))) (daNil))))))) (dNext)) (dSeq (dIf (dB (dOp (rdEq false) (dSlice (dVar 0) (doSome (dVar 1)) (doSome (dOp rdAdd (dVar 1) (dC (.int 9))))) (dC (.str "within ? ")))) (dRet (dCall (sp_law_form_end n) W [] (daCons (dVar 0) (daCons (dOp rdAdd (dVar 1) (dC (.int 9))) (daNil))))) (dNext)) (dSeq (dAsg (dNeg (dC (.int 1))) (dgName 2)) (dSeq (dIf (dB (dOp (rdEq false) (dSlice (dVar 0) (doSome (dVar 1)) (doSome (dOp rdAdd (dVar 1) (dC (.int 7))))) (dC (.str "within ")))) (dAsg (dCall sp_law_number_end W [] (daCons (dVar 0) (daCons (dOp rdAdd (dVar 1) (dC (.int 7))) (daCons (dC (.int 0)) (daCons (dOp rdPow (dC (.int 10)) (dC (.int 9))) (daNil)))))) (dgName 2)) (dNext)) (dSeq (dIf (dB (dOp (rdEq false) (dSlice (dVar 0) (doSome (dVar 1)) (doSome (dOp rdAdd (dVar 1) (dC (.int 6))))) (dC (.str "retry ")))) (dSeq (dAsg (dCall sp_law_number_end W [] (daCons (dVar 0) (daCons (dOp rdAdd (dVar 1) (dC (.int 6))) (daCons (dC (.int 1)) (daCons (dC (.int 8)) (daNil)))))) (dgName 2)) (dAsg (dIfE (dAnd (dB (dOp (rdCmp fun i j => decide (j < i)) (dVar 2) (dC (.int 0)))) (dB (dOp (rdEq false) (dSlice (dVar 0) (doSome (dVar 2)) (doSome (dOp rdAdd (dVar 2) (dC (.int 1))))) (dC (.str " "))))) (dCall sp_law_number_end W [] (daCons (dVar 0) (daCons (dOp rdAdd (dVar 2) (dC (.int 1))) (daCons (dC (.int 0)) (daCons (dOp rdPow (dC (.int 10)) (dC (.int 9))) (daNil)))))) (dNeg (dC (.int 1)))) (dgName 2))) (dNext)) (dRet (dIfE (dAnd (dB (dOp (rdCmp fun i j => decide (j < i)) (dVar 2) (dC (.int 0)))) (dB (dOp (rdEq false) (dSlice (dVar 0) (doSome (dVar 2)) (doSome (dOp rdAdd (dVar 2) (dC (.int 1))))) (dC (.str " "))))) (dCall (sp_law_form_end n) W [] (daCons (dVar 0) (daCons (dOp rdAdd (dVar 2) (dC (.int 1))) (daNil)))) (dNeg (dC (.int 1))))))))))))
/-- slots: 0=text 1=good 2=made 3=error -/
def t_law_is_right (W : DWX) : DTS := dSeq (dPar 1 2 (daCons (dOp (rdEq false) (dCall (sp_law_form_end 120) W [] (daCons (dVar 0) (daCons (dC (.int 0)) (daNil)))) (dB1 rcLen (daCons (dVar 0) (daNil)))) (daCons (dC .non) (daNil)))) (dSeq (dTryAs (fun W => dAsg (dCMeth "Plan" sp_Plan_parse W (daCons (dVar 0) (daNil))) (dgName 2)) 3 (mtL [("InvalidText", true)]) (dAsg (dC .non) (dgName 2)) W) (dRet (dAndV trP (dOp (rdEq false) (dOp (rdIs true) (dVar 2) (dC .non)) (dVar 1)) (dOrV trP (dOp (rdIs false) (dVar 2) (dC .non)) (dOp (rdEq false) (dB1 (rcStrO "Plan" sp_Plan_str) (daCons (dVar 2) (daNil))) (dVar 0))))))
/-- slots: 0=feed 1=text 2=at 3=more 4=signs 5=sign 6=case 7=words 8=k 9=odd -/
def t_law_spoilt (W : DWX) : DTS := dSeq (dAsg (dCall sp_law_take W [] (daCons (dVar 0) (daCons (dOp rdAdd (dB1 rcLen (daCons (dVar 1) (daNil))) (dC (.int 1))) (daNil)))) (dgName 2)) (dSeq (dAsg (dLst (daCons (dC (.str "  ")) (daCons (dC (.str "then")) (daCons (dC (.str "call ")) (daCons (dOp rdMulS (dC (.str "0")) (dC (.int 11))) (daCons (dOp rdMulS (dC (.str "9")) (dC (.int 40))) (daCons (dC (.str "retry 2 ")) (daCons (dC (.str "within ? ")) (daNil))))))))) (dgName 3)) (dSeq (dAsg (dC (.str " ()?0aA1-_,.9zq!#$&'*+/:;<=>\x40[]^{|}~BZ\"\\")) (dgName 4)) (dSeq (dAsg (dCall sp_law_pick W [] (daCons (dVar 0) (daCons (dOp rdAdd (dB1 rcListS (daCons (dVar 4) (daNil))) (dVar 3)) (daNil)))) (dgName 5)) (dSeq (dAsg (dCall sp_law_take W [] (daCons (dVar 0) (daCons (dC (.int 5)) (daNil)))) (dgName 6)) (dSeq (dIf (dB (dOp (rdEq false) (dVar 6) (dC (.int 0)))) (dRet (dOp rdAdd (dSlice (dVar 1) (doNone) (doSome (dVar 2))) (dSlice (dVar 1) (doSome (dOp rdAdd (dVar 2) (dC (.int 1)))) (doNone)))) (dNext)) (dSeq (dIf (dB (dOp (rdEq false) (dVar 6) (dC (.int 1)))) (dRet (dOp rdAdd (dOp rdAdd (dSlice (dVar 1) (doNone) (doSome (dVar 2))) (dVar 5)) (dSlice (dVar 1) (doSome (dVar 2)) (doNone)))) (dNext)) (dSeq (dIf (dB (dOp (rdEq false) (dVar 6) (dC (.int 2)))) (dRet (dOp rdAdd (dOp rdAdd (dSlice (dVar 1) (doNone) (doSome (dVar 2))) (dVar 5)) (dSlice (dVar 1) (doSome (dOp rdAdd (dVar 2) (dC (.int 1)))) (doNone)))) (dNext)) (dSeq (dAsg (dSplitM (dVar 1) (dC (.str " "))) (dgName 7)) (dSeq (dAsg (dCall sp_law_take W [] (daCons (dVar 0) (daCons (dB1 rcLen (daCons (dVar 7) (daNil))) (daNil)))) (dgName 8)) (dSeq (dIf (dB (dOp (rdEq false) (dVar 6) (dC (.int 3)))) (dSeq (dAsg (dLst (daCons (dC (.str "0")) (daCons (dC (.str "00")) (daCons (dC (.str "01")) (daCons (dC (.str "8")) (daCons (dC (.str "9")) (daCons (dC (.str "1000000000")) (daCons (dC (.str "1000000001")) (daCons (dC (.str "?")) (daCons (dC (.str "+1")) (daCons (dC (.str "-1")) (daCons (dC (.str "1_0")) (daCons (dC (.str "")) (daNil)))))))))))))) (dgName 9)) (dAsg (dCall sp_law_pick W [] (daCons (dVar 0) (daCons (dOp rdAdd (dVar 7) (dVar 9)) (daNil)))) (dgSub (dVar 7) (dVar 8) rdSetL))) (dAsg (dOp rdAdd (dOp rdAdd (dSlice (dVar 7) (doNone) (doSome (dVar 8))) (dOp rdMul (dSlice (dVar 7) (doSome (dVar 8)) (doSome (dOp rdAdd (dVar 8) (dC (.int 1))))) (dOp rdMul (dC (.int 2)) (dCall sp_law_take W [] (daCons (dVar 0) (daCons (dC (.int 2)) (daNil))))))) (dSlice (dVar 7) (doSome (dOp rdAdd (dVar 8) (dC (.int 1)))) (doNone))) (dgName 7))) (dRet (dJoin (dC (.str " ")) (dVar 7)))))))))))))
/-- slots: 0=script 1=typed 2=signs 3=sign 4=text 5=index 6=feed 7=turn 8=more -/
def t_law (W : DWX) : DTS := dSeq (dAsg (dLstM (daCons (dC (.str "")) (daCons (dC (.str " ")) (daCons (dC (.str "fail ")) (daCons (dC (.str " fail")) (daCons (dC (.str "(fail)")) (daCons (dC (.str "fail fail")) (daCons (dC (.str "(fail then fail)")) (daNil))))))))) (dgName 1)) (dSeq (dAsg (dOp rdAdd (dVar 1) (dLst (daCons (dC (.str "( fail then fail)")) (daCons (dC (.str "(fail then fail )")) (daCons (dC (.str "(fail then  fail)")) (daNil)))))) (dgName 1)) (dSeq (dAsg (dOp rdAdd (dVar 1) (dLst (daCons (dC (.str "(fail and fail)")) (daCons (dC (.str "(fail then fail")) (daCons (dC (.str "fail)")) (daCons (dC (.str "call")) (daCons (dC (.str "call ")) (daCons (dC (.str "call A")) (daNil))))))))) (dgName 1)) (dSeq (dAsg (dOp rdAdd (dVar 1) (dLst (daCons (dC (.str "call a1")) (daCons (dC (.str "call abcdefgh")) (daCons (dC (.str "call abcdefghi")) (daCons (dC (.str "pause")) (daCons (dC (.str "pause ?")) (daNil)))))))) (dgName 1)) (dSeq (dAsg (dOp rdAdd (dVar 1) (dLst (daCons (dC (.str "pause 1000000000")) (daCons (dC (.str "pause 1000000001")) (daCons (dC (.str "pause 01")) (daCons (dC (.str "within ? hole")) (daNil))))))) (dgName 1)) (dSeq (dAsg (dOp rdAdd (dVar 1) (dLst (daCons (dC (.str "within ?hole")) (daCons (dC (.str "within 3")) (daCons (dC (.str "retry 0 1 fail")) (daCons (dC (.str "retry 9 1 fail")) (daNil))))))) (dgName 1)) (dSeq (dAsg (dOp rdAdd (dVar 1) (dLst (daCons (dC (.str "retry ? 1 fail")) (daCons (dC (.str "holes")) (daCons (dC (.str "retry 8 0 fail")) (daCons (dC (.str "retry 2 fail")) (daCons (dC (.str "retry 2 ? fail")) (daNil)))))))) (dgName 1)) (dSeq (dAsg (dOp rdAdd (dVar 1) (dLst (daCons (dC (.str "Fail")) (daCons (dC (.str "(fail then fail then fail)")) (daCons (dC (.str "()")) (daCons (dC (.str "(hole)")) (daNil))))))) (dgName 1)) (dSeq (dAsg (dOp rdAdd (dVar 1) (dLst (daCons (dC (.str "((fail then fail) else (fail both fail))")) (daCons (dC (.str "(fail then fail)(fail then fail)")) (daNil))))) (dgName 1)) (dSeq (dAsg (dOp rdAdd (dVar 1) (dLst (daCons (dC (.str "within 1 within 2 fail")) (daNil)))) (dgName 1)) (dSeq (dAsg (dOp rdAddM (dVar 1) (dLst (daCons (dOp rdAdd (dOp rdMulS (dC (.str "within 1 ")) (dC (.int 50))) (dC (.str "fail"))) (daCons (dOp rdAdd (dOp rdAdd (dOp rdMulS (dC (.str "(")) (dC (.int 50))) (dC (.str "hole"))) (dOp rdMulS (dC (.str " both fail)")) (dC (.int 50)))) (daCons (dOp rdAdd (dOp rdMulS (dC (.str "retry 1 0 ")) (dC (.int 50))) (dC (.str "call a"))) (daNil)))))) (dgName 1)) (dSeq (dDrop (dMt rmAppend (dVar 1) (daCons (dOp rdAdd (dOp rdAdd (dOp rdMulS (dC (.str "(")) (dC (.int 45))) (dC (.str "call a"))) (dOp rdMulS (dC (.str " either within 1000000000 pause 1000000000)")) (dC (.int 45)))) (daNil)))) (dSeq (dAsg (dC (.str "/!#$&'*+:;<=>\x40[]^{|}~MZ-_.,\"\\")) (dgName 2)) (dSeq (dAsg (dOp rdAdd (dVar 1) (dLc (dSigns (dVar 2)) (dgName 3) (dYes) (dOp rdAdd (dOp rdAdd (dC (.str "call db")) (dVar 3)) (dC (.str "m"))) [3])) (dgName 1)) (dSeq (dFor (dItem (dVar 1)) (dgName 4) (dIf (dNot (dB (dCall sp_law_is_right W [] (daCons (dVar 4) (daNil))))) (dRet (dC (.bl false))) (dNext))) (dSeq (dFor (dRange1 (daCons (dB1 rcMax (daCons (dC (.int 1)) (daCons (dB1 rcMin (daCons (dC (.int 4)) (daCons (dB1 rcLen (daCons (dVar 0) (daNil))) (daNil)))) (daNil)))) (daNil))) (dgName 5) (dSeq (dAsg (dCall sp_law_feed W [] (daCons (dVar 0) (daCons (dVar 5) (daNil)))) (dgName 6)) (dFor (dRange1 (daCons (dC (.int 5)) (daNil))) (dgName 7) (dSeq (dAsg (dCall (sp_law_text 120) W [] (daCons (dCall (sp_law_bare 20) W [] (daCons (dVar 6) (daCons (dOp rdAdd (dC (.int 1)) (dCall sp_law_take W [] (daCons (dVar 6) (daCons (dC (.int 7)) (daNil))))) (daNil)))) (daNil))) (dgName 4)) (dFor (dRange1 (daCons (dC (.int 3)) (daNil))) (dgName 8) (dSeq (dIf (dAnd (dB (dOp (rdCmp fun i j => decide (i ≤ j)) (dB1 rcLen (daCons (dVar 4) (daNil))) (dC (.int 2000)))) (dNot (dB (dCall sp_law_is_right W [] (daCons (dVar 4) (daNil)))))) (dRet (dC (.bl false))) (dNext)) (dAsg (dCall sp_law_spoilt W [] (daCons (dVar 6) (daCons (dVar 4) (daNil)))) (dgName 4)))))))) (dRet (dC (.bl true))))))))))))))))))
end K


set_option Elab.async false
set_option linter.all false
set_option maxRecDepth 100000
set_option maxHeartbeats 0
namespace K
open PySem PySem.Spec PyProof.Rows L2 DL
abbrev Pw : Program := PySem.Challenge.pw_callplans_k11_texts_judged
def top (i : Nat) : Stmt := Pw.main.body.getD i (.Pass ⟨0, 0, 0, 0⟩)
def mkD (at_ : Str × Option Str) (name qual : Str) (s : Stmt) (dfl : List He.Dv) (kwd : List (Str × He.Dv) := []) : He.DefD := ⟨at_, name, qual, defArgs s, defBody s, defScope s, dfl, kwd⟩
def fcs : List Fc := [.free "len", .gint "MAX_NAME" 8, .gstr "LETTERS" "abcdefghijklmnopqrstuvwxyz", .free "all", .glo "is_name", .gstr "DIGITS" "0123456789", .exc "InvalidText", .free "int", .glo "read_number", .noat "Reader" "words", .cls "Reader", .noat "Reader" "place", .mkr "Reader", .meth "Reader" "take", .gint "MAX_NUMBER" 1000000000, .gint "MAX_TRIES" 8, .gtup "WORDS" ["then", "else", "both", "either"], .meth "Reader" "form", .meth "Reader" "pair", .glo "text_of", .noat "Plan" "node", .cls "Plan", .noat "Plan" "text", .mkr "Plan", .meth "Plan" "__str__", .free "isinstance", .meth "Plan" "__eq__", .free "list", .free "abs", .free "max", .glo "_law_feed", .glo "_law_take", .glo "_law_pick", .free "str", .glo "_law_text", .glo "_law_bare", .glo "_law_word_end", .glo "_law_number_end", .glo "_law_form_end", .glo "InvalidText", .exm "InvalidText" "InvalidText" true, .glo "_law_is_right", .glo "_law_spoilt", .free "min", .free "range", .glo "law"]
abbrev dd0 : He.DefD := mkD ("is_name", none) "is_name" "is_name" (top 13) [] []
abbrev dd1 : He.DefD := mkD ("read_number", none) "read_number" "read_number" (top 14) [] []
abbrev dd2 : He.DefD := mkD ("Reader", some "__init__") "__init__" "Reader.__init__" (inClass (top 15) 0) [] []
abbrev dd3 : He.DefD := mkD ("Reader", some "take") "take" "Reader.take" (inClass (top 15) 1) [] []
abbrev dd4 : He.DefD := mkD ("Reader", some "form") "form" "Reader.form" (inClass (top 15) 2) [] []
abbrev dd5 : He.DefD := mkD ("Reader", some "pair") "pair" "Reader.pair" (inClass (top 15) 3) [] []
abbrev dd6 : He.DefD := mkD ("text_of", none) "text_of" "text_of" (top 16) [] []
abbrev dd7 : He.DefD := mkD ("Plan", some "__init__") "__init__" "Plan.__init__" (inClass (top 19) 0) [] []
abbrev dd8 : He.DefD := mkD ("Plan", some "__str__") "__str__" "Plan.__str__" (inClass (top 19) 2) [] []
abbrev dd9 : He.DefD := mkD ("Plan", some "__eq__") "__eq__" "Plan.__eq__" (inClass (top 19) 3) [] []
abbrev dd10 : He.DefD := mkD ("_law_feed", none) "_law_feed" "_law_feed" (top 21) [] []
abbrev dd11 : He.DefD := mkD ("_law_take", none) "_law_take" "_law_take" (top 22) [] []
abbrev dd12 : He.DefD := mkD ("_law_pick", none) "_law_pick" "_law_pick" (top 23) [] []
abbrev dd13 : He.DefD := mkD ("_law_text", none) "_law_text" "_law_text" (top 24) [] []
abbrev dd14 : He.DefD := mkD ("_law_bare", none) "_law_bare" "_law_bare" (top 25) [] []
abbrev dd15 : He.DefD := mkD ("_law_word_end", none) "_law_word_end" "_law_word_end" (top 26) [] []
abbrev dd16 : He.DefD := mkD ("_law_number_end", none) "_law_number_end" "_law_number_end" (top 27) [] []
abbrev dd17 : He.DefD := mkD ("_law_form_end", none) "_law_form_end" "_law_form_end" (top 28) [] []
abbrev dd18 : He.DefD := mkD ("_law_is_right", none) "_law_is_right" "_law_is_right" (top 29) [] []
abbrev dd19 : He.DefD := mkD ("_law_spoilt", none) "_law_spoilt" "_law_spoilt" (top 30) [] []
abbrev dd20 : He.DefD := mkD ("law", none) "law" "law" (top 31) [] []
def mkA (cl mt name qual : Str) (s : Stmt) : He5.DefA := ⟨cmF cl mt, name, qual, defArgs s, defBody s, defScope s, [], []⟩
abbrev dc0 : He5.DefA := mkA "Plan" "parse" "parse" "Plan.parse" (inClass (top 19) 1)
def cms : List He5.DefA := [dc0]
def fn : List He.DefD := [dd0, dd1, dd2, dd3, dd4, dd5, dd6, dd7, dd8, dd9, dd10, dd11, dd12, dd13, dd14, dd15, dd16, dd17, dd18, dd19, dd20]
section
variable {P : Program} {w : World} {K : PySem.W.Frag} {mg : Str → Option Value} {base : Heap}
theorem sc_is_name : FnScope ["word", "letter"] ["word"] dd0.scope := ⟨rfl, rfl, rfl, by decide +kernel, rfl, by decide +kernel, by decide +kernel⟩
theorem w_is_name (m : Md fcs fn K mg)  : WalkD P w K mg base 0 dd0 ["word", "letter"] t_is_name := by
  have Sc := sc_is_name
  intro cdv A outer s H E F0 W hr tk
  exact dss_one (ds_ret (de_and tru_plain (de_chain (do_le) (do_le) (de_int) (de_b (dc_len) (m.free "len" (memi 0)) (da_cons (dv 0) (da_nil))) (de_gint (m.gint "MAX_NAME" 8 (memi 1)))) (de_one (de_b (dc_all rfl) (m.free "all" (memi 3)) (da_cons (de_lc (own := [("letter", 1)]) rfl Sc.nd (by simp) (di_str (dv 0)) (blkOk_by (N := ["word", "letter"]) (sc := dd0.scope) (by decide +kernel)) (fun _ _ _ _ _ => dg_name Sc.nd rfl (by first | exact Or.inl rfl | exact Or.inr rfl) (fun _ => by decide)) (fun _ _ _ _ _ => difs_nil) (fun _ _ _ _ _ => de_cmp (do_in hr.room) (dv 1) (de_gstr (m.gstr "LETTERS" "abcdefghijklmnopqrstuvwxyz" (memi 2))))) (da_nil))))))
theorem b_is_name : AllB dd0 ["word"] := fun _ _ _ _ _ _ us hl => match us, hl with
  | [_], _ => rfl
theorem sc_read_number : FnScope ["word", "least", "most", "digit"] ["word", "least", "most"] dd1.scope := ⟨rfl, rfl, rfl, by decide +kernel, rfl, by decide +kernel, by decide +kernel⟩
theorem w_read_number (m : Md fcs fn K mg)  : WalkD P w K mg base 0 dd1 ["word", "least", "most", "digit"] t_read_number := by
  have Sc := sc_read_number
  intro cdv A outer s H E F0 W hr tk
  exact dss_cons (ds_if (dt_w (dw_or (dt_cmp (do_eq hr.room) (dv 0) (de_str)) (dw_or (dt_cmp (do_gt) (de_b (dc_len) (m.free "len" (memi 0)) (da_cons (dv 0) (da_nil))) (de_int)) (dw_or1 (dt_not (dt_val (de_b (dc_all rfl) (m.free "all" (memi 3)) (da_cons (de_lc (own := [("digit", 3)]) rfl Sc.nd (by simp) (di_str (dv 0)) (blkOk_by (N := ["word", "least", "most", "digit"]) (sc := dd1.scope) (by decide +kernel)) (fun _ _ _ _ _ => dg_name Sc.nd rfl (by first | exact Or.inl rfl | exact Or.inr rfl) (fun _ => by decide)) (fun _ _ _ _ _ => difs_nil) (fun _ _ _ _ _ => de_cmp (do_in hr.room) (dv 3) (de_gstr (m.gstr "DIGITS" "0123456789" (memi 5))))) (da_nil))))))))) (dss_one (ds_raise0 rfl tk (m.exc "InvalidText" (memi 6)))) (dss_nil)) (dss_cons (ds_if (dt_w (dw_or (dt_w (dw_and (dt_cmp (do_eq hr.room) (de_ix dx_seq (dv 0) (de_int)) (de_str)) (dw_and1 (dt_cmp (do_ne hr.room) (dv 0) (de_str))))) (dw_or1 (dt_not (dt_chain (do_le) (do_le) (dv 1) (de_ty (dc_int) (m.free "int" (memi 7)) (da_cons (dv 0) (da_nil))) (dv 2)))))) (dss_one (ds_raise0 rfl tk (m.exc "InvalidText" (memi 6)))) (dss_nil)) (dss_one (ds_ret (de_ty (dc_int) (m.free "int" (memi 7)) (da_cons (dv 0) (da_nil))))))
theorem b_read_number : AllB dd1 ["word", "least", "most"] := fun _ _ _ _ _ _ us hl => match us, hl with
  | [_, _, _], _ => rfl
theorem sc_Reader_init : FnScope ["self", "text"] ["self", "text"] dd2.scope := ⟨rfl, rfl, rfl, by decide +kernel, rfl, by decide +kernel, by decide +kernel⟩
theorem w_Reader_init (m : Md fcs fn K mg)  : WalkT P w K mg base 0 dd2 ["self", "text"] t_Reader_init := by
  have Sc := sc_Reader_init
  intro cdv A outer s H E F0 W hr tk
  exact dsst_cons (dst_fld (dv 0) (det_split (det_replT (det_repl (dv 1))) (de_str)) (m.noat "Reader" "words" (memi 9) (memi 10))) (dss_one (ds_fld (dv 0) (de_int) (m.noat "Reader" "place" (memi 11) (memi 10))))
theorem b_Reader_init : AllB dd2 ["self", "text"] := fun _ _ _ _ _ _ us hl => match us, hl with
  | [_, _], _ => rfl
theorem sc_Reader_take : FnScope ["self"] ["self"] dd3.scope := ⟨rfl, rfl, rfl, by decide +kernel, rfl, by decide +kernel, by decide +kernel⟩
theorem w_Reader_take (m : Md fcs fn K mg)  : WalkD P w K mg base 0 dd3 ["self"] t_Reader_take := by
  have Sc := sc_Reader_take
  intro cdv A outer s H E F0 W hr tk
  exact dss_cons (ds_if (dt_cmp (do_eq hr.room) (de_fld (dv 0) (m.noat "Reader" "place" (memi 11) (memi 10))) (de_b (dc_len) (m.free "len" (memi 0)) (da_cons (de_fld (dv 0) (m.noat "Reader" "words" (memi 9) (memi 10))) (da_nil)))) (dss_one (ds_raise0 rfl tk (m.exc "InvalidText" (memi 6)))) (dss_nil)) (dss_cons (ds_augfld (dv 0) (de_int) dip_add (m.noat "Reader" "place" (memi 11) (memi 10))) (dss_one (ds_ret (de_ix dx_seq (de_fld (dv 0) (m.noat "Reader" "words" (memi 9) (memi 10))) (de_op do_sub (de_fld (dv 0) (m.noat "Reader" "place" (memi 11) (memi 10))) (de_int))))))
theorem b_Reader_take : AllB dd3 ["self"] := fun _ _ _ _ _ _ us hl => match us, hl with
  | [_], _ => rfl
theorem sc_Reader_form : FnScope ["self", "name", "word", "number", "tries"] ["self"] dd4.scope := ⟨rfl, rfl, rfl, by decide +kernel, rfl, by decide +kernel, by decide +kernel⟩
theorem w_Reader_form (m : Md fcs fn K mg) (n : Nat) (c_Reader_take : Met P w K mg base 1 "Reader" "take" sp_Reader_take []) (c_Reader_pair : Met P w K mg base (1 + n) "Reader" "pair" (sp_Reader_pair n) []) (c_is_name : Cal P w K mg base 1 "is_name" sp_is_name []) (c_read_number : Cal P w K mg base 1 "read_number" sp_read_number []) (c_Reader_form : Met P w K mg base (1 + n) "Reader" "form" (sp_Reader_form n) []) : WalkD P w K mg base (1 + n) dd4 ["self", "name", "word", "number", "tries"] (t_Reader_form n) := by
  have Sc := sc_Reader_form
  intro cdv A outer s H E F0 W hr tk
  exact dss_cons (ds_match rfl Sc.nd (de_meth0 c_Reader_take hr (by omega) tk (dv 0)) (.cons .one (dss_one (ds_ret (de_meth0 c_Reader_pair hr (by omega) tk (dv 0)))) (.cons .one (dss_cons (ds_set Sc.nd (i := 1) rfl (by first | exact Or.inl rfl | exact Or.inr rfl) (de_meth0 c_Reader_take hr (by omega) tk (dv 0))) (dss_cons (ds_if (dt_not (dt_val (de_call c_is_name hr (by omega) tk (da_cons (dv 1) (da_nil))))) (dss_one (ds_raise0 rfl tk (m.exc "InvalidText" (memi 6)))) (dss_nil)) (dss_one (ds_ret (de_tup (da_cons (de_str) (da_cons (dv 1) (da_nil)))))))) (.cons .one (dss_one (ds_ret (de_tup (da_cons (de_str) (da_cons (de_call c_read_number hr (by omega) tk (da_cons (de_meth0 c_Reader_take hr (by omega) tk (dv 0)) (da_cons (de_int) (da_cons (de_gint (m.gint "MAX_NUMBER" 1000000000 (memi 14))) (da_nil))))) (da_nil)))))) (.cons .one (dss_one (ds_ret (de_tup (da_cons (de_str) (da_nil))))) (.cons .one (dss_one (ds_ret (de_tup (da_cons (de_str) (da_nil))))) (.cons .one (dss_cons (ds_set Sc.nd (i := 2) rfl (by first | exact Or.inl rfl | exact Or.inr rfl) (de_meth0 c_Reader_take hr (by omega) tk (dv 0))) (dss_cons (ds_set Sc.nd (i := 3) rfl (by first | exact Or.inl rfl | exact Or.inr rfl) (de_if (dt_cmp (do_eq hr.room) (dv 2) (de_str)) (de_non) (de_call c_read_number hr (by omega) tk (da_cons (dv 2) (da_cons (de_int) (da_cons (de_gint (m.gint "MAX_NUMBER" 1000000000 (memi 14))) (da_nil))))))) (dss_one (ds_ret (de_tup (da_cons (de_str) (da_cons (dv 3) (da_cons (de_meth0 c_Reader_form hr (by omega) tk (dv 0)) (da_nil))))))))) (.cons .one (dss_cons (ds_set Sc.nd (i := 4) rfl (by first | exact Or.inl rfl | exact Or.inr rfl) (de_call c_read_number hr (by omega) tk (da_cons (de_meth0 c_Reader_take hr (by omega) tk (dv 0)) (da_cons (de_int) (da_cons (de_gint (m.gint "MAX_TRIES" 8 (memi 15))) (da_nil)))))) (dss_cons (ds_set Sc.nd (i := 3) rfl (by first | exact Or.inl rfl | exact Or.inr rfl) (de_call c_read_number hr (by omega) tk (da_cons (de_meth0 c_Reader_take hr (by omega) tk (dv 0)) (da_cons (de_int) (da_cons (de_gint (m.gint "MAX_NUMBER" 1000000000 (memi 14))) (da_nil)))))) (dss_one (ds_ret (de_tup (da_cons (de_str) (da_cons (dv 4) (da_cons (dv 3) (da_cons (de_meth0 c_Reader_form hr (by omega) tk (dv 0)) (da_nil)))))))))) (.nil))))))))) (dss_one (ds_raise0 rfl tk (m.exc "InvalidText" (memi 6))))
theorem b_Reader_form : AllB dd4 ["self"] := fun _ _ _ _ _ _ us hl => match us, hl with
  | [_], _ => rfl
theorem sc_Reader_pair : FnScope ["self", "first", "word", "second"] ["self"] dd5.scope := ⟨rfl, rfl, rfl, by decide +kernel, rfl, by decide +kernel, by decide +kernel⟩
theorem w_Reader_pair (m : Md fcs fn K mg) (n : Nat) (c_Reader_form : Met P w K mg base (1 + n) "Reader" "form" (sp_Reader_form n) []) (c_Reader_take : Met P w K mg base 1 "Reader" "take" sp_Reader_take []) : WalkD P w K mg base (1 + n) dd5 ["self", "first", "word", "second"] (t_Reader_pair n) := by
  have Sc := sc_Reader_pair
  intro cdv A outer s H E F0 W hr tk
  exact dss_cons (ds_set Sc.nd (i := 1) rfl (by first | exact Or.inl rfl | exact Or.inr rfl) (de_meth0 c_Reader_form hr (by omega) tk (dv 0))) (dss_cons (ds_set Sc.nd (i := 2) rfl (by first | exact Or.inl rfl | exact Or.inr rfl) (de_meth0 c_Reader_take hr (by omega) tk (dv 0))) (dss_cons (ds_if (dt_cmp (do_notIn hr.room) (dv 2) (de_gtup (zs := ["then", "else", "both", "either"]) (m.gtup "WORDS" ["then", "else", "both", "either"] (memi 16)))) (dss_one (ds_raise0 rfl tk (m.exc "InvalidText" (memi 6)))) (dss_nil)) (dss_cons (ds_set Sc.nd (i := 3) rfl (by first | exact Or.inl rfl | exact Or.inr rfl) (de_meth0 c_Reader_form hr (by omega) tk (dv 0))) (dss_cons (ds_if (dt_cmp (do_ne hr.room) (de_meth0 c_Reader_take hr (by omega) tk (dv 0)) (de_str)) (dss_one (ds_raise0 rfl tk (m.exc "InvalidText" (memi 6)))) (dss_nil)) (dss_one (ds_ret (de_tup (da_cons (dv 2) (da_cons (dv 1) (da_cons (dv 3) (da_nil)))))))))))
theorem b_Reader_pair : AllB dd5 ["self"] := fun _ _ _ _ _ _ us hl => match us, hl with
  | [_], _ => rfl
theorem sc_text_of : FnScope ["node", "number", "part", "tries", "word", "first", "second", "value"] ["node"] dd6.scope := ⟨rfl, rfl, rfl, by decide +kernel, rfl, by decide +kernel, by decide +kernel⟩
theorem w_text_of (m : Md fcs fn K mg) (n : Nat) (c_text_of : Cal P w K mg base (0 + n) "text_of" (sp_text_of n) []) : WalkD P w K mg base (0 + n) dd6 ["node", "number", "part", "tries", "word", "first", "second", "value"] (t_text_of n) := by
  have Sc := sc_text_of
  intro cdv A outer s H E F0 W hr tk
  exact dss_cons (ds_match rfl Sc.nd (dv 0) (.cons (.seq (.cons .val (.cons (.cap ⟨rfl, by first | exact Or.inl rfl | exact Or.inr rfl, by first | exact Or.inl rfl | exact Or.inr rfl⟩) (.cons (.cap ⟨rfl, by first | exact Or.inl rfl | exact Or.inr rfl, by first | exact Or.inl rfl | exact Or.inr rfl⟩) (.nil)))) rfl rfl) (dss_one (ds_ret (de_joined (.cons (de_str) (.cons (de_fmt (de_if (dt_cmp (do_is) (dv 1) (de_non)) (de_str) (dv 1))) (.cons (de_str) (.cons (de_fmt (de_call c_text_of hr (by omega) tk (da_cons (dv 2) (da_nil)))) (.nil)))))))) (.cons (.seq (.cons .val (.cons (.cap ⟨rfl, by first | exact Or.inl rfl | exact Or.inr rfl, by first | exact Or.inl rfl | exact Or.inr rfl⟩) (.cons (.cap ⟨rfl, by first | exact Or.inl rfl | exact Or.inr rfl, by first | exact Or.inl rfl | exact Or.inr rfl⟩) (.cons (.cap ⟨rfl, by first | exact Or.inl rfl | exact Or.inr rfl, by first | exact Or.inl rfl | exact Or.inr rfl⟩) (.nil))))) rfl rfl) (dss_one (ds_ret (de_joined (.cons (de_str) (.cons (de_fmt (dv 3)) (.cons (de_str) (.cons (de_fmt (dv 1)) (.cons (de_str) (.cons (de_fmt (de_call c_text_of hr (by omega) tk (da_cons (dv 2) (da_nil)))) (.nil)))))))))) (.cons (.seq (.cons (.cap ⟨rfl, by first | exact Or.inl rfl | exact Or.inr rfl, by first | exact Or.inl rfl | exact Or.inr rfl⟩) (.cons (.cap ⟨rfl, by first | exact Or.inl rfl | exact Or.inr rfl, by first | exact Or.inl rfl | exact Or.inr rfl⟩) (.cons (.cap ⟨rfl, by first | exact Or.inl rfl | exact Or.inr rfl, by first | exact Or.inl rfl | exact Or.inr rfl⟩) (.nil)))) rfl rfl) (dss_one (ds_ret (de_joined (.cons (de_str) (.cons (de_fmt (de_call c_text_of hr (by omega) tk (da_cons (dv 5) (da_nil)))) (.cons (de_str) (.cons (de_fmt (dv 4)) (.cons (de_str) (.cons (de_fmt (de_call c_text_of hr (by omega) tk (da_cons (dv 6) (da_nil)))) (.cons (de_str) (.nil))))))))))) (.cons (.seq (.cons (.cap ⟨rfl, by first | exact Or.inl rfl | exact Or.inr rfl, by first | exact Or.inl rfl | exact Or.inr rfl⟩) (.cons (.cap ⟨rfl, by first | exact Or.inl rfl | exact Or.inr rfl, by first | exact Or.inl rfl | exact Or.inr rfl⟩) (.nil))) rfl rfl) (dss_one (ds_ret (de_joined (.cons (de_fmt (dv 4)) (.cons (de_str) (.cons (de_fmt (dv 7)) (.nil))))))) (.nil)))))) (dss_one (ds_ret (de_ix dx_seq (dv 0) (de_int))))
theorem b_text_of : AllB dd6 ["node"] := fun _ _ _ _ _ _ us hl => match us, hl with
  | [_], _ => rfl
theorem sc_Plan_init : FnScope ["self", "node"] ["self", "node"] dd7.scope := ⟨rfl, rfl, rfl, by decide +kernel, rfl, by decide +kernel, by decide +kernel⟩
theorem w_Plan_init (m : Md fcs fn K mg) (c_text_of : Cal P w K mg base 120 "text_of" (sp_text_of 120) []) : WalkD P w K mg base 120 dd7 ["self", "node"] t_Plan_init := by
  have Sc := sc_Plan_init
  intro cdv A outer s H E F0 W hr tk
  exact dss_cons (ds_fld (dv 0) (dv 1) (m.noat "Plan" "node" (memi 20) (memi 21))) (dss_one (ds_fld (dv 0) (de_call c_text_of hr (by decide) tk (da_cons (dv 1) (da_nil))) (m.noat "Plan" "text" (memi 22) (memi 21))))
theorem b_Plan_init : AllB dd7 ["self", "node"] := fun _ _ _ _ _ _ us hl => match us, hl with
  | [_, _], _ => rfl
theorem sc_Plan_parse : FnScope ["cls", "text", "reader", "made"] ["cls", "text"] dc0.scope := ⟨rfl, rfl, rfl, by decide +kernel, rfl, by decide +kernel, by decide +kernel⟩
theorem w_Plan_parse (m : Md fcs fn K mg) (c_Reader : Mak P w K mg base 1 "Reader" sp_Reader_init []) (c_Reader_form : Met P w K mg base 121 "Reader" "form" (sp_Reader_form 120) []) (c_Plan : Mak P w K mg base 121 "Plan" sp_Plan_init []) : WalkA P w K mg base 122 dc0 ["cls", "text", "reader", "made"] t_Plan_parse := by
  have Sc := sc_Plan_parse
  intro cdv A outer s H E F0 W hr tk
  exact dss_cons (ds_set Sc.nd (i := 2) rfl (by first | exact Or.inl rfl | exact Or.inr rfl) (de_makeM c_Reader hr (by decide) tk (da_cons (dv 1) (da_nil)))) (dss_cons (ds_set Sc.nd (i := 3) rfl (by first | exact Or.inl rfl | exact Or.inr rfl) (de_frz (de_makeV (i := 0) c_Plan hr (by decide) tk (da_cons (de_meth0 c_Reader_form hr (by decide) tk (dv 2)) (da_nil)) rfl (by first | exact Or.inl rfl | exact Or.inr (Or.inl rfl) | exact Or.inr (Or.inr rfl))))) (dss_cons (ds_if (dt_cmp (do_ne hr.room) (de_fld (dv 3) (m.noat "Plan" "text" (memi 22) (memi 21))) (dv 1)) (dss_one (ds_raise0 rfl tk (m.exc "InvalidText" (memi 6)))) (dss_nil)) (dss_one (ds_ret (dv 3)))))
theorem b_Plan_parse : AllA dc0 ["cls", "text"] := fun _ _ _ _ _ _ us hl => match us, hl with
  | [_, _], _ => rfl
theorem sc_Plan_str : FnScope ["self"] ["self"] dd8.scope := ⟨rfl, rfl, rfl, by decide +kernel, rfl, by decide +kernel, by decide +kernel⟩
theorem w_Plan_str (m : Md fcs fn K mg)  : WalkD P w K mg base 0 dd8 ["self"] t_Plan_str := by
  have Sc := sc_Plan_str
  intro cdv A outer s H E F0 W hr tk
  exact dss_one (ds_ret (de_joined1 (de_fmt (de_fld (dv 0) (m.noat "Plan" "text" (memi 22) (memi 21))))))
theorem b_Plan_str : AllB dd8 ["self"] := fun _ _ _ _ _ _ us hl => match us, hl with
  | [_], _ => rfl
theorem sc_Plan_eq : FnScope ["self", "other"] ["self", "other"] dd9.scope := ⟨rfl, rfl, rfl, by decide +kernel, rfl, by decide +kernel, by decide +kernel⟩
theorem w_Plan_eq (m : Md fcs fn K mg)  : WalkD P w K mg base 0 dd9 ["self", "other"] t_Plan_eq := by
  have Sc := sc_Plan_eq
  intro cdv A outer s H E F0 W hr tk
  exact dss_one (ds_ret (de_and tru_plain (de_b (dc_isi) (m.free "isinstance" (memi 25)) (da_cons (dv 1) (da_cons (de_cls ⟨_, m.cls "Plan" (memi 21)⟩) (da_nil)))) (de_one (de_cmp (do_eq hr.room) (de_fld (dv 0) (m.noat "Plan" "text" (memi 22) (memi 21))) (de_fld (dv 1) (m.noat "Plan" "text" (memi 22) (memi 21)))))))
theorem b_Plan_eq : AllB dd9 ["self", "other"] := fun _ _ _ _ _ _ us hl => match us, hl with
  | [_, _], _ => rfl
theorem sc_law_feed : FnScope ["script", "k", "seed", "digits"] ["script", "k"] dd10.scope := ⟨rfl, rfl, rfl, by decide +kernel, rfl, by decide +kernel, by decide +kernel⟩
theorem w_law_feed (m : Md fcs fn K mg)  : WalkD P w K mg base 0 dd10 ["script", "k", "seed", "digits"] t_law_feed := by
  have Sc := sc_law_feed
  intro cdv A outer s H E F0 W hr tk
  exact dss_cons (ds_set Sc.nd (i := 2) rfl (by first | exact Or.inl rfl | exact Or.inr rfl) (de_ix dx_seq (de_op do_add (de_ty (dc_list) (m.free "list" (memi 27)) (da_cons (de_slice (dv 0) (do_some (dv 1)) (do_some (de_op do_add (dv 1) (de_int)))) (da_nil))) (de_lst (da_cons (de_op do_add (de_op do_mul (de_int) (dv 1)) (de_int)) (da_nil)))) (de_int))) (dss_cons (ds_set Sc.nd (i := 3) rfl (by first | exact Or.inl rfl | exact Or.inr rfl) (de_b (dc_max rfl) (m.free "max" (memi 29)) (da_cons (de_int) (da_cons (de_op do_sub (de_b (dc_abs) (m.free "abs" (memi 28)) (da_cons (dv 2) (da_nil))) (de_op do_pow (de_int) (de_int))) (da_nil))))) (dss_one (ds_ret (de_lstM (da_cons (dv 3) (da_cons (de_op do_mod (de_op do_add (de_op do_add (de_op do_mul (de_op do_mod (de_b (dc_abs) (m.free "abs" (memi 28)) (da_cons (dv 2) (da_nil))) (de_int)) (de_int)) (de_op do_mul (de_int) (dv 1))) (de_int)) (de_int)) (da_nil)))))))
theorem b_law_feed : AllB dd10 ["script", "k"] := fun _ _ _ _ _ _ us hl => match us, hl with
  | [_, _], _ => rfl
theorem sc_law_take : FnScope ["feed", "size", "digit"] ["feed", "size"] dd11.scope := ⟨rfl, rfl, rfl, by decide +kernel, rfl, by decide +kernel, by decide +kernel⟩
theorem w_law_take (m : Md fcs fn K mg)  : WalkD P w K mg base 0 dd11 ["feed", "size", "digit"] t_law_take := by
  have Sc := sc_law_take
  intro cdv A outer s H E F0 W hr tk
  exact dss_cons (ds_if (dt_cmp (do_gt) (de_ix dx_seq (dv 0) (de_int)) (de_int)) (dss_cons (ds_set Sc.nd (i := 2) rfl (by first | exact Or.inl rfl | exact Or.inr rfl) (de_op do_mod (de_ix dx_seq (dv 0) (de_int)) (dv 1))) (dss_cons (ds_asg (de_op do_div (de_ix dx_seq (dv 0) (de_int)) (dv 1)) (dg_sub (dv 0) (de_int) ds_list)) (dss_one (ds_ret (dv 2))))) (dss_nil)) (dss_cons (ds_asg (de_op do_mod (de_op do_add (de_op do_mul (de_ix dx_seq (dv 0) (de_int)) (de_int)) (de_int)) (de_int)) (dg_sub (dv 0) (de_int) ds_list)) (dss_one (ds_ret (de_op do_mod (de_op do_div (de_ix dx_seq (dv 0) (de_int)) (de_int)) (dv 1)))))
theorem b_law_take : AllB dd11 ["feed", "size"] := fun _ _ _ _ _ _ us hl => match us, hl with
  | [_, _], _ => rfl
theorem sc_law_pick : FnScope ["feed", "choices"] ["feed", "choices"] dd12.scope := ⟨rfl, rfl, rfl, by decide +kernel, rfl, by decide +kernel, by decide +kernel⟩
theorem w_law_pick (m : Md fcs fn K mg) (c__law_take : Cal P w K mg base 1 "_law_take" sp_law_take []) : WalkD P w K mg base 1 dd12 ["feed", "choices"] t_law_pick := by
  have Sc := sc_law_pick
  intro cdv A outer s H E F0 W hr tk
  exact dss_one (ds_ret (de_ix dx_seq (dv 1) (de_call c__law_take hr (by decide) tk (da_cons (dv 0) (da_cons (de_b (dc_len) (m.free "len" (memi 0)) (da_cons (dv 1) (da_nil))) (da_nil))))))
theorem b_law_pick : AllB dd12 ["feed", "choices"] := fun _ _ _ _ _ _ us hl => match us, hl with
  | [_, _], _ => rfl
theorem sc_law_text : FnScope ["plan", "part"] ["plan"] dd13.scope := ⟨rfl, rfl, rfl, by decide +kernel, rfl, by decide +kernel, by decide +kernel⟩
theorem w_law_text (m : Md fcs fn K mg) (n : Nat) (c__law_text : Cal P w K mg base (0 + n) "_law_text" (sp_law_text n) []) : WalkD P w K mg base (0 + n) dd13 ["plan", "part"] (t_law_text n) := by
  have Sc := sc_law_text
  intro cdv A outer s H E F0 W hr tk
  exact dss_cons (ds_if (dt_cmp (do_in hr.room) (de_ix dx_seq (dv 0) (de_int)) (de_tup (da_cons (de_str) (da_cons (de_str) (da_cons (de_str) (da_cons (de_str) (da_nil))))))) (dss_one (ds_ret (de_op do_add (de_op do_add (de_op do_add (de_op do_add (de_op do_add (de_op do_add (de_str) (de_call c__law_text hr (by omega) tk (da_cons (de_ix dx_seq (dv 0) (de_int)) (da_nil)))) (de_str)) (de_ix dx_seq (dv 0) (de_int))) (de_str)) (de_call c__law_text hr (by omega) tk (da_cons (de_ix dx_seq (dv 0) (de_int)) (da_nil)))) (de_str)))) (dss_nil)) (dss_cons (ds_if (dt_cmp (do_in hr.room) (de_ix dx_seq (dv 0) (de_int)) (de_tup (da_cons (de_str) (da_cons (de_str) (da_nil))))) (dss_one (ds_ret (de_op do_add (de_op do_add (de_join (de_str) (de_lc (own := [("part", 1)]) rfl Sc.nd (by simp) (di_seq (de_slice (dv 0) (do_none) (do_some (de_neg (de_int))))) (blkOk_by (N := ["plan", "part"]) (sc := dd13.scope) (by decide +kernel)) (fun _ _ _ _ _ => dg_name Sc.nd rfl (by first | exact Or.inl rfl | exact Or.inr rfl) (fun _ => by decide)) (fun _ _ _ _ _ => difs_nil) (fun _ _ _ _ _ => de_ty dc_str (m.free "str" (memi 33)) (da_cons (dv 1) (da_nil))))) (de_str)) (de_call c__law_text hr (by omega) tk (da_cons (de_ix dx_seq (dv 0) (de_neg (de_int))) (da_nil)))))) (dss_nil)) (dss_one (ds_ret (de_join (de_str) (de_lc (own := [("part", 1)]) rfl Sc.nd (by simp) (di_seq (dv 0)) (blkOk_by (N := ["plan", "part"]) (sc := dd13.scope) (by decide +kernel)) (fun _ _ _ _ _ => dg_name Sc.nd rfl (by first | exact Or.inl rfl | exact Or.inr rfl) (fun _ => by decide)) (fun _ _ _ _ _ => difs_nil) (fun _ _ _ _ _ => de_ty dc_str (m.free "str" (memi 33)) (da_cons (dv 1) (da_nil))))))))
theorem b_law_text : AllB dd13 ["plan"] := fun _ _ _ _ _ _ us hl => match us, hl with
  | [_], _ => rfl
theorem sc_law_bare : FnScope ["feed", "room", "way", "names", "name", "word", "first"] ["feed", "room"] dd14.scope := ⟨rfl, rfl, rfl, by decide +kernel, rfl, by decide +kernel, by decide +kernel⟩
theorem w_law_bare (m : Md fcs fn K mg) (n : Nat) (c__law_take : Cal P w K mg base 1 "_law_take" sp_law_take []) (c__law_bare : Cal P w K mg base (2 + n) "_law_bare" (sp_law_bare n) []) (c__law_pick : Cal P w K mg base 2 "_law_pick" sp_law_pick []) : WalkD P w K mg base (2 + n) dd14 ["feed", "room", "way", "names", "name", "word", "first"] (t_law_bare n) := by
  have Sc := sc_law_bare
  intro cdv A outer s H E F0 W hr tk
  exact dss_cons (ds_set Sc.nd (i := 2) rfl (by first | exact Or.inl rfl | exact Or.inr rfl) (de_call c__law_take hr (by omega) tk (da_cons (dv 0) (da_cons (de_int) (da_nil))))) (dss_cons (ds_if (dt_cmp (do_eq hr.room) (dv 2) (de_int)) (dss_one (ds_ret (de_tup (da_cons (de_str) (da_nil))))) (dss_nil)) (dss_cons (ds_if (dt_cmp (do_eq hr.room) (dv 2) (de_int)) (dss_one (ds_ret (de_tup (da_cons (de_str) (da_cons (de_str) (da_cons (de_if (dt_cmp (do_gt) (dv 1) (de_int)) (de_call c__law_bare hr (by omega) tk (da_cons (dv 0) (da_cons (de_op do_sub (dv 1) (de_int)) (da_nil)))) (de_tup (da_cons (de_str) (da_nil)))) (da_nil))))))) (dss_nil)) (dss_cons (ds_if (dt_cmp (do_eq hr.room) (dv 2) (de_int)) (dss_one (ds_ret (de_tup (da_cons (de_str) (da_cons (de_call c__law_pick hr (by omega) tk (da_cons (dv 0) (da_cons (de_lst (da_cons (de_op do_pow (de_int) (de_int)) (da_cons (de_int) (da_cons (de_int) (da_cons (de_int) (da_nil)))))) (da_nil)))) (da_nil)))))) (dss_nil)) (dss_cons (ds_if (dt_w (dw_or (dt_cmp (do_le) (dv 1) (de_int)) (dw_or1 (dt_cmp (do_lt) (dv 2) (de_int))))) (dss_cons (ds_set Sc.nd (i := 3) rfl (by first | exact Or.inl rfl | exact Or.inr rfl) (de_lst (da_cons (de_str) (da_cons (de_str) (da_cons (de_str) (da_cons (de_str) (da_cons (de_str) (da_cons (de_str) (da_cons (de_str) (da_cons (de_str) (da_cons (de_str) (da_cons (de_str) (da_cons (de_str) (da_nil)))))))))))))) (dss_cons (ds_set Sc.nd (i := 4) rfl (by first | exact Or.inl rfl | exact Or.inr rfl) (de_call c__law_pick hr (by omega) tk (da_cons (dv 0) (da_cons (de_op do_add (dv 3) (de_lst (da_cons (de_str) (da_cons (de_str) (da_cons (de_str) (da_cons (de_str) (da_nil))))))) (da_nil))))) (dss_one (ds_ret (de_call c__law_pick hr (by omega) tk (da_cons (dv 0) (da_cons (de_lst (da_cons (de_tup (da_cons (de_str) (da_cons (dv 4) (da_nil)))) (da_cons (de_tup (da_cons (de_str) (da_cons (de_call c__law_take hr (by omega) tk (da_cons (dv 0) (da_cons (de_int) (da_nil)))) (da_nil)))) (da_cons (de_tup (da_cons (de_str) (da_nil))) (da_nil))))) (da_nil)))))))) (dss_nil)) (dss_cons (ds_if (dt_cmp (do_lt) (dv 2) (de_int)) (dss_one (ds_ret (de_tup (da_cons (de_str) (da_cons (de_call c__law_pick hr (by omega) tk (da_cons (dv 0) (da_cons (de_lst (da_cons (de_int) (da_cons (de_int) (da_cons (de_int) (da_cons (de_op do_pow (de_int) (de_int)) (da_nil)))))) (da_nil)))) (da_cons (de_call c__law_bare hr (by omega) tk (da_cons (dv 0) (da_cons (de_op do_sub (dv 1) (de_int)) (da_nil)))) (da_nil))))))) (dss_nil)) (dss_cons (ds_if (dt_cmp (do_lt) (dv 2) (de_int)) (dss_one (ds_ret (de_tup (da_cons (de_str) (da_cons (de_op do_add (de_int) (de_call c__law_take hr (by omega) tk (da_cons (dv 0) (da_cons (de_int) (da_nil))))) (da_cons (de_call c__law_pick hr (by omega) tk (da_cons (dv 0) (da_cons (de_lst (da_cons (de_int) (da_cons (de_int) (da_cons (de_op do_pow (de_int) (de_int)) (da_nil))))) (da_nil)))) (da_cons (de_call c__law_bare hr (by omega) tk (da_cons (dv 0) (da_cons (de_op do_sub (dv 1) (de_int)) (da_nil)))) (da_nil)))))))) (dss_nil)) (dss_cons (ds_set Sc.nd (i := 5) rfl (by first | exact Or.inl rfl | exact Or.inr rfl) (de_call c__law_pick hr (by omega) tk (da_cons (dv 0) (da_cons (de_lst (da_cons (de_str) (da_cons (de_str) (da_cons (de_str) (da_cons (de_str) (da_nil)))))) (da_nil))))) (dss_cons (ds_set Sc.nd (i := 6) rfl (by first | exact Or.inl rfl | exact Or.inr rfl) (de_op do_add (de_int) (de_call c__law_take hr (by omega) tk (da_cons (dv 0) (da_cons (de_op do_sub (dv 1) (de_int)) (da_nil)))))) (dss_one (ds_ret (de_tup (da_cons (dv 5) (da_cons (de_call c__law_bare hr (by omega) tk (da_cons (dv 0) (da_cons (dv 6) (da_nil)))) (da_cons (de_call c__law_bare hr (by omega) tk (da_cons (dv 0) (da_cons (de_op do_sub (dv 1) (dv 6)) (da_nil)))) (da_nil)))))))))))))))
theorem b_law_bare : AllB dd14 ["feed", "room"] := fun _ _ _ _ _ _ us hl => match us, hl with
  | [_, _], _ => rfl
theorem sc_law_word_end : FnScope ["text", "at", "signs"] ["text", "at", "signs"] dd15.scope := ⟨rfl, rfl, rfl, by decide +kernel, rfl, by decide +kernel, by decide +kernel⟩
theorem w_law_word_end (m : Md fcs fn K mg)  : WalkD P w K mg base 0 dd15 ["text", "at", "signs"] t_law_word_end := by
  have Sc := sc_law_word_end
  intro cdv A outer s H E F0 W hr tk
  exact dss_cons (ds_while (passes_of rfl) (dt_w (dw_and (dt_cmp (do_lt) (dv 1) (de_b (dc_len) (m.free "len" (memi 0)) (da_cons (dv 0) (da_nil)))) (dw_and1 (dt_cmp (do_in hr.room) (de_ix dx_seq (dv 0) (dv 1)) (dv 2))))) (dss_one (ds_set Sc.nd (i := 1) rfl (by first | exact Or.inl rfl | exact Or.inr rfl) (de_op do_add (dv 1) (de_int))))) (dss_one (ds_ret (dv 1)))
theorem b_law_word_end : AllB dd15 ["text", "at", "signs"] := fun _ _ _ _ _ _ us hl => match us, hl with
  | [_, _, _], _ => rfl
theorem sc_law_number_end : FnScope ["text", "at", "least", "most", "end", "word"] ["text", "at", "least", "most"] dd16.scope := ⟨rfl, rfl, rfl, by decide +kernel, rfl, by decide +kernel, by decide +kernel⟩
theorem w_law_number_end (m : Md fcs fn K mg) (c__law_word_end : Cal P w K mg base 1 "_law_word_end" sp_law_word_end []) : WalkD P w K mg base 1 dd16 ["text", "at", "least", "most", "end", "word"] t_law_number_end := by
  have Sc := sc_law_number_end
  intro cdv A outer s H E F0 W hr tk
  exact dss_cons (ds_set Sc.nd (i := 4) rfl (by first | exact Or.inl rfl | exact Or.inr rfl) (de_call c__law_word_end hr (by decide) tk (da_cons (dv 0) (da_cons (dv 1) (da_cons (de_str) (da_nil)))))) (dss_cons (ds_set Sc.nd (i := 5) rfl (by first | exact Or.inl rfl | exact Or.inr rfl) (de_slice (dv 0) (do_some (dv 1)) (do_some (dv 4)))) (dss_cons (ds_if (dt_w (dw_or (dt_cmp (do_eq hr.room) (dv 5) (de_str)) (dw_or (dt_cmp (do_gt) (de_b (dc_len) (m.free "len" (memi 0)) (da_cons (dv 5) (da_nil))) (de_int)) (dw_or (dt_w (dw_and (dt_cmp (do_eq hr.room) (de_ix dx_seq (dv 5) (de_int)) (de_str)) (dw_and1 (dt_cmp (do_gt) (de_b (dc_len) (m.free "len" (memi 0)) (da_cons (dv 5) (da_nil))) (de_int))))) (dw_or1 (dt_not (dt_chain (do_le) (do_le) (dv 2) (de_ty (dc_int) (m.free "int" (memi 7)) (da_cons (dv 5) (da_nil))) (dv 3)))))))) (dss_one (ds_ret (de_neg (de_int)))) (dss_nil)) (dss_one (ds_ret (dv 4)))))
theorem b_law_number_end : AllB dd16 ["text", "at", "least", "most"] := fun _ _ _ _ _ _ us hl => match us, hl with
  | [_, _, _, _], _ => rfl
theorem sc_law_form_end : FnScope ["text", "at", "end", "word", "last"] ["text", "at"] dd17.scope := ⟨rfl, rfl, rfl, by decide +kernel, rfl, by decide +kernel, by decide +kernel⟩
theorem w_law_form_end (m : Md fcs fn K mg) (n : Nat) (c__law_form_end : Cal P w K mg base (2 + n) "_law_form_end" (sp_law_form_end n) []) (c__law_word_end : Cal P w K mg base 1 "_law_word_end" sp_law_word_end []) (c__law_number_end : Cal P w K mg base 2 "_law_number_end" sp_law_number_end []) : WalkD P w K mg base (2 + n) dd17 ["text", "at", "end", "word", "last"] (t_law_form_end n) := by
  have Sc := sc_law_form_end
  intro cdv A outer s H E F0 W hr tk
  exact dss_cons (ds_if (dt_cmp (do_eq hr.room) (de_slice (dv 0) (do_some (dv 1)) (do_some (de_op do_add (dv 1) (de_int)))) (de_str)) (dss_cons (ds_set Sc.nd (i := 2) rfl (by first | exact Or.inl rfl | exact Or.inr rfl) (de_call c__law_form_end hr (by omega) tk (da_cons (dv 0) (da_cons (de_op do_add (dv 1) (de_int)) (da_nil))))) (dss_cons (ds_for (passes_of rfl) rfl (di_seq (de_lst (da_cons (de_str) (da_cons (de_str) (da_cons (de_str) (da_cons (de_str) (da_nil))))))) (dg_name Sc.nd rfl (by first | exact Or.inl rfl | exact Or.inr rfl) (fun h => absurd rfl h)) (dss_one (ds_if (dt_w (dw_and (dt_cmp (do_gt) (dv 2) (de_int)) (dw_and1 (dt_cmp (do_eq hr.room) (de_slice (dv 0) (do_some (dv 2)) (do_some (de_op do_add (dv 2) (de_b (dc_len) (m.free "len" (memi 0)) (da_cons (dv 3) (da_nil)))))) (dv 3))))) (dss_cons (ds_set Sc.nd (i := 4) rfl (by first | exact Or.inl rfl | exact Or.inr rfl) (de_call c__law_form_end hr (by omega) tk (da_cons (dv 0) (da_cons (de_op do_add (dv 2) (de_b (dc_len) (m.free "len" (memi 0)) (da_cons (dv 3) (da_nil)))) (da_nil))))) (dss_one (ds_ret (de_if (dt_w (dw_and (dt_cmp (do_gt) (dv 4) (de_int)) (dw_and1 (dt_cmp (do_eq hr.room) (de_slice (dv 0) (do_some (dv 4)) (do_some (de_op do_add (dv 4) (de_int)))) (de_str))))) (de_op do_add (dv 4) (de_int)) (de_neg (de_int)))))) (dss_nil)))) (dss_one (ds_ret (de_neg (de_int)))))) (dss_nil)) (dss_cons (ds_if (dt_cmp (do_in hr.room) (de_slice (dv 0) (do_some (dv 1)) (do_some (de_op do_add (dv 1) (de_int)))) (de_tup (da_cons (de_str) (da_cons (de_str) (da_nil))))) (dss_one (ds_ret (de_op do_add (dv 1) (de_int)))) (dss_nil)) (dss_cons (ds_if (dt_cmp (do_eq hr.room) (de_slice (dv 0) (do_some (dv 1)) (do_some (de_op do_add (dv 1) (de_int)))) (de_str)) (dss_cons (ds_set Sc.nd (i := 2) rfl (by first | exact Or.inl rfl | exact Or.inr rfl) (de_call c__law_word_end hr (by omega) tk (da_cons (dv 0) (da_cons (de_op do_add (dv 1) (de_int)) (da_cons (de_str) (da_nil)))))) (dss_one (ds_ret (de_if (dt_chain (do_le) (do_le) (de_int) (de_op do_sub (de_op do_sub (dv 2) (dv 1)) (de_int)) (de_int)) (dv 2) (de_neg (de_int)))))) (dss_nil)) (dss_cons (ds_if (dt_cmp (do_eq hr.room) (de_slice (dv 0) (do_some (dv 1)) (do_some (de_op do_add (dv 1) (de_int)))) (de_str)) (dss_one (ds_ret (de_call c__law_number_end hr (by omega) tk (da_cons (dv 0) (da_cons (de_op do_add (dv 1) (de_int)) (da_cons (de_int) (da_cons (de_op do_pow (de_int) (de_int)) (da_nil)))))))) (dss_nil)) (dss_cons (ds_if (dt_cmp (do_eq hr.room) (de_slice (dv 0) (do_some (dv 1)) (do_some (de_op do_add (dv 1) (de_int)))) (de_str)) (dss_one (ds_ret (de_call c__law_form_end hr (by omega) tk (da_cons (dv 0) (da_cons (de_op do_add (dv 1) (de_int)) (da_nil)))))) (dss_nil)) (dss_cons (ds_set Sc.nd (i := 2) rfl (by first | exact Or.inl rfl | exact Or.inr rfl) (de_neg (de_int))) (dss_cons (ds_if (dt_cmp (do_eq hr.room) (de_slice (dv 0) (do_some (dv 1)) (do_some (de_op do_add (dv 1) (de_int)))) (de_str)) (dss_one (ds_set Sc.nd (i := 2) rfl (by first | exact Or.inl rfl | exact Or.inr rfl) (de_call c__law_number_end hr (by omega) tk (da_cons (dv 0) (da_cons (de_op do_add (dv 1) (de_int)) (da_cons (de_int) (da_cons (de_op do_pow (de_int) (de_int)) (da_nil)))))))) (dss_nil)) (dss_cons (ds_if (dt_cmp (do_eq hr.room) (de_slice (dv 0) (do_some (dv 1)) (do_some (de_op do_add (dv 1) (de_int)))) (de_str)) (dss_cons (ds_set Sc.nd (i := 2) rfl (by first | exact Or.inl rfl | exact Or.inr rfl) (de_call c__law_number_end hr (by omega) tk (da_cons (dv 0) (da_cons (de_op do_add (dv 1) (de_int)) (da_cons (de_int) (da_cons (de_int) (da_nil))))))) (dss_one (ds_set Sc.nd (i := 2) rfl (by first | exact Or.inl rfl | exact Or.inr rfl) (de_if (dt_w (dw_and (dt_cmp (do_gt) (dv 2) (de_int)) (dw_and1 (dt_cmp (do_eq hr.room) (de_slice (dv 0) (do_some (dv 2)) (do_some (de_op do_add (dv 2) (de_int)))) (de_str))))) (de_call c__law_number_end hr (by omega) tk (da_cons (dv 0) (da_cons (de_op do_add (dv 2) (de_int)) (da_cons (de_int) (da_cons (de_op do_pow (de_int) (de_int)) (da_nil)))))) (de_neg (de_int)))))) (dss_nil)) (dss_one (ds_ret (de_if (dt_w (dw_and (dt_cmp (do_gt) (dv 2) (de_int)) (dw_and1 (dt_cmp (do_eq hr.room) (de_slice (dv 0) (do_some (dv 2)) (do_some (de_op do_add (dv 2) (de_int)))) (de_str))))) (de_call c__law_form_end hr (by omega) tk (da_cons (dv 0) (da_cons (de_op do_add (dv 2) (de_int)) (da_nil)))) (de_neg (de_int))))))))))))
theorem b_law_form_end : AllB dd17 ["text", "at"] := fun _ _ _ _ _ _ us hl => match us, hl with
  | [_, _], _ => rfl
theorem sc_law_is_right : FnScope ["text", "good", "made", "error"] ["text"] dd18.scope := ⟨rfl, rfl, rfl, by decide +kernel, rfl, by decide +kernel, by decide +kernel⟩
theorem w_law_is_right (m : Md fcs fn K mg) (c__law_form_end : Cal P w K mg base 122 "_law_form_end" (sp_law_form_end 120) []) (c_Plan_parse : CMt P w K mg base 123 "Plan" "parse" sp_Plan_parse) (c_Plan___str__ : Spc P w K mg base 1 "Plan" "__str__" sp_Plan_str) : WalkD P w K mg base 123 dd18 ["text", "good", "made", "error"] t_law_is_right := by
  have Sc := sc_law_is_right
  intro cdv A outer s H E F0 W hr tk
  exact dss_cons (ds_par (i := 1) (j := 2) rfl Sc.nd rfl rfl (by decide) rfl rfl (da_cons (de_cmp (do_eq hr.room) (de_call c__law_form_end hr (by decide) tk (da_cons (dv 0) (da_cons (de_int) (da_nil)))) (de_b (dc_len) (m.free "len" (memi 0)) (da_cons (dv 0) (da_nil)))) (da_cons (de_non) (da_nil)))) (dss_cons (ds_tryAs Sc.nd (i := 3) rfl ⟨rfl, by decide, .inl (m.glo "InvalidText" (memi 39))⟩ tk (hm_of m (by intro q hq; simp only [List.mem_cons, List.not_mem_nil, or_false] at hq; rcases hq with rfl <;> first | exact (memi 40))) (fun _ W pn xe tk po => dss_one (ds_set Sc.nd (i := 2) rfl (by first | exact Or.inl rfl | exact Or.inr rfl) (de_cmeth c_Plan_parse hr (by decide) tk (da_cons (dv 0) (da_nil))))) (fun _ a pn => dss_one (ds_set Sc.nd (i := 2) rfl (by first | exact Or.inl rfl | exact Or.inr rfl) (de_non)))) (dss_one (ds_ret (de_and tru_plain (de_cmp (do_eq hr.room) (de_cmp (do_isNot) (dv 2) (de_non)) (dv 1)) (de_one (de_or tru_plain (de_cmp (do_is) (dv 2) (de_non)) (de_one (de_cmp (do_eq hr.room) (de_ty (dc_strO c_Plan___str__ hr (by decide)) (m.free "str" (memi 33)) (da_cons (dv 2) (da_nil))) (dv 0)))))))))
theorem b_law_is_right : AllB dd18 ["text"] := fun _ _ _ _ _ _ us hl => match us, hl with
  | [_], _ => rfl
theorem sc_law_spoilt : FnScope ["feed", "text", "at", "more", "signs", "sign", "case", "words", "k", "odd"] ["feed", "text"] dd19.scope := ⟨rfl, rfl, rfl, by decide +kernel, rfl, by decide +kernel, by decide +kernel⟩
theorem w_law_spoilt (m : Md fcs fn K mg) (c__law_take : Cal P w K mg base 1 "_law_take" sp_law_take []) (c__law_pick : Cal P w K mg base 2 "_law_pick" sp_law_pick []) : WalkD P w K mg base 2 dd19 ["feed", "text", "at", "more", "signs", "sign", "case", "words", "k", "odd"] t_law_spoilt := by
  have Sc := sc_law_spoilt
  intro cdv A outer s H E F0 W hr tk
  exact dss_cons (ds_set Sc.nd (i := 2) rfl (by first | exact Or.inl rfl | exact Or.inr rfl) (de_call c__law_take hr (by decide) tk (da_cons (dv 0) (da_cons (de_op do_add (de_b (dc_len) (m.free "len" (memi 0)) (da_cons (dv 1) (da_nil))) (de_int)) (da_nil))))) (dss_cons (ds_set Sc.nd (i := 3) rfl (by first | exact Or.inl rfl | exact Or.inr rfl) (de_lst (da_cons (de_str) (da_cons (de_str) (da_cons (de_str) (da_cons (de_op do_mulS (de_str) (de_int)) (da_cons (de_op do_mulS (de_str) (de_int)) (da_cons (de_str) (da_cons (de_str) (da_nil)))))))))) (dss_cons (ds_set Sc.nd (i := 4) rfl (by first | exact Or.inl rfl | exact Or.inr rfl) (de_str)) (dss_cons (ds_set Sc.nd (i := 5) rfl (by first | exact Or.inl rfl | exact Or.inr rfl) (de_call c__law_pick hr (by decide) tk (da_cons (dv 0) (da_cons (de_op do_add (de_ty (dc_listS rfl) (m.free "list" (memi 27)) (da_cons (dv 4) (da_nil))) (dv 3)) (da_nil))))) (dss_cons (ds_set Sc.nd (i := 6) rfl (by first | exact Or.inl rfl | exact Or.inr rfl) (de_call c__law_take hr (by decide) tk (da_cons (dv 0) (da_cons (de_int) (da_nil))))) (dss_cons (ds_if (dt_cmp (do_eq hr.room) (dv 6) (de_int)) (dss_one (ds_ret (de_op do_add (de_slice (dv 1) (do_none) (do_some (dv 2))) (de_slice (dv 1) (do_some (de_op do_add (dv 2) (de_int))) (do_none))))) (dss_nil)) (dss_cons (ds_if (dt_cmp (do_eq hr.room) (dv 6) (de_int)) (dss_one (ds_ret (de_op do_add (de_op do_add (de_slice (dv 1) (do_none) (do_some (dv 2))) (dv 5)) (de_slice (dv 1) (do_some (dv 2)) (do_none))))) (dss_nil)) (dss_cons (ds_if (dt_cmp (do_eq hr.room) (dv 6) (de_int)) (dss_one (ds_ret (de_op do_add (de_op do_add (de_slice (dv 1) (do_none) (do_some (dv 2))) (dv 5)) (de_slice (dv 1) (do_some (de_op do_add (dv 2) (de_int))) (do_none))))) (dss_nil)) (dss_cons (ds_set Sc.nd (i := 7) rfl (by first | exact Or.inl rfl | exact Or.inr rfl) (de_splitM (dv 1) (de_str))) (dss_cons (ds_set Sc.nd (i := 8) rfl (by first | exact Or.inl rfl | exact Or.inr rfl) (de_call c__law_take hr (by decide) tk (da_cons (dv 0) (da_cons (de_b (dc_len) (m.free "len" (memi 0)) (da_cons (dv 7) (da_nil))) (da_nil))))) (dss_cons (ds_if (dt_cmp (do_eq hr.room) (dv 6) (de_int)) (dss_cons (ds_set Sc.nd (i := 9) rfl (by first | exact Or.inl rfl | exact Or.inr rfl) (de_lst (da_cons (de_str) (da_cons (de_str) (da_cons (de_str) (da_cons (de_str) (da_cons (de_str) (da_cons (de_str) (da_cons (de_str) (da_cons (de_str) (da_cons (de_str) (da_cons (de_str) (da_cons (de_str) (da_cons (de_str) (da_nil))))))))))))))) (dss_one (ds_asg (de_call c__law_pick hr (by decide) tk (da_cons (dv 0) (da_cons (de_op do_add (dv 7) (dv 9)) (da_nil)))) (dg_sub (dv 7) (dv 8) ds_list)))) (dss_one (ds_set Sc.nd (i := 7) rfl (by first | exact Or.inl rfl | exact Or.inr rfl) (de_op do_add (de_op do_add (de_slice (dv 7) (do_none) (do_some (dv 8))) (de_op do_mul (de_slice (dv 7) (do_some (dv 8)) (do_some (de_op do_add (dv 8) (de_int)))) (de_op do_mul (de_int) (de_call c__law_take hr (by decide) tk (da_cons (dv 0) (da_cons (de_int) (da_nil))))))) (de_slice (dv 7) (do_some (de_op do_add (dv 8) (de_int))) (do_none)))))) (dss_one (ds_ret (de_join (de_str) (dv 7))))))))))))))
theorem b_law_spoilt : AllB dd19 ["feed", "text"] := fun _ _ _ _ _ _ us hl => match us, hl with
  | [_, _], _ => rfl
theorem sc_law : FnScope ["script", "typed", "signs", "sign", "text", "index", "feed", "turn", "more"] ["script"] dd20.scope := ⟨rfl, rfl, rfl, by decide +kernel, rfl, by decide +kernel, by decide +kernel⟩
theorem w_law (m : Md fcs fn K mg) (c__law_is_right : Cal P w K mg base 124 "_law_is_right" sp_law_is_right []) (c__law_feed : Cal P w K mg base 1 "_law_feed" sp_law_feed []) (c__law_take : Cal P w K mg base 1 "_law_take" sp_law_take []) (c__law_bare : Cal P w K mg base 22 "_law_bare" (sp_law_bare 20) []) (c__law_text : Cal P w K mg base 120 "_law_text" (sp_law_text 120) []) (c__law_spoilt : Cal P w K mg base 3 "_law_spoilt" sp_law_spoilt []) : WalkD P w K mg base 124 dd20 ["script", "typed", "signs", "sign", "text", "index", "feed", "turn", "more"] t_law := by
  have Sc := sc_law
  intro cdv A outer s H E F0 W hr tk
  exact dss_cons (ds_set Sc.nd (i := 1) rfl (by first | exact Or.inl rfl | exact Or.inr rfl) (de_lstM (da_cons (de_str) (da_cons (de_str) (da_cons (de_str) (da_cons (de_str) (da_cons (de_str) (da_cons (de_str) (da_cons (de_str) (da_nil)))))))))) (dss_cons (ds_set Sc.nd (i := 1) rfl (by first | exact Or.inl rfl | exact Or.inr rfl) (de_op do_add (dv 1) (de_lst (da_cons (de_str) (da_cons (de_str) (da_cons (de_str) (da_nil))))))) (dss_cons (ds_set Sc.nd (i := 1) rfl (by first | exact Or.inl rfl | exact Or.inr rfl) (de_op do_add (dv 1) (de_lst (da_cons (de_str) (da_cons (de_str) (da_cons (de_str) (da_cons (de_str) (da_cons (de_str) (da_cons (de_str) (da_nil)))))))))) (dss_cons (ds_set Sc.nd (i := 1) rfl (by first | exact Or.inl rfl | exact Or.inr rfl) (de_op do_add (dv 1) (de_lst (da_cons (de_str) (da_cons (de_str) (da_cons (de_str) (da_cons (de_str) (da_cons (de_str) (da_nil))))))))) (dss_cons (ds_set Sc.nd (i := 1) rfl (by first | exact Or.inl rfl | exact Or.inr rfl) (de_op do_add (dv 1) (de_lst (da_cons (de_str) (da_cons (de_str) (da_cons (de_str) (da_cons (de_str) (da_nil)))))))) (dss_cons (ds_set Sc.nd (i := 1) rfl (by first | exact Or.inl rfl | exact Or.inr rfl) (de_op do_add (dv 1) (de_lst (da_cons (de_str) (da_cons (de_str) (da_cons (de_str) (da_cons (de_str) (da_nil)))))))) (dss_cons (ds_set Sc.nd (i := 1) rfl (by first | exact Or.inl rfl | exact Or.inr rfl) (de_op do_add (dv 1) (de_lst (da_cons (de_str) (da_cons (de_str) (da_cons (de_str) (da_cons (de_str) (da_cons (de_str) (da_nil))))))))) (dss_cons (ds_set Sc.nd (i := 1) rfl (by first | exact Or.inl rfl | exact Or.inr rfl) (de_op do_add (dv 1) (de_lst (da_cons (de_str) (da_cons (de_str) (da_cons (de_str) (da_cons (de_str) (da_nil)))))))) (dss_cons (ds_set Sc.nd (i := 1) rfl (by first | exact Or.inl rfl | exact Or.inr rfl) (de_op do_add (dv 1) (de_lst (da_cons (de_str) (da_cons (de_str) (da_nil)))))) (dss_cons (ds_set Sc.nd (i := 1) rfl (by first | exact Or.inl rfl | exact Or.inr rfl) (de_op do_add (dv 1) (de_lst (da_cons (de_str) (da_nil))))) (dss_cons (ds_set Sc.nd (i := 1) rfl (by first | exact Or.inl rfl | exact Or.inr rfl) (de_op do_addM (dv 1) (de_lst (da_cons (de_op do_add (de_op do_mulS (de_str) (de_int)) (de_str)) (da_cons (de_op do_add (de_op do_add (de_op do_mulS (de_str) (de_int)) (de_str)) (de_op do_mulS (de_str) (de_int))) (da_cons (de_op do_add (de_op do_mulS (de_str) (de_int)) (de_str)) (da_nil))))))) (dss_cons (ds_expr (de_append (dv 1) (da_cons (de_op do_add (de_op do_add (de_op do_mulS (de_str) (de_int)) (de_str)) (de_op do_mulS (de_str) (de_int))) (da_nil)))) (dss_cons (ds_set Sc.nd (i := 2) rfl (by first | exact Or.inl rfl | exact Or.inr rfl) (de_str)) (dss_cons (ds_set Sc.nd (i := 1) rfl (by first | exact Or.inl rfl | exact Or.inr rfl) (de_op do_add (dv 1) (de_lc (own := [("sign", 3)]) rfl Sc.nd (by simp) (di_str (dv 2)) (blkOk_by (N := ["script", "typed", "signs", "sign", "text", "index", "feed", "turn", "more"]) (sc := dd20.scope) (by decide +kernel)) (fun _ _ _ _ _ => dg_name Sc.nd rfl (by first | exact Or.inl rfl | exact Or.inr rfl) (fun _ => by decide)) (fun _ _ _ _ _ => difs_nil) (fun _ _ _ _ _ => de_op do_add (de_op do_add (de_str) (dv 3)) (de_str))))) (dss_cons (ds_for (passes_of rfl) rfl (di_seq (dv 1)) (dg_name Sc.nd rfl (by first | exact Or.inl rfl | exact Or.inr rfl) (fun h => absurd rfl h)) (dss_one (ds_if (dt_not (dt_val (de_call c__law_is_right hr (by decide) tk (da_cons (dv 4) (da_nil))))) (dss_one (ds_ret (de_bl))) (dss_nil)))) (dss_cons (ds_for (passes_of rfl) rfl (di_range1 (m.free "range" (memi 44)) (da_cons (de_b (dc_max rfl) (m.free "max" (memi 29)) (da_cons (de_int) (da_cons (de_b (dc_min rfl) (m.free "min" (memi 43)) (da_cons (de_int) (da_cons (de_b (dc_len) (m.free "len" (memi 0)) (da_cons (dv 0) (da_nil))) (da_nil)))) (da_nil)))) (da_nil))) (dg_name Sc.nd rfl (by first | exact Or.inl rfl | exact Or.inr rfl) (fun h => absurd rfl h)) (dss_cons (ds_set Sc.nd (i := 6) rfl (by first | exact Or.inl rfl | exact Or.inr rfl) (de_call c__law_feed hr (by decide) tk (da_cons (dv 0) (da_cons (dv 5) (da_nil))))) (dss_one (ds_for (passes_of rfl) rfl (di_range1 (m.free "range" (memi 44)) (da_cons (de_int) (da_nil))) (dg_name Sc.nd rfl (by first | exact Or.inl rfl | exact Or.inr rfl) (fun h => absurd rfl h)) (dss_cons (ds_set Sc.nd (i := 4) rfl (by first | exact Or.inl rfl | exact Or.inr rfl) (de_call c__law_text hr (by decide) tk (da_cons (de_call c__law_bare hr (by decide) tk (da_cons (dv 6) (da_cons (de_op do_add (de_int) (de_call c__law_take hr (by decide) tk (da_cons (dv 6) (da_cons (de_int) (da_nil))))) (da_nil)))) (da_nil)))) (dss_one (ds_for (passes_of rfl) rfl (di_range1 (m.free "range" (memi 44)) (da_cons (de_int) (da_nil))) (dg_name Sc.nd rfl (by first | exact Or.inl rfl | exact Or.inr rfl) (fun h => absurd rfl h)) (dss_cons (ds_if (dt_w (dw_and (dt_cmp (do_le) (de_b (dc_len) (m.free "len" (memi 0)) (da_cons (dv 4) (da_nil))) (de_int)) (dw_and1 (dt_not (dt_val (de_call c__law_is_right hr (by decide) tk (da_cons (dv 4) (da_nil)))))))) (dss_one (ds_ret (de_bl))) (dss_nil)) (dss_one (ds_set Sc.nd (i := 4) rfl (by first | exact Or.inl rfl | exact Or.inr rfl) (de_call c__law_spoilt hr (by decide) tk (da_cons (dv 6) (da_cons (dv 4) (da_nil)))))))))))))) (dss_one (ds_ret (de_bl))))))))))))))))))
theorem b_law : AllB dd20 ["script"] := fun _ _ _ _ _ _ us hl => match us, hl with
  | [_], _ => rfl
end
end K


set_option Elab.async false
set_option linter.all false
set_option maxRecDepth 100000
set_option maxHeartbeats 2000000
namespace K
open PySem PySem.Spec PyProof.Rows L2 DL
local macro_rules | `(tactic| walk_at "r") => `(tactic| fail)
local macro_rules | `(tactic| walk_at "c") => `(tactic| with_reducible refine s_iteB (by simp only [ofS_eq, String.reduceEq, wd_within, wd_retry, wd_call, wd_pause, wd_fail, wd_hole, wd_q, wd_mem, wd_nmem, lit_mem, Bool.false_eq_true, List.any_cons, List.any_nil, Bool.or_false, Bool.false_or, Bool.true_or, Bool.or_true, decide_true, decide_false, decide_not, Bool.false_bne, Bool.true_bne, Bool.not_true, Bool.not_false, Bool.not_not, Int.reduceLT, Int.reduceLE, Int.reduceEq, Int.reduceSub, Int.reduceAdd, Int.reduceNeg, Int.reduceMul, gt_iff_lt, ge_iff_le, reduceIte]; exact rfl) ?_)
local macro_rules | `(tactic| walk_at "v1") => `(tactic| first
  | refine Sp.h ?_
  | with_reducible refine v_case (by simp only [ptT, ptAll, ptOne, List.length_cons, List.length_nil, Nat.reduceAdd, Nat.reduceEqDiff, reduceIte, ofS_eq, String.reduceEq, wd_within, wd_retry, wd_call, wd_pause, wd_fail, wd_hole, List.nil_append, List.cons_append]; exact rfl) ?_
  | walk_at "r")
local macro_rules | `(tactic| walk_at "v") => `(tactic| repeat (first | walk_at "v1" | with_reducible apply s_if | walk_at "c"))
local macro_rules | `(tactic| walk_at "vz") => `(tactic| repeat (first | walk_at "v1" | walk_at "c"))
local macro_rules | `(tactic| walk_at "s") => `(tactic| refine s_re (by simp only [startR, List.map_cons, List.map_nil, List.length_cons, List.length_nil, List.replicate, List.cons_append, List.nil_append, List.getElem?_cons_zero, List.getElem?_cons_succ, List.set_cons_zero, List.set_cons_succ, Nat.reduceAdd, Nat.reduceSub]; exact rfl) ?_)

abbrev Pure (N : List Str) (sp : DSp) (t : DWX → DTS) : Prop := ∀ ds M P PE, sp ds M P PE → t (finW PE) { nx := fun _ M' => finP P .non M', rt := finP P } (startR N ds) M
theorem fin0 {P : D → Store → Prop} {d : D} {M : Store} (h : P d M) : finP P d M := ⟨M, SubM.refl M, h⟩
theorem finS {P : D → Store → Prop} {d : D} {M M' : Store} (s : SubM M' M) (h : P d M') : finP P d M := ⟨M', s, h⟩
def isT (M : Store) (n : String) (v : D) : Bool := match tyD M v with
  | some t => (isiD t (.ty n)).getD false
  | none => false
theorem isi_ty {M : Store} {v : D} {n : String} {Q : D → Store → Prop} (h : (tyD M v).isSome = true) (hn : n = "int" ∨ n = "bool" ∨ n = "str" ∨ n = "tuple" ∨ n = "list" ∨ n = "dict") : rcIsi [v, .ty n] M Q = Q (.bl (isT M n v)) M := by
  obtain ⟨t, e⟩ := Option.isSome_iff_exists.mp h
  have e2 : ∃ b, isiD t (.ty n) = some b := by
    cases t with
    | b t => exact ⟨_, if_pos hn⟩
    | own c => exact ⟨_, if_pos hn⟩
  obtain ⟨b, e2⟩ := e2
  have e3 : isT M n v = b := by
    unfold isT
    rw [e]
    show (isiD t (.ty n)).getD false = b
    rw [e2]
    rfl
  rw [e3]
  show (match tyD M v with
    | some t => match isiD t (.ty n) with
      | some b => Q (.bl b) M
      | none => False
    | none => False) = _
  rw [e]
  show (match isiD t (.ty n) with
      | some b => Q (.bl b) M
      | none => False) = _
  rw [e2]
theorem isT_ref {M : Store} {a : Addr} {n : String} (h : n = "int" ∨ n = "bool" ∨ n = "str" ∨ n = "tuple") : isT M n (.ref a) = false := by
  unfold isT tyD
  cases e : M a with
  | none => simp [e]
  | some m =>
    cases m <;> simp only [e] <;> rcases h with rfl | rfl | rfl | rfl <;> rfl
theorem isT_int (M : Store) (v : D) : isT M "int" v = match v with
    | .int _ => true
    | .bl _ => true
    | _ => false := by
  cases v with
  | ref a => exact isT_ref (by simp)
  | _ => rfl
theorem isT_bool (M : Store) (v : D) : isT M "bool" v = match v with
    | .bl _ => true
    | _ => false := by
  cases v with
  | ref a => exact isT_ref (by simp)
  | _ => rfl
theorem isT_tup (M : Store) (v : D) : isT M "tuple" v = match v with
    | .tup _ => true
    | _ => false := by
  cases v with
  | ref a => exact isT_ref (by simp)
  | _ => rfl
theorem rdIx_feed0 {M : Store} {p : Addr} {f : Feed} {Q : D → Store → Prop} (h : M p = some (feedL f)) : rdIx (.ref p) (.int 0) M Q = Q (.int f.1) M := by
  simp [rdIx, asS_ref h, ixN]
theorem rdIx_feed1 {M : Store} {p : Addr} {f : Feed} {Q : D → Store → Prop} (h : M p = some (feedL f)) : rdIx (.ref p) (.int 1) M Q = Q (.int f.2) M := by
  simp [rdIx, asS_ref h, ixN]
theorem rdSet_feed0 {M : Store} {p : Addr} {f : Feed} {i : Int} {Q : Store → Prop} (h : M p = some (feedL f)) : rdSetL (.ref p) (.int 0) (.int i) M Q = Q (updM M p (feedL (i, f.2))) := by
  simp [rdSetL, h, feedL, ixN]
theorem rdSet_feed1 {M : Store} {p : Addr} {f : Feed} {i : Int} {Q : Store → Prop} (h : M p = some (feedL f)) : rdSetL (.ref p) (.int 1) (.int i) M Q = Q (updM M p (feedL (f.1, i))) := by
  simp [rdSetL, h, feedL, ixN]
theorem divW {i j : Int} (h : 0 < j) (h2 : j < 2 ^ 64) : CDivW i j := by
  refine ⟨h, ?_⟩
  have : j.natAbs.log2 < 64 := (Nat.log2_lt (by omega)).mpr (by omega)
  omega
theorem mulR {i j : Int} (h : -(2 ^ 64) < j) (h2 : j < 2 ^ 64) : CMul i j ∨ CMulW i j := .inl (.inr ⟨h, h2⟩)
theorem ixN_nat {n : Nat} {i : Int} (h0 : 0 ≤ i) (h1 : i < n) : ixN n i = some i.toNat := by
  unfold ixN
  rw [if_pos h0, if_pos h1]
theorem cut_one (ds : List D) {k : Int} (hk : 0 ≤ k) : (DL.cutD ds (some k) (some (k + 1))).length ≤ 1 := by
  unfold DL.cutD
  rw [List.length_take]
  have e1 : HT.sIx ds.length 0 (some k) = min k.toNat ds.length := by
    show (if k < 0 then (k + (ds.length : Int)).toNat else min k.toNat ds.length) = _
    rw [if_neg (by omega)]
  have e2 : HT.sIx ds.length ds.length (some (k + 1)) = min (k + 1).toNat ds.length := by
    show (if k + 1 < 0 then (k + 1 + (ds.length : Int)).toNat else min (k + 1).toNat ds.length) = _
    rw [if_neg (by omega)]
  rw [e1, e2]
  omega
theorem cut_mem {ds : List D} {l h : Option Int} {d : D} (hd : d ∈ DL.cutD ds l h) : d ∈ ds := by
  unfold DL.cutD at hd
  exact List.mem_of_mem_drop (List.mem_of_mem_take hd)
theorem sl_fro {ds : List D} {l h : Option Int} {M : Store} {Q : D → Store → Prop} (q : Q (.lst (DL.cutD ds l h)) M) : rdSl (.fro ds) l h M Q := q
theorem head_int {l : List D} {z : Int} (h : ∀ d ∈ l, ∃ i : Int, d = .int i) : ∃ (i : Int) (r : List D), l ++ [.int z] = .int i :: r := by
  cases l with
  | nil => exact ⟨z, [], rfl⟩
  | cons a r =>
    obtain ⟨i, rfl⟩ := h a List.mem_cons_self
    exact ⟨i, _, rfl⟩
theorem s_absI {i : Int} {M : Store} {Q : D → Store → Prop} (q : Q (.int (if i < 0 then -i else i)) M) : rcAbs [.int i] M Q := q
theorem rcList_lst {ds : List D} {M : Store} {Q : D → Store → Prop} (q : Q (.lst ds) M) : rcList [.lst ds] M Q := q
theorem s_mulI {i j : Int} {M : Store} {Q : D → Store → Prop} (h1 : -(2 ^ 64) < j) (h2 : j < 2 ^ 64) (q : Q (.int (i * j)) M) : rdMul (.int i) (.int j) M Q := ⟨mulR h1 h2, q⟩
theorem s_modI {i j : Int} {M : Store} {Q : D → Store → Prop} (h : 0 < j) (q : Q (.int (i % j)) M) : rdMod (.int i) (.int j) M Q := ⟨h, q⟩
theorem s_pow {i j : Int} {M : Store} {Q : D → Store → Prop} (hc : CPow i j) (q : Q (.int (i ^ j.toNat)) M) : rdPow (.int i) (.int j) M Q := ⟨hc, q⟩
theorem v_pow {i j : Int} {M : Store} {Q : D → Store → Prop} (h1 : 0 ≤ j) (h2 : j ≤ 1000000) (h3 : i.natAbs < 2 ^ 64) (q : Q (.int (i ^ j.toNat)) M) : rdPow (.int i) (.int j) M Q := ⟨⟨h1, h2, h3⟩, q⟩
theorem two62 : (2 : Int) ^ 62 = 4611686018427387904 := by decide
section
local macro_rules | `(tactic| walk_at "r") => `(tactic| first | with_reducible apply s_absI | with_reducible apply rcList_lst | with_reducible refine s_modI (by decide) ?_ | with_reducible refine s_mulI (by decide) (by decide) ?_ | with_reducible refine v_pow (by decide) (by decide) (by decide) ?_ | with_reducible apply sl_fro)
theorem q_law_feed : Pure ["script", "k", "seed", "digits"] sp_law_feed t_law_feed := by
  rintro ds M P PE ⟨ns, k, rfl, h0, h1, h⟩
  unfold t_law_feed
  rw [two62] at h1
  walk_at "s"; walk_at "v"
  have hl := cut_one (ns.map D.int) h0
  have hm : ∀ d ∈ DL.cutD (ns.map D.int) (some k) (some (k + 1)), ∃ i : Int, d = .int i := fun d hd => by
    obtain ⟨i, _, e⟩ := List.mem_map.mp (cut_mem hd)
    exact ⟨i, e.symm⟩
  generalize DL.cutD (ns.map D.int) (some k) (some (k + 1)) = l at hl hm ⊢
  refine s_mulI (by omega) (by omega) ?_
  walk_at "v"
  refine s_addL (by simp only [List.length_cons, List.length_nil, sizeLine_eq]; omega) ?_
  walk_at "v"
  obtain ⟨i, r, hi⟩ := head_int (z := 71 * k + 23) hm
  rw [hi]
  walk_at "v"
  refine s_mulI (by omega) (by omega) ?_
  walk_at "v"
  exact fun p hp => fin0 (h p (_, _) hp)
end
theorem q_law_take : Pure ["feed", "size", "digit"] sp_law_take t_law_take := by
  rintro ds M P PE ⟨p, f, n, rfl, hp, h0, h1, h⟩
  simp only [t_law_take, dSeq, dIf, dOr, dAnd, dNot, dB, dB1, daCons, daNil, dVar, dC, dRet, dRetN, dNext, dOp, dOrV, dAndV, dNotV, dIfE, dAsg, dgName, dTup, dLst, dLstM, dFrz, dDrop, dMt, dNeg, dCall, dgSub, dPar, dFld, dSetFld, dMakeM, dTr, dChain, dAug, dItem, dFor, dRange1, dRange2, dgTup, dgCons, dgNil, dRev, dMeth, dYes, startR, List.map_cons, List.map_nil, List.length_cons, List.length_nil, List.replicate, List.cons_append, List.nil_append, List.getElem?_cons_zero, List.getElem?_cons_succ, List.set_cons_zero, List.set_cons_succ, sizeLine_eq, Nat.reduceAdd, Nat.reduceLeDiff, Nat.reduceLT, Nat.zero_le, true_and]
  by_cases hd : 0 < f.1
  · simp only [rdIx_feed0 hp, rdCmp, rdI, hd, decide_true, if_true, true_and, h0, rdMod, rdDiv, rdSet_feed0 hp]
    refine ⟨divW h0 h1, fin0 (h _ _ (Int.emod_nonneg _ (by omega)) (Int.emod_lt_of_pos _ h0))⟩
  · simp only [rdIx_feed0 hp, rdIx_feed1 hp, rdCmp, rdI, hd, decide_false, Bool.false_eq_true, if_false, true_and, h0, rdMod, rdDiv, rdMul, rdAdd, rdSet_feed1 hp]
    refine ⟨mulR (by decide) (by decide), by decide, ?_⟩
    have hp2 : updM M p (feedL (f.1, (f.2 * 69069 + 12345) % 4294967311)) p = some (feedL (f.1, (f.2 * 69069 + 12345) % 4294967311)) := updM_same
    rw [rdIx_feed1 hp2]
    exact ⟨divW (by decide) (by decide), fin0 (h _ _ (Int.emod_nonneg _ (by omega)) (Int.emod_lt_of_pos _ h0))⟩
theorem q_law_pick : Pure ["feed", "choices"] sp_law_pick t_law_pick := by
  rintro ds M P PE ⟨p, f, xs, rfl, hp, h0, h1, h⟩
  simp only [t_law_pick, dSeq, dIf, dOr, dAnd, dNot, dB, dB1, daCons, daNil, dVar, dC, dRet, dRetN, dNext, dOp, dOrV, dAndV, dNotV, dIfE, dAsg, dgName, dTup, dLst, dLstM, dFrz, dDrop, dMt, dNeg, dCall, dgSub, dPar, dFld, dSetFld, dMakeM, dTr, dChain, dAug, dItem, dFor, dRange1, dRange2, dgTup, dgCons, dgNil, dRev, dMeth, dYes, startR, List.map_cons, List.map_nil, List.length_cons, List.length_nil, List.replicate, List.cons_append, List.nil_append, List.getElem?_cons_zero, List.getElem?_cons_succ, List.set_cons_zero, List.set_cons_succ, sizeLine_eq, Nat.reduceAdd, Nat.reduceLeDiff, Nat.reduceLT, Nat.zero_le, true_and, rcLen, asS, asR, asL]
  have hl : 0 < xs.length := List.length_pos_iff.mpr h0
  refine ⟨p, f, xs.length, rfl, hp, by omega, by omega, fun r f' hr hr2 => ?_⟩
  simp only [rdIx, asS, asR, asL, ixN_nat hr hr2, Option.bind_some]
  have : r.toNat < xs.length := by omega
  rw [List.getElem?_eq_getElem this]
  exact fin0 (h _ _ (List.getElem_mem this))
theorem r_take {M : Store} {p : Addr} {f : Feed} {n : Int} {P : D → Store → Prop} {E : DX} (hp : M p = some (feedL f)) (h0 : 0 < n) (h1 : n < 1000000000) (k : ∀ r f', 0 ≤ r → r < n → P (.int r) (updM M p (feedL f'))) : sp_law_take ([.ref p, .int n] ++ []) M P E :=
  ⟨p, f, n, rfl, hp, h0, by omega, k⟩
theorem r_pick {M : Store} {p : Addr} {f : Feed} {x : D} {xs : List D} {P : D → Store → Prop} {E : DX} (hp : M p = some (feedL f)) (h1 : (x :: xs).length < 1000000000) (k : ∀ y f', y ∈ x :: xs → P y (updM M p (feedL f'))) : sp_law_pick ([.ref p, .lst (x :: xs)] ++ []) M P E :=
  ⟨p, f, x :: xs, rfl, hp, by simp, by omega, k⟩
theorem toBs_bl {α : Type} (f : α → Bool) : ∀ l : List α, toBs (l.map fun x => D.bl (f x)) = some (l.map f)
  | [] => rfl
  | x :: l => by rw [List.map_cons, List.map_cons, toBs, toBs_bl f l]; rfl
theorem v_len {z : Str} {M : Store} {Q : D → Store → Prop} (h : z.length ≤ 1000000) (q : Q (.int (z.length : Int)) M) : rcLen [.str z] M Q := ⟨by rw [sizeLine_eq]; omega, q⟩
theorem v_lenL {ds : List D} {M : Store} {Q : D → Store → Prop} (q : Q (.int (ds.length : Int)) M) : rcLen [.lst ds] M Q := q
theorem v_lenT {ds : List D} {M : Store} {Q : D → Store → Prop} (q : Q (.int (ds.length : Int)) M) : rcLen [.tup ds] M Q := q
theorem v_all {l : List Bool} {ds : List D} {M : Store} {Q : D → Store → Prop} (h : toBs ds = some l) (q : Q (.bl (l.all id)) M) : rcAll [.lst ds] M Q := by
  unfold rcAll
  simp only [asR, asL, h]
  exact q
theorem v_inSign {neg : Bool} {c : Nat} {b : Str} {M : Store} {Q : D → Store → Prop} (q : Q (.bl (neg != decide (c ∈ tl b))) M) : rdIn neg (.str ⟨#[c]⟩) (.str b) M Q := ⟨c, rfl, q⟩
theorem all_signs {w b : Str} {ρ : Ro} {p : Addr} {M : Store} {i : Nat} {Q : List D → Store → Prop} (hi : ρ.length = i + 1) (hp : M p = none) (hl : w.length ≤ 1000000) (q : Q ((tl w).map fun c => .bl (decide (c ∈ tl b))) M) :
    dLcLoop (fun _ => True) (dgName i) dYes (dOp (rdIn false) (dVar i) (dC (.str b))) p ρ (signsD w) [] M Q := by
  refine dLc_mapA (f := fun d => match d with
    | .str x => .bl (decide ((tl x).headD 0 ∈ tl b))
    | _ => .non) hp (fun _ => trivial) _ _ (fun d hd acc Kt k1 => ?_) (by unfold signsD; rw [List.length_map, sizeLine_eq, List.length_nil]; have : w.length = w.cps.toList.length := TL.len_tl w; omega) ?_
  · obtain ⟨c, hc, rfl⟩ := List.mem_map.mp hd
    refine s_name ?_
    refine s_op ?_
    refine s_var (d := .str ⟨#[c]⟩) (by rw [List.getElem?_set_self (by omega)]) ?_
    refine s_c ?_
    refine v_inSign ?_
    rw [Bool.false_bne]
    exact k1
  · unfold signsD
    rw [List.nil_append, List.map_map]
    exact q
theorem lets_b : tl "abcdefghijklmnopqrstuvwxyz" = List.range' 97 26 := by decide +kernel
theorem digs_b : tl "0123456789" = List.range' 48 10 := by decide +kernel
theorem isLet_all (w : Str) : ((tl w).map fun c => decide (c ∈ tl ("abcdefghijklmnopqrstuvwxyz" : Str))).all id = isLet w := by
  rw [lets_b]
  unfold isLet
  rw [List.all_map]
  congr 1
  funext c
  simp only [Function.comp, id, List.mem_range'_1]
  rw [Bool.eq_iff_iff]
  simp
  omega
theorem isDig_all (w : Str) : ((tl w).map fun c => decide (c ∈ tl ("0123456789" : Str))).all id = isDig w := by
  rw [digs_b]
  unfold isDig
  rw [List.all_map]
  congr 1
  funext c
  simp only [Function.comp, id, List.mem_range'_1]
  rw [Bool.eq_iff_iff]
  simp
  omega
section
local macro_rules | `(tactic| walk_at "r") => `(tactic| first | with_reducible refine v_len (by assumption) ?_ | with_reducible apply v_lenL | with_reducible apply v_lenT)
theorem q_is_name : Pure ["word", "letter"] sp_is_name t_is_name := by
  rintro ds M P PE ⟨w, rfl, hw, h⟩
  unfold t_is_name
  walk_at "s"; walk_at "v"
  have e : isName w = (decide (1 ≤ w.length) && (decide (w.length ≤ 8) && isLet w)) := rfl
  rw [e] at h
  refine s_ite (fun h1 => ?_) fun h1 => ?_
  · have h1' : 1 ≤ w.length := by have := of_decide_eq_true h1; omega
    walk_at "v"
    refine s_ite (fun h2 => ?_) fun h2 => ?_
    · have h2' : w.length ≤ 8 := by have := of_decide_eq_true h2; omega
      walk_at "v"
      intro p hp
      refine all_signs rfl hp hw ?_
      refine v_all (toBs_bl _ _) ?_
      rw [isLet_all]
      rw [decide_eq_true h1', decide_eq_true h2'] at h
      exact fin0 h
    · have h2' : ¬ w.length ≤ 8 := by have := of_decide_eq_false h2; omega
      rw [decide_eq_false h2', Bool.false_and, Bool.and_false] at h
      rw [h2]
      walk_at "v"
      exact fin0 h
  · have h1' : ¬ 1 ≤ w.length := by have := of_decide_eq_false h1; omega
    rw [decide_eq_false h1', Bool.false_and] at h
    walk_at "v"
    exact fin0 h
theorem v_int {w : Str} {v : Int} {M : Store} {Q : D → Store → Prop} (h : PySem.intText? w = some v) (hl : w.length ≤ 640) (q : Q (.int v) M) : rcInt [.str w] M Q := by
  simp only [rcInt, h]
  exact ⟨hl, q⟩
theorem v_ixS0 {w : Str} {c : Nat} {M : Store} {Q : D → Store → Prop} (h : (tl w).head? = some c) (hl : w.length ≤ 1000000) (q : Q (.str ⟨#[c]⟩) M) : rdIx (.str w) (.int 0) M Q := by
  have e : atI w.cps.toList 0 = some c := by
    have hne : 0 < w.cps.toList.length := by
      cases hw : w.cps.toList with
      | nil => rw [show tl w = [] from hw] at h; cases h
      | cons x r => simp
    unfold atI
    rw [ixN_of (Int.le_refl 0) (by omega)]
    show w.cps.toList[0]? = some c
    rw [← List.head?_eq_getElem?]
    exact h
  simp only [rdIx, e]
  exact ⟨by rw [sizeLine_eq]; omega, q⟩
theorem sign0 {c : Nat} : ((⟨#[c]⟩ : Str) = "0") = (c = 48) := by
  apply propext
  constructor
  · intro h
    have e := congrArg TL.tl h
    have e0 : TL.tl ("0" : Str) = [48] := by decide +kernel
    rw [e0] at e
    have e1 : TL.tl (⟨#[c]⟩ : Str) = [c] := rfl
    rw [e1] at e
    exact (List.cons.inj e).1
  · intro h
    subst h
    decide +kernel
theorem q_read_number : Pure ["word", "least", "most", "digit"] sp_read_number t_read_number := by
  rintro ds M P PE ⟨w, l, m, rfl, hw, hok, hno⟩
  unfold t_read_number
  walk_at "s"; walk_at "v"
  unfold numW at hok hno
  have bad : ∀ {ρ : Ro}, PE "InvalidText" [] M → finW PE "InvalidText" [] ρ M := fun h => ⟨M, SubM.refl M, h⟩
  refine s_ite (fun h1 => ?_) fun h1 => ?_
  · have h1' : w = "" := of_decide_eq_true h1
    walk_at "v"
    exact bad (hno (if_pos (.inl h1')))
  · have h1' : ¬ w = "" := of_decide_eq_false h1
    walk_at "v"
    refine s_ite (fun h2 => ?_) fun h2 => ?_
    · have h2' : w.length > 10 := by have := of_decide_eq_true h2; omega
      walk_at "v"
      exact bad (hno (if_pos (.inr (.inl h2'))))
    · have h2' : ¬ w.length > 10 := by have := of_decide_eq_false h2; omega
      walk_at "v"
      intro p hp
      refine all_signs rfl hp hw ?_
      walk_at "v"
      refine v_all (toBs_bl _ _) ?_
      rw [isDig_all]
      walk_at "v"
      refine s_ite (fun h3 => ?_) fun h3 => ?_
      · have h3' : isDig w = false := by simpa using h3
        walk_at "v"
        exact bad (hno (if_pos (.inr (.inr h3'))))
      · have h3' : isDig w = true := by simpa using h3
        have c1 : ¬ (w = "" ∨ w.length > 10 ∨ isDig w = false) := by
          rintro (e | e | e)
          · exact h1' e
          · exact h2' e
          · rw [h3'] at e; cases e
        rw [if_neg c1] at hok hno
        have hi := int_dig h3' h1' (by omega)
        obtain ⟨c, hc⟩ : ∃ c, (tl w).head? = some c := by
          cases e : tl w with
          | nil => exact absurd e (ne_tl h1')
          | cons c r => exact ⟨c, rfl⟩
        rw [hc] at hok hno
        have hl640 : w.length ≤ 640 := by omega
        have second : ¬ (some c = some 48 ∧ w ≠ "0") → ∀ (Qb : Bool → Store → Prop), ((l ≤ valOf w ∧ valOf w ≤ m) → Qb false M) → (¬ (l ≤ valOf w ∧ valOf w ≤ m) → Qb true M) →
            dNot (dB (dChain (rdCmp fun i j => decide (i ≤ j)) (rdCmp fun i j => decide (i ≤ j)) (dVar 1) (dB1 rcInt (daCons (dVar 0) (daNil))) (dVar 2))) [some (.str w), some (.int (l : Int)), some (.int (m : Int)), none] M Qb := fun _ Qb k1 k2 => by
          walk_at "v"
          refine v_int hi hl640 ?_
          walk_at "v"
          refine s_ite (fun h5 => ?_) fun h5 => ?_
          · have h5' : l ≤ valOf w := by have := of_decide_eq_true h5; omega
            walk_at "v"
            by_cases h6 : valOf w ≤ m
            · have e : decide ((valOf w : Int) ≤ (m : Int)) = true := decide_eq_true (by omega)
              rw [e]
              exact k1 ⟨h5', h6⟩
            · have e : decide ((valOf w : Int) ≤ (m : Int)) = false := decide_eq_false (by omega)
              rw [e]
              exact k2 fun z => h6 z.2
          · have h5' : ¬ l ≤ valOf w := by have := of_decide_eq_false h5; omega
            walk_at "v"
            exact k2 fun z => h5' z.1
        have last : ¬ (some c = some 48 ∧ w ≠ "0") → ∀ (b : Bool) (t : DTS) (E : DEnds), E.nx = (fun ρ M => dRet (dB1 rcInt (daCons (dVar 0) (daNil))) { nx := fun x M' => finP P .non M', rt := finP P } ρ M) → True := fun _ _ _ _ _ => trivial
        have c2w : (some c = some 48 ∧ w ≠ "0") → PE "InvalidText" [] M := fun h => hno (if_pos h)
        walk_at "v"
        refine v_ixS0 hc hw ?_
        walk_at "v"
        have rest : ¬ (some c = some 48 ∧ w ≠ "0") → dNot (dB (dChain (rdCmp fun i j => decide (i ≤ j)) (rdCmp fun i j => decide (i ≤ j)) (dVar 1) (dB1 rcInt (daCons (dVar 0) (daNil))) (dVar 2))) [some (.str w), some (.int (l : Int)), some (.int (m : Int)), none] M fun b M1 =>
            if b = true then dRaise0 (finW PE) "InvalidText" { nx := dRet (dB1 rcInt (daCons (dVar 0) daNil)) { nx := fun x M' => finP P .non M', rt := finP P }, rt := finP P } [some (.str w), some (.int (l : Int)), some (.int (m : Int)), none] M1
            else dNext { nx := dRet (dB1 rcInt (daCons (dVar 0) daNil)) { nx := fun x M' => finP P .non M', rt := finP P }, rt := finP P } [some (.str w), some (.int (l : Int)), some (.int (m : Int)), none] M1 := fun hn => by
          rw [if_neg hn] at hok hno
          refine second hn _ (fun h7 => ?_) fun h7 => ?_
          · refine s_iteF rfl ?_
            walk_at "v"
            refine v_int hi hl640 ?_
            exact fin0 (hok _ (if_pos h7))
          · refine s_iteT rfl ?_
            walk_at "v"
            exact bad (hno (if_neg h7))
        refine s_ite (fun h4 => ?_) fun h4 => ?_
        · have h4' : c = 48 := by have := of_decide_eq_true h4; rwa [sign0] at this
          walk_at "v"
          refine s_ite (fun h5 => ?_) fun h5 => ?_
          · have h5' : w ≠ "0" := by simpa using h5
            walk_at "v"
            exact bad (c2w ⟨by rw [h4'], h5'⟩)
          · have h5' : w = "0" := by simpa using h5
            exact rest fun z => z.2 h5'
        · have h4' : ¬ c = 48 := by have := of_decide_eq_false h4; rwa [sign0] at this
          walk_at "v"
          exact rest fun z => h4' (Option.some.inj z.1)
theorem tl_inj {x y : Str} (h : tl x = tl y) : x = y := TL.ext_tl h
theorem dput_same {f : Str} {d e : D} {r : List (Str × D)} : dput f d ((f, e) :: r) = (f, d) :: r := by simp [dput]
theorem spc_len : ∀ l : List Nat, (spc l).length ≤ 2 * l.length
  | [] => by simp [spc]
  | c :: l => by
    have ih := spc_len l
    unfold spc at ih ⊢
    rw [List.flatMap_cons, List.length_append, List.length_cons]
    have : (if c = 40 then [40, 32] else if c = 41 then [32, 41] else [c]).length ≤ 2 := by
      split
      · simp
      · split <;> simp
    omega
theorem repl_len (x : Str) : (Txt.replace x "(" "( ").length ≤ 2 * x.length := by
  rw [TL.len_tl, TL.len_tl]
  show (tl (Txt.replace x "(" "( ")).length ≤ _
  unfold tl
  rw [PySem.StrLaws.replace_list (by decide +kernel)]
  have e1 : ("(" : Str).cps.toList = [40] := by decide +kernel
  have e2 : ("( " : Str).cps.toList = [40, 32] := by decide +kernel
  rw [e1, e2, repl_one]
  show _ ≤ 2 * x.cps.toList.length
  generalize x.cps.toList = l
  induction l with
  | nil => simp
  | cons c l ih =>
    rw [List.flatMap_cons, List.length_append, List.length_cons]
    have : (if c = 40 then [40, 32] else [c]).length ≤ 2 := by split <;> simp
    omega
def mRepl (y z : Str) (v : D) (M : Store) (Q : D → Store → Prop) : Prop := match v with
  | .str x => x.length + (x.length + 1) * z.length ≤ 16777216 ∧ Q (.str (Txt.replace x y z)) M
  | _ => False
theorem v_repl {y z : Str} {te : DTE} {ρ : Ro} {M : Store} {Q : D → Store → Prop} (h : te ρ M fun v M1 => mRepl y z v M1 Q) : dReplC y z te ρ M Q := h
theorem v_replS {y z x : Str} {M : Store} {Q : D → Store → Prop} (h : x.length + (x.length + 1) * z.length ≤ 16777216) (q : Q (.str (Txt.replace x y z)) M) : mRepl y z (.str x) M Q := ⟨h, q⟩
theorem v_split {to te : DTE} {ρ : Ro} {M : Store} {Q : D → Store → Prop} (h : to ρ M fun x M1 => (∃ a, x = .str a) ∧ te ρ M1 fun y M2 => rmSplit x y M2 Q) : dSplit to te ρ M Q := h
theorem v_isStr {a : Str} {A : Prop} (h : A) : (∃ b, D.str a = .str b) ∧ A := ⟨⟨a, rfl⟩, h⟩
theorem v_splitS {a b : Str} {M : Store} {Q : D → Store → Prop} (h1 : (b.length == 0) = false) (h2 : a.length + 2 ≤ sizeLine) (q : Q (.lst ((Txt.split a b).map .str)) M) : rmSplit (.str a) (.str b) M Q := ⟨h1, h2, q⟩
theorem q_Reader_init : Pure ["self", "text"] sp_Reader_init t_Reader_init := by
  rintro ds M P PE ⟨p, x, rfl, hp, hx, h⟩
  unfold t_Reader_init
  walk_at "s"; walk_at "v"
  refine v_split ?_
  refine v_repl ?_
  refine v_repl ?_
  walk_at "v"
  have e2 : ("( " : Str).length = 2 := by decide +kernel
  have e3 : (" )" : Str).length = 2 := by decide +kernel
  have l1 := repl_len x
  have l2 : (spaced x).length ≤ 2 * x.length := by
    rw [TL.len_tl, TL.len_tl]
    show (tl (spaced x)).length ≤ _
    rw [tl_spaced]
    exact spc_len _
  refine v_replS (by rw [e2]; omega) ?_
  refine v_replS (by rw [e3]; omega) ?_
  refine v_isStr ?_
  walk_at "v"
  refine v_splitS (by decide +kernel) (by show (spaced x).length + 2 ≤ _; rw [sizeLine_eq]; omega) ?_
  walk_at "v"
  refine v_set hp (by simp) rfl ?_
  walk_at "v"
  refine v_set updM_same (by simp [dput]) rfl ?_
  rw [updM_updM]
  have e : dput ("place" : Str) (.int 0) (dput ("words" : Str) (.lst ((wordsIn x).map .str)) []) = [(("words" : Str), D.lst ((wordsIn x).map .str)), (("place" : Str), D.int 0)] := by
    simp only [dput, ofS_eq, String.reduceEq, if_false]
  show finP P .non (updM M p (.ins "Reader" (dput ("place" : Str) (.int 0) (dput ("words" : Str) (.lst ((wordsIn x).map .str)) []))))
  rw [e]
  exact fin0 h
section
variable {M : Store} {p : Addr} {ws : List Str} {i : Nat} {Q : D → Store → Prop}
theorem rd_aug {E : DEnds} {ρ : Ro} {k : Nat} (h : ρ[k]? = some (some (.ref p))) [ip : At M p (rdO ws i)] (q : E.nx ρ (updM M p (rdO ws (i + 1)))) : dAugFld "Reader" "place" rdIAdd (dVar k) (dC (.int 1)) E ρ M := by
  have e : List.lookup ("place" : Str) [(("words" : Str), D.lst (ws.map .str)), (("place" : Str), D.int (i : Int))] = some (.int (i : Int)) := by simp only [List.lookup, ofS_beq, String.reduceBEq]
  have e2 : dput ("place" : Str) (.int ((i : Int) + 1)) [(("words" : Str), D.lst (ws.map .str)), (("place" : Str), D.int (i : Int))] = [(("words" : Str), D.lst (ws.map .str)), (("place" : Str), D.int ((i + 1 : Nat) : Int))] := by
    simp only [dput, ofS_eq, String.reduceEq, if_false, if_true]
    rfl
  have hp := ip.h
  simp only [dAugFld, dVar, h, hp, rdO, e, dC, rdIAdd]
  refine ⟨trivial, trivial, by simp, ?_⟩
  rw [e2]
  exact q
end
section
local macro_rules | `(tactic| walk_at "r") => `(tactic| first | refine rd_aug rfl ?_)
theorem q_Reader_take : Pure ["self"] sp_Reader_take t_Reader_take := by
  rintro ds M P PE ⟨p, ws, i, rfl, hp, hi, hok, hno⟩
  have ip : At M p _ := ⟨hp⟩
  unfold t_Reader_take
  walk_at "s"; walk_at "v"
  refine s_ite (fun h1 => ?_) fun h1 => ?_
  · have h1' : i = ws.length := by have := of_decide_eq_true h1; rw [List.length_map] at this; omega
    walk_at "v"
    exact ⟨delM M p, SubM.dl, hno h1'⟩
  · have h1' : i < ws.length := by have := of_decide_eq_false h1; rw [List.length_map] at this; omega
    walk_at "v"
    have e : ((i + 1 : Nat) : Int) - 1 = (i : Int) := by omega
    rw [e]
    obtain ⟨w, hw⟩ : ∃ w, ws[i]? = some w := ⟨ws[i], List.getElem?_eq_getElem h1'⟩
    have e2 : (ws.map D.str)[i]? = some (.str w) := by rw [List.getElem?_map, hw]; rfl
    have e3 : ixN (ws.map D.str).length (i : Int) = some i := by
      have := ixN_of (n := (ws.map D.str).length) (i := (i : Int)) (by omega) (by rw [List.length_map]; omega)
      simpa using this
    simp only [rdIx, asS, asR, asL, e3, Option.bind_some, e2]
    exact fin0 (hok w hw)
end
section
variable {M : Store} {p : Addr} {ws : List Str} {i : Nat} {Q : D → Store → Prop} {E : DX} {m : MO} {PE : DX} {ρ : Ro}
theorem drop_c {w : Str} {r : List Str} (h : ws.drop i = w :: r) : ws[i]? = some w ∧ i + 1 ≤ ws.length ∧ ws.drop (i + 1) = r := by
  have hl : i < ws.length := by
    have := congrArg List.length h
    rw [List.length_drop, List.length_cons] at this
    omega
  rw [List.drop_eq_getElem_cons hl] at h
  injection h with h1 h2
  exact ⟨by rw [List.getElem?_eq_getElem hl, h1], hl, h2⟩
theorem drop_n (h : ws.drop i = []) (hi : i ≤ ws.length) : i = ws.length := by
  have := congrArg List.length h
  rw [List.length_drop, List.length_nil] at this
  omega
theorem delM_U : delM (updM M p m) p = delM M p := by
  funext b
  unfold delM updM
  split
  · rfl
  · rfl
theorem subU : SubM (delM M p) (updM M p m) := fun a n e => by
  unfold delM at e
  unfold updM
  split at e
  · cases e
  · rename_i h
    rw [if_neg h]
    exact e
theorem badU (h : PE "InvalidText" [] (delM M p)) : finW PE "InvalidText" [] ρ (updM M p m) := ⟨delM M p, subU, h⟩
theorem badD (h : PE "InvalidText" [] (delM M p)) : finW PE "InvalidText" [] ρ (delM (updM M p m) p) := ⟨delM M p, by rw [delM_U]; exact SubM.refl _, h⟩
theorem bad0 (h : PE "InvalidText" [] (delM M p)) : finW PE "InvalidText" [] ρ (delM M p) := ⟨delM M p, SubM.refl _, h⟩
theorem bad1 (h : PE "InvalidText" [] (delM M p)) : finW PE "InvalidText" [] ρ M := ⟨delM M p, SubM.dl, h⟩
/-- the next word is known -/
theorem r_tkY {w : Str} {r : List Str} [ip : At M p (rdO ws i)] (h : ws.drop i = w :: r) (k : Q (.str w) (updM M p (rdO ws (i + 1)))) : sp_Reader_take (.ref p :: ([] ++ [])) M Q E := by
  obtain ⟨h1, h2, h3⟩ := drop_c h
  refine ⟨p, ws, i, rfl, ip.h, by omega, fun z hz => ?_, fun e => by omega⟩
  rw [h1] at hz
  cases hz
  exact k
theorem r_tkN [ip : At M p (rdO ws i)] (h : ws.drop i = []) (hi : i ≤ ws.length) (k : E "InvalidText" [] (delM M p)) : sp_Reader_take (.ref p :: ([] ++ [])) M Q E := by
  have e := drop_n h hi
  refine ⟨p, ws, i, rfl, ip.h, hi, fun z hz => ?_, fun _ => k⟩
  rw [e, List.getElem?_eq_none_iff.mpr (Nat.le_refl _)] at hz
  cases hz
end
theorem kw_inv (w : Str) : (w = "(" ∧ kw w = .open_) ∨ (w = "call" ∧ kw w = .call) ∨ (w = "pause" ∧ kw w = .pause) ∨ (w = "fail" ∧ kw w = .fail) ∨ (w = "hole" ∧ kw w = .hole) ∨ (w = "within" ∧ kw w = .within) ∨ (w = "retry" ∧ kw w = .retry) ∨
    ((w ≠ "(" ∧ w ≠ "call" ∧ w ≠ "pause" ∧ w ≠ "fail" ∧ w ≠ "hole" ∧ w ≠ "within" ∧ w ≠ "retry") ∧ kw w = .other) := by
  unfold kw
  split
  · exact .inl ⟨by assumption, rfl⟩
  split
  · exact .inr (.inl ⟨by assumption, rfl⟩)
  split
  · exact .inr (.inr (.inl ⟨by assumption, rfl⟩))
  split
  · exact .inr (.inr (.inr (.inl ⟨by assumption, rfl⟩)))
  split
  · exact .inr (.inr (.inr (.inr (.inl ⟨by assumption, rfl⟩))))
  split
  · exact .inr (.inr (.inr (.inr (.inr (.inl ⟨by assumption, rfl⟩)))))
  split
  · exact .inr (.inr (.inr (.inr (.inr (.inr (.inl ⟨by assumption, rfl⟩))))))
  · refine .inr (.inr (.inr (.inr (.inr (.inr (.inr ⟨⟨?_, ?_, ?_, ?_, ?_, ?_, ?_⟩, rfl⟩)))))) <;> assumption
theorem v_csI {w s : Str} {t : DTS} {r : List (PtT × DTS)} {d : D} {E : DEnds} {ρ : Ro} {M : Store} (h : w ≠ s) (k : dCases r d E ρ M) : mCs (some (if w = s then some [] else none)) t r d E ρ M := by
  rw [if_neg h]
  exact k
theorem r_name {w : Str} {M : Store} {Q : D → Store → Prop} {E : DX} (hw : w.length ≤ 1000000) (k : Q (.bl (isName w)) M) : sp_is_name ([.str w] ++ []) M Q E := ⟨w, rfl, hw, k⟩
theorem r_numY {w : Str} {l m v : Nat} {M : Store} {Q : D → Store → Prop} {E : DX} (hw : w.length ≤ 1000000) (h : numW w l m = some v) (k : Q (.int (v : Int)) M) : sp_read_number ([.str w, .int (l : Int), .int (m : Int)] ++ []) M Q E := ⟨w, l, m, rfl, hw, fun z hz => by rw [h] at hz; cases hz; exact k, fun e => by rw [h] at e; cases e⟩
theorem r_numN {w : Str} {l m : Nat} {M : Store} {Q : D → Store → Prop} {E : DX} (hw : w.length ≤ 1000000) (h : numW w l m = none) (k : E "InvalidText" [] M) : sp_read_number ([.str w, .int (l : Int), .int (m : Int)] ++ []) M Q E := ⟨w, l, m, rfl, hw, fun z hz => (by rw [h] at hz; cases hz), fun _ => k⟩
theorem endP_bad {M : Store} {p : Addr} {ws : List Str} {P : D → Store → Prop} {E : DX} {r : PR} (h : endP M p ws P E r) (e : r = .bad) : E "InvalidText" [] (delM M p) := h.2.1 e
theorem endP_ok {M : Store} {p : Addr} {ws : List Str} {P : D → Store → Prop} {E : DX} {r : PR} {t : Tr} {s : List Str} {j : Nat} (h : endP M p ws P E r) (e : r = .ok t s) (hj : j ≤ ws.length) (hs : ws.drop j = s) : P (nodeD t) (updM M p (rdO ws j)) := h.2.2 t s e j hj hs
/-- a form that is read on the way -/
theorem r_form {n : Nat} {M0 : Store} {p : Addr} {ws : List Str} {i : Nat} {Q : D → Store → Prop} {E : DX} {m : MO} (hw : ∀ w ∈ ws, okW w) (hi : i ≤ ws.length) (no : pForm n (ws.drop i) ≠ .out) (kb : pForm n (ws.drop i) = .bad → E "InvalidText" [] (delM M0 p))
    (ko : ∀ t s j, pForm n (ws.drop i) = .ok t s → j ≤ ws.length → ws.drop j = s → Q (nodeD t) (updM M0 p (rdO ws j))) : sp_Reader_form n (.ref p :: ([] ++ [])) (updM M0 p (rdO ws i)) Q E := by
  refine ⟨p, ws, i, rfl, updM_same, hi, hw, no, fun e => ?_, fun t s e j hj hs => ?_⟩
  · rw [delM_U]
    exact kb e
  · rw [updM_updM]
    exact ko t s j e hj hs
theorem r_pair {n : Nat} {M0 : Store} {p : Addr} {ws : List Str} {i : Nat} {Q : D → Store → Prop} {E : DX} {m : MO} (hw : ∀ w ∈ ws, okW w) (hi : i ≤ ws.length) (no : pPair n (ws.drop i) ≠ .out) (kb : pPair n (ws.drop i) = .bad → E "InvalidText" [] (delM M0 p))
    (ko : ∀ t s j, pPair n (ws.drop i) = .ok t s → j ≤ ws.length → ws.drop j = s → Q (nodeD t) (updM M0 p (rdO ws j))) : sp_Reader_pair n (.ref p :: ([] ++ [])) (updM M0 p (rdO ws i)) Q E := by
  refine ⟨p, ws, i, rfl, updM_same, hi, hw, no, fun e => ?_, fun t s e j hj hs => ?_⟩
  · rw [delM_U]
    exact kb e
  · rw [updM_updM]
    exact ko t s j e hj hs
theorem q_Reader_form (n : Nat) : Pure ["self", "name", "word", "number", "tries"] (sp_Reader_form (n + 1)) (t_Reader_form n) := by
  rintro ds M P PE ⟨p, ws, i, rfl, hp, hi, hw, he⟩
  have ip : At M p _ := ⟨hp⟩
  unfold t_Reader_form
  walk_at "s"; walk_at "v"
  have wlen : ∀ {j : Nat} {w : Str} {r : List Str}, ws.drop j = w :: r → w.length ≤ 1000000 := fun {j w r} h => (hw w (by
    have : w ∈ ws.drop j := by rw [h]; exact List.mem_cons_self
    exact List.mem_of_mem_drop this)).len
  cases hr : ws.drop i with
  | nil =>
    rw [hr] at he
    refine r_tkN hr hi (bad0 (endP_bad he (by simp only [pForm])))
  | cons w r =>
    rw [hr] at he
    obtain ⟨_, hi1, hr1⟩ := drop_c hr
    refine r_tkY hr ?_
    rcases kw_inv w with ⟨rfl, hk⟩ | ⟨rfl, hk⟩ | ⟨rfl, hk⟩ | ⟨rfl, hk⟩ | ⟨rfl, hk⟩ | ⟨rfl, hk⟩ | ⟨rfl, hk⟩ | ⟨⟨n1, n2, n3, n4, n5, n6, n7⟩, hk⟩ <;> simp only [pForm, hk] at he
    · walk_at "v"
      rw [← hr1] at he
      refine r_pair (m := rdO ws i) hw hi1 he.1 (fun e => bad0 (endP_bad he e)) fun t s j e hj hs => ?_
      exact fin0 (endP_ok he e hj hs)
    · walk_at "v"
      cases r with
      | nil =>
        refine r_tkN hr1 hi1 (badD (endP_bad he rfl))
      | cons a r =>
        obtain ⟨_, hi2, hr2⟩ := drop_c hr1
        refine r_tkY hr1 ?_
        walk_at "v"
        refine r_name (wlen hr1) ?_
        rw [updM_updM]
        simp only at he
        cases hn : isName a with
        | true =>
          walk_at "v"
          refine fin0 (endP_ok (t := .call a) (s := r) he (by rw [if_pos hn]) hi2 hr2)
        | false =>
          walk_at "v"
          refine badU (endP_bad he (by rw [hn]; rfl))
    · walk_at "v"
      cases r with
      | nil => exact r_tkN hr1 hi1 (badD (endP_bad he rfl))
      | cons a r =>
        obtain ⟨_, hi2, hr2⟩ := drop_c hr1
        refine r_tkY hr1 ?_
        walk_at "v"
        rw [updM_updM]
        simp only at he
        cases hn : numW a 0 maxN with
        | none =>
          rw [hn] at he
          exact r_numN (l := 0) (m := maxN) (wlen hr1) hn (badU (endP_bad he rfl))
        | some v =>
          rw [hn] at he
          refine r_numY (l := 0) (m := maxN) (wlen hr1) hn ?_
          walk_at "v"
          exact fin0 (endP_ok he rfl hi2 hr2)
    · walk_at "v"
      exact fin0 (endP_ok he rfl hi1 hr1)
    · walk_at "v"
      exact fin0 (endP_ok he rfl hi1 hr1)
    · walk_at "v"
      cases r with
      | nil => exact r_tkN hr1 hi1 (badD (endP_bad he rfl))
      | cons a r =>
        obtain ⟨_, hi2, hr2⟩ := drop_c hr1
        refine r_tkY hr1 ?_
        walk_at "v"
        rw [updM_updM]
        simp only at he
        refine s_ite (fun hq => ?_) fun hq => ?_
        · have hq' : a = "?" := of_decide_eq_true hq
          rw [if_pos hq'] at he
          walk_at "v"
          rw [← hr2] at he
          refine r_form (m := rdO ws i) hw hi2 (fun e => he.1 (by rw [e])) (fun e => bad0 (endP_bad he (by rw [e]))) fun t s j e hj hs => ?_
          walk_at "v"
          exact fin0 (endP_ok (t := .within none t) he (by rw [e]) hj hs)
        · have hq' : a ≠ "?" := of_decide_eq_false hq
          rw [if_neg hq'] at he
          walk_at "v"
          cases hn : numW a 0 maxN with
          | none =>
            rw [hn] at he
            exact r_numN (l := 0) (m := maxN) (wlen hr1) hn (badU (endP_bad he rfl))
          | some v =>
            rw [hn] at he
            refine r_numY (l := 0) (m := maxN) (wlen hr1) hn ?_
            walk_at "v"
            simp only at he
            rw [← hr2] at he
            refine r_form (m := rdO ws i) hw hi2 (fun e => he.1 (by rw [e])) (fun e => bad0 (endP_bad he (by rw [e]))) fun t s j e hj hs => ?_
            walk_at "v"
            exact fin0 (endP_ok (t := .within (some v) t) he (by rw [e]) hj hs)
    · walk_at "v"
      cases r with
      | nil => exact r_tkN hr1 hi1 (badD (endP_bad he rfl))
      | cons a r =>
        obtain ⟨_, hi2, hr2⟩ := drop_c hr1
        refine r_tkY hr1 ?_
        walk_at "v"
        rw [updM_updM]
        simp only at he
        cases hn : numW a 1 8 with
        | none =>
          rw [hn] at he
          exact r_numN (l := 1) (m := 8) (wlen hr1) hn (badU (endP_bad he rfl))
        | some k =>
          rw [hn] at he
          refine r_numY (l := 1) (m := 8) (wlen hr1) hn ?_
          simp only at he
          walk_at "v"
          cases r with
          | nil => exact r_tkN hr2 hi2 (badD (endP_bad he rfl))
          | cons b r =>
            obtain ⟨_, hi3, hr3⟩ := drop_c hr2
            refine r_tkY hr2 ?_
            walk_at "v"
            rw [updM_updM]
            simp only at he
            cases hn2 : numW b 0 maxN with
            | none =>
              rw [hn2] at he
              exact r_numN (l := 0) (m := maxN) (wlen hr2) hn2 (badU (endP_bad he rfl))
            | some v =>
              rw [hn2] at he
              refine r_numY (l := 0) (m := maxN) (wlen hr2) hn2 ?_
              simp only at he
              walk_at "v"
              rw [← hr3] at he
              refine r_form (m := rdO ws i) hw hi3 (fun e => he.1 (by rw [e])) (fun e => bad0 (endP_bad he (by rw [e]))) fun t s j e hj hs => ?_
              walk_at "v"
              exact fin0 (endP_ok (t := .retry k v t) he (by rw [e]) hj hs)
    · walk_at "v"
      refine v_csI n1 ?_
      walk_at "v"
      refine v_csI n2 ?_
      walk_at "v"
      refine v_csI n3 ?_
      walk_at "v"
      refine v_csI n4 ?_
      walk_at "v"
      refine v_csI n5 ?_
      walk_at "v"
      refine v_csI n6 ?_
      walk_at "v"
      refine v_csI n7 ?_
      walk_at "v"
      exact badU (endP_bad he rfl)
theorem wd_in (w : Str) : (w ∈ [("then" : Str), "else", "both", "either"]) ↔ ∃ wd, wdOf w = some wd := by
  unfold wdOf
  constructor
  · intro h
    simp only [List.mem_cons, List.not_mem_nil, or_false] at h
    rcases h with rfl | rfl | rfl | rfl
    · exact ⟨.then_, by decide +kernel⟩
    · exact ⟨.else_, by decide +kernel⟩
    · exact ⟨.both, by decide +kernel⟩
    · exact ⟨.either, by decide +kernel⟩
  · rintro ⟨wd, h⟩
    split at h
    · simp [*]
    split at h
    · simp [*]
    split at h
    · simp [*]
    split at h
    · simp [*]
    · cases h
theorem v_inWords {neg : Bool} {w : Str} {M : Store} {Q : D → Store → Prop} (hw : PyData.strOk w = true) (q : Q (.bl (neg != decide (w ∈ [("then" : Str), "else", "both", "either"]))) M) : rdIn neg (.str w) (.tup [.str "then", .str "else", .str "both", .str "either"]) M Q :=
  v_inStrs (l := ["then", "else", "both", "either"]) (okP_str hw) (okP_strs (by intro z hz; revert z; decide +kernel)).1 q
theorem q_Reader_pair (n : Nat) : Pure ["self", "first", "word", "second"] (sp_Reader_pair (n + 1)) (t_Reader_pair n) := by
  rintro ds M P PE ⟨p, ws, i, rfl, hp, hi, hw, he⟩
  have ip : At M p _ := ⟨hp⟩
  have hp0 : M = updM M p (rdO ws i) := (updM_self hp).symm
  unfold t_Reader_pair
  walk_at "s"; walk_at "v"
  simp only [pPair] at he
  have wok : ∀ {j : Nat} {w : Str} {r : List Str}, ws.drop j = w :: r → okW w := fun {j w r} h => hw w (by
    have : w ∈ ws.drop j := by rw [h]; exact List.mem_cons_self
    exact List.mem_of_mem_drop this)
  have form1 : ∀ {Q : D → Store → Prop} {E : DX}, pForm n (ws.drop i) ≠ .out → (pForm n (ws.drop i) = .bad → E "InvalidText" [] (delM M p)) →
    (∀ t s j, pForm n (ws.drop i) = .ok t s → j ≤ ws.length → ws.drop j = s → Q (nodeD t) (updM M p (rdO ws j))) → sp_Reader_form n (.ref p :: ([] ++ [])) M Q E := fun a b c => ⟨p, ws, i, rfl, hp, hi, hw, a, b, fun t s e j hj hs => c t s j e hj hs⟩
  refine form1 (fun e => he.1 (by rw [e])) (fun e => bad0 (endP_bad he (by rw [e]))) fun a s1 j e hj hs => ?_
  walk_at "v"
  rw [e] at he
  cases s1 with
  | nil => exact r_tkN hs hj (badD (endP_bad he rfl))
  | cons w r =>
    obtain ⟨_, hj1, hr1⟩ := drop_c hs
    refine r_tkY hs ?_
    walk_at "v"
    refine v_inWords (wok hs).ok ?_
    walk_at "v"
    simp only at he
    cases hwd : wdOf w with
    | none =>
      rw [hwd] at he
      have e1 : decide (w ∈ [("then" : Str), "else", "both", "either"]) = false := decide_eq_false fun h => by
        obtain ⟨wd, h⟩ := (wd_in w).mp h
        rw [hwd] at h
        cases h
      rw [e1]
      walk_at "v"
      rw [updM_updM]
      exact badU (endP_bad he rfl)
    | some wd =>
      rw [hwd] at he
      have e1 : decide (w ∈ [("then" : Str), "else", "both", "either"]) = true := decide_eq_true ((wd_in w).mpr ⟨wd, hwd⟩)
      rw [e1]
      walk_at "v"
      rw [updM_updM]
      rw [← hr1] at he
      simp only at he
      refine r_form (m := rdO ws i) hw hj1 (fun e => he.1 (by rw [e])) (fun e => bad0 (endP_bad he (by rw [e]))) fun b s2 k e2 hk hs2 => ?_
      rw [e2] at he
      walk_at "v"
      cases s2 with
      | nil => exact r_tkN hs2 hk (badD (endP_bad he rfl))
      | cons c r2 =>
        obtain ⟨_, hk1, hr2⟩ := drop_c hs2
        refine r_tkY hs2 ?_
        walk_at "v"
        rw [updM_updM]
        simp only at he
        refine s_ite (fun hc => ?_) fun hc => ?_
        · have hc' : ¬ c = ")" := by simpa using hc
          rw [if_neg hc'] at he
          walk_at "v"
          exact badU (endP_bad he rfl)
        · have hc' : c = ")" := by simpa using hc
          rw [if_pos hc'] at he
          walk_at "v"
          have ew := wdOf_eq hwd
          have q := endP_ok (t := .pair wd a b) he rfl hk1 hr2
          rw [ew]
          exact fin0 q
end
theorem fin1 {P : D → Store → Prop} {x y : D} {M : Store} (e : x = y) (h : P y M) : finP P x M := by rw [e]; exact fin0 h
section
variable {M : Store} {Q : D → Store → Prop} {E : DX} {n : Nat} {t : Tr}
theorem no_text_of : ∀ ds M P E, ¬ sp_text_of 0 ds M P E := fun ds M P E ⟨t, _, h, _⟩ => by have := dpt_pos t; omega
theorem no_size_of : ∀ ds M P E, ¬ sp_size_of 0 ds M P E := fun ds M P E ⟨t, _, h, _⟩ => by have := dpt_pos t; omega
theorem no_calls_of : ∀ ds M P E, ¬ sp_calls_of 0 ds M P E := fun ds M P E ⟨t, _, h, _⟩ => by have := dpt_pos t; omega
theorem no_Reader_form : ∀ ds M P E, ¬ sp_Reader_form 0 ds M P E := fun ds M P E ⟨p, ws, i, _, _, _, _, h⟩ => h.1 (by simp only [pForm])
theorem no_Reader_pair : ∀ ds M P E, ¬ sp_Reader_pair 0 ds M P E := fun ds M P E ⟨p, ws, i, _, _, _, _, h⟩ => h.1 (by simp only [pPair])
theorem r_text (hd : dpt t ≤ n) (hw : wf t = true) (hl : (txt t).length ≤ 1000000) (k : Q (.str (txt t)) M) : sp_text_of n ([nodeD t] ++ []) M Q E := ⟨t, rfl, hd, hw, hl, k⟩
theorem ln_w : ("within " : Str).length = 7 := by decide +kernel
theorem ln_wq : ("within ? " : Str).length = 9 := by decide +kernel
theorem ln_r : ("retry " : Str).length = 6 := by decide +kernel
theorem ln_s : (" " : Str).length = 1 := by decide +kernel
theorem ln_q : ("?" : Str).length = 1 := by decide +kernel
theorem ln_o : ("(" : Str).length = 1 := by decide +kernel
theorem ln_c : (")" : Str).length = 1 := by decide +kernel
theorem ln_e : (Str.empty).length = 0 := by decide +kernel
theorem ln_call : ("call" : Str).length = 4 := by decide +kernel
theorem ln_call1 : ("call " : Str).length = 5 := by decide +kernel
theorem ln_pause : ("pause" : Str).length = 5 := by decide +kernel
theorem ln_pause1 : ("pause " : Str).length = 6 := by decide +kernel
theorem num_log {k : Nat} (h : k ≤ maxN) : (k : Int).natAbs.log2 < 1920 := by
  rw [Int.natAbs_natCast]
  have h2 : k ≤ 1000000000 := h
  rcases Nat.eq_zero_or_pos k with rfl | hk
  · decide
  · exact Nat.lt_trans ((Nat.log2_lt (by omega)).mpr (show k < 2 ^ 30 by omega)) (by decide)
theorem k8 {k : Nat} (h : k ≤ 8) : k ≤ maxN := Nat.le_trans h (by decide)
theorem num_toS (k : Nat) : toString (k : Int) = numS k := rfl
end
section
local macro_rules | `(tactic| walk_at "r") => `(tactic| first
  | (with_reducible refine v_jsS (by simp only [sizeLine_eq, len_app, ln_w, ln_wq, ln_r, ln_s, ln_q, ln_o, ln_c, ln_e, ln_call, ln_call1, ln_pause, ln_pause1]; omega) ?_)
  | (with_reducible refine v_fmtS (by simp only [sizeLine_eq, len_app, ln_w, ln_r, ln_s, ln_q, ln_o, ln_c, ln_e, ln_call, ln_pause]; omega) ?_)
  | (with_reducible refine v_fmtI (num_log (by assumption)) ?_; simp only [num_toS])
  | (with_reducible refine r_text (by omega) (by assumption) (by omega) ?_))
theorem q_text_of (n : Nat) : Pure ["node", "number", "part", "tries", "word", "first", "second", "value"] (sp_text_of (n + 1)) (t_text_of n) := by
  rintro ds M P PE ⟨t, rfl, hd, hw, hl, h⟩
  unfold t_text_of
  cases t with
  | call a =>
    have ha := (name_let hw).2.2
    simp only [nodeD]
    walk_at "s"; walk_at "v"
    have e : Str.empty ++ ("call" : Str) ++ " " ++ a = txt (.call a) := by
      rw [txt, str_empty]
      exact congrArg (· ++ a) (show ("call" : Str) ++ " " = "call " by decide +kernel)
    rw [e]
    exact fin0 h
  | pause k =>
    have hk : k ≤ maxN := of_decide_eq_true hw
    have := numS_len hk
    simp only [nodeD]
    walk_at "s"; walk_at "v"
    have e : Str.empty ++ ("pause" : Str) ++ " " ++ numS k = txt (.pause k) := by
      rw [txt, str_empty]
      exact congrArg (· ++ numS k) (show ("pause" : Str) ++ " " = "pause " by decide +kernel)
    rw [e]
    exact fin0 h
  | fail =>
    simp only [nodeD]
    walk_at "s"; walk_at "v"
    exact fin0 h
  | hole =>
    simp only [nodeD]
    walk_at "s"; walk_at "v"
    exact fin0 h
  | within o t =>
    simp only [dpt] at hd
    cases o with
    | none =>
      simp only [wf] at hw
      simp only [txt, len_app, ln_wq] at hl
      simp only [nodeD]
      walk_at "s"; walk_at "v"
      have e : Str.empty ++ ("within " : Str) ++ "?" ++ " " ++ txt t = txt (.within none t) := by
        rw [txt, str_empty]
        exact congrArg (· ++ txt t) (show ("within " : Str) ++ "?" ++ " " = "within ? " by decide +kernel)
      rw [e]
      exact fin0 h
    | some k =>
      simp only [wf, Bool.and_eq_true, decide_eq_true_eq] at hw
      obtain ⟨hk, hw⟩ := hw
      simp only [txt, len_app, ln_w, ln_s] at hl
      simp only [nodeD]
      walk_at "s"; walk_at "v"
      have e : Str.empty ++ ("within " : Str) ++ numS k ++ " " ++ txt t = txt (.within (some k) t) := by
        rw [txt, str_empty]
      rw [e]
      exact fin0 h
  | retry k m t =>
    simp only [dpt] at hd
    simp only [wf, Bool.and_eq_true, decide_eq_true_eq] at hw
    obtain ⟨_, hk, hm, hw⟩ := hw
    replace hk := k8 hk
    simp only [txt, len_app, ln_r, ln_s] at hl
    simp only [nodeD]
    walk_at "s"; walk_at "v"
    have e : Str.empty ++ ("retry " : Str) ++ numS k ++ " " ++ numS m ++ " " ++ txt t = txt (.retry k m t) := by
      rw [txt, str_empty]
    rw [e]
    exact fin0 h
  | pair w a b =>
    simp only [dpt] at hd
    simp only [wf, Bool.and_eq_true] at hw
    obtain ⟨ha, hb⟩ := hw
    have := wd_len w
    simp only [txt, len_app, ln_o, ln_s, ln_c] at hl
    simp only [nodeD]
    walk_at "s"; walk_at "v"
    have e : Str.empty ++ ("(" : Str) ++ txt a ++ " " ++ wdS w ++ " " ++ txt b ++ ")" = txt (.pair w a b) := by
      rw [txt, str_empty]
    rw [e]
    exact fin0 h
end
section
variable {M : Store} {Q : D → Store → Prop} {E : DX} {t u : Tr} {p : Addr}
theorem q_Plan_init : Pure ["self", "node"] sp_Plan_init t_Plan_init := by
  rintro ds M P PE ⟨p, t, rfl, hp, ok, h⟩
  unfold t_Plan_init
  walk_at "s"; walk_at "v"
  refine v_set hp (by simp) rfl ?_
  walk_at "v"
  refine r_text ok.dp ok.wf ok.len ?_
  walk_at "v"
  refine v_set updM_same (by simp [dput]) rfl ?_
  rw [updM_updM]
  have e : dput ("text" : Str) (.str (txt t)) (dput ("node" : Str) (nodeD t) []) = planF t := by
    simp only [dput, ofS_eq, String.reduceEq, if_false, planF]
  show finP P .non (updM M p (.ins "Plan" (dput ("text" : Str) (.str (txt t)) (dput ("node" : Str) (nodeD t) []))))
  rw [e]
  exact fin0 h
theorem q_Plan_str : Pure ["self"] sp_Plan_str t_Plan_str := by
  rintro ds M P PE ⟨t, rfl, hl, h⟩
  unfold t_Plan_str
  walk_at "s"; walk_at "v"
  refine v_fmtS (by rw [sizeLine_eq]; omega) ?_
  exact fin0 h
theorem q_Plan_eq : Pure ["self", "other"] sp_Plan_eq t_Plan_eq := by
  rintro ds M P PE ⟨t, d, rfl, ⟨u, rfl, h⟩ | ⟨⟨n, hn⟩, h⟩⟩ <;> unfold t_Plan_eq
  · walk_at "s"; walk_at "v"
    have e : tyD M (planO u) = some (.own "Plan") := rfl
    simp only [rcIsi, e, isiD]
    walk_at "v"
    exact fin1 (by rw [Bool.false_bne]) h
  · walk_at "s"; walk_at "v"
    simp only [rcIsi, hn, isiD]
    walk_at "v"
    exact fin0 h
end
section
variable {M : Store} {Q : D → Store → Prop} {E : DX} {t u : Tr} {p : Addr}
theorem q_Plan_parse : Pure ["cls", "text", "reader", "made"] sp_Plan_parse t_Plan_parse := by
  rintro ds M P PE ⟨x, rfl, ok, hx, no, kb, ko⟩
  unfold t_Plan_parse
  walk_at "s"; walk_at "v"
  intro r hr
  refine ⟨r, x, rfl, updM_same, ok.len, ?_⟩
  refine ⟨rfl, ?_⟩
  rw [updM_updM]
  walk_at "v"
  refine r_form (m := rdO (wordsIn x) 0) (words_ok ok.ok hx) (Nat.zero_le _) no (fun e => ?_) fun t s j e hj hs => ?_
  · rw [delM_none hr]
    exact ⟨M, SubM.refl _, kb e⟩
  · obtain ⟨hwf, hdp, _⟩ := (pForm_wf 120).1 _ _ _ e
    obtain ⟨hl, h1, h2⟩ := ko t s e
    walk_at "v"
    refine v_plan ⟨hwf, hdp, hl⟩ ?_
    walk_at "v"
    refine s_ite (fun hq => ?_) fun hq => ?_
    · have hq' : txt t ≠ x := by simpa using hq
      walk_at "v"
      exact ⟨M, SubM.new hr, h2 hq'⟩
    · have hq' : txt t = x := by simpa using hq
      walk_at "v"
      exact finS (SubM.new hr) (h1 hq')
end
section
variable {M : Store} {Q : D → Store → Prop} {E : DX} {n : Nat} {t u : Tr} {p : Addr}
theorem no_law_text : ∀ ds M P E, ¬ sp_law_text 0 ds M P E := fun ds M P E ⟨t, _, h, _⟩ => by have := dpt_pos t; omega
theorem r_ltext (hd : dpt t ≤ n) (hw : wf t = true) (hl : (txt t).length ≤ 1000000) (k : Q (.str (txt t)) M) : sp_law_text n ([bareD t] ++ []) M Q E := ⟨t, rfl, hd, hw, hl, k⟩
theorem ln_fail : ("fail" : Str).length = 4 := by decide +kernel
theorem ln_hole : ("hole" : Str).length = 4 := by decide +kernel
theorem ln_within : ("within" : Str).length = 6 := by decide +kernel
theorem ln_retry : ("retry" : Str).length = 5 := by decide +kernel
section
local macro_rules | `(tactic| walk_at "r") => `(tactic| first
  | (with_reducible refine v_addS (by simp only [sizeLine_eq, len_app, ln_w, ln_wq, ln_r, ln_s, ln_q, ln_o, ln_c, ln_e, ln_call, ln_pause, ln_within, ln_retry]; omega) ?_)
  | (with_reducible refine v_join1 (by simp only [sizeLine_eq, len_app, ln_w, ln_r, ln_s, ln_q, ln_o, ln_c, ln_e, ln_call, ln_pause, ln_fail, ln_hole, ln_within, ln_retry]; omega) ?_)
  | (with_reducible refine v_join2 (by simp only [sizeLine_eq, len_app, ln_w, ln_r, ln_s, ln_q, ln_o, ln_c, ln_e, ln_call, ln_pause, ln_fail, ln_hole, ln_within, ln_retry]; omega) ?_)
  | (with_reducible refine v_join3 (by simp only [sizeLine_eq, len_app, ln_w, ln_r, ln_s, ln_q, ln_o, ln_c, ln_e, ln_call, ln_pause, ln_fail, ln_hole, ln_within, ln_retry]; omega) ?_)
  | (with_reducible refine r_ltext (by omega) (by assumption) (by omega) ?_)
  | (with_reducible refine v_strI (num_log (by assumption)) ?_; simp only [num_toS])
  | (with_reducible intro p hp; have ip : Free _ p := ⟨hp⟩))
theorem q_law_text (n : Nat) : Pure ["plan", "part"] (sp_law_text (n + 1)) (t_law_text n) := by
  rintro ds M P PE ⟨t, rfl, hd, hw, hl, h⟩
  unfold t_law_text
  cases t with
  | call a =>
    have ha := (name_let hw).2.2
    simp only [bareD]
    walk_at "s"; walk_at "v"
    refine fin1 ?_ h
    rw [txt]
    exact congrArg (fun z => D.str (z ++ a)) (show ("call" : Str) ++ " " = "call " by decide +kernel)
  | pause k =>
    have hk : k ≤ maxN := of_decide_eq_true hw
    have := numS_len hk
    simp only [bareD]
    walk_at "s"; walk_at "v"
    refine fin1 ?_ h
    rw [txt]
    exact congrArg (fun z => D.str (z ++ numS k)) (show ("pause" : Str) ++ " " = "pause " by decide +kernel)
  | fail =>
    simp only [bareD]
    walk_at "s"; walk_at "v"
    exact fin0 h
  | hole =>
    simp only [bareD]
    walk_at "s"; walk_at "v"
    exact fin0 h
  | within o t =>
    simp only [dpt] at hd
    cases o with
    | none =>
      simp only [wf] at hw
      simp only [txt, len_app, ln_wq] at hl
      simp only [bareD]
      walk_at "s"; walk_at "v"
      refine fin1 ?_ h
      rw [txt]
      exact congrArg (fun z => D.str (z ++ txt t)) (show ("within" : Str) ++ " " ++ "?" ++ " " = "within ? " by decide +kernel)
    | some k =>
      simp only [wf, Bool.and_eq_true, decide_eq_true_eq] at hw
      obtain ⟨hk, hw⟩ := hw
      have := numS_len hk
      simp only [txt, len_app, ln_w, ln_s] at hl
      simp only [bareD]
      walk_at "s"; walk_at "v"
      refine fin1 ?_ h
      rw [txt]
      exact congrArg (fun z => D.str (z ++ numS k ++ " " ++ txt t)) (show ("within" : Str) ++ " " = "within " by decide +kernel)
  | retry k m t =>
    simp only [dpt] at hd
    simp only [wf, Bool.and_eq_true, decide_eq_true_eq] at hw
    obtain ⟨_, hk, hm, hw⟩ := hw
    replace hk := k8 hk
    have := numS_len hk
    have := numS_len hm
    simp only [txt, len_app, ln_r, ln_s] at hl
    simp only [bareD]
    walk_at "s"; walk_at "v"
    refine fin1 ?_ h
    rw [txt]
    have e : ("retry " : Str) = "retry" ++ " " := by decide +kernel
    simp only [e, str_assoc]
  | pair w a b =>
    simp only [dpt] at hd
    simp only [wf, Bool.and_eq_true] at hw
    obtain ⟨ha, hb⟩ := hw
    have := wd_len w
    simp only [txt, len_app, ln_o, ln_s, ln_c] at hl
    simp only [bareD]
    walk_at "s"; walk_at "v"
    exact fin0 h
end
end
section
variable {M : Store} {Q : D → Store → Prop} {E : DX} {n : Nat} {t u : Tr} {p : Addr} {f : Feed}
theorem no_law_bare : ∀ ds M P E, ¬ sp_law_bare 0 ds M P E := fun ds M P E ⟨p, f, r, _, _, h1, _, h2, _⟩ => by omega
theorem r_takeU {n : Int} (h0 : 0 < n) (h1 : n < 1000000000) (k : ∀ r f', 0 ≤ r → r < n → Q (.int r) (updM M p (feedL f'))) : sp_law_take ([.ref p, .int n] ++ []) (updM M p (feedL f)) Q E :=
  r_take updM_same h0 h1 fun r f' a b => by rw [updM_updM]; exact k r f' a b
theorem r_pickU {x : D} {xs : List D} (h1 : (x :: xs).length < 1000000000) (k : ∀ y f', y ∈ x :: xs → Q y (updM M p (feedL f'))) : sp_law_pick ([.ref p, .lst (x :: xs)] ++ []) (updM M p (feedL f)) Q E :=
  r_pick updM_same h1 fun y f' a => by rw [updM_updM]; exact k y f' a
theorem r_bareU {r : Int} (h1 : 1 ≤ r) (h2 : r ≤ 100) (h3 : r < n) (k : ∀ t f', drawn r t → Q (bareD t) (updM M p (feedL f'))) : sp_law_bare n ([.ref p, .int r] ++ []) (updM M p (feedL f)) Q E :=
  ⟨p, f, r, rfl, updM_same, h1, h2, h3, fun t f' a => by rw [updM_updM]; exact k t f' a⟩
theorem pick_num {y : D} (h : y ∈ [D.int (10 ^ (9 : Int).toNat), .int 999999999, .int 10, .int 100]) : ∃ v : Nat, y = .int (v : Int) ∧ v ≤ maxN := by
  simp only [List.mem_cons, List.not_mem_nil, or_false] at h
  rcases h with rfl | rfl | rfl | rfl
  · exact ⟨1000000000, rfl, by decide⟩
  · exact ⟨999999999, rfl, by decide⟩
  · exact ⟨10, rfl, by decide⟩
  · exact ⟨100, rfl, by decide⟩
theorem pick_num2 {y : D} (h : y ∈ [D.int 0, .int 7, .int 10, .int (10 ^ (9 : Int).toNat)]) : ∃ v : Nat, y = .int (v : Int) ∧ v ≤ maxN := by
  simp only [List.mem_cons, List.not_mem_nil, or_false] at h
  rcases h with rfl | rfl | rfl | rfl
  · exact ⟨0, rfl, by decide⟩
  · exact ⟨7, rfl, by decide⟩
  · exact ⟨10, rfl, by decide⟩
  · exact ⟨1000000000, rfl, by decide⟩
theorem pick_num3 {y : D} (h : y ∈ [D.int 0, .int 3, .int (10 ^ (9 : Int).toNat)]) : ∃ v : Nat, y = .int (v : Int) ∧ v ≤ maxN := by
  simp only [List.mem_cons, List.not_mem_nil, or_false] at h
  rcases h with rfl | rfl | rfl
  · exact ⟨0, rfl, by decide⟩
  · exact ⟨3, rfl, by decide⟩
  · exact ⟨1000000000, rfl, by decide⟩
theorem pick_wd {y : D} (h : y ∈ [D.str "then", .str "else", .str "both", .str "either"]) : ∃ w : Wd, y = .str (wdS w) := by
  simp only [List.mem_cons, List.not_mem_nil, or_false] at h
  rcases h with rfl | rfl | rfl | rfl
  · exact ⟨.then_, rfl⟩
  · exact ⟨.else_, rfl⟩
  · exact ⟨.both, rfl⟩
  · exact ⟨.either, rfl⟩
theorem pick_name {y : D} (h : y ∈ [D.str "a", .str "abcdefgh", .str "ijklmnop", .str "qrstuvwx", .str "yz", .str "call", .str "then", .str "pause", .str "hole", .str "retry", .str "fail"] ++ [D.str "within", .str "both", .str "either", .str "else"]) : ∃ a : Str, y = .str a ∧ isName a = true ∧ nmOk (.call a) = true := by
  have k : ∀ w ∈ [("a" : Str), "abcdefgh", "ijklmnop", "qrstuvwx", "yz", "call", "then", "pause", "hole", "retry", "fail", "within", "both", "either", "else"], (isName w = true ∧ nmOk (.call w) = true) := by decide +kernel
  have e : [D.str "a", .str "abcdefgh", .str "ijklmnop", .str "qrstuvwx", .str "yz", .str "call", .str "then", .str "pause", .str "hole", .str "retry", .str "fail"] ++ [D.str "within", .str "both", .str "either", .str "else"] = [("a" : Str), "abcdefgh", "ijklmnop", "qrstuvwx", "yz", "call", "then", "pause", "hole", "retry", "fail", "within", "both", "either", "else"].map D.str := rfl
  rw [e] at h
  obtain ⟨a, ha, rfl⟩ := List.mem_map.mp h
  exact ⟨a, rfl, k a ha⟩
section
local macro_rules | `(tactic| walk_at "r") => `(tactic| first
  | (with_reducible refine v_pow (by decide) (by decide) (by decide) ?_))
theorem q_law_bare (n : Nat) : Pure ["feed", "room", "way", "names", "name", "word", "first"] (sp_law_bare (n + 1)) (t_law_bare n) := by
  rintro ds M P PE ⟨p, f, r, rfl, hp, h1, h2, h3, h⟩
  unfold t_law_bare
  walk_at "s"; walk_at "v"
  refine r_take hp (by decide) (by decide) fun way f1 w0 w1 => ?_
  walk_at "v"
  refine s_ite (fun c => ?_) fun c => ?_
  · walk_at "v"
    exact fin0 (h .hole f1 ⟨rfl, by simp only [dpt]; omega, by simp only [nd]; omega, rfl⟩)
  clear c
  walk_at "v"
  refine s_ite (fun c => ?_) fun c => ?_
  · walk_at "v"
    refine s_ite (fun c2 => ?_) fun c2 => ?_
    · have c2' : 1 < r := of_decide_eq_true c2
      walk_at "v"
      refine r_bareU (by omega) (by omega) (by omega) fun t f2 dr => ?_
      walk_at "v"
      exact fin0 (h (.within none t) f2 ⟨dr.wf, by have := dr.dp; simp only [dpt]; omega, by have := dr.nd; simp only [nd]; omega, dr.nm⟩)
    · walk_at "v"
      exact fin0 (h (.within none .fail) f1 ⟨rfl, by simp only [dpt]; omega, by simp only [nd]; omega, rfl⟩)
  clear c
  walk_at "v"
  refine s_ite (fun c => ?_) fun c => ?_
  · walk_at "v"
    refine r_pickU (by decide) fun y f2 hy => ?_
    obtain ⟨v, rfl, hv⟩ := pick_num hy
    walk_at "v"
    exact fin0 (h (.pause v) f2 ⟨decide_eq_true hv, by simp only [dpt]; omega, by simp only [nd]; omega, rfl⟩)
  clear c
  walk_at "v"
  refine s_ite (fun c => ?_) fun c => ?_
  · walk_at "v"
    refine s_addL (by simp only [List.length_cons, List.length_nil, sizeLine_eq]; omega) ?_
    walk_at "v"
    refine r_pickU (by decide) fun y f2 hy => ?_
    obtain ⟨a, rfl, ha, hna⟩ := pick_name hy
    walk_at "v"
    refine r_takeU (by decide) (by decide) fun v f3 v0 v1 => ?_
    walk_at "v"
    refine r_pickU (by simp) fun y f4 hy => ?_
    simp only [List.mem_cons, List.not_mem_nil, or_false] at hy
    rcases hy with rfl | rfl | rfl
    · exact fin0 (h (.call a) f4 ⟨ha, by simp only [dpt]; omega, by simp only [nd]; omega, hna⟩)
    · obtain ⟨m, rfl⟩ := Int.eq_ofNat_of_zero_le v0
      have hm : m ≤ maxN := by unfold maxN; omega
      exact fin0 (h (.pause m) f4 ⟨decide_eq_true hm, by simp only [dpt]; omega, by simp only [nd]; omega, rfl⟩)
    · exact fin0 (h .fail f4 ⟨rfl, by simp only [dpt]; omega, by simp only [nd]; omega, rfl⟩)
  have c' : 1 < r := by have := of_decide_eq_false c; omega
  walk_at "v"
  refine s_ite (fun c2 => ?_) fun c2 => ?_
  · walk_at "v"
    refine s_addL (by simp only [List.length_cons, List.length_nil, sizeLine_eq]; omega) ?_
    walk_at "v"
    refine r_pickU (by decide) fun y f2 hy => ?_
    obtain ⟨a, rfl, ha, hna⟩ := pick_name hy
    walk_at "v"
    refine r_takeU (by decide) (by decide) fun v f3 v0 v1 => ?_
    walk_at "v"
    refine r_pickU (by simp) fun y f4 hy => ?_
    simp only [List.mem_cons, List.not_mem_nil, or_false] at hy
    rcases hy with rfl | rfl | rfl
    · exact fin0 (h (.call a) f4 ⟨ha, by simp only [dpt]; omega, by simp only [nd]; omega, hna⟩)
    · obtain ⟨m, rfl⟩ := Int.eq_ofNat_of_zero_le v0
      have hm : m ≤ maxN := by unfold maxN; omega
      exact fin0 (h (.pause m) f4 ⟨decide_eq_true hm, by simp only [dpt]; omega, by simp only [nd]; omega, rfl⟩)
    · exact fin0 (h .fail f4 ⟨rfl, by simp only [dpt]; omega, by simp only [nd]; omega, rfl⟩)
  clear c2 c
  walk_at "v"
  refine s_ite (fun c => ?_) fun c => ?_
  · walk_at "v"
    refine r_pickU (by decide) fun y f2 hy => ?_
    obtain ⟨v, rfl, hv⟩ := pick_num2 hy
    walk_at "v"
    refine r_bareU (by omega) (by omega) (by omega) fun t f3 dr => ?_
    walk_at "v"
    exact fin0 (h (.within (some v) t) f3 ⟨by simp only [wf, dr.wf, Bool.and_true, decide_eq_true_eq]; exact hv, by have := dr.dp; simp only [dpt]; omega, by have := dr.nd; simp only [nd]; omega, dr.nm⟩)
  clear c
  walk_at "v"
  refine s_ite (fun c => ?_) fun c => ?_
  · walk_at "v"
    refine r_takeU (by decide) (by decide) fun k f2 k0 k1 => ?_
    obtain ⟨k, rfl⟩ := Int.eq_ofNat_of_zero_le k0
    walk_at "v"
    refine r_pickU (by decide) fun y f3 hy => ?_
    obtain ⟨v, rfl, hv⟩ := pick_num3 hy
    walk_at "v"
    refine r_bareU (by omega) (by omega) (by omega) fun t f4 dr => ?_
    walk_at "v"
    have e : (1 : Int) + (k : Int) = ((k + 1 : Nat) : Int) := by omega
    rw [e]
    exact fin0 (h (.retry (k + 1) v t) f4 ⟨by simp only [wf, dr.wf, Bool.and_true, Bool.and_eq_true, decide_eq_true_eq]; exact ⟨by omega, by omega, hv⟩, by have := dr.dp; simp only [dpt]; omega, by have := dr.nd; simp only [nd]; omega, dr.nm⟩)
  clear c
  walk_at "v"
  refine r_pickU (by decide) fun y f2 hy => ?_
  obtain ⟨wd, rfl⟩ := pick_wd hy
  walk_at "v"
  refine r_takeU (by omega) (by omega) fun k f3 k0 k1 => ?_
  walk_at "v"
  refine r_bareU (by omega) (by omega) (by omega) fun a f4 da => ?_
  walk_at "v"
  refine r_bareU (by omega) (by omega) (by omega) fun b f5 db => ?_
  walk_at "v"
  exact fin0 (h (.pair wd a b) f5 ⟨by simp only [wf, da.wf, db.wf, Bool.and_self], by have := da.dp; have := db.dp; simp only [dpt]; omega, by have := da.nd; have := db.nd; simp only [nd]; omega, by simp only [nmOk, da.nm, db.nm, Bool.and_self]⟩)
end
end
section
variable {M : Store} {Q : D → Store → Prop} {E : DX} {n : Nat} {t u : Tr} {p q : Addr} {f : Feed} {x : Str}
theorem v_ixSN {c i : Nat} (h : (tl x)[i]? = some c) (hl : x.length ≤ 1000000) (k : Q (.str ⟨#[c]⟩) M) : rdIx (.str x) (.int (i : Int)) M Q := by
  have hi : i < x.cps.toList.length := by
    rcases Nat.lt_or_ge i (tl x).length with h1 | h1
    · exact h1
    · rw [List.getElem?_eq_none_iff.mpr h1] at h; cases h
  have e : atI x.cps.toList (i : Int) = some c := by
    unfold atI
    rw [ixN_of (by omega) (by omega), Option.bind_some, Int.toNat_natCast]
    exact h
  simp only [rdIx, e]
  exact ⟨by rw [sizeLine_eq]; omega, k⟩
theorem v_inSg {c : Nat} {sg : Str} {neg : Bool} (k : Q (.bl (neg != decide (c ∈ tl sg))) M) : rdIn neg (.str ⟨#[c]⟩) (.str sg) M Q := ⟨c, rfl, k⟩
theorem v_len1 {z : Str} (h : z.length ≤ 1000000) (k : Q (.int (z.length : Int)) M) : rcLen [.str z] M Q := ⟨by rw [sizeLine_eq]; omega, k⟩
theorem tw_more {f : Nat → Bool} : ∀ (l : List Nat) (j c : Nat), j ≤ (l.takeWhile f).length → l[j]? = some c → (f c = true → j + 1 ≤ (l.takeWhile f).length) ∧ (f c = false → j = (l.takeWhile f).length)
  | [], j, c, _, h => by simp at h
  | d :: l, j, c, hj, h => by
    rw [List.takeWhile_cons] at hj ⊢
    by_cases hd : f d = true
    · rw [if_pos hd] at hj ⊢
      cases j with
      | zero =>
        simp at h
        subst h
        exact ⟨fun _ => by simp, fun e => by rw [hd] at e; cases e⟩
      | succ j =>
        obtain ⟨h1, h2⟩ := tw_more l j c (by simpa using hj) (by simpa using h)
        simp only [List.length_cons]
        exact ⟨fun e => by have := h1 e; omega, fun e => by have := h2 e; omega⟩
    · rw [if_neg hd] at hj ⊢
      simp at hj
      subst hj
      simp at h
      subst h
      exact ⟨fun e => absurd e hd, fun _ => rfl⟩
theorem q_law_word_end : Pure ["text", "at", "signs"] sp_law_word_end t_law_word_end := by
  rintro ds M P PE ⟨x, sg, a, rfl, hx, h⟩
  unfold t_law_word_end
  walk_at "s"
  refine Sp.h ?_
  have hx2 : (tl x).length = x.length := (TL.len_tl x).symm
  have hdr : ((tl x).drop a).length = x.length - a := by rw [List.length_drop, hx2]
  have htw : wEnd (fun c => decide (c ∈ tl sg)) ((tl x).drop a) ≤ x.length - a := by
    rw [← hdr]
    exact List.IsPrefix.length_le (List.takeWhile_prefix _)
  refine ⟨fun m ρ M' => M' = M ∧ ∃ j, ρ = [some (.str x), some (.int ((a + j : Nat) : Int)), some (.str sg)] ∧ j ≤ wEnd (fun c => decide (c ∈ tl sg)) ((tl x).drop a) ∧ m = wEnd (fun c => decide (c ∈ tl sg)) ((tl x).drop a) - j, ⟨_, rfl, 0, rfl, Nat.zero_le _, rfl⟩, ?_⟩
  rintro m ρ M' ⟨rfl, j, rfl, hj, rfl⟩
  walk_at "vz"
  refine v_len1 hx ?_
  walk_at "vz"
  refine s_ite (fun h1 => ?_) fun h1 => ?_
  · have h1' : a + j < x.length := by have := of_decide_eq_true h1; omega
    obtain ⟨c, hc⟩ : ∃ c, ((tl x).drop a)[j]? = some c := ⟨_, List.getElem?_eq_getElem (by omega)⟩
    have hc2 : (tl x)[a + j]? = some c := by rw [← List.getElem?_drop]; exact hc
    obtain ⟨k1, k2⟩ := tw_more (f := fun c => decide (c ∈ tl sg)) _ j c hj hc
    walk_at "vz"
    refine v_ixSN hc2 hx ?_
    walk_at "vz"
    refine v_inSg ?_
    walk_at "vz"
    refine s_ite (fun h2 => ?_) fun h2 => ?_
    · have h2' : decide (c ∈ tl sg) = true := by simpa using h2
      have := k1 h2'
      walk_at "vz"
      exact ⟨_, by show wEnd _ _ - (j + 1) < _; unfold wEnd at *; omega, rfl, j + 1, rfl, this, rfl⟩
    · have h2' : decide (c ∈ tl sg) = false := by simpa using h2
      have := k2 h2'
      walk_at "vz"
      refine fin1 ?_ h
      unfold wEnd
      rw [this]
  · have h1' : x.length ≤ a + j := by have := of_decide_eq_false h1; omega
    walk_at "vz"
    refine fin1 ?_ h
    have : j = wEnd (fun c => decide (c ∈ tl sg)) ((tl x).drop a) := by omega
    rw [this]
theorem dig_fn : (fun c => decide (c ∈ tl "0123456789")) = isD := by
  funext c
  have e : tl "0123456789" = [48, 49, 50, 51, 52, 53, 54, 55, 56, 57] := by decide +kernel
  rw [e]
  unfold isD
  rw [Bool.eq_iff_iff]
  simp only [decide_eq_true_eq, Bool.and_eq_true, List.mem_cons, List.not_mem_nil, or_false]
  omega
theorem let_fn : (fun c => decide (c ∈ tl "abcdefghijklmnopqrstuvwxyz")) = isL := by
  funext c
  have e : tl "abcdefghijklmnopqrstuvwxyz" = [97, 98, 99, 100, 101, 102, 103, 104, 105, 106, 107, 108, 109, 110, 111, 112, 113, 114, 115, 116, 117, 118, 119, 120, 121, 122] := by decide +kernel
  rw [e]
  unfold isL
  rw [Bool.eq_iff_iff]
  simp only [decide_eq_true_eq, Bool.and_eq_true, List.mem_cons, List.not_mem_nil, or_false]
  omega
theorem tl_S (l : List Nat) : tl (SX.S l) = l := by simp [tl, SX.S]
theorem S_eq {l : List Nat} {w : Str} : (SX.S l = w) ↔ l = tl w := ⟨fun e => by rw [← e, tl_S], fun e => TL.ext_tl ((tl_S l).trans e)⟩
theorem v_slK {a k : Nat} {j : Int} (hj : j = (a : Int) + (k : Int)) (hx : x.length ≤ 1000000) (h : Q (.str (SX.S (((tl x).drop a).take k))) M) : rdSl (.str x) (some (a : Int)) (some j) M Q := by
  refine ⟨by rw [sizeLine_eq]; omega, ?_⟩
  have e : cutS x (some (a : Int)) (some j) = SX.S (((tl x).drop a).take k) := by
    apply TL.ext_tl
    show tl (cutS x _ _) = tl (SX.S _)
    rw [tl_S]
    have hx2 : (tl x).length = x.length := (TL.len_tl x).symm
    have e1 : HT.sIx x.length 0 (some (a : Int)) = min a x.length := HT.sIx_nat _ _ _
    have e2 : HT.sIx x.length x.length (some j) = min (a + k) x.length := by
      rw [hj, ← Int.natCast_add]
      exact HT.sIx_nat _ _ _
    unfold cutS
    rw [e1, e2]
    show ((tl x).drop (min a x.length)).take (min (a + k) x.length - min a x.length) = _
    rcases Nat.le_total a x.length with h1 | h1
    · rw [Nat.min_eq_left h1]
      rcases Nat.le_total (a + k) x.length with h2 | h2
      · rw [Nat.min_eq_left h2, Nat.add_sub_cancel_left]
      · rw [Nat.min_eq_right h2, List.take_of_length_le (by rw [List.length_drop]; omega), List.take_of_length_le (by rw [List.length_drop]; omega)]
    · rw [Nat.min_eq_right h1, Nat.min_eq_right (by omega), List.drop_eq_nil_of_le (by omega), List.drop_eq_nil_of_le (by omega)]
      simp
  rw [e]
  exact h
theorem tw_len (f : Nat → Bool) (l : List Nat) : l.take (l.takeWhile f).length = l.takeWhile f := by
  have e := tw_take (f := f) l
  conv => lhs; arg 2; rw [e]
  exact List.take_left
theorem q_law_number_end : Pure ["text", "at", "least", "most", "end", "word"] sp_law_number_end t_law_number_end := by
  rintro ds M P PE ⟨x, a, lo, hi, rfl, hx, h⟩
  unfold t_law_number_end
  walk_at "s"; walk_at "v"
  refine ⟨x, "0123456789", a, rfl, hx, ?_⟩
  rw [dig_fn]
  walk_at "v"
  refine v_slK (k := wEnd isD ((tl x).drop a)) (by omega) hx ?_
  have hx2 : (tl x).length = x.length := (TL.len_tl x).symm
  have hlen : ((tl x).drop a).length = x.length - a := by rw [List.length_drop, hx2]
  generalize hl : (tl x).drop a = l at h hlen ⊢
  have e0 : l.take (wEnd isD l) = l.takeWhile isD := tw_len isD l
  rw [e0]
  generalize hw : SX.S (l.takeWhile isD) = w at h ⊢
  have htw : tl w = l.takeWhile isD := by rw [← hw, tl_S]
  have hwl : w.length = wEnd isD l := by rw [TL.len_tl]; show (tl w).length = _; rw [htw]; rfl
  have hle : wEnd isD l ≤ l.length := List.IsPrefix.length_le (List.takeWhile_prefix _)
  have hdig : isDig w = true := by
    unfold isDig
    rw [htw]
    exact List.all_takeWhile
  have hbad : numW w lo hi = none → P (.int (-1)) M := fun e => by
    unfold nEnd at h
    rw [hw, e] at h
    exact h
  have hgood : ∀ v, numW w lo hi = some v → P (.int ((a + wEnd isD l : Nat) : Int)) M := fun v e => by
    unfold nEnd at h
    rw [hw, e] at h
    exact h
  unfold numW at hbad hgood
  clear h
  walk_at "v"
  refine s_ite (fun h1 => ?_) fun h1 => ?_
  · have h1' : w = "" := by simpa using h1
    walk_at "v"
    exact fin0 (hbad (if_pos (.inl h1')))
  have h1' : w ≠ "" := by simpa using h1
  walk_at "v"
  refine v_len1 (by omega) ?_
  walk_at "v"
  refine s_ite (fun h2 => ?_) fun h2 => ?_
  · have h2' : 10 < w.length := by have := of_decide_eq_true h2; omega
    walk_at "v"
    exact fin0 (hbad (if_pos (.inr (.inl h2'))))
  have h2' : w.length ≤ 10 := by have := of_decide_eq_false h2; omega
  have hn : ¬ (w = "" ∨ w.length > 10 ∨ isDig w = false) := by
    rintro (e | e | e)
    · exact h1' e
    · omega
    · rw [hdig] at e; cases e
  rw [if_neg hn] at hbad hgood
  obtain ⟨c, r, hc⟩ : ∃ c r, tl w = c :: r := by
    cases e : tl w with
    | nil => exact absurd e (ne_tl h1')
    | cons c r => exact ⟨c, r, rfl⟩
  have hc0 : (tl w).head? = some c := by rw [hc]; rfl
  have hwr : w.length = r.length + 1 := by rw [TL.len_tl]; show (tl w).length = _; rw [hc]; rfl
  walk_at "v"
  refine v_ixS0 hc0 (by omega) ?_
  have rest : ¬ ((tl w).head? = some 48 ∧ w ≠ "0") → ∀ (A : Prop), (lo ≤ valOf w ∧ valOf w ≤ hi → finP P (.int ((a + wEnd isD l : Nat) : Int)) M) ∧ (¬ (lo ≤ valOf w ∧ valOf w ≤ hi) → finP P (.int (-1)) M) := fun hz A => by
    rw [if_neg hz] at hbad hgood
    exact ⟨fun k => fin0 (hgood _ (if_pos k)), fun k => fin0 (hbad (if_neg k))⟩
  have hint := int_dig hdig h1' h2'
  walk_at "v"
  refine s_ite (fun h3 => ?_) fun h3 => ?_
  · have h3' : c = 48 := by
      have : (⟨#[c]⟩ : Str) = "0" := by simpa using h3
      rwa [sign0] at this
    walk_at "v"
    refine v_len1 (by omega) ?_
    walk_at "v"
    refine s_ite (fun h4 => ?_) fun h4 => ?_
    · have h4' : 1 < w.length := by have := of_decide_eq_true h4; omega
      walk_at "v"
      refine fin0 (hbad (if_pos ⟨by rw [hc0, h3'], fun e => ?_⟩))
      rw [e] at h4'
      revert h4'
      decide +kernel
    · have h4' : w.length ≤ 1 := by have := of_decide_eq_false h4; omega
      have hw0 : w = "0" := by
        apply TL.ext_tl
        show tl w = tl "0"
        have : r = [] := List.length_eq_zero_iff.mp (by omega)
        rw [hc, this, h3']
        decide +kernel
      obtain ⟨g1, g2⟩ := rest (fun e => e.2 hw0) True
      walk_at "v"
      refine v_int hint (by omega) ?_
      walk_at "v"
      refine s_ite (fun h5 => ?_) fun h5 => ?_
      · have h5' : lo ≤ valOf w := by have := of_decide_eq_true h5; omega
        walk_at "v"
        refine s_ite (fun h6 => ?_) fun h6 => ?_
        · walk_at "v"
          exact g2 fun k => by simp at h6; omega
        · walk_at "v"
          exact g1 ⟨h5', by simp at h6; omega⟩
      · walk_at "v"
        exact g2 fun k => by have := of_decide_eq_false h5; omega
  · have h3' : c ≠ 48 := fun e => by
      have : ¬ (⟨#[c]⟩ : Str) = "0" := by simpa using h3
      rw [sign0] at this
      exact this e
    obtain ⟨g1, g2⟩ := rest (fun e => h3' (by have := e.1; rw [hc0] at this; exact Option.some.inj this)) True
    walk_at "v"
    refine v_int hint (by omega) ?_
    walk_at "v"
    refine s_ite (fun h5 => ?_) fun h5 => ?_
    · have h5' : lo ≤ valOf w := by have := of_decide_eq_true h5; omega
      walk_at "v"
      refine s_ite (fun h6 => ?_) fun h6 => ?_
      · walk_at "v"
        exact g2 fun k => by simp at h6; omega
      · walk_at "v"
        exact g1 ⟨h5', by simp at h6; omega⟩
    · walk_at "v"
      exact g2 fun k => by have := of_decide_eq_false h5; omega
theorem no_law_form_end : ∀ ds M P E, ¬ sp_law_form_end 0 ds M P E := fun ds M P E ⟨x, a, _, _, _, h, _⟩ => by omega
theorem r_form_end {a' : Nat} {i : Int} (hi : i = ((a' : Nat) : Int)) (ho : PyData.strOk x = true) (hx : x.length ≤ 1000000) (hf : fm ((tl x).drop a') < n) (k : Q (.int (resI a' (fEnd n ((tl x).drop a')))) M) : sp_law_form_end n ([.str x, .int i] ++ []) M Q E := by rw [hi]; exact ⟨x, a', rfl, ho, hx, hf, k⟩
theorem r_number_end {a' : Nat} {i : Int} {lo hi : Nat} {j k : Int} (e1 : i = ((a' : Nat) : Int)) (e2 : j = (lo : Int)) (e3 : k = (hi : Int)) (hx : x.length ≤ 1000000) (c : Q (.int (resI a' (nEnd ((tl x).drop a') lo hi))) M) : sp_law_number_end ([.str x, .int i, .int j, .int k] ++ []) M Q E := by rw [e1, e2, e3]; exact ⟨x, a', lo, hi, rfl, hx, c⟩
theorem r_word_end {a' : Nat} {i : Int} {sg : Str} (e1 : i = ((a' : Nat) : Int)) (hx : x.length ≤ 1000000) (c : Q (.int ((a' + wEnd (fun c => decide (c ∈ tl sg)) ((tl x).drop a') : Nat) : Int)) M) : sp_law_word_end ([.str x, .int i, .str sg] ++ []) M Q E := by rw [e1]; exact ⟨x, sg, a', rfl, hx, c⟩
theorem ok_sub {a k : Nat} (ho : PyData.strOk x = true) : PyData.strOk (SX.S (((tl x).drop a).take k)) = true := strOk_tl fun c hc => by
  rw [tl_S] at hc
  have hm := List.mem_of_mem_drop (List.mem_of_mem_take hc)
  unfold PyData.strOk at ho
  rw [← Array.all_toList, List.all_eq_true] at ho
  exact of_decide_eq_true (ho c hm)
theorem ln1 : (" then " : Str).length = 6 := by decide +kernel
theorem ln2 : (" else " : Str).length = 6 := by decide +kernel
theorem ln3 : (" both " : Str).length = 6 := by decide +kernel
theorem ln4 : (" either " : Str).length = 8 := by decide +kernel
theorem q_law_form_end (n : Nat) : Pure ["text", "at", "end", "word", "last"] (sp_law_form_end (n + 1)) (t_law_form_end n) := by
  rintro ds M P PE ⟨x, a, rfl, ho, hx, hf, h⟩
  unfold t_law_form_end
  walk_at "s"; walk_at "v"
  refine v_slK (k := 1) (by omega) hx ?_
  walk_at "v"
  refine s_ite (fun h0 => ?_) fun h0 => ?_
  · have h0' : ((tl x).drop a).take 1 = [40] := by rw [← t_op]; exact S_eq.mp (of_decide_eq_true (by simpa using h0))
    have hf1 := fm_step h0' (by decide)
    rw [fEnd, if_pos h0'] at h
    simp only [List.drop_drop] at h hf1
    walk_at "v"
    refine r_form_end (a' := a + 1) (by omega) ho hx (by omega) ?_
    cases hE : fEnd n ((tl x).drop (a + 1)) with
    | none =>
      simp only [hE, resI] at h ⊢
      walk_at "v"
      refine SpL.h ?_
      walk_at "v"
      refine SpL.h ?_
      walk_at "v"
      refine SpL.h ?_
      walk_at "v"
      refine SpL.h ?_
      walk_at "v"
      refine SpL.h ?_
      walk_at "v"
      exact fin0 h
    | some e =>
      simp only [hE] at h
      simp only [resI]
      rw [Nat.add_assoc a 1 e]
      walk_at "v"
      refine SpL.h ?_
      walk_at "v"
      refine s_iteB (b := true) (decide_eq_true (by omega)) ?_
      walk_at "v"
      refine v_len1 (by rw [ln1]; omega) ?_
      rw [ln1]
      walk_at "v"
      refine v_slK (a := a + (1 + e)) (k := 6) (by omega) hx ?_
      walk_at "v"
      refine s_ite (fun h1 => ?_) fun h1 => ?_
      · have g : ((tl x).drop (a + (1 + e))).take 6 = tl " then " := S_eq.mp (of_decide_eq_true (by simpa using h1))
        have hw : wdAt ((tl x).drop (a + (1 + e))) = some (.then_, 6) := by unfold wdAt; rw [if_pos g]
        simp only [hw] at h
        have hf2 := fm_drop ((tl x).drop (a + 1)) (e + 6)
        rw [List.drop_drop, show a + 1 + (e + 6) = a + (1 + e + 6) from by omega] at hf2
        walk_at "v"
        refine v_len1 (by rw [ln1]; omega) ?_
        rw [ln1]
        walk_at "v"
        refine r_form_end (a' := a + (1 + e + 6)) (by omega) ho hx (by omega) ?_
        cases hE2 : fEnd n ((tl x).drop (a + (1 + e + 6))) with
        | none =>
          simp only [hE2, resI] at h ⊢
          walk_at "v"
          exact fin0 h
        | some e2 =>
          simp only [hE2, resI] at h ⊢
          walk_at "v"
          refine s_iteB (b := true) (decide_eq_true (by omega)) ?_
          walk_at "v"
          refine v_slK (a := a + (1 + e + 6) + e2) (k := 1) (by omega) hx ?_
          walk_at "v"
          refine s_ite (fun hc => ?_) fun hc => ?_
          · have gc : ((tl x).drop (a + (1 + e + 6 + e2))).take 1 = [41] := by rw [← t_cl, ← Nat.add_assoc]; exact S_eq.mp (of_decide_eq_true (by simpa using hc))
            rw [if_pos gc] at h
            walk_at "v"
            refine fin1 ?_ h
            simp only [D.int.injEq]
            omega
          · have gc : ¬ ((tl x).drop (a + (1 + e + 6 + e2))).take 1 = [41] := by
              rw [← t_cl, ← Nat.add_assoc]
              exact fun z => of_decide_eq_false (by simpa using hc) (S_eq.mpr z)
            rw [if_neg gc] at h
            walk_at "v"
            exact fin0 h
      have g1 : ¬ ((tl x).drop (a + (1 + e))).take 6 = tl " then " := fun z => of_decide_eq_false (by simpa using h1) (S_eq.mpr z)
      walk_at "v"
      refine SpL.h ?_
      walk_at "v"
      refine s_iteB (b := true) (decide_eq_true (by omega)) ?_
      walk_at "v"
      refine v_len1 (by rw [ln2]; omega) ?_
      rw [ln2]
      walk_at "v"
      refine v_slK (a := a + (1 + e)) (k := 6) (by omega) hx ?_
      walk_at "v"
      refine s_ite (fun h2 => ?_) fun h2 => ?_
      · have g : ((tl x).drop (a + (1 + e))).take 6 = tl " else " := S_eq.mp (of_decide_eq_true (by simpa using h2))
        have hw : wdAt ((tl x).drop (a + (1 + e))) = some (.else_, 6) := by unfold wdAt; rw [if_neg g1]; rw [if_pos g]
        simp only [hw] at h
        have hf2 := fm_drop ((tl x).drop (a + 1)) (e + 6)
        rw [List.drop_drop, show a + 1 + (e + 6) = a + (1 + e + 6) from by omega] at hf2
        walk_at "v"
        refine v_len1 (by rw [ln2]; omega) ?_
        rw [ln2]
        walk_at "v"
        refine r_form_end (a' := a + (1 + e + 6)) (by omega) ho hx (by omega) ?_
        cases hE2 : fEnd n ((tl x).drop (a + (1 + e + 6))) with
        | none =>
          simp only [hE2, resI] at h ⊢
          walk_at "v"
          exact fin0 h
        | some e2 =>
          simp only [hE2, resI] at h ⊢
          walk_at "v"
          refine s_iteB (b := true) (decide_eq_true (by omega)) ?_
          walk_at "v"
          refine v_slK (a := a + (1 + e + 6) + e2) (k := 1) (by omega) hx ?_
          walk_at "v"
          refine s_ite (fun hc => ?_) fun hc => ?_
          · have gc : ((tl x).drop (a + (1 + e + 6 + e2))).take 1 = [41] := by rw [← t_cl, ← Nat.add_assoc]; exact S_eq.mp (of_decide_eq_true (by simpa using hc))
            rw [if_pos gc] at h
            walk_at "v"
            refine fin1 ?_ h
            simp only [D.int.injEq]
            omega
          · have gc : ¬ ((tl x).drop (a + (1 + e + 6 + e2))).take 1 = [41] := by
              rw [← t_cl, ← Nat.add_assoc]
              exact fun z => of_decide_eq_false (by simpa using hc) (S_eq.mpr z)
            rw [if_neg gc] at h
            walk_at "v"
            exact fin0 h
      have g2 : ¬ ((tl x).drop (a + (1 + e))).take 6 = tl " else " := fun z => of_decide_eq_false (by simpa using h2) (S_eq.mpr z)
      walk_at "v"
      refine SpL.h ?_
      walk_at "v"
      refine s_iteB (b := true) (decide_eq_true (by omega)) ?_
      walk_at "v"
      refine v_len1 (by rw [ln3]; omega) ?_
      rw [ln3]
      walk_at "v"
      refine v_slK (a := a + (1 + e)) (k := 6) (by omega) hx ?_
      walk_at "v"
      refine s_ite (fun h3 => ?_) fun h3 => ?_
      · have g : ((tl x).drop (a + (1 + e))).take 6 = tl " both " := S_eq.mp (of_decide_eq_true (by simpa using h3))
        have hw : wdAt ((tl x).drop (a + (1 + e))) = some (.both, 6) := by unfold wdAt; rw [if_neg g1]; rw [if_neg g2]; rw [if_pos g]
        simp only [hw] at h
        have hf2 := fm_drop ((tl x).drop (a + 1)) (e + 6)
        rw [List.drop_drop, show a + 1 + (e + 6) = a + (1 + e + 6) from by omega] at hf2
        walk_at "v"
        refine v_len1 (by rw [ln3]; omega) ?_
        rw [ln3]
        walk_at "v"
        refine r_form_end (a' := a + (1 + e + 6)) (by omega) ho hx (by omega) ?_
        cases hE2 : fEnd n ((tl x).drop (a + (1 + e + 6))) with
        | none =>
          simp only [hE2, resI] at h ⊢
          walk_at "v"
          exact fin0 h
        | some e2 =>
          simp only [hE2, resI] at h ⊢
          walk_at "v"
          refine s_iteB (b := true) (decide_eq_true (by omega)) ?_
          walk_at "v"
          refine v_slK (a := a + (1 + e + 6) + e2) (k := 1) (by omega) hx ?_
          walk_at "v"
          refine s_ite (fun hc => ?_) fun hc => ?_
          · have gc : ((tl x).drop (a + (1 + e + 6 + e2))).take 1 = [41] := by rw [← t_cl, ← Nat.add_assoc]; exact S_eq.mp (of_decide_eq_true (by simpa using hc))
            rw [if_pos gc] at h
            walk_at "v"
            refine fin1 ?_ h
            simp only [D.int.injEq]
            omega
          · have gc : ¬ ((tl x).drop (a + (1 + e + 6 + e2))).take 1 = [41] := by
              rw [← t_cl, ← Nat.add_assoc]
              exact fun z => of_decide_eq_false (by simpa using hc) (S_eq.mpr z)
            rw [if_neg gc] at h
            walk_at "v"
            exact fin0 h
      have g3 : ¬ ((tl x).drop (a + (1 + e))).take 6 = tl " both " := fun z => of_decide_eq_false (by simpa using h3) (S_eq.mpr z)
      walk_at "v"
      refine SpL.h ?_
      walk_at "v"
      refine s_iteB (b := true) (decide_eq_true (by omega)) ?_
      walk_at "v"
      refine v_len1 (by rw [ln4]; omega) ?_
      rw [ln4]
      walk_at "v"
      refine v_slK (a := a + (1 + e)) (k := 8) (by omega) hx ?_
      walk_at "v"
      refine s_ite (fun h4 => ?_) fun h4 => ?_
      · have g : ((tl x).drop (a + (1 + e))).take 8 = tl " either " := S_eq.mp (of_decide_eq_true (by simpa using h4))
        have hw : wdAt ((tl x).drop (a + (1 + e))) = some (.either, 8) := by unfold wdAt; rw [if_neg g1]; rw [if_neg g2]; rw [if_neg g3]; rw [if_pos g]
        simp only [hw] at h
        have hf2 := fm_drop ((tl x).drop (a + 1)) (e + 8)
        rw [List.drop_drop, show a + 1 + (e + 8) = a + (1 + e + 8) from by omega] at hf2
        walk_at "v"
        refine v_len1 (by rw [ln4]; omega) ?_
        rw [ln4]
        walk_at "v"
        refine r_form_end (a' := a + (1 + e + 8)) (by omega) ho hx (by omega) ?_
        cases hE2 : fEnd n ((tl x).drop (a + (1 + e + 8))) with
        | none =>
          simp only [hE2, resI] at h ⊢
          walk_at "v"
          exact fin0 h
        | some e2 =>
          simp only [hE2, resI] at h ⊢
          walk_at "v"
          refine s_iteB (b := true) (decide_eq_true (by omega)) ?_
          walk_at "v"
          refine v_slK (a := a + (1 + e + 8) + e2) (k := 1) (by omega) hx ?_
          walk_at "v"
          refine s_ite (fun hc => ?_) fun hc => ?_
          · have gc : ((tl x).drop (a + (1 + e + 8 + e2))).take 1 = [41] := by rw [← t_cl, ← Nat.add_assoc]; exact S_eq.mp (of_decide_eq_true (by simpa using hc))
            rw [if_pos gc] at h
            walk_at "v"
            refine fin1 ?_ h
            simp only [D.int.injEq]
            omega
          · have gc : ¬ ((tl x).drop (a + (1 + e + 8 + e2))).take 1 = [41] := by
              rw [← t_cl, ← Nat.add_assoc]
              exact fun z => of_decide_eq_false (by simpa using hc) (S_eq.mpr z)
            rw [if_neg gc] at h
            walk_at "v"
            exact fin0 h
      have g4 : ¬ ((tl x).drop (a + (1 + e))).take 8 = tl " either " := fun z => of_decide_eq_false (by simpa using h4) (S_eq.mpr z)
      walk_at "v"
      refine SpL.h ?_
      walk_at "v"
      have hw : wdAt ((tl x).drop (a + (1 + e))) = none := by unfold wdAt; rw [if_neg g1, if_neg g2, if_neg g3, if_neg g4]
      simp only [hw] at h
      exact fin0 h
  have h0' : ¬ ((tl x).drop a).take 1 = [40] := by
    rw [← t_op]
    exact fun z => of_decide_eq_false (by simpa using h0) (S_eq.mpr z)
  rw [fEnd, if_neg h0'] at h
  simp only [List.drop_drop] at h
  clear h0
  walk_at "v"
  refine v_slK (k := 4) (by omega) hx ?_
  have io : OkS (SX.S (((tl x).drop a).take 4)) := ⟨ok_sub ho⟩
  walk_at "v"
  refine s_ite (fun h1 => ?_) fun h1 => ?_
  · have h1' : ((tl x).drop a).take 4 = tl "fail" ∨ ((tl x).drop a).take 4 = tl "hole" := by
      have : SX.S (((tl x).drop a).take 4) ∈ [("fail" : Str), "hole"] := by simpa using h1
      simp only [List.mem_cons, List.not_mem_nil, or_false] at this
      exact this.imp S_eq.mp S_eq.mp
    rw [if_pos h1'] at h
    walk_at "v"
    exact fin0 h
  have h1' : ¬ (((tl x).drop a).take 4 = tl "fail" ∨ ((tl x).drop a).take 4 = tl "hole") := fun z => by
    have : SX.S (((tl x).drop a).take 4) ∈ [("fail" : Str), "hole"] := by
      simp only [List.mem_cons, List.not_mem_nil, or_false]
      exact z.imp S_eq.mpr S_eq.mpr
    simp [this] at h1
  rw [if_neg h1'] at h
  clear h1 h1' io
  walk_at "v"
  refine v_slK (k := 5) (by omega) hx ?_
  walk_at "v"
  refine s_ite (fun h2 => ?_) fun h2 => ?_
  · have h2' : ((tl x).drop a).take 5 = tl "call " := S_eq.mp (of_decide_eq_true (by simpa using h2))
    rw [if_pos h2'] at h
    walk_at "v"
    refine r_word_end (a' := a + 5) (by omega) hx ?_
    rw [let_fn]
    generalize wEnd isL ((tl x).drop (a + 5)) = k at h ⊢
    walk_at "v"
    refine s_ite (fun c1 => ?_) fun c1 => ?_
    · have c1' : 1 ≤ k := by have := of_decide_eq_true c1; omega
      walk_at "v"
      refine s_ite (fun c2 => ?_) fun c2 => ?_
      · have c2' : k ≤ 8 := by have := of_decide_eq_true c2; omega
        rw [if_pos ⟨c1', c2'⟩] at h
        walk_at "v"
        refine fin1 ?_ h
        simp only [resI, D.int.injEq]
        omega
      · have c2' : ¬ k ≤ 8 := by have := of_decide_eq_false c2; omega
        rw [if_neg (fun z => c2' z.2)] at h
        walk_at "v"
        exact fin0 h
    · have c1' : ¬ 1 ≤ k := by have := of_decide_eq_false c1; omega
      rw [if_neg (fun z => c1' z.1)] at h
      walk_at "v"
      exact fin0 h
  have h2' : ¬ ((tl x).drop a).take 5 = tl "call " := fun z => of_decide_eq_false (by simpa using h2) (S_eq.mpr z)
  rw [if_neg h2'] at h
  clear h2 h2'
  walk_at "v"
  refine v_slK (k := 6) (by omega) hx ?_
  walk_at "v"
  refine s_ite (fun h3 => ?_) fun h3 => ?_
  · have h3' : ((tl x).drop a).take 6 = tl "pause " := S_eq.mp (of_decide_eq_true (by simpa using h3))
    rw [if_pos h3'] at h
    walk_at "v"
    refine v_pow (by decide) (by decide) (by decide) ?_
    walk_at "v"
    refine r_number_end (a' := a + 6) (lo := 0) (hi := maxN) (by omega) rfl (by decide) hx ?_
    cases hE : nEnd ((tl x).drop (a + 6)) 0 maxN with
    | none =>
      simp only [hE, Option.map_none, resI] at h ⊢
      exact fin0 h
    | some k =>
      simp only [hE, Option.map_some, resI] at h ⊢
      refine fin1 ?_ h
      simp only [D.int.injEq]
      omega
  have h3' : ¬ ((tl x).drop a).take 6 = tl "pause " := fun z => of_decide_eq_false (by simpa using h3) (S_eq.mpr z)
  rw [if_neg h3'] at h
  clear h3 h3'
  walk_at "v"
  refine v_slK (k := 9) (by omega) hx ?_
  walk_at "v"
  refine s_ite (fun h4 => ?_) fun h4 => ?_
  · have h4' : ((tl x).drop a).take 9 = tl "within ? " := S_eq.mp (of_decide_eq_true (by simpa using h4))
    rw [if_pos h4'] at h
    have hf1 := fm_step h4' (by rw [t_withq]; decide)
    rw [List.drop_drop] at hf1
    walk_at "v"
    refine r_form_end (a' := a + 9) (by omega) ho hx (by omega) ?_
    cases hE : fEnd n ((tl x).drop (a + 9)) with
    | none =>
      simp only [hE, Option.map_none, resI] at h ⊢
      exact fin0 h
    | some k =>
      simp only [hE, Option.map_some, resI] at h ⊢
      refine fin1 ?_ h
      simp only [D.int.injEq]
      omega
  have h4' : ¬ ((tl x).drop a).take 9 = tl "within ? " := fun z => of_decide_eq_false (by simpa using h4) (S_eq.mpr z)
  rw [if_neg h4'] at h
  clear h4 h4'
  walk_at "v"
  refine v_slK (k := 7) (by omega) hx ?_
  walk_at "v"
  refine s_ite (fun h5 => ?_) fun h5 => ?_
  · have h5' : ((tl x).drop a).take 7 = tl "within " := S_eq.mp (of_decide_eq_true (by simpa using h5))
    rw [if_pos h5'] at h
    have hf1 := fm_step h5' (by rw [t_within]; decide)
    rw [List.drop_drop] at hf1
    have h6' : ¬ ((tl x).drop a).take 6 = tl "retry " := fun z => by
      have e : ((tl x).drop a).take 6 = (((tl x).drop a).take 7).take 6 := by rw [List.take_take]; rfl
      rw [h5', z, t_within, t_retry] at e
      exact absurd e (by decide)
    walk_at "v"
    refine v_pow (by decide) (by decide) (by decide) ?_
    walk_at "v"
    refine r_number_end (a' := a + 7) (lo := 0) (hi := maxN) (by omega) rfl (by decide) hx ?_
    walk_at "v"
    refine v_slK (k := 6) (by omega) hx ?_
    walk_at "v"
    refine s_iteB (b := false) (decide_eq_false fun z => h6' (S_eq.mp z)) ?_
    cases hE : nEnd ((tl x).drop (a + 7)) 0 maxN with
    | none =>
      simp only [hE, resI] at h ⊢
      walk_at "v"
      exact fin0 h
    | some k =>
      simp only [hE] at h
      simp only [resI]
      have hf2 := fm_drop ((tl x).drop (a + 7)) (k + 1)
      rw [List.drop_drop, show a + 7 + (k + 1) = a + (7 + k + 1) from by omega] at hf2
      rw [Nat.add_assoc a 7 k]
      walk_at "v"
      refine s_iteB (b := true) (decide_eq_true (by omega)) ?_
      walk_at "v"
      refine v_slK (a := a + (7 + k)) (k := 1) (by omega) hx ?_
      walk_at "v"
      refine s_ite (fun hs => ?_) fun hs => ?_
      · have gs : ((tl x).drop (a + (7 + k))).take 1 = [32] := by rw [← t_sp]; exact S_eq.mp (of_decide_eq_true (by simpa using hs))
        rw [if_pos gs] at h
        walk_at "v"
        refine r_form_end (a' := a + (7 + k + 1)) (by omega) ho hx (by omega) ?_
        cases hE2 : fEnd n ((tl x).drop (a + (7 + k + 1))) with
        | none =>
          simp only [hE2, Option.map_none, resI] at h ⊢
          exact fin0 h
        | some j =>
          simp only [hE2, Option.map_some, resI] at h ⊢
          refine fin1 ?_ h
          simp only [D.int.injEq]
          omega
      · have gs : ¬ ((tl x).drop (a + (7 + k))).take 1 = [32] := by
          rw [← t_sp]
          exact fun z => of_decide_eq_false (by simpa using hs) (S_eq.mpr z)
        rw [if_neg gs] at h
        walk_at "v"
        exact fin0 h
  have h5' : ¬ ((tl x).drop a).take 7 = tl "within " := fun z => of_decide_eq_false (by simpa using h5) (S_eq.mpr z)
  rw [if_neg h5'] at h
  clear h5 h5'
  walk_at "v"
  refine v_slK (k := 6) (by omega) hx ?_
  walk_at "v"
  refine s_ite (fun h6 => ?_) fun h6 => ?_
  · have h6' : ((tl x).drop a).take 6 = tl "retry " := S_eq.mp (of_decide_eq_true (by simpa using h6))
    rw [if_pos h6'] at h
    have hf1 := fm_step h6' (by rw [t_retry]; decide)
    rw [List.drop_drop] at hf1
    walk_at "v"
    refine r_number_end (a' := a + 6) (lo := 1) (hi := 8) (by omega) rfl rfl hx ?_
    cases hE : nEnd ((tl x).drop (a + 6)) 1 8 with
    | none =>
      simp only [hE, resI] at h ⊢
      walk_at "v"
      exact fin0 h
    | some k =>
      simp only [hE] at h
      simp only [resI]
      rw [Nat.add_assoc a 6 k]
      walk_at "v"
      refine s_iteB (b := true) (decide_eq_true (by omega)) ?_
      walk_at "v"
      refine v_slK (a := a + (6 + k)) (k := 1) (by omega) hx ?_
      walk_at "v"
      refine s_ite (fun hs => ?_) fun hs => ?_
      · have gs : ((tl x).drop (a + (6 + k))).take 1 = [32] := by rw [← t_sp]; exact S_eq.mp (of_decide_eq_true (by simpa using hs))
        rw [if_pos gs] at h
        walk_at "v"
        refine v_pow (by decide) (by decide) (by decide) ?_
        walk_at "v"
        refine r_number_end (a' := a + (6 + k + 1)) (lo := 0) (hi := maxN) (by omega) rfl (by decide) hx ?_
        cases hE2 : nEnd ((tl x).drop (a + (6 + k + 1))) 0 maxN with
        | none =>
          simp only [hE2, resI] at h ⊢
          walk_at "v"
          exact fin0 h
        | some j =>
          simp only [hE2] at h
          simp only [resI]
          have hf2 := fm_drop ((tl x).drop (a + 6)) (k + 1 + j + 1)
          rw [List.drop_drop, show a + 6 + (k + 1 + j + 1) = a + (6 + k + 1 + j + 1) from by omega] at hf2
          rw [Nat.add_assoc a (6 + k + 1) j]
          walk_at "v"
          refine s_iteB (b := true) (decide_eq_true (by omega)) ?_
          walk_at "v"
          refine v_slK (a := a + (6 + k + 1 + j)) (k := 1) (by omega) hx ?_
          walk_at "v"
          refine s_ite (fun hs2 => ?_) fun hs2 => ?_
          · have gs2 : ((tl x).drop (a + (6 + k + 1 + j))).take 1 = [32] := by rw [← t_sp]; exact S_eq.mp (of_decide_eq_true (by simpa using hs2))
            rw [if_pos gs2] at h
            walk_at "v"
            refine r_form_end (a' := a + (6 + k + 1 + j + 1)) (by omega) ho hx (by omega) ?_
            cases hE3 : fEnd n ((tl x).drop (a + (6 + k + 1 + j + 1))) with
            | none =>
              simp only [hE3, Option.map_none, resI] at h ⊢
              exact fin0 h
            | some i =>
              simp only [hE3, Option.map_some, resI] at h ⊢
              refine fin1 ?_ h
              simp only [D.int.injEq]
              omega
          · have gs2 : ¬ ((tl x).drop (a + (6 + k + 1 + j))).take 1 = [32] := by
              rw [← t_sp]
              exact fun z => of_decide_eq_false (by simpa using hs2) (S_eq.mpr z)
            rw [if_neg gs2] at h
            walk_at "v"
            exact fin0 h
      · have gs : ¬ ((tl x).drop (a + (6 + k))).take 1 = [32] := by
          rw [← t_sp]
          exact fun z => of_decide_eq_false (by simpa using hs) (S_eq.mpr z)
        rw [if_neg gs] at h
        walk_at "v"
        exact fin0 h
  have h6' : ¬ ((tl x).drop a).take 6 = tl "retry " := fun z => of_decide_eq_false (by simpa using h6) (S_eq.mpr z)
  rw [if_neg h6'] at h
  walk_at "v"
  exact fin0 h
end
section
variable {M : Store} {Q : D → Store → Prop} {E : DX} {n : Nat} {t u : Tr} {p q : Addr} {f : Feed} {x : Str}
theorem r_parse (h : wf t = true) (hd : dp t ≤ 120) (hl : (txt t).length ≤ 500000) (k : Q (planO t) M) : sp_Plan_parse [.cls "Plan", .str (txt t)] M Q E := by
  have e := read_txt h hd
  refine ⟨txt t, rfl, ⟨by omega, txt_ok h⟩, hl, ?_⟩
  rw [e]
  refine ⟨(by intro z; cases z), (fun z => by cases z), fun t' s z => ?_⟩
  cases z
  exact ⟨by omega, fun _ => k, fun z => absurd rfl z⟩
theorem asO_plan : (asO M ("Plan" : Str) (planO t)).isSome = true := by simp [asO, planO]
theorem v_strO (hl : (txt t).length ≤ 1000000) (k : Q (.str (txt t)) M) : rcStrO "Plan" sp_Plan_str [planO t] M Q := ⟨asO_plan, t, rfl, hl, ⟨_, rfl⟩, k⟩
instance {neg : Bool} : Sp (rdIs neg (planO t) .non M Q) (Q (.bl (neg != false)) M) := ⟨fun h => h⟩
theorem good_iff (hf : fm (tl x) < 120) : resI 0 (fEnd 120 (tl x)) = (x.length : Int) ↔ ∃ t, wf t = true ∧ txt t = x := by
  have hx2 : (tl x).length = x.length := (TL.len_tl x).symm
  constructor
  · intro h
    cases e : fEnd 120 (tl x) with
    | none => rw [e] at h; simp only [resI] at h; omega
    | some k =>
      rw [e] at h
      simp only [resI] at h
      obtain ⟨t, r, hw, h1, h2⟩ := fEnd_sound _ _ _ e
      refine ⟨t, hw, TL.ext_tl ?_⟩
      have hr : r = [] := by
        have := congrArg List.length h1
        rw [List.length_append] at this
        exact List.length_eq_zero_iff.mp (by omega)
      rw [hr, List.append_nil] at h1
      exact h1.symm
  · rintro ⟨t, hw, rfl⟩
    have hm := md_fm t
    have := fEnd_full t 120 [] hw (Nat.lt_of_le_of_lt hm hf) fol_nil
    rw [List.append_nil] at this
    show resI 0 (fEnd 120 (tx t)) = _
    rw [this]
    simp only [resI, Nat.zero_add]
    have : (tx t).length = (txt t).length := hx2
    omega
theorem q_law_is_right : Pure ["text", "good", "made", "error"] sp_law_is_right t_law_is_right := by
  rintro ds M P PE ⟨x, rfl, ho, hl, hf, hc, h⟩
  unfold t_law_is_right
  walk_at "s"; walk_at "v"
  refine r_form_end (a' := 0) rfl ho (by omega) (by rw [List.drop_zero]; exact hf) ?_
  rw [List.drop_zero]
  walk_at "v"
  refine v_len1 (by omega) ?_
  walk_at "v"
  have hg := good_iff hf
  simp only [dTryAs]
  by_cases hh : ∃ t, wf t = true ∧ txt t = x
  · rw [decide_eq_true (hg.mpr hh)]
    obtain ⟨t, hw, hd, rfl⟩ : ∃ t, wf t = true ∧ dp t ≤ 120 ∧ txt t = x := by
      rcases hc with hc | ⟨t, a, b, c⟩
      · obtain ⟨t, a, b⟩ := hh
        refine ⟨t, a, ?_, b⟩
        have := dp_cc t
        have e : tx t = tl x := by rw [← b]; rfl
        rw [e] at this
        omega
      · exact ⟨t, a, c, b⟩
    walk_at "v"
    refine r_parse hw hd (by omega) ?_
    walk_at "v"
    refine v_strO (by omega) ?_
    walk_at "v"
    refine fin1 ?_ h
    simp
  · rw [decide_eq_false fun z => hh (hg.mp z)]
    walk_at "v"
    have hcc : cc (tl x) < 120 := by
      rcases hc with hc | ⟨t, a, b, c⟩
      · exact hc
      · exact absurd ⟨t, a, b⟩ hh
    refine ⟨x, rfl, ⟨by omega, ho⟩, by omega, (form_in 120).1 _ (Nat.lt_of_le_of_lt (mw_words x) hcc), fun _ => ?_, fun t s e => ⟨?_, fun z => absurd ⟨t, ((pForm_wf 120).1 _ _ _ e).1, z⟩ hh, fun _ => ?_⟩⟩
    · refine ⟨true, by simp [mtL], fun _ a => ?_, fun e => by cases e⟩
      simp only [List.set_cons_succ, List.set_cons_zero]
      walk_at "v"
      simp only [offE, List.set_cons_succ, List.set_cons_zero]
      walk_at "v"
      refine fin1 ?_ h
      simp [isNonD]
    · have h1 := (form_nd 120).1 _ _ _ e
      have h2 := words_count x
      have h3 := txt_len ((pForm_wf 120).1 _ _ _ e).1
      omega
    · refine ⟨true, by simp [mtL], fun _ a => ?_, fun e => by cases e⟩
      simp only [List.set_cons_succ, List.set_cons_zero]
      walk_at "v"
      simp only [offE, List.set_cons_succ, List.set_cons_zero]
      walk_at "v"
      refine fin1 ?_ h
      simp [isNonD]
/-- what a spoilt text keeps -/
structure Txo (x y : Str) : Prop where
  ok : PyData.strOk y = true
  l : y.length ≤ 2 * x.length + 100
  c : cc (tl y) ≤ max (2 * cc (tl x)) (cc (tl x) + 2)
theorem ok_S {l : List Nat} (ho : PyData.strOk x = true) (h : ∀ c ∈ l, c ∈ tl x) : PyData.strOk (SX.S l) = true := strOk_tl fun c hc => by
  rw [tl_S] at hc
  exact (strOk_iff x).mp ho c (h c hc)
theorem len_S (l : List Nat) : (SX.S l).length = l.length := (TL.len_tl (SX.S l)).trans (congrArg List.length (tl_S l))
theorem tx1 {w : Str} (ho : PyData.strOk x = true) (hw : PyData.strOk w = true) (wl : w.length ≤ 40) (wc : cc (tl w) ≤ 2) {k j : Nat} (hj : k ≤ j) : Txo x (SX.S ((tl x).take k) ++ w ++ SX.S ((tl x).drop j)) := by
  have hx2 : (tl x).length = x.length := (TL.len_tl x).symm
  refine ⟨ok_app (ok_app (ok_S ho fun c hc => List.mem_of_mem_take hc) hw) (ok_S ho fun c hc => List.mem_of_mem_drop hc), ?_, ?_⟩
  · rw [len_app, len_app, len_S ((tl x).take k), len_S ((tl x).drop j), List.length_take, List.length_drop]; omega
  · rw [tl_app, tl_app, tl_S ((tl x).take k), tl_S ((tl x).drop j), cc_app, cc_app]
    have h1 : cc ((tl x).drop j) ≤ cc ((tl x).drop k) := by
      have := cc_drop ((tl x).drop k) (j - k)
      rw [List.drop_drop, show k + (j - k) = j from by omega] at this
      exact this
    have h2 := cc_app ((tl x).take k) ((tl x).drop k)
    rw [List.take_append_drop] at h2
    omega
theorem tx0 (ho : PyData.strOk x = true) {k j : Nat} (hj : k ≤ j) : Txo x (SX.S ((tl x).take k) ++ SX.S ((tl x).drop j)) := by
  have := tx1 (w := Str.empty) ho (by decide +kernel) (by decide +kernel) (by decide +kernel) hj
  rw [str_nil] at this
  exact this
theorem v_slTo {k : Nat} {i : Int} (hi : i = (k : Int)) (hx : x.length ≤ 1000000) (h : Q (.str (SX.S ((tl x).take k))) M) : rdSl (.str x) none (some i) M Q := by
  refine ⟨by rw [sizeLine_eq]; omega, ?_⟩
  have e : cutS x none (some i) = SX.S ((tl x).take k) := by
    apply TL.ext_tl
    show tl (cutS x _ _) = tl (SX.S _)
    rw [tl_S]
    have e2 : HT.sIx x.length x.length (some i) = min k x.length := by rw [hi]; exact HT.sIx_nat _ _ _
    have hx2 : (tl x).length = x.length := (TL.len_tl x).symm
    unfold cutS
    rw [HT.sIx_none, e2, Nat.sub_zero, List.drop_zero]
    show (tl x).take (min k x.length) = _
    rw [← hx2, List.take_eq_take_iff]
    omega
  rw [e]
  exact h
theorem v_slFrom {k : Nat} {i : Int} (hi : i = (k : Int)) (hx : x.length ≤ 1000000) (h : Q (.str (SX.S ((tl x).drop k))) M) : rdSl (.str x) (some i) none M Q := by
  refine ⟨by rw [sizeLine_eq]; omega, ?_⟩
  have e : cutS x (some i) none = SX.S ((tl x).drop k) := by
    apply TL.ext_tl
    show tl (cutS x _ _) = tl (SX.S _)
    rw [tl_S]
    have e2 : HT.sIx x.length 0 (some i) = min k x.length := by rw [hi]; exact HT.sIx_nat _ _ _
    have hx2 : (tl x).length = x.length := (TL.len_tl x).symm
    unfold cutS
    rw [HT.sIx_none, e2]
    show ((tl x).drop (min k x.length)).take (x.length - min k x.length) = _
    rw [List.take_of_length_le (by rw [List.length_drop, hx2]; omega)]
    rcases Nat.le_total k x.length with h1 | h1
    · rw [Nat.min_eq_left h1]
    · rw [Nat.min_eq_right h1, List.drop_eq_nil_of_le (by omega), List.drop_eq_nil_of_le (by omega)]
  rw [e]
  exact h
theorem r_pickL {L : List D} (hne : L ≠ []) (h1 : L.length < 1000000000) (hp : M p = some (feedL f)) (k : ∀ y f', y ∈ L → Q y (updM M p (feedL f'))) : sp_law_pick ([.ref p, .lst L] ++ []) M Q E :=
  ⟨p, f, L, rfl, hp, hne, by omega, k⟩
theorem sign_ok {S : Str} {y : D} (hS : PyData.strOk S = true) (hy : y ∈ signsD S ++ [D.str "  ", .str "then", .str "call ", .str (Txt.mul "0" 11), .str (Txt.mul "9" 40), .str "retry 2 ", .str "within ? "]) : ∃ w : Str, y = .str w ∧ PyData.strOk w = true ∧ w.length ≤ 40 ∧ cc (tl w) ≤ 2 := by
  rcases List.mem_append.mp hy with hy | hy
  · obtain ⟨c, hc, rfl⟩ := List.mem_map.mp hy
    refine ⟨⟨#[c]⟩, rfl, strOk_tl fun z hz => ?_, (by show 1 ≤ 40; decide), ?_⟩
    · have : z = c := by simpa [tl] using hz
      rw [this]
      exact (strOk_iff S).mp hS c hc
    · show cc [c] ≤ 2
      unfold cc fm
      have h1 : List.countP (· == 40) [c] ≤ 1 := List.countP_le_length
      have h2 : List.countP isF [c] ≤ 1 := List.countP_le_length
      omega
  · simp only [List.mem_cons, List.not_mem_nil, or_false] at hy
    rcases hy with rfl | rfl | rfl | rfl | rfl | rfl | rfl <;> exact ⟨_, rfl, by decide +kernel, by decide +kernel, by decide +kernel⟩
instance {to te : DTE} {ρ : Ro} : Sp (dSplitM to te ρ M Q) (to ρ M fun x M1 => mJn x (te ρ M1 fun y M2 => rmSplitM x y M2 Q)) := ⟨fun h => h⟩
instance {to ti : DTE} {t : DSet} {d : D} {ρ : Ro} {Qr : Ro → Store → Prop} : Sp (dgSub to ti t d ρ M Qr) (to ρ M fun o M1 => ti ρ M1 fun i M2 => t o i d M2 fun M3 => Qr ρ M3) := ⟨fun h => h⟩
theorem v_lenR {ds : List D} (hq : M q = some (.lst ds)) (k : Q (.int (ds.length : Int)) M) : rcLen [.ref q] M Q := by
  simp only [rcLen, asS, asR, asL, hq]
  exact k
theorem v_addRb {xs ys : List D} (hq : M q = some (.lst xs)) (hl : xs.length + ys.length ≤ 100000) (k : Q (.lst (xs ++ ys)) M) : rdAdd (.ref q) (.lst ys) M Q := by
  simp only [rdAdd, asL, hq]
  exact ⟨by rw [sizeLine_eq]; omega, k⟩
theorem v_addLL {xs ys : List D} (hl : xs.length + ys.length ≤ 1000000) (k : Q (.lst (xs ++ ys)) M) : rdAdd (.lst xs) (.lst ys) M Q := by
  simp only [rdAdd, asL]
  exact ⟨by rw [sizeLine_eq]; omega, k⟩
theorem v_setL {ws : List Str} {k : Nat} {w : Str} {K : Store → Prop} (hq : M q = some (.lst (ws.map .str))) (hk : k < ws.length) (c : K (updM M q (.lst ((ws.set k w).map .str)))) : rdSetL (.ref q) (.int (k : Int)) (.str w) M K := by
  have e : ixN (ws.map D.str).length (k : Int) = some k := by
    have := ixN_of (n := (ws.map D.str).length) (i := (k : Int)) (by omega) (by rw [List.length_map]; omega)
    simpa using this
  simp only [rdSetL, hq, e]
  rw [← List.map_set]
  exact c
theorem v_joinR {ys : List Str} {s : Str} (hq : M q = some (.lst (ys.map .str))) (h : (ys.map (·.length)).sum + ys.length * s.length ≤ 16777216) (k : Q (.str (Str.join s ys)) M) : rmJoin (.str s) (.ref q) M Q := by
  simp only [rmJoin, asS, asR, asL, hq, toSs_map]
  refine ⟨h, ?_⟩
  rw [TL.join_eq]
  exact k
theorem v_slR0 {ws : List Str} {k : Nat} {i : Int} (hi : i = (k : Int)) (hq : M q = some (.lst (ws.map .str))) (c : Q (.lst ((ws.take k).map .str)) M) : rdSl (.ref q) none (some i) M Q := by
  have e2 : HT.sIx (ws.map D.str).length (ws.map D.str).length (some i) = min k (ws.map D.str).length := by rw [hi]; exact HT.sIx_nat _ _ _
  have e : DL.cutD (ws.map .str) none (some i) = (ws.take k).map .str := by
    unfold DL.cutD
    rw [HT.sIx_none, e2, Nat.sub_zero, List.drop_zero, List.map_take, List.take_eq_take_iff]
    omega
  simp only [rdSl, asR, asL, hq]
  rw [e]
  exact c
theorem v_slR1 {ws : List Str} {k : Nat} {i : Int} (hi : i = (k : Int)) (hq : M q = some (.lst (ws.map .str))) (c : Q (.lst ((ws.drop k).map .str)) M) : rdSl (.ref q) (some i) none M Q := by
  have e2 : HT.sIx (ws.map D.str).length 0 (some i) = min k (ws.map D.str).length := by rw [hi]; exact HT.sIx_nat _ _ _
  have e : DL.cutD (ws.map .str) (some i) none = (ws.drop k).map .str := by
    unfold DL.cutD
    rw [HT.sIx_none, e2, List.take_of_length_le (by rw [List.length_drop]; omega), List.map_drop]
    rcases Nat.le_total k (ws.map D.str).length with h1 | h1
    · rw [Nat.min_eq_left h1]
    · rw [Nat.min_eq_right h1, List.drop_eq_nil_of_le (Nat.le_refl _), List.drop_eq_nil_of_le h1]
  simp only [rdSl, asR, asL, hq]
  rw [e]
  exact c
theorem v_slR2 {ws : List Str} {k : Nat} {i j : Int} (hi : i = (k : Int)) (hj : j = (k : Int) + 1) (hk : k < ws.length) (hq : M q = some (.lst (ws.map .str))) (c : Q (.lst (((ws.drop k).take 1).map .str)) M) : rdSl (.ref q) (some i) (some j) M Q := by
  have e2 : HT.sIx (ws.map D.str).length 0 (some i) = min k (ws.map D.str).length := by rw [hi]; exact HT.sIx_nat _ _ _
  have e3 : HT.sIx (ws.map D.str).length (ws.map D.str).length (some j) = min (k + 1) (ws.map D.str).length := by
    rw [hj, show (k : Int) + 1 = ((k + 1 : Nat) : Int) from by omega]
    exact HT.sIx_nat _ _ _
  have e : DL.cutD (ws.map .str) (some i) (some j) = ((ws.drop k).take 1).map .str := by
    unfold DL.cutD
    have hl : (ws.map D.str).length = ws.length := List.length_map _
    rw [e2, e3, hl, Nat.min_eq_left (by omega), Nat.min_eq_left (by omega), Nat.add_sub_cancel_left, List.map_take, List.map_drop]
  simp only [rdSl, asR, asL, hq]
  rw [e]
  exact c
theorem v_mulLL {ws : List Str} {m : Nat} {i : Int} (hi : i = (m : Int)) (hm : m ≤ 2) (hl : ws.length ≤ 1000) (c : Q (.lst ((List.replicate m ws).flatten.map .str)) M) : rdMul (.lst (ws.map .str)) (.int i) M Q := by
  rw [hi]
  have e : (List.replicate m (ws.map D.str)).flatten = (List.replicate m ws).flatten.map D.str := by simp [List.map_flatten]
  simp only [rdMul, asL]
  refine ⟨by omega, by omega, ?_, ?_⟩
  · rw [List.length_map, Int.toNat_natCast, sizeLine_eq]
    have : ws.length * m ≤ 1000 * 2 := Nat.mul_le_mul hl hm
    omega
  · rw [Int.toNat_natCast, e]
    exact c
theorem subQ2 {M1 M2 : Store} (h : ∀ a, a ≠ q → M2 a = M1 a) (hq : M1 q = none) : SubM M1 M2 := fun a m e => by
  have : a ≠ q := fun z => by rw [z, hq] at e; cases e
  rw [h a this]
  exact e
theorem word_ok {ws : List Str} {y : D} (W : Wds x ws) (hy : y ∈ ws.map D.str ++ [D.str "0", .str "00", .str "01", .str "8", .str "9", .str "1000000000", .str "1000000001", .str "?", .str "+1", .str "-1", .str "1_0", .str ""]) : ∃ w : Str, y = .str w ∧ PyData.strOk w = true ∧ w.length ≤ x.length + 12 ∧ cc (tl w) ≤ cc (tl x) := by
  rcases List.mem_append.mp hy with hy | hy
  · obtain ⟨w, hw, rfl⟩ := List.mem_map.mp hy
    have h1 := sum_mem (fun w : Str => w.length) hw
    have h2 := sum_mem (fun w : Str => cc (tl w)) hw
    have := W.l
    have := W.c
    have : 1 ≤ ws.length := List.length_pos_iff.mpr (fun e => by rw [e] at hw; cases hw)
    exact ⟨w, rfl, W.ok w hw, by omega, by omega⟩
  · have k : ∀ w ∈ [("0" : Str), "00", "01", "8", "9", "1000000000", "1000000001", "?", "+1", "-1", "1_0", ""], PyData.strOk w = true ∧ w.length ≤ 12 ∧ cc (tl w) ≤ 0 := by decide +kernel
    have e : [D.str "0", .str "00", .str "01", .str "8", .str "9", .str "1000000000", .str "1000000001", .str "?", .str "+1", .str "-1", .str "1_0", .str ""] = [("0" : Str), "00", "01", "8", "9", "1000000000", "1000000001", "?", "+1", "-1", "1_0", ""].map D.str := rfl
    rw [e] at hy
    obtain ⟨w, hw, rfl⟩ := List.mem_map.mp hy
    obtain ⟨h1, h2, h3⟩ := k w hw
    exact ⟨w, rfl, h1, by omega, by omega⟩
theorem q_law_spoilt : Pure ["feed", "text", "at", "more", "signs", "sign", "case", "words", "k", "odd"] sp_law_spoilt t_law_spoilt := by
  rintro ds M P PE ⟨p, f, x, rfl, hp, ho, hl, h⟩
  have fin : ∀ {y : Str} {f'}, Txo x y → finP P (.str y) (updM M p (feedL f')) := fun t => fin0 (h _ _ t.ok t.l t.c)
  unfold t_law_spoilt
  walk_at "s"; walk_at "v"
  refine v_len1 (by omega) ?_
  walk_at "v"
  refine r_take hp (by omega) (by omega) fun k f1 k0 k1 => ?_
  obtain ⟨k, rfl⟩ := Int.eq_ofNat_of_zero_le k0
  walk_at "v"
  refine ⟨by unfold MulOk; decide, ?_⟩
  walk_at "v"
  refine ⟨by unfold MulOk; decide, ?_⟩
  walk_at "v"
  refine ⟨by decide +kernel, ?_⟩
  walk_at "v"
  refine s_addL (by rw [sizeLine_eq]; decide +kernel) ?_
  walk_at "v"
  refine r_pickL (List.append_ne_nil_of_right_ne_nil _ (List.cons_ne_nil _ _)) (by decide +kernel) updM_same fun y f2 hy => ?_
  obtain ⟨w, rfl, wo, wl, wc⟩ := sign_ok (by decide +kernel) hy
  clear hy
  rw [updM_updM]
  walk_at "v"
  refine r_takeU (by decide) (by decide) fun cs f3 _ _ => ?_
  walk_at "v"
  refine s_ite (fun c => ?_) fun c => ?_
  · walk_at "v"
    refine v_slTo (k := k) rfl (by omega) ?_
    walk_at "v"
    refine v_slFrom (k := k + 1) (by omega) (by omega) ?_
    walk_at "v"
    refine v_addS (by rw [len_S ((tl x).take k), len_S ((tl x).drop (k + 1)), List.length_take, List.length_drop]; have : (tl x).length = x.length := (TL.len_tl x).symm; omega) ?_
    exact fin (tx0 ho (by omega))
  clear c
  walk_at "v"
  refine s_ite (fun c => ?_) fun c => ?_
  · walk_at "v"
    refine v_slTo (k := k) rfl (by omega) ?_
    walk_at "v"
    refine v_addS (by rw [len_S ((tl x).take k), List.length_take]; have : (tl x).length = x.length := (TL.len_tl x).symm; omega) ?_
    walk_at "v"
    refine v_slFrom (k := k) (by omega) (by omega) ?_
    walk_at "v"
    refine v_addS (by rw [len_app, len_S ((tl x).take k), len_S ((tl x).drop k), List.length_take, List.length_drop]; have : (tl x).length = x.length := (TL.len_tl x).symm; omega) ?_
    exact fin (tx1 ho wo wl wc (Nat.le_refl _))
  clear c
  walk_at "v"
  refine s_ite (fun c => ?_) fun c => ?_
  · walk_at "v"
    refine v_slTo (k := k) rfl (by omega) ?_
    walk_at "v"
    refine v_addS (by rw [len_S ((tl x).take k), List.length_take]; have : (tl x).length = x.length := (TL.len_tl x).symm; omega) ?_
    walk_at "v"
    refine v_slFrom (k := k + 1) (by omega) (by omega) ?_
    walk_at "v"
    refine v_addS (by rw [len_app, len_S ((tl x).take k), len_S ((tl x).drop (k + 1)), List.length_take, List.length_drop]; have : (tl x).length = x.length := (TL.len_tl x).symm; omega) ?_
    exact fin (tx1 ho wo wl wc (by omega))
  clear c
  walk_at "v"
  refine ⟨by decide +kernel, by rw [sizeLine_eq]; omega, fun q hq => ?_⟩
  have W := split_wds ho
  generalize Txt.split x " " = ws at W ⊢
  have hqp : q ≠ p := fun e => by rw [e, updM_same] at hq; cases hq
  have hqn : ∀ n : MO, updM M p n q = none := fun n => by
    rw [updM_ne hqp] at hq ⊢
    exact hq
  have hwn : 1 ≤ ws.length := by
    rcases Nat.eq_zero_or_pos ws.length with h0 | h0
    · have := W.l
      rw [List.length_eq_zero_iff.mp h0] at this
      simp at this
    · exact h0
  have hwl := W.l
  have hwc := W.c
  walk_at "v"
  refine v_lenR (ds := ws.map .str) updM_same ?_
  rw [List.length_map]
  have hp2 : updM (updM M p (feedL f3)) q (.lst (ws.map .str)) p = some (feedL f3) := by rw [updM_ne (fun e => hqp e.symm), updM_same]
  walk_at "v"
  refine r_take hp2 (by omega) (by omega) fun j f4 j0 j1 => ?_
  obtain ⟨j, rfl⟩ := Int.eq_ofNat_of_zero_le j0
  have hj : j < ws.length := by omega
  have hq4 : ∀ n : MO, updM (updM (updM M p (feedL f3)) q (.lst (ws.map .str))) p n q = some (.lst (ws.map .str)) := fun n => by rw [updM_ne hqp, updM_same]
  walk_at "v"
  refine s_ite (fun c => ?_) fun c => ?_
  · walk_at "v"
    refine v_addRb (hq4 _) (by rw [List.length_map]; simp; omega) ?_
    walk_at "v"
    refine r_pickL (List.append_ne_nil_of_right_ne_nil _ (List.cons_ne_nil _ _)) (by rw [List.length_append, List.length_map]; simp; omega) updM_same fun y f5 hy => ?_
    obtain ⟨v, rfl, vo, vl, vc⟩ := word_ok W hy
    clear hy
    rw [updM_updM]
    walk_at "v"
    refine v_setL (hq4 _) hj ?_
    walk_at "v"
    have hlen : (ws.set j v).length = ws.length := List.length_set
    have hs1 := sum_set (fun w : Str => w.length) v ws j
    have hs2 := sum_set (fun w : Str => cc (tl w)) v ws j
    have hs3 := join_len (ws.set j v)
    refine v_joinR (ys := ws.set j v) updM_same (by have e1 : (" " : Str).length = 1 := by decide +kernel
                                                    rw [e1]; omega) ?_
    have t : Txo x (Str.join " " (ws.set j v)) := ⟨join_ok fun w hw => (by
      rcases List.mem_or_eq_of_mem_set hw with h1 | h1
      · exact W.ok w h1
      · rw [h1]; exact vo), by omega, by rw [join_cc]; omega⟩
    refine finS (subQ2 (q := q) (fun a ha => ?_) (hqn _)) (h _ f5 t.ok t.l t.c)
    rw [updM_ne ha]
    by_cases e : a = p
    · rw [e, updM_same, updM_same]
    · rw [updM_ne e, updM_ne e, updM_ne ha, updM_ne e]
  · walk_at "v"
    refine v_slR0 (k := j) rfl (hq4 _) ?_
    walk_at "v"
    refine v_slR2 (k := j) rfl rfl hj (hq4 _) ?_
    walk_at "v"
    refine r_take updM_same (by decide) (by decide) fun m f5 m0 m1 => ?_
    rw [updM_updM]
    obtain ⟨m, rfl⟩ := Int.eq_ofNat_of_zero_le m0
    walk_at "v"
    refine v_mulI (by omega) ?_
    walk_at "v"
    refine v_mulLL (m := 2 * m) (by omega) (by omega) (by rw [List.length_take]; omega) ?_
    walk_at "v"
    have hmm : 2 * m * min 1 (ws.length - j) ≤ 2 * 1 := Nat.mul_le_mul (by omega) (Nat.min_le_left 1 _)
    refine v_addLL (by rw [List.length_map, List.length_map, List.length_flatten]; simp; omega) ?_
    walk_at "v"
    refine v_slR1 (k := j + 1) (by omega) (hq4 _) ?_
    walk_at "v"
    refine v_addLL (by simp; omega) ?_
    rw [← List.map_append, ← List.map_append]
    walk_at "v"
    have hs1 := sum_cut (fun w : Str => w.length) ws j (2 * m) (by omega)
    have hs2 := sum_cut (fun w : Str => cc (tl w)) ws j (2 * m) (by omega)
    have hs0 := sum_cut (fun _ : Str => 1) ws j (2 * m) (by omega)
    have hmem : ∀ w ∈ ws.take j ++ (List.replicate (2 * m) ((ws.drop j).take 1)).flatten ++ ws.drop (j + 1), w ∈ ws := fun w hw => by
      rcases List.mem_append.mp hw with hw | hw
      · rcases List.mem_append.mp hw with hw | hw
        · exact List.mem_of_mem_take hw
        · obtain ⟨l, hl, hw⟩ := List.mem_flatten.mp hw
          rw [List.eq_of_mem_replicate hl] at hw
          exact List.mem_of_mem_drop (List.mem_of_mem_take hw)
      · exact List.mem_of_mem_drop hw
    generalize ws.take j ++ (List.replicate (2 * m) ((ws.drop j).take 1)).flatten ++ ws.drop (j + 1) = zs at hs1 hs2 hs0 hmem ⊢
    have one : ∀ l : List Str, (l.map fun _ => 1).sum = l.length := fun l => by induction l with
      | nil => rfl
      | cons a l ih => simp only [List.map_cons, List.sum_cons, ih, List.length_cons]; omega
    rw [one, one] at hs0
    have hs3 := join_len zs
    refine v_join (ys := zs) (by have e1 : (" " : Str).length = 1 := by decide +kernel
                                 rw [e1]; omega) ?_
    have t : Txo x (Str.join " " zs) := ⟨join_ok fun w hw => W.ok w (hmem w hw), by omega, by rw [join_cc]; omega⟩
    refine finS (subQ2 (q := q) (fun a ha => ?_) (hqn _)) (h _ f5 t.ok t.l t.c)
    by_cases e : a = p
    · rw [e, updM_same, updM_same]
    · rw [updM_ne e, updM_ne ha, updM_ne e, updM_ne e]
end

end K


set_option Elab.async false
set_option linter.all false
set_option maxRecDepth 100000
set_option maxHeartbeats 2000000
namespace K
open PySem PySem.Spec PyProof.Rows L2 DL
local macro_rules | `(tactic| walk_at "r") => `(tactic| fail)
local macro_rules | `(tactic| walk_at "c") => `(tactic| with_reducible refine s_iteB (by simp only [ofS_eq, String.reduceEq, wd_within, wd_retry, wd_call, wd_pause, wd_fail, wd_hole, wd_q, wd_mem, wd_nmem, lit_mem, Bool.false_eq_true, List.any_cons, List.any_nil, Bool.or_false, Bool.false_or, Bool.true_or, Bool.or_true, decide_true, decide_false, decide_not, Bool.false_bne, Bool.true_bne, Bool.not_true, Bool.not_false, Bool.not_not, Int.reduceLT, Int.reduceLE, Int.reduceEq, Int.reduceSub, Int.reduceAdd, Int.reduceNeg, Int.reduceMul, gt_iff_lt, ge_iff_le, reduceIte]; exact rfl) ?_)
local macro_rules | `(tactic| walk_at "v1") => `(tactic| first
  | refine Sp.h ?_
  | with_reducible refine v_case (by simp only [ptT, ptAll, ptOne, List.length_cons, List.length_nil, Nat.reduceAdd, Nat.reduceEqDiff, reduceIte, ofS_eq, String.reduceEq, wd_within, wd_retry, wd_call, wd_pause, wd_fail, wd_hole, List.nil_append, List.cons_append]; exact rfl) ?_
  | walk_at "r")
local macro_rules | `(tactic| walk_at "v") => `(tactic| repeat (first | walk_at "v1" | with_reducible apply s_if | walk_at "c"))
local macro_rules | `(tactic| walk_at "vz") => `(tactic| repeat (first | walk_at "v1" | walk_at "c"))
local macro_rules | `(tactic| walk_at "s") => `(tactic| refine s_re (by simp only [startR, List.map_cons, List.map_nil, List.length_cons, List.length_nil, List.replicate, List.cons_append, List.nil_append, List.getElem?_cons_zero, List.getElem?_cons_succ, List.set_cons_zero, List.set_cons_succ, Nat.reduceAdd, Nat.reduceSub]; exact rfl) ?_)

def okD : D → Bool
  | .str x => PyData.strOk x && (decide (x.length ≤ 5000) && decide (cc (tl x) < 120))
  | _ => false
theorem okD_ok {d : D} (h : okD d = true) : ∃ x, d = .str x ∧ Rok x := by
  unfold okD at h
  split at h
  · simp only [Bool.and_eq_true, decide_eq_true_eq] at h
    exact ⟨_, rfl, h.1, h.2.1, Nat.lt_of_le_of_lt (fm_cc _) h.2.2, .inl h.2.2⟩
  · cases h
section
variable {M : Store} {Q : D → Store → Prop} {E : DX} {n : Nat} {t u : Tr} {p q : Addr} {f : Feed} {x : Str} {ρ : Ro}
theorem r_right (k : Rok x) (c : Q (.bl true) M) : sp_law_is_right ([.str x] ++ []) M Q E := ⟨x, rfl, k.ok, k.l, k.f, k.c, c⟩
theorem r_spoilt (hp : M p = some (feedL f)) (ho : PyData.strOk x = true) (hl : x.length ≤ 20000) (k : ∀ y f', PyData.strOk y = true → y.length ≤ 2 * x.length + 100 → cc (tl y) ≤ max (2 * cc (tl x)) (cc (tl x) + 2) → Q (.str y) (updM M p (feedL f'))) : sp_law_spoilt ([.ref p, .str x] ++ []) M Q E := ⟨p, f, x, rfl, hp, ho, hl, k⟩
theorem v_lenF {ds : List D} (k : Q (.int (ds.length : Int)) M) : rcLen [.fro ds] M Q := k
theorem r_feed {ns : List Int} {k : Int} (h0 : 0 ≤ k) (h1 : k < 1000000) (c : ∀ p f, M p = none → Q (.ref p) (updM M p (feedL f))) : sp_law_feed ([.fro (ns.map .int), .int k] ++ []) M Q E := ⟨ns, k, rfl, h0, by omega, c⟩
theorem v_addM {xs ys : List D} (hl : xs.length + ys.length ≤ 100000) (k : ∀ p, M p = none → Q (.ref p) (updM M p (.lst (xs ++ ys)))) : rdAddM (.lst xs) (.lst ys) M Q := ⟨hl, k⟩
def mLM (x : D) (M : Store) (A : Prop) : Prop := isLM M x ∧ A
instance {rd : DMt} {to : DTE} {ta : DTA} : Sp (dMt rd to ta ρ M Q) (to ρ M fun x M1 => mLM x M1 (ta ρ M1 fun ds M2 => rd x ds M2 Q)) := ⟨fun h => h⟩
instance {A : Prop} {xs : List D} [k : At M p (.lst xs)] : Sp (mLM (.ref p) M A) A := ⟨fun h => ⟨by simp only [isLM, k.h], h⟩⟩
theorem v_append {xs : List D} {y : D} (hq : M q = some (.lst xs)) (hl : xs.length ≤ 1000) (k : Q .non (updM M q (.lst (xs ++ [y])))) : rmAppend (.ref q) [y] M Q := by
  simp only [rmAppend, hq]
  exact ⟨by rw [sizeLine_eq]; omega, k⟩
theorem db_signs {w : Str} {p : Addr} {Q : List D → Store → Prop} {i : Nat} (hi : ρ.length = i + 6) (hp : M p = none) (hl : w.length ≤ 1000) (q : Q ((tl w).map fun c => .str ("call db" ++ (⟨#[c]⟩ : Str) ++ "m")) M) :
    dLcLoop (fun _ => True) (dgName 3) dYes (dOp rdAdd (dOp rdAdd (dC (.str "call db")) (dVar 3)) (dC (.str "m"))) p ρ (signsD w) [] M Q := by
  refine dLc_mapA (f := fun d => match d with
    | .str x => .str ("call db" ++ x ++ "m")
    | _ => .non) hp (fun _ => trivial) _ _ (fun d hd acc Kt k1 => ?_) (by unfold signsD; rw [List.length_map, sizeLine_eq, List.length_nil]; have : w.length = w.cps.toList.length := TL.len_tl w; omega) ?_
  · obtain ⟨c, hc, rfl⟩ := List.mem_map.mp hd
    have e1 : ("call db" : Str).length = 7 := by decide +kernel
    have e2 : ("m" : Str).length = 1 := by decide +kernel
    have e3 : (⟨#[c]⟩ : Str).length = 1 := rfl
    refine s_name ?_
    refine s_op ?_
    refine s_op ?_
    refine s_c ?_
    refine s_var (d := .str ⟨#[c]⟩) (by rw [List.getElem?_set_self (by omega)]) ?_
    refine v_addS (by omega) ?_
    refine s_c ?_
    refine v_addS (by rw [len_app]; omega) ?_
    exact k1
  · unfold signsD
    rw [List.nil_append, List.map_map]
    exact q
theorem db_ok {c : Nat} (h : c < 1114112) : Rok ("call db" ++ (⟨#[c]⟩ : Str) ++ "m") := by
  have e1 : ("call db" : Str).length = 7 := by decide +kernel
  have e2 : ("m" : Str).length = 1 := by decide +kernel
  have e3 : (⟨#[c]⟩ : Str).length = 1 := rfl
  have e4 : tl (⟨#[c]⟩ : Str) = [c] := rfl
  have hc : cc (tl ("call db" ++ (⟨#[c]⟩ : Str) ++ "m")) ≤ 2 := by
    have a1 : cc (tl "call db") = 0 := by decide +kernel
    have a2 : cc (tl "m") = 0 := by decide +kernel
    have a3 : cc [c] ≤ 2 := by
      unfold cc fm
      have h1 : List.countP (· == 40) [c] ≤ 1 := List.countP_le_length
      have h2 : List.countP isF [c] ≤ 1 := List.countP_le_length
      omega
    rw [tl_app, tl_app, cc_app, cc_app, a1, a2, e4]
    omega
  refine ⟨ok_app (ok_app (by decide +kernel) (strOk_tl fun z hz => ?_)) (by decide +kernel), by rw [len_app, len_app]; omega, Nat.lt_of_le_of_lt (fm_cc _) (by omega), .inl (by omega)⟩
  rw [e4, List.mem_singleton] at hz
  omega
section
local macro_rules | `(tactic| walk_at "r") => `(tactic| first
  | (with_reducible refine s_addL (by rw [sizeLine_eq]; decide +kernel) ?_)
  | (refine And.intro (by unfold MulOk; decide) ?_)
  | (with_reducible refine v_addS (by decide +kernel) ?_)
  | (with_reducible apply v_lenF))
theorem q_law : Pure ["script", "typed", "signs", "sign", "text", "index", "feed", "turn", "more"] sp_law t_law := by
  rintro ds M P PE ⟨ns, rfl, hns, h⟩
  unfold t_law
  walk_at "s"; walk_at "v"
  intro q0 hq0
  walk_at "v"
  refine v_addRb (q := q0) updM_same (by simp) ?_
  walk_at "v"
  refine v_addM (by decide +kernel) fun q1 hq1 => ?_
  walk_at "v"
  refine v_append updM_same (by decide +kernel) ?_
  walk_at "v"
  intro q2 hq2
  refine db_signs (i := 3) rfl hq2 (by decide +kernel) ?_
  walk_at "v"
  refine v_addRb updM_same (by decide +kernel) ?_
  walk_at "v"
  refine dLoop_ind (fun rest ρ M' => (∀ d ∈ rest, ∃ x, d = .str x ∧ Rok x) ∧ ∃ o1 o2 o3 o4 o5 o6 o7 o8 : Option D, ρ = [some (.fro (ns.map .int)), o1, o2, o3, o4, o5, o6, o7, o8]) ?_ ?_ _ _ _
    ⟨fun d hd => ?_, _, _, _, _, _, _, _, _, rfl⟩
  · rintro d rest ρ M' K hK ⟨hd, o1, o2, o3, o4, o5, o6, o7, o8, rfl⟩
    obtain ⟨x, rfl, kx⟩ := hd d List.mem_cons_self
    refine ⟨trivial, ?_⟩
    walk_at "v"
    refine r_right kx ?_
    walk_at "v"
    exact hK _ _ ⟨fun d h => hd d (List.mem_cons_of_mem _ h), _, _, _, _, _, _, _, _, rfl⟩
  · rintro ρ M1 ⟨_, o1, o2, o3, o4, o5, o6, o7, o8, rfl⟩
    refine ⟨trivial, ?_⟩
    walk_at "v"
    refine v_rng (by omega) (by omega) ?_
    obtain ⟨N, hN, hN2⟩ : ∃ N : Nat, (max 1 (min 4 ((ns.map D.int).length : Int))).toNat = N ∧ N ≤ 100 := ⟨_, rfl, by omega⟩
    rw [hN]
    refine dLoop_ind (fun rest ρ M' => ∃ (k : Nat) (lo : Int) (o1 o2 o3 o4 o5 o6 o7 o8 : Option D), rest = rangeD lo k ∧ 0 ≤ lo ∧ lo + k ≤ 100 ∧ ρ = [some (.fro (ns.map .int)), o1, o2, o3, o4, o5, o6, o7, o8]) ?_ ?_ _ _ _
      ⟨N, 0, _, _, _, _, _, _, _, _, rfl, by omega, by omega, rfl⟩
    · rintro d rest ρ M2 K hK ⟨k, lo, o1, o2, o3, o4, o5, o6, o7, o8, e1, e2, e3, rfl⟩
      obtain ⟨k, rfl, rfl, rfl⟩ := rngD_cons e1
      refine ⟨trivial, ?_⟩
      walk_at "v"
      refine r_feed e2 (by omega) fun p f0 hp => ?_
      walk_at "v"
      refine v_rng (by decide) (by decide) ?_
      refine dLoop_ind (fun rest ρ M' => ∃ (f : Feed) (o4 o7 o8 : Option D), M' p = some (feedL f) ∧ ρ = [some (.fro (ns.map .int)), o1, o2, o3, o4, some (.int lo), some (.ref p), o7, o8]) ?_ ?_ _ _ _
        ⟨f0, _, _, _, updM_same, rfl⟩
      · rintro d rest ρ M3 K3 hK3 ⟨f, o4, o7, o8, hp3, rfl⟩
        refine ⟨trivial, ?_⟩
        walk_at "v"
        refine r_take hp3 (by decide) (by decide) fun r f1 r0 r1 => ?_
        walk_at "v"
        refine r_bareU (by omega) (by omega) (by omega) fun t f2 dr => ?_
        have hnd := dr.nd
        have hcc := cw dr.wf dr.nm
        have hlen := txt_len dr.wf
        have hdp := dr.dp
        walk_at "v"
        refine r_ltext (by omega) dr.wf (by omega) ?_
        have hok := txt_ok dr.wf
        have hb : (txt t).length ≤ 500 ∧ cc (tl (txt t)) ≤ 29 := ⟨by omega, by show cc (tx t) ≤ 29; omega⟩
        generalize txt t = x0 at hok hb ⊢
        clear hnd hcc hlen hdp dr
        walk_at "v"
        refine v_rng (by decide) (by decide) ?_
        refine dLoop_ind (fun rest ρ M' => ∃ (k2 : Nat) (lo2 : Int) (f : Feed) (x : Str) (o8 : Option D), rest = rangeD lo2 k2 ∧ PyData.strOk x = true ∧ ((k2 = 3 ∧ x.length ≤ 500 ∧ cc (tl x) ≤ 29) ∨ (k2 = 2 ∧ x.length ≤ 1100 ∧ cc (tl x) ≤ 58) ∨ (k2 = 1 ∧ x.length ≤ 2300 ∧ cc (tl x) ≤ 116) ∨ k2 = 0) ∧ M' p = some (feedL f) ∧ ρ = [some (.fro (ns.map .int)), o1, o2, o3, some (.str x), some (.int lo), some (.ref p), some d, o8]) ?_ ?_ _ _ _
          ⟨3, 0, f2, x0, _, rfl, hok, .inl ⟨rfl, hb.1, hb.2⟩, updM_same, rfl⟩
        · rintro d2 rest2 ρ M4 K4 hK4 ⟨k2, lo2, f3, x, o8, e4, xo, xb, hp4, rfl⟩
          obtain ⟨k2, rfl, rfl, rfl⟩ := rngD_cons e4
          refine ⟨trivial, ?_⟩
          have nx : ∀ (y : Str) (f' : Feed) (M' : Store), PyData.strOk y = true → y.length ≤ 2 * x.length + 100 → cc (tl y) ≤ max (2 * cc (tl x)) (cc (tl x) + 2) → M' p = some (feedL f') → K4 [some (.fro (ns.map .int)), o1, o2, o3, some (.str y), some (.int lo), some (.ref p), some d, some (.int lo2)] M' := fun y f' M' a b c e => hK4 _ _ ⟨k2, lo2 + 1, f', y, _, rfl, a, by omega, e, rfl⟩
          clear hK4 e4
          have xl : x.length ≤ 2300 ∧ cc (tl x) ≤ 116 := by omega
          clear xb
          walk_at "v"
          refine v_len1 (by omega) ?_
          walk_at "v"
          refine s_ite (fun c => ?_) fun c => ?_
          · walk_at "v"
            refine r_right ⟨xo, by have := of_decide_eq_true c; omega, Nat.lt_of_le_of_lt (fm_cc _) (by omega), .inl (by omega)⟩ ?_
            walk_at "v"
            refine r_spoilt hp4 xo (by omega) fun y f' a b c => ?_
            walk_at "v"
            exact nx y f' _ a b c updM_same
          · walk_at "v"
            refine r_spoilt hp4 xo (by omega) fun y f' a b c => ?_
            walk_at "v"
            exact nx y f' _ a b c updM_same
        · rintro ρ M4 ⟨k2, lo2, f3, x, o8, e4, xo, xb, hp4, rfl⟩
          exact ⟨trivial, hK3 _ _ ⟨f3, _, _, _, hp4, rfl⟩⟩
      · rintro ρ M3 ⟨f, o4, o7, o8, hp3, rfl⟩
        exact ⟨trivial, hK _ _ ⟨k, lo + 1, _, _, _, _, _, _, _, _, rfl, by omega, by omega, rfl⟩⟩
    · rintro ρ M2 ⟨k, lo, o1, o2, o3, o4, o5, o6, o7, o8, e1, e2, e3, rfl⟩
      refine ⟨trivial, ?_⟩
      walk_at "v"
      exact fin0 (h _)
  · rcases List.mem_append.mp hd with hd | hd
    · rcases List.mem_append.mp hd with hd | hd
      · rcases List.mem_append.mp hd with hd | hd
        · exact okD_ok (List.all_eq_true.mp (by decide +kernel) d hd)
        · simp only [List.mem_cons, List.not_mem_nil, or_false] at hd
          rcases hd with rfl | rfl | rfl
          · exact ⟨_, rfl, rok_w⟩
          · exact ⟨_, rfl, rok_p⟩
          · exact ⟨_, rfl, rok_r⟩
      · rw [List.mem_singleton] at hd
        exact ⟨_, hd, rok_e⟩
    · obtain ⟨c, hc, rfl⟩ := List.mem_map.mp hd
      refine ⟨_, rfl, db_ok (?_ : c < 1114112)⟩
      refine (strOk_iff _).mp ?_ c hc
      decide +kernel
end
end
end K


set_option Elab.async false
set_option linter.all false
set_option maxRecDepth 100000
set_option maxHeartbeats 0
namespace K
open PySem PySem.Spec PyProof.Rows L2 DL
section
variable {P : Program} {w : World} {K : PySem.W.Frag} {mg : Str → Option Value} {base : Heap}
structure Zc (K : PySem.W.Frag) : Prop where
  c : SaysC cms K
  b0 : cmB K "Plan" "parse" = true
theorem F_is_name (m : Md fcs fn K mg) (z : Zc K) : Fn P w K mg base 1 dd0 ["word"] sp_is_name := fn_mk m (memi 0) sc_is_name (w_is_name m ) (by
  intro ds M P E h
  simp only [sp_is_name] at h
  repeat (with_reducible refine Exists.elim h fun _ h => ?_)
  rw [h.1]
  rfl) q_is_name
theorem F_read_number (m : Md fcs fn K mg) (z : Zc K) : Fn P w K mg base 1 dd1 ["word", "least", "most"] sp_read_number := fn_mk m (memi 1) sc_read_number (w_read_number m ) (by
  intro ds M P E h
  simp only [sp_read_number] at h
  repeat (with_reducible refine Exists.elim h fun _ h => ?_)
  rw [h.1]
  rfl) q_read_number
theorem F_Reader_init (m : Md fcs fn K mg) (z : Zc K) : Fn P w K mg base 1 dd2 ["self", "text"] sp_Reader_init := fn_mkT m (memi 2) sc_Reader_init (by decide +kernel) (by decide) (w_Reader_init m ) (by
  intro ds M P E h
  simp only [sp_Reader_init] at h
  repeat (with_reducible refine Exists.elim h fun _ h => ?_)
  rw [h.1]
  rfl) q_Reader_init
theorem F_Reader_take (m : Md fcs fn K mg) (z : Zc K) : Fn P w K mg base 1 dd3 ["self"] sp_Reader_take := fn_mk m (memi 3) sc_Reader_take (w_Reader_take m ) (by
  intro ds M P E h
  simp only [sp_Reader_take] at h
  repeat (with_reducible refine Exists.elim h fun _ h => ?_)
  rw [h.1]
  rfl) q_Reader_take
theorem G_Reader_form (m : Md fcs fn K mg) (z : Zc K) : ∀ n : Nat, Fn P w K mg base (1 + n) dd4 ["self"] (sp_Reader_form n) ∧ Fn P w K mg base (1 + n) dd5 ["self"] (sp_Reader_pair n)
  | 0 => ⟨fn_zero m (memi 4) no_Reader_form, fn_zero m (memi 5) no_Reader_pair⟩
  | n + 1 => by
    have ih := G_Reader_form m z n
    exact ⟨fn_mk m (memi 4) sc_Reader_form (w_Reader_form m n (met_mk m (F_Reader_take m z) rfl (memi 10) (memi 13) rfl b_Reader_take) (met_mk m ih.2 rfl (memi 10) (memi 18) rfl b_Reader_pair) (cal_mk m (F_is_name m z) rfl (memi 4) rfl b_is_name) (cal_mk m (F_read_number m z) rfl (memi 8) rfl b_read_number) (met_mk m ih.1 rfl (memi 10) (memi 17) rfl b_Reader_form)) (by
  intro ds M P E h
  simp only [sp_Reader_form] at h
  repeat (with_reducible refine Exists.elim h fun _ h => ?_)
  rw [h.1]
  rfl) (q_Reader_form n), fn_mk m (memi 5) sc_Reader_pair (w_Reader_pair m n (met_mk m ih.1 rfl (memi 10) (memi 17) rfl b_Reader_form) (met_mk m (F_Reader_take m z) rfl (memi 10) (memi 13) rfl b_Reader_take)) (by
  intro ds M P E h
  simp only [sp_Reader_pair] at h
  repeat (with_reducible refine Exists.elim h fun _ h => ?_)
  rw [h.1]
  rfl) (q_Reader_pair n)⟩
theorem F_Reader_form (m : Md fcs fn K mg) (z : Zc K) : Fn P w K mg base 121 dd4 ["self"] (sp_Reader_form 120) := (G_Reader_form m z 120).1
theorem F_Reader_pair (m : Md fcs fn K mg) (z : Zc K) : Fn P w K mg base 121 dd5 ["self"] (sp_Reader_pair 120) := (G_Reader_form m z 120).2
theorem G_text_of (m : Md fcs fn K mg) (z : Zc K) : ∀ n : Nat, Fn P w K mg base (0 + n) dd6 ["node"] (sp_text_of n)
  | 0 => fn_zero m (memi 6) no_text_of
  | n + 1 => by
    have ih := G_text_of m z n
    exact fn_mk m (memi 6) sc_text_of (w_text_of m n (cal_mk m ih rfl (memi 19) rfl b_text_of)) (by
  intro ds M P E h
  simp only [sp_text_of] at h
  repeat (with_reducible refine Exists.elim h fun _ h => ?_)
  rw [h.1]
  rfl) (q_text_of n)
theorem F_text_of (m : Md fcs fn K mg) (z : Zc K) : Fn P w K mg base 120 dd6 ["node"] (sp_text_of 120) := (G_text_of m z 120)
theorem F_Plan_init (m : Md fcs fn K mg) (z : Zc K) : Fn P w K mg base 121 dd7 ["self", "node"] sp_Plan_init := fn_mk m (memi 7) sc_Plan_init (w_Plan_init m (cal_mk m (F_text_of m z) rfl (memi 19) rfl b_text_of)) (by
  intro ds M P E h
  simp only [sp_Plan_init] at h
  repeat (with_reducible refine Exists.elim h fun _ h => ?_)
  rw [h.1]
  rfl) q_Plan_init
theorem F_Plan_parse (m : Md fcs fn K mg) (z : Zc K) : FnA P w K mg base 123 dc0 ["cls", "text"] sp_Plan_parse := fna_mk z.c (memi 0) sc_Plan_parse (w_Plan_parse m (mak_mk m (F_Reader_init m z) rfl (memi 10) (memi 12) rfl b_Reader_init) (met_mk m (F_Reader_form m z) rfl (memi 10) (memi 17) rfl b_Reader_form) (mak_mk m (F_Plan_init m z) rfl (memi 21) (memi 23) rfl b_Plan_init)) (by
  intro ds M P E h
  simp only [sp_Plan_parse] at h
  repeat (with_reducible refine Exists.elim h fun _ h => ?_)
  rw [h.1]
  rfl) q_Plan_parse
theorem F_Plan_str (m : Md fcs fn K mg) (z : Zc K) : Fn P w K mg base 1 dd8 ["self"] sp_Plan_str := fn_mk m (memi 8) sc_Plan_str (w_Plan_str m ) (by
  intro ds M P E h
  simp only [sp_Plan_str] at h
  repeat (with_reducible refine Exists.elim h fun _ h => ?_)
  rw [h.1]
  rfl) q_Plan_str
theorem F_Plan_eq (m : Md fcs fn K mg) (z : Zc K) : Fn P w K mg base 1 dd9 ["self", "other"] sp_Plan_eq := fn_mk m (memi 9) sc_Plan_eq (w_Plan_eq m ) (by
  intro ds M P E h
  simp only [sp_Plan_eq] at h
  repeat (with_reducible refine Exists.elim h fun _ h => ?_)
  rw [h.1]
  rfl) q_Plan_eq
theorem F_law_feed (m : Md fcs fn K mg) (z : Zc K) : Fn P w K mg base 1 dd10 ["script", "k"] sp_law_feed := fn_mk m (memi 10) sc_law_feed (w_law_feed m ) (by
  intro ds M P E h
  simp only [sp_law_feed] at h
  repeat (with_reducible refine Exists.elim h fun _ h => ?_)
  rw [h.1]
  rfl) q_law_feed
theorem F_law_take (m : Md fcs fn K mg) (z : Zc K) : Fn P w K mg base 1 dd11 ["feed", "size"] sp_law_take := fn_mk m (memi 11) sc_law_take (w_law_take m ) (by
  intro ds M P E h
  simp only [sp_law_take] at h
  repeat (with_reducible refine Exists.elim h fun _ h => ?_)
  rw [h.1]
  rfl) q_law_take
theorem F_law_pick (m : Md fcs fn K mg) (z : Zc K) : Fn P w K mg base 2 dd12 ["feed", "choices"] sp_law_pick := fn_mk m (memi 12) sc_law_pick (w_law_pick m (cal_mk m (F_law_take m z) rfl (memi 31) rfl b_law_take)) (by
  intro ds M P E h
  simp only [sp_law_pick] at h
  repeat (with_reducible refine Exists.elim h fun _ h => ?_)
  rw [h.1]
  rfl) q_law_pick
theorem G_law_text (m : Md fcs fn K mg) (z : Zc K) : ∀ n : Nat, Fn P w K mg base (0 + n) dd13 ["plan"] (sp_law_text n)
  | 0 => fn_zero m (memi 13) no_law_text
  | n + 1 => by
    have ih := G_law_text m z n
    exact fn_mk m (memi 13) sc_law_text (w_law_text m n (cal_mk m ih rfl (memi 34) rfl b_law_text)) (by
  intro ds M P E h
  simp only [sp_law_text] at h
  repeat (with_reducible refine Exists.elim h fun _ h => ?_)
  rw [h.1]
  rfl) (q_law_text n)
theorem F_law_text (m : Md fcs fn K mg) (z : Zc K) : Fn P w K mg base 120 dd13 ["plan"] (sp_law_text 120) := (G_law_text m z 120)
theorem G_law_bare (m : Md fcs fn K mg) (z : Zc K) : ∀ n : Nat, Fn P w K mg base (2 + n) dd14 ["feed", "room"] (sp_law_bare n)
  | 0 => fn_zero m (memi 14) no_law_bare
  | n + 1 => by
    have ih := G_law_bare m z n
    exact fn_mk m (memi 14) sc_law_bare (w_law_bare m n (cal_mk m (F_law_take m z) rfl (memi 31) rfl b_law_take) (cal_mk m ih rfl (memi 35) rfl b_law_bare) (cal_mk m (F_law_pick m z) rfl (memi 32) rfl b_law_pick)) (by
  intro ds M P E h
  simp only [sp_law_bare] at h
  repeat (with_reducible refine Exists.elim h fun _ h => ?_)
  rw [h.1]
  rfl) (q_law_bare n)
theorem F_law_bare (m : Md fcs fn K mg) (z : Zc K) : Fn P w K mg base 22 dd14 ["feed", "room"] (sp_law_bare 20) := (G_law_bare m z 20)
theorem F_law_word_end (m : Md fcs fn K mg) (z : Zc K) : Fn P w K mg base 1 dd15 ["text", "at", "signs"] sp_law_word_end := fn_mk m (memi 15) sc_law_word_end (w_law_word_end m ) (by
  intro ds M P E h
  simp only [sp_law_word_end] at h
  repeat (with_reducible refine Exists.elim h fun _ h => ?_)
  rw [h.1]
  rfl) q_law_word_end
theorem F_law_number_end (m : Md fcs fn K mg) (z : Zc K) : Fn P w K mg base 2 dd16 ["text", "at", "least", "most"] sp_law_number_end := fn_mk m (memi 16) sc_law_number_end (w_law_number_end m (cal_mk m (F_law_word_end m z) rfl (memi 36) rfl b_law_word_end)) (by
  intro ds M P E h
  simp only [sp_law_number_end] at h
  repeat (with_reducible refine Exists.elim h fun _ h => ?_)
  rw [h.1]
  rfl) q_law_number_end
theorem G_law_form_end (m : Md fcs fn K mg) (z : Zc K) : ∀ n : Nat, Fn P w K mg base (2 + n) dd17 ["text", "at"] (sp_law_form_end n)
  | 0 => fn_zero m (memi 17) no_law_form_end
  | n + 1 => by
    have ih := G_law_form_end m z n
    exact fn_mk m (memi 17) sc_law_form_end (w_law_form_end m n (cal_mk m ih rfl (memi 38) rfl b_law_form_end) (cal_mk m (F_law_word_end m z) rfl (memi 36) rfl b_law_word_end) (cal_mk m (F_law_number_end m z) rfl (memi 37) rfl b_law_number_end)) (by
  intro ds M P E h
  simp only [sp_law_form_end] at h
  repeat (with_reducible refine Exists.elim h fun _ h => ?_)
  rw [h.1]
  rfl) (q_law_form_end n)
theorem F_law_form_end (m : Md fcs fn K mg) (z : Zc K) : Fn P w K mg base 122 dd17 ["text", "at"] (sp_law_form_end 120) := (G_law_form_end m z 120)
theorem F_law_is_right (m : Md fcs fn K mg) (z : Zc K) : Fn P w K mg base 124 dd18 ["text"] sp_law_is_right := fn_mk m (memi 18) sc_law_is_right (w_law_is_right m (cal_mk m (F_law_form_end m z) rfl (memi 38) rfl b_law_form_end) (cmt_mk m (F_Plan_parse m z) rfl (memi 21) z.b0 rfl b_Plan_parse) (spc_mk m (F_Plan_str m z) rfl (memi 21) (memi 24) rfl b_Plan_str)) (by
  intro ds M P E h
  simp only [sp_law_is_right] at h
  repeat (with_reducible refine Exists.elim h fun _ h => ?_)
  rw [h.1]
  rfl) q_law_is_right
theorem F_law_spoilt (m : Md fcs fn K mg) (z : Zc K) : Fn P w K mg base 3 dd19 ["feed", "text"] sp_law_spoilt := fn_mk m (memi 19) sc_law_spoilt (w_law_spoilt m (cal_mk m (F_law_take m z) rfl (memi 31) rfl b_law_take) (cal_mk m (F_law_pick m z) rfl (memi 32) rfl b_law_pick)) (by
  intro ds M P E h
  simp only [sp_law_spoilt] at h
  repeat (with_reducible refine Exists.elim h fun _ h => ?_)
  rw [h.1]
  rfl) q_law_spoilt
theorem F_law (m : Md fcs fn K mg) (z : Zc K) : Fn P w K mg base 125 dd20 ["script"] sp_law := fn_mk m (memi 20) sc_law (w_law m (cal_mk m (F_law_is_right m z) rfl (memi 41) rfl b_law_is_right) (cal_mk m (F_law_feed m z) rfl (memi 30) rfl b_law_feed) (cal_mk m (F_law_take m z) rfl (memi 31) rfl b_law_take) (cal_mk m (F_law_bare m z) rfl (memi 35) rfl b_law_bare) (cal_mk m (F_law_text m z) rfl (memi 34) rfl b_law_text) (cal_mk m (F_law_spoilt m z) rfl (memi 42) rfl b_law_spoilt)) (by
  intro ds M P E h
  simp only [sp_law] at h
  repeat (with_reducible refine Exists.elim h fun _ h => ?_)
  rw [h.1]
  rfl) q_law
end
abbrev R : PySem.W.OpenRow := PySem.W.OpenLaw.row PySem.Challenge.rw_callplans_k11_texts_judged
def exB : PySem.W.Frag → Bool := (fun K => factsB fcs K && (cmB K "Plan" "parse"))
abbrev hk : PySem.W.Hook := hookZ 6 fn cms exB
def ob (s : PySem.W.SharedT) : AlZ := obsZ 6 fn cms exB (HandSHeadRun.getT s)
theorem ob_eq (s : PySem.W.SharedT) : ob s = hk.obs s.abs := obsZ_eq (HandSHeadRun.getT_eq s)
def loose : List Str := ["_wall", "__name__", "PlanError", "InvalidText", "TooLarge", "LETTERS", "DIGITS", "WORDS", "MAX_NAME", "MAX_NUMBER", "MAX_TRIES", "MAX_CALLS", "is_name", "read_number", "Reader", "text_of", "size_of", "calls_of", "Plan", "_law_feed", "_law_take", "_law_pick", "_law_text", "_law_bare", "_law_word_end", "_law_number_end", "_law_form_end", "_law_is_right", "_law_spoilt"]
theorem run (w : World) : HandSHeadRun.RunEq R (PySem.W.view R.prog [31]) hk ob 3000 loose w := by
  intro os
  kernel_rfl
theorem room_caller : Room 125 callerA := ⟨rfl, by decide, by decide⟩
theorem law_at {w : World} {mg : Str → Option Value} {fa : Addr} {h : Heap} (Y : hk.says w h) (G : h.Ns mainGlobals mg) (hm : mg ("law" : Str) = some (.ref fa)) :
    ∃ (K : PySem.W.Frag) (fd : FuncData) (sp : DSp), K.In h ∧ (∀ (s : Shared) (u : Value), BindsTo s fd ⟨[u], []⟩ [("script", u)]) ∧
        (∀ ns : List Int, ns.length ≤ 63 → (∀ z ∈ ns, Builtin.Int.intBits z ≤ 1048576) → sp [.fro (ns.map .int)] (fun _ => none) (fun d _ => d = .bl true) noX) ∧
        ∀ base : Heap, K.In base → base.Ns mainGlobals mg → FnG Pw w K mg base 125 fa fd ["script"] sp := by
  obtain ⟨K, KX, c⟩ := Y
  have m : Md fcs fn K mg := ⟨⟨h, KX, G⟩, (He.ba c.ex).1, c.d⟩
  have z : Zc K := ⟨c.c, (He.ba c.ex).2⟩
  have ea : He.ga K "law" = fa := by
    have := (m.glo "law" (memi 45)).symm.trans hm
    cases this
    rfl
  obtain ⟨fd, FD, _⟩ := (F_law (P := Pw) (w := w) (base := h) m z).ex
  refine ⟨K, fd, sp_law, KX, fun s u => FD.bindsA (ps := ["script"]) b_law s [u] rfl, fun ns hn hb => ⟨ns, rfl, hn, fun _ => rfl⟩, fun base _ _ => ?_⟩
  obtain ⟨fd2, FD2, FG⟩ := (F_law (P := Pw) (w := w) (base := base) m z).ex
  have e : fd2 = fd := by
    obtain ⟨oc, od, dV, kV, doc, pm, an, cdv, ct, osl, e1, lk, _⟩ := FD.ex
    obtain ⟨oc', od', dV', kV', doc', pm', an', cdv', ct', osl', e1', lk', _⟩ := FD2.ex
    rw [lk] at lk'
    cases lk'
    rfl
  rw [← ea, ← e]
  exact FG
end K
open PySem PySem.W PySem.Calls PyProof.Rows in
theorem PySem.Challenge.cw_callplans_k11_texts_judged_holds : PySem.Challenge.rw_callplans_k11_texts_judged.Holds := by
  w_on; o_law
  refine HandSHeadRun.head_any (r := OpenLaw.row PySem.Challenge.rw_callplans_k11_texts_judged) (q := view (OpenLaw.row PySem.Challenge.rw_callplans_k11_texts_judged).prog [31]) (H := K.hk) (ob := K.ob) (M := 3000) (loose := K.loose) (d := HandSHeadRun.topDef (OpenLaw.row PySem.Challenge.rw_callplans_k11_texts_judged).prog 31) (kwd := []) K.ob_eq
    (by kernel_rfl) (fun s => by kernel_rfl) K.run (by kernel_rfl) (by kernel_rfl) (by kernel_rfl) (by rfl) (by first | assumption | decide +kernel) (by decide +kernel) ⟨rfl, rfl, rfl, rfl, rfl, by decide +kernel⟩ ?hw ?hc
  case hw => w_witness2
  case hc =>
    refine DL.walk_G (l := PySem.Challenge.rw_callplans_k11_texts_judged) (n := 63) (k := 125) (x := "script") rfl (by decide) (by kernel_rfl) K.room_caller fun w mg fa h Y G hmg0 => ?_
    have hmg : mg ("law" : PySem.Str) = some (.ref fa) := by
      have e : (HandSHeadRun.topDef (OpenLaw.row PySem.Challenge.rw_callplans_k11_texts_judged).prog 31).name = ("law" : PySem.Str) := by kernel_rfl
      rw [← e]
      exact hmg0
    exact K.law_at Y G hmg


