import PyProof.Rows.All
import Wide.All
import OpenK.AllK
import Wide.FinOn
import HandS.ForMost
import HandS.Walk
import KE.KDictKeyed
import HandS.IsInst
import HandS.TupAny
import HandS.TupMul
import HandS.Deep
import HandS.Strs
import HandS.Zip
import HandS.Style
import KE.GoesEnum
import KE.SortData
import KE.DataMinMax
import HandS.SortInts
import PyProof.ReprRoads
import HandS.Steps
import HandS.SortKw
import KE.KIndexOf
import KE.KRevSl
import HandS.Ends
import HandS.Defaults
import HandS.Words
import HandS.Small
import HandS.WordsDict
import HandS.Head0
import HandS.Head1
import HandS.Head2
import HandS.HeadEnd
import HandS.HeadHook1
import HandS.HeadHook2
import KE.KStateDown
import PySem.Challenge.RW_spancodes_k41_span_lots
import PyProof.FitsInt
set_option Elab.async false
set_option linter.all false
set_option maxRecDepth 100000
set_option maxHeartbeats 1000000
/-! values as plain data, what stands for them in a heap, and the state of a def's body told by plain data -/
namespace Pv
open PySem PySem.Spec L2
open PyProof.Rows hiding St

/-- plain data; dicts by their keys in order -/
inductive D where
  | non | bl (b : Bool) | int (i : Int) | str (x : Str) | tup (l : List D) | lst (l : List D) | dct (l : List (NestedKey × D)) | src
mutual
def keyD : NestedKey → D
  | .none => .non
  | .num i => .int i
  | .text x => .str x
  | .tup ks => .tup (keyDs ks)
def keyDs : List NestedKey → List D
  | [] => []
  | k :: r => keyD k :: keyDs r
end
/-- an int or a text as a key -/
def keyN : Key → NestedKey
  | .inl i => .num i
  | .inr x => .text x

/-- the drawing dict's contents -/
structure Src where
  cells : List Int
  left : Int
  mixed : Int
  turn : Int

/-- where the drawing dict and its list of cells stand -/
abbrev SA := Option (Addr × Addr)
def Sb (S : SA) (a : Addr) : Prop := ∃ p, S = some p ∧ (a = p.1 ∨ a = p.2)
def SrcOk (S : SA) (s : Src) (H : Hp) : Prop := ∀ p, S = some p → p.1 ≠ p.2 ∧
  H p.1 = some (.dK [(.inr "cells", .ref p.2), (.inr "left", .int s.left), (.inr "mixed", .int s.mixed), (.inr "turn", .int s.turn)]) ∧ H p.2 = some (.lst (s.cells.map V.int))

/-- a dict whose keys are tuples, at a: the keys with their tuples' places, the values -/
def DNo (P : Program) (w : World) (a : Addr) (ks : List (NestedKey × Addr)) (vs : List V) : HO := .ext fun h => ks.length ≤ sizeLine ∧ (∀ p ∈ ks, p.1.depth ≤ 8) ∧ (a == sysModules) = false ∧ (ks.map (·.1)).Nodup ∧
  ∃ us : List Value, Vals vs us ∧ ∃ o es ep, h.get? a = some o ∧ o.ExactDict ∧ o.data = .dict es ep ∧ es.toList = ((ks.zip us).map fun z => (z.1.1, z.1.2, z.2)).map (entryOfKey (nestedKind P w))
/-- what stands at a: a list; a tuple, known to the object; a dict, perhaps locked -/
def At (H : Hp) (a : Addr) : HO → Prop
  | .lst vs => H a = some (.lst vs)
  | .tup vs => ∃ o, H a = some (.frz o (.tup vs)) ∧ o.dict = none
  | u => Rd H a u

mutual
/-- v stands for d; its objects lie outside of B -/
inductive Rep (P : Program) (w : World) (S : SA) (B : Addr → Prop) (H : Hp) : V → D → Prop
  | non : Rep P w S B H .non .non
  | bl (b : Bool) : Rep P w S B H (.bl b) (.bl b)
  | int (i : Int) : Rep P w S B H (.int i) (.int i)
  | str (x : Str) : Rep P w S B H (.str x) (.str x)
  | tup {a : Addr} {vs : List V} {ds : List D} : ¬ B a → At H a (.tup vs) → Reps P w S B H vs ds → Rep P w S B H (.ref a) (.tup ds)
  | lst {a : Addr} {vs : List V} {ds : List D} : ¬ B a → At H a (.lst vs) → Reps P w S B H vs ds → Rep P w S B H (.ref a) (.lst ds)
  | dk {a : Addr} {ks : List Key} {vs : List V} {ds : List D} : ¬ B a → At H a (.dK (ks.zip vs)) → ks.length = vs.length → Reps P w S B H vs ds → Rep P w S B H (.ref a) (.dct ((ks.map keyN).zip ds))
  | dn {a : Addr} {ks : List (NestedKey × Addr)} {vs : List V} {ds : List D} : ¬ B a → At H a (DNo P w a ks vs) → ks.length = vs.length → Reps P w S B H (ks.map fun p => V.ref p.2) (ks.map fun p => keyD p.1) →
      Reps P w S B H vs ds → Rep P w S B H (.ref a) (.dct ((ks.map (·.1)).zip ds))
  | src {a c : Addr} : S = some (a, c) → Rep P w S B H (.ref a) .src
inductive Reps (P : Program) (w : World) (S : SA) (B : Addr → Prop) (H : Hp) : List V → List D → Prop
  | nil : Reps P w S B H [] []
  | cons {v : V} {vs : List V} {d : D} {ds : List D} : Rep P w S B H v d → Reps P w S B H vs ds → Reps P w S B H (v :: vs) (d :: ds)
end

/-- what is read stays so -/
def Ext (B B' : Addr → Prop) (H H' : Hp) : Prop := ∀ a u, ¬ B a → At H a u → ¬ B' a ∧ At H' a u
mutual
theorem Rep.ext {P : Program} {w : World} {S : SA} {B B' : Addr → Prop} {H H' : Hp} (x : Ext B B' H H') : ∀ {v : V} {d : D}, Rep P w S B H v d → Rep P w S B' H' v d
  | _, _, .non => .non
  | _, _, .bl b => .bl b
  | _, _, .int i => .int i
  | _, _, .str z => .str z
  | _, _, .tup n r l => .tup (x _ _ n r).1 (x _ _ n r).2 (Reps.ext x l)
  | _, _, .lst n r l => .lst (x _ _ n r).1 (x _ _ n r).2 (Reps.ext x l)
  | _, _, .dk n r e l => .dk (x _ _ n r).1 (x _ _ n r).2 e (Reps.ext x l)
  | _, _, .dn n r e k l => .dn (x _ _ n r).1 (x _ _ n r).2 e (Reps.ext x k) (Reps.ext x l)
  | _, _, .src e => .src e
theorem Reps.ext {P : Program} {w : World} {S : SA} {B B' : Addr → Prop} {H H' : Hp} (x : Ext B B' H H') : ∀ {vs : List V} {ds : List D}, Reps P w S B H vs ds → Reps P w S B' H' vs ds
  | _, _, .nil => .nil
  | _, _, .cons r l => .cons (Rep.ext x r) (Reps.ext x l)
end
section
variable {P : Program} {w : World} {S : SA} {B B' : Addr → Prop} {H H' H1 H2 : Hp}
theorem Reps.length : ∀ {vs : List V} {ds : List D}, Reps P w S B H vs ds → vs.length = ds.length
  | _, _, .nil => rfl
  | _, _, .cons _ l => congrArg Nat.succ (Reps.length l)
theorem Reps.get : ∀ {vs : List V} {ds : List D} {i : Nat} {d : D}, Reps P w S B H vs ds → ds[i]? = some d → ∃ v, vs[i]? = some v ∧ Rep P w S B H v d
  | _, _, i, d, .nil, e => by simp at e
  | _, _, 0, d, .cons r _, e => by simp at e; subst e; exact ⟨_, rfl, r⟩
  | _, _, i + 1, d, .cons _ l, e => by
    obtain ⟨v, h1, h2⟩ := Reps.get (i := i) l (by simpa using e)
    exact ⟨v, by simpa using h1, h2⟩
theorem Reps.getV : ∀ {vs : List V} {ds : List D} {i : Nat} {v : V}, Reps P w S B H vs ds → vs[i]? = some v → ∃ d, ds[i]? = some d ∧ Rep P w S B H v d
  | _, _, i, v, .nil, e => by simp at e
  | _, _, 0, v, .cons r _, e => by simp at e; subst e; exact ⟨_, rfl, r⟩
  | _, _, i + 1, v, .cons _ l, e => by
    obtain ⟨d, h1, h2⟩ := Reps.getV (i := i) l (by simpa using e)
    exact ⟨d, by simpa using h1, h2⟩
theorem Reps.append : ∀ {vs ws : List V} {ds es : List D}, Reps P w S B H vs ds → Reps P w S B H ws es → Reps P w S B H (vs ++ ws) (ds ++ es)
  | _, _, _, _, .nil, m => m
  | _, _, _, _, .cons r l, m => .cons r (Reps.append l m)
theorem Reps.take : ∀ {vs : List V} {ds : List D} (n : Nat), Reps P w S B H vs ds → Reps P w S B H (vs.take n) (ds.take n)
  | _, _, 0, _ => .nil
  | _, _, _ + 1, .nil => .nil
  | _, _, n + 1, .cons r l => .cons r (Reps.take n l)
theorem Reps.drop : ∀ {vs : List V} {ds : List D} (n : Nat), Reps P w S B H vs ds → Reps P w S B H (vs.drop n) (ds.drop n)
  | _, _, 0, l => l
  | _, _, _ + 1, .nil => .nil
  | _, _, n + 1, .cons _ l => Reps.drop n l
theorem Reps.set {v : V} {d : D} (r : Rep P w S B H v d) : ∀ {vs : List V} {ds : List D} (i : Nat), Reps P w S B H vs ds → Reps P w S B H (vs.set i v) (ds.set i d)
  | _, _, _, .nil => .nil
  | _, _, 0, .cons _ l => .cons r l
  | _, _, i + 1, .cons q l => .cons q (Reps.set r i l)
theorem Reps.reverse {vs : List V} {ds : List D} (l : Reps P w S B H vs ds) : Reps P w S B H vs.reverse ds.reverse := by
  induction ds generalizing vs with
  | nil => cases l; exact .nil
  | cons d ds ih => cases l with | cons r l => rw [List.reverse_cons, List.reverse_cons]; exact (ih l).append (.cons r .nil)
theorem Reps.ints : ∀ ns : List Int, Reps P w S B H (ns.map V.int) (ns.map D.int)
  | [] => .nil
  | n :: r => .cons (.int n) (Reps.ints r)
theorem Reps.ints_of : ∀ {ns : List Int} {vs : List V}, Reps P w S B H vs (ns.map D.int) → vs = ns.map V.int
  | [], _, .nil => rfl
  | n :: r, _, .cons h l => by cases h; rw [Reps.ints_of l]; rfl

/-- all that was tracked, but the drawing dict, is as it was -/
def Keep (S : SA) (H H' : Hp) : Prop := ∀ a o, ¬ Sb S a → H a = some o → H' a = some o
theorem Keep.refl : Keep S H H := fun _ _ _ h => h
theorem Keep.trans (a : Keep S H H1) (b : Keep S H1 H2) : Keep S H H2 := fun c o n h => b c o n (a c o n h)
theorem Keep.ofSame (h : Same H H') : Keep S H H' := fun a o _ e => h a o e
theorem Keep.rd (k : Keep S H H') {a : Addr} {u : HO} (n : ¬ Sb S a) (r : Rd H a u) : Rd H' a u := by
  rcases r with r | ⟨o, r⟩
  · exact .inl (k _ _ n r)
  · exact .inr ⟨o, k _ _ n r⟩
theorem At.same {a : Addr} {u : HO} (k : ∀ o, H a = some o → H' a = some o) (r : At H a u) : At H' a u := by
  have g : ∀ z, Rd H a z → Rd H' a z := fun z r => by
    rcases r with r | ⟨o, r⟩
    · exact .inl (k _ r)
    · exact .inr ⟨o, k _ r⟩
  cases u <;> first
    | exact k _ r
    | (obtain ⟨o, e, z⟩ := r; exact ⟨o, k _ e, z⟩)
    | exact g _ r
theorem At.rd {a : Addr} {u : HO} (r : At H a u) : Rd H a u := by
  cases u <;> first
    | exact r
    | (obtain ⟨o, e, z⟩ := r; exact .inr ⟨o, e⟩)
    | exact .inl r
theorem Keep.ext (k : Keep S H H') (sB : ∀ a, Sb S a → B a) : Ext B B H H' := fun a u n r => ⟨n, r.same fun o e => k a o (fun z => n (sB a z)) e⟩
theorem Rd.tracked {a : Addr} {u : HO} (r : Rd H a u) : H a ≠ none := by
  rcases r with r | ⟨o, r⟩ <;> rw [r] <;> simp
theorem same_new {p : Addr} {o : HO} (h : H p = none) : Same H (upd H p o) := fun b x e => by rw [upd_ne (ne_of_none e h)]; exact e
theorem Ext.less (h : ∀ a, B' a → B a) : Ext B B' H H := fun a u n r => ⟨fun z => n (h a z), r⟩
theorem new_ext {p : Addr} {o : HO} (n : H p = none) : Ext B (fun a => B a ∨ a = p) H (upd H p o) := fun a u nb r => by
  have hn : a ≠ p := fun z => by subst z; exact Rd.tracked r.rd n
  exact ⟨fun z => z.elim nb hn, r.same fun ob e => by rw [upd_ne hn]; exact e⟩
theorem Same.ext (s : Same H H') : Ext B B H H' := fun a u n r => ⟨n, r.same fun o e => s _ _ e⟩

/-- a list, a tuple that is handed over to be read: its root may be one that is owned -/
inductive RepI (P : Program) (w : World) (S : SA) (B : Addr → Prop) (H : Hp) : V → D → Prop
  | r {v : V} {d : D} : Rep P w S B H v d → RepI P w S B H v d
  | l {a : Addr} {vs : List V} {ds : List D} : ¬ Sb S a → H a = some (.lst vs) → Reps P w S B H vs ds → RepI P w S B H (.ref a) (.lst ds)
  | dk {a : Addr} {ks : List Key} {vs : List V} {ds : List D} : ¬ Sb S a → H a = some (.dK (ks.zip vs)) → ks.length = vs.length → Reps P w S B H vs ds → RepI P w S B H (.ref a) (.dct ((ks.map keyN).zip ds))
  | dn {a : Addr} {ks : List (NestedKey × Addr)} {vs : List V} {ds : List D} : ¬ Sb S a → H a = some (DNo P w a ks vs) → ks.length = vs.length → Reps P w S B H (ks.map fun p => V.ref p.2) (ks.map fun p => keyD p.1) → Reps P w S B H vs ds → RepI P w S B H (.ref a) (.dct ((ks.map (·.1)).zip ds))
theorem RepI.keep (k : Keep S H H') (sB : ∀ a, Sb S a → B a) {v : V} {d : D} (h : RepI P w S B H v d) : RepI P w S B H' v d := by
  cases h with
  | r h => exact .r (h.ext (k.ext sB))
  | l n e l => exact .l n (k _ _ n e) (l.ext (k.ext sB))
  | dk n e z l => exact .dk n (k _ _ n e) z (l.ext (k.ext sB))
  | dn n e z q l => exact .dn n (k _ _ n e) z (q.ext (k.ext sB)) (l.ext (k.ext sB))
theorem RepI.lst_inv {v : V} {ds : List D} (h : RepI P w S B H v (.lst ds)) : ∃ a vs, v = .ref a ∧ H a = some (.lst vs) ∧ Reps P w S B H vs ds := by
  cases h with
  | r h => cases h with | lst n r l => exact ⟨_, _, rfl, r, l⟩
  | l n e l => exact ⟨_, _, rfl, e, l⟩
theorem RepI.tup_inv {v : V} {ds : List D} (h : RepI P w S B H v (.tup ds)) : ∃ a vs o, v = .ref a ∧ H a = some (.frz o (.tup vs)) ∧ o.dict = none ∧ ¬ B a ∧ Reps P w S B H vs ds := by
  cases h with
  | r h => cases h with | tup n r l => obtain ⟨o, e, z⟩ := r; exact ⟨_, _, o, rfl, e, z, n, l⟩
theorem RepI.int_inv {v : V} {i : Int} (h : RepI P w S B H v (.int i)) : v = .int i := by
  cases h with | r h => cases h; rfl
theorem RepI.bl_inv {v : V} {b : Bool} (h : RepI P w S B H v (.bl b)) : v = .bl b := by
  cases h with | r h => cases h; rfl
theorem RepI.str_inv {v : V} {x : Str} (h : RepI P w S B H v (.str x)) : v = .str x := by
  cases h with | r h => cases h; rfl
end

/-! ### slots -/
/-- what a slot holds: a plain value; a list, a list of lists, a dict that the def alone knows; such a list while a loop walks it -/
inductive SV where
  | p (d : D) | ol (ds : List D) | oo (dss : List (List D)) | od (l : List (NestedKey × D)) | lk (ds : List D)
/-- not walked just now -/
def SV.un : SV → Bool
  | .lk _ => false
  | _ => true
abbrev Env := List (Option SV)
abbrev Fp := Nat → List Addr
def Blk (B0 : Addr → Prop) (fp : Fp) (a : Addr) : Prop := B0 a ∨ ∃ i, a ∈ fp i

inductive RepOO (P : Program) (w : World) (S : SA) (B : Addr → Prop) (H : Hp) : List Addr → List (List D) → Prop
  | nil : RepOO P w S B H [] []
  | cons {a : Addr} {vs : List V} {ds : List D} {as : List Addr} {dss : List (List D)} : H a = some (.lst vs) → Reps P w S B H vs ds → RepOO P w S B H as dss → RepOO P w S B H (a :: as) (ds :: dss)
inductive RepS (P : Program) (w : World) (S : SA) (B : Addr → Prop) (H : Hp) : List Addr → V → SV → Prop
  | p {v : V} {d : D} : Rep P w S B H v d → RepS P w S B H [] v (.p d)
  | ol {a : Addr} {vs : List V} {ds : List D} : H a = some (.lst vs) → Reps P w S B H vs ds → RepS P w S B H [a] (.ref a) (.ol ds)
  | lk {a : Addr} {vs : List V} {ds : List D} : H a = some (.lst vs) → Reps P w S B H vs ds → RepS P w S B H [a] (.ref a) (.lk ds)
  | oo {a : Addr} {as : List Addr} {dss : List (List D)} : H a = some (.lst (as.map V.ref)) → RepOO P w S B H as dss → RepS P w S B H (a :: as) (.ref a) (.oo dss)
  | dk {a : Addr} {ks : List Key} {vs : List V} {ds : List D} : H a = some (.dK (ks.zip vs)) → ks.length = vs.length → Reps P w S B H vs ds → RepS P w S B H [a] (.ref a) (.od ((ks.map keyN).zip ds))
  | dn {a : Addr} {ks : List (NestedKey × Addr)} {vs : List V} {ds : List D} : H a = some (DNo P w a ks vs) → ks.length = vs.length → Reps P w S B H (ks.map fun p => V.ref p.2) (ks.map fun p => keyD p.1) → Reps P w S B H vs ds → RepS P w S B H [a] (.ref a) (.od ((ks.map (·.1)).zip ds))
section
variable {P : Program} {w : World} {S : SA} {B B' B0 : Addr → Prop} {H H' H1 H2 : Hp}
theorem RepOO.ext (x : Ext B B' H H') {as : List Addr} {dss : List (List D)} (h : RepOO P w S B H as dss) (k : ∀ a ∈ as, H' a = H a) : RepOO P w S B' H' as dss := by
  induction h with
  | nil => exact .nil
  | cons e l _ ih => exact .cons ((k _ (by simp)).trans e) (l.ext x) (ih fun b hb => k b (by simp [hb]))
theorem RepS.ext (x : Ext B B' H H') {fp : List Addr} {v : V} {sv : SV} (h : RepS P w S B H fp v sv) (k : ∀ a ∈ fp, H' a = H a) : RepS P w S B' H' fp v sv := by
  cases h with
  | p r => exact .p (r.ext x)
  | ol e l => exact .ol ((k _ (by simp)).trans e) (l.ext x)
  | lk e l => exact .lk ((k _ (by simp)).trans e) (l.ext x)
  | oo e l => exact .oo ((k _ (by simp)).trans e) (l.ext x fun b hb => k b (by simp [hb]))
  | dk e z l => exact .dk ((k _ (by simp)).trans e) z (l.ext x)
  | dn e z q l => exact .dn ((k _ (by simp)).trans e) z (q.ext x) (l.ext x)
theorem RepOO.tracked {as : List Addr} {dss : List (List D)} (h : RepOO P w S B H as dss) : ∀ a ∈ as, ∃ vs, H a = some (.lst vs) := by
  induction h with
  | nil => intro a ha; simp at ha
  | cons e _ _ ih =>
    intro a ha
    rcases List.mem_cons.mp ha with rfl | ha
    · exact ⟨_, e⟩
    · exact ih a ha
theorem RepS.tracked {fp : List Addr} {v : V} {sv : SV} (h : RepS P w S B H fp v sv) : ∀ a ∈ fp, ∃ o, H a = some o ∧ Mut (some o) := by
  intro a ha
  cases h with
  | p r => simp at ha
  | ol e l => simp at ha; subst ha; exact ⟨_, e, trivial⟩
  | lk e l => simp at ha; subst ha; exact ⟨_, e, trivial⟩
  | oo e l =>
    rcases List.mem_cons.mp ha with rfl | ha
    · exact ⟨_, e, trivial⟩
    · obtain ⟨vs, z⟩ := l.tracked a ha; exact ⟨_, z, trivial⟩
  | dk e z l => simp at ha; subst ha; exact ⟨_, e, trivial⟩
  | dn e z q l => simp at ha; subst ha; exact ⟨_, e, trivial⟩

/-- the state of a body, told by plain data -/
structure Rl (P : Program) (w : World) (S : SA) (B0 : Addr → Prop) (ρ : Env) (σ : St) (fp : Fp) (s : Src) (H : Hp) : Prop where
  len : ρ.length = σ.length
  slot : ∀ i sv, ρ[i]? = some (some sv) → ∃ v, σ[i]? = some (some v) ∧ RepS P w S (Blk B0 fp) H (fp i) v sv
  own : ∀ i a, a ∈ fp i → H a ≠ none
  dis : ∀ i j a, a ∈ fp i → a ∈ fp j → i = j
  nod : ∀ i, (fp i).Nodup
  base : ∀ i a, a ∈ fp i → ¬ B0 a
  dom0 : ∀ a, B0 a → H a ≠ none
  sB : ∀ a, Sb S a → B0 a
  src : SrcOk S s H
variable {ρ : Env} {σ : St} {fp : Fp} {s s' : Src}
theorem Rl.dom (R : Rl P w S B0 ρ σ fp s H) (a : Addr) (h : Blk B0 fp a) : H a ≠ none := by
  rcases h with h | ⟨i, h⟩
  · exact R.dom0 a h
  · exact R.own i a h
theorem Rl.sBk (R : Rl P w S B0 ρ σ fp s H) (a : Addr) (h : Sb S a) : Blk B0 fp a := .inl (R.sB a h)
theorem Rl.notS (R : Rl P w S B0 ρ σ fp s H) {i : Nat} {a : Addr} (h : a ∈ fp i) : ¬ Sb S a := fun z => R.base i a h (R.sB a z)
theorem SrcOk.tracked {s : Src} (q : SrcOk S s H) {a : Addr} (h : Sb S a) : H a ≠ none := by
  obtain ⟨p, e, h⟩ := h
  obtain ⟨_, e1, e2⟩ := q p e
  rcases h with h | h <;> rw [h] <;> simp [e1, e2]
/-- behind an expression -/
theorem Rl.keep (R : Rl P w S B0 ρ σ fp s H) (k : Keep S H H') (q : SrcOk S s' H') : Rl P w S B0 ρ σ fp s' H' := by
  have st : ∀ a, ¬ Sb S a → H a ≠ none → H' a = H a := fun a z h => by
    cases e : H a with
    | none => exact absurd e h
    | some o => exact k a o z e
  refine ⟨R.len, fun i sv e => ?_, fun i a h => ?_, R.dis, R.nod, R.base, fun a h => ?_, R.sB, q⟩
  · obtain ⟨v, h1, h2⟩ := R.slot i sv e
    exact ⟨v, h1, h2.ext (k.ext R.sBk) fun a ha => st a (R.notS ha) (R.own i a ha)⟩
  · rw [st a (R.notS h) (R.own i a h)]; exact R.own i a h
  · by_cases z : Sb S a
    · exact q.tracked z
    · rw [st a z (R.dom0 a h)]; exact R.dom0 a h
end

/-! ### readings -/
abbrev EE := Env → Src → Option (D × Src)
abbrev EL := Env → Src → Option (List D × Src)
abbrev EK := Env → Src → Option (List (NestedKey × D) × Src)
abbrev EO := Env → Src → Option (SV × Src)
abbrev EA := Env → Src → Option (List D × Src)
abbrev EB := Env → Src → Option (Bool × Src)
/-- a value -/
def tV (P : Program) (w : World) (f : EE) : TE := fun σ H Q => ∃ (S : SA) (B0 : Addr → Prop) (ρ : Env) (fp : Fp) (s : Src) (d : D) (s' : Src), Rl P w S B0 ρ σ fp s H ∧ f ρ s = some (d, s') ∧
  ∀ v H', Keep S H H' → SrcOk S s' H' → Rep P w S (Blk B0 fp) H' v d → Q v H'
/-- a value that is only read -/
def tI (P : Program) (w : World) (f : EE) : TE := fun σ H Q => ∃ (S : SA) (B0 : Addr → Prop) (ρ : Env) (fp : Fp) (s : Src) (d : D) (s' : Src), Rl P w S B0 ρ σ fp s H ∧ f ρ s = some (d, s') ∧
  ∀ v H', Keep S H H' → SrcOk S s' H' → RepI P w S (Blk B0 fp) H' v d → Q v H'
/-- a new list -/
def tF (P : Program) (w : World) (f : EL) : TE := fun σ H Q => ∃ (S : SA) (B0 : Addr → Prop) (ρ : Env) (fp : Fp) (s : Src) (ds : List D) (s' : Src), Rl P w S B0 ρ σ fp s H ∧ f ρ s = some (ds, s') ∧
  ∀ p H', Keep S H H' → SrcOk S s' H' → H p = none → (∃ vs, H' p = some (.lst vs) ∧ Reps P w S (fun a => Blk B0 fp a ∨ a = p) H' vs ds) → Q (.ref p) H'
/-- a value for a name -/
def tO (P : Program) (w : World) (f : EO) : TE := fun σ H Q => ∃ (S : SA) (B0 : Addr → Prop) (ρ : Env) (fp : Fp) (s : Src) (sv : SV) (s' : Src), Rl P w S B0 ρ σ fp s H ∧ f ρ s = some (sv, s') ∧ sv.un = true ∧
  ∀ v H' nf, Keep S H H' → SrcOk S s' H' → nf.Nodup → (∀ a ∈ nf, H a = none) → RepS P w S (fun a => Blk B0 fp a ∨ a ∈ nf) H' nf v sv → Q v H'
/-- arguments -/
def tA (P : Program) (w : World) (f : EA) : TA := fun σ H Q => ∃ (S : SA) (B0 : Addr → Prop) (ρ : Env) (fp : Fp) (s : Src) (ds : List D) (s' : Src), Rl P w S B0 ρ σ fp s H ∧ f ρ s = some (ds, s') ∧
  ∀ vs H', Keep S H H' → SrcOk S s' H' → Reps P w S (Blk B0 fp) H' vs ds → Q vs H'
/-- a test -/
def tT (P : Program) (w : World) (f : EB) : TT := fun σ H Q => ∃ (S : SA) (B0 : Addr → Prop) (ρ : Env) (fp : Fp) (s : Src) (b : Bool) (s' : Src), Rl P w S B0 ρ σ fp s H ∧ f ρ s = some (b, s') ∧
  ∀ H', Keep S H H' → SrcOk S s' H' → Q b H'

theorem PE.imp {X : Cx} {e : Expr} {t t' : TE} (h : PE X e t) (i : ∀ σ H Q, t' σ H Q → t σ H Q) : PE X e t' := ⟨fun pins s σ H Q I q => h.run pins s σ H Q I (i σ H Q q)⟩
theorem PT.imp {X : Cx} {e : Expr} {t t' : TT} (h : PT X e t) (i : ∀ σ H Q, t' σ H Q → t σ H Q) : PT X e t' := ⟨fun pins s σ H Q I q => h.run pins s σ H Q I (i σ H Q q)⟩
theorem PA.imp {X : Cx} {es : List Expr} {t t' : TA} (h : PA X es t) (i : ∀ σ H Q, t' σ H Q → t σ H Q) : PA X es t' := ⟨fun pos pins s σ H Q I q => h.run pos pins s σ H Q I (i σ H Q q)⟩
theorem PS.imp {X : Cx} {st : Stmt} {t t' : TS} (h : PS X st t) (i : ∀ D σ H, t' D σ H → t D σ H) : PS X st t' := ⟨fun pins s σ H D I q => h.run pins s σ H D I (i D σ H q)⟩

def eF (f : EL) : EE := fun ρ s => (f ρ s).map fun z => (.lst z.1, z.2)
def oV (f : EE) : EO := fun ρ s => (f ρ s).map fun z => (.p z.1, z.2)
def oF (f : EL) : EO := fun ρ s => (f ρ s).map fun z => (.ol z.1, z.2)
theorem map_some' {α β : Type} {o : Option α} {g : α → β} {b : β} (h : o.map g = some b) : ∃ a, o = some a ∧ g a = b := by
  cases o with
  | none => cases h
  | some a => exact ⟨a, rfl, Option.some.inj h⟩
section
variable {X : Cx} {e : Expr}
theorem PE.i {f : EE} (h : PE X e (tV X.prog X.w f)) : PE X e (tI X.prog X.w f) := PE.imp h fun σ H Q ⟨S, B0, ρ, fp, s, d, s', R, e, q⟩ => ⟨S, B0, ρ, fp, s, d, s', R, e, fun v H' k o r => q v H' k o (.r r)⟩
theorem PE.o {f : EE} (h : PE X e (tV X.prog X.w f)) : PE X e (tO X.prog X.w (oV f)) := PE.imp h fun σ H Q ⟨S, B0, ρ, fp, s, sv, s', R, e, q⟩ => by
  obtain ⟨⟨d, s1⟩, e1, e2⟩ := map_some' e
  cases e2
  exact ⟨S, B0, ρ, fp, s, d, s1, R, e1, fun v H' k o r => q.2 v H' [] k o .nil (by simp) (.p (r.ext (.less fun a z => z.elim id fun z => by simp at z)))⟩
theorem PE.vf {f : EL} (h : PE X e (tF X.prog X.w f)) : PE X e (tV X.prog X.w (eF f)) := PE.imp h fun σ H Q ⟨S, B0, ρ, fp, s, d, s', R, e, q⟩ => by
  obtain ⟨⟨ds, s1⟩, e1, e2⟩ := map_some' e
  cases e2
  refine ⟨S, B0, ρ, fp, s, ds, s1, R, e1, fun p H' k o n ⟨vs, e3, l⟩ => q _ H' k o (.lst (fun z => R.dom p z n) e3 (l.ext (.less fun a z => .inl z)))⟩
theorem PE.of {f : EL} (h : PE X e (tF X.prog X.w f)) : PE X e (tO X.prog X.w (oF f)) := PE.imp h fun σ H Q ⟨S, B0, ρ, fp, s, d, s', R, e, q⟩ => by
  obtain ⟨⟨ds, s1⟩, e1, e2⟩ := map_some' e
  cases e2
  refine ⟨S, B0, ρ, fp, s, ds, s1, R, e1, fun p H' k o n ⟨vs, e3, l⟩ => q.2 _ H' [p] k o (by simp) (fun a ha => by simp at ha; subst ha; exact n) (.ol e3 (l.ext (.less fun a z => z.elim .inl fun z => .inr (by simpa using z))))⟩
end
end Pv

set_option Elab.async false
set_option linter.all false
set_option maxRecDepth 100000
set_option maxHeartbeats 1000000
namespace Pv
open PySem PySem.Spec L2
open PyProof.Rows hiding St

/-- the longest list that is made here -/
def LIM : Nat := 1000000
theorem lim_line : LIM < sizeLine := by rw [sizeLine_eq]; decide

theorem bind_some' {α β : Type} {o : Option α} {g : α → Option β} {b : β} (h : o.bind g = some b) : ∃ a, o = some a ∧ g a = some b := by
  cases o with
  | none => cases h
  | some a => exact ⟨a, rfl, h⟩
theorem SrcOk.same {S : SA} {s : Src} {H H' : Hp} (q : SrcOk S s H) (m : Same H H') : SrcOk S s H' := fun p e => let ⟨h1, h2, h3⟩ := q p e; ⟨h1, m _ _ h2, m _ _ h3⟩
theorem Keep.same {S : SA} {H H1 H' : Hp} (k : Keep S H H1) (m : Same H1 H') : Keep S H H' := k.trans (.ofSame m)

def eC (d : D) : EE := fun _ s => some (d, s)
def eVar (i : Nat) : EE := fun ρ s => match ρ[i]? with
  | some (some (.p d)) => some (d, s)
  | _ => none
def eBor (i : Nat) : EE := fun ρ s => match ρ[i]? with
  | some (some (.p d)) => some (d, s)
  | some (some (.ol ds)) => some (.lst ds, s)
  | some (some (.lk ds)) => some (.lst ds, s)
  | some (some (.od l)) => some (.dct l, s)
  | _ => none
/-- the j-th list of a list of lists that the def alone knows -/
def eBor2 (i : Nat) (f : EE) : EE := fun ρ s => (f ρ s).bind fun z => match z.1, ρ[i]? with
  | .int k, some (some (.oo dss)) => (atI dss k).map fun ds => (.lst ds, z.2)
  | _, _ => none
def e1 (g : D → Option D) (f : EE) : EE := fun ρ s => (f ρ s).bind fun x => (g x.1).map fun d => (d, x.2)
def e2 (g : D → D → Option D) (fa fb : EE) : EE := fun ρ s => (fa ρ s).bind fun x => (fb ρ x.2).bind fun y => (g x.1 y.1).map fun d => (d, y.2)
def f1 (g : D → Option (List D)) (f : EE) : EL := fun ρ s => (f ρ s).bind fun x => (g x.1).map fun d => (d, x.2)
def f2 (g : D → D → Option (List D)) (fa fb : EE) : EL := fun ρ s => (fa ρ s).bind fun x => (fb ρ x.2).bind fun y => (g x.1 y.1).map fun d => (d, y.2)
def bB : D → Option Bool
  | .bl b => some b
  | _ => none
def bE (f : EE) : EB := fun ρ s => (f ρ s).bind fun x => (bB x.1).map fun b => (b, x.2)
def eAnd (fa fb : EE) : EE := fun ρ s => (fa ρ s).bind fun x => match x.1 with
  | .bl true => fb ρ x.2
  | .bl false => some (.bl false, x.2)
  | _ => none
def eOr (fa fb : EE) : EE := fun ρ s => (fa ρ s).bind fun x => match x.1 with
  | .bl true => some (.bl true, x.2)
  | .bl false => fb ρ x.2
  | _ => none
def eNot : D → Option D
  | .bl b => some (.bl (!b))
  | _ => none
def eIf (c : EB) (fa fb : EE) : EE := fun ρ s => (c ρ s).bind fun b => if b.1 = true then fa ρ b.2 else fb ρ b.2
def bAnd (fa fb : EB) : EB := fun ρ s => (fa ρ s).bind fun x => if x.1 = true then fb ρ x.2 else some (false, x.2)
def bOr (fa fb : EB) : EB := fun ρ s => (fa ρ s).bind fun x => if x.1 = true then some (true, x.2) else fb ρ x.2
def bNot (f : EB) : EB := fun ρ s => (f ρ s).map fun x => (!x.1, x.2)
def aNil : EA := fun _ s => some ([], s)
def aCons (f : EE) (r : EA) : EA := fun ρ s => (f ρ s).bind fun x => (r ρ x.2).map fun y => (x.1 :: y.1, y.2)
def chain (g g' : D → D → Option D) (fa fb fc : EE) : EE := fun ρ s => (fa ρ s).bind fun x => (fb ρ x.2).bind fun y => (g x.1 y.1).bind fun k => match k with
  | .bl true => (fc ρ y.2).bind fun z => (g' y.1 z.1).map fun d => (d, z.2)
  | .bl false => some (.bl false, y.2)
  | _ => none

/-! ### operations by values -/
structure R1V (P : Program) (w : World) (r : V → Hp → VK → Prop) (g : D → Option D) : Prop where
  run : ∀ {S : SA} {B : Addr → Prop} {H : Hp} {x : V} {d z : D} {Q : VK}, (∀ a, B a → H a ≠ none) → RepI P w S B H x d → g d = some z → (∀ v H', Same H H' → Rep P w S B H' v z → Q v H') → r x H Q
structure R2V (P : Program) (w : World) (r : R2) (g : D → D → Option D) : Prop where
  run : ∀ {S : SA} {B : Addr → Prop} {H : Hp} {x y : V} {d e z : D} {Q : VK}, (∀ a, B a → H a ≠ none) → RepI P w S B H x d → RepI P w S B H y e → g d e = some z → (∀ v H', Same H H' → Rep P w S B H' v z → Q v H') → r x y H Q
structure R1F (P : Program) (w : World) (r : V → Hp → VK → Prop) (g : D → Option (List D)) : Prop where
  run : ∀ {S : SA} {B : Addr → Prop} {H : Hp} {x : V} {d : D} {zs : List D} {Q : VK}, (∀ a, B a → H a ≠ none) → RepI P w S B H x d → g d = some zs →
    (∀ p H' vs, Same H H' → H p = none → H' p = some (.lst vs) → Reps P w S (fun a => B a ∨ a = p) H' vs zs → Q (.ref p) H') → r x H Q
structure R2F (P : Program) (w : World) (r : R2) (g : D → D → Option (List D)) : Prop where
  run : ∀ {S : SA} {B : Addr → Prop} {H : Hp} {x y : V} {d e : D} {zs : List D} {Q : VK}, (∀ a, B a → H a ≠ none) → RepI P w S B H x d → RepI P w S B H y e → g d e = some zs →
    (∀ p H' vs, Same H H' → H p = none → H' p = some (.lst vs) → Reps P w S (fun a => B a ∨ a = p) H' vs zs → Q (.ref p) H') → r x y H Q
section
variable {P : Program} {w : World} {r r' : R2} {g g' : D → D → Option D} {fa fb fc : EE} {σ : L2.St} {H : Hp} {Q : VK}
theorem go1 {r : V → Hp → VK → Prop} {g : D → Option D} (h : R1V P w r g) (q : tV P w (e1 g fa) σ H Q) : tI P w fa σ H fun x H1 => r x H1 Q := by
  obtain ⟨S, B0, ρ, fp, s, d, s', R, e, q⟩ := q
  obtain ⟨⟨x, s1⟩, e1, e⟩ := bind_some' e
  obtain ⟨z, e2, e⟩ := map_some' e
  cases e
  exact ⟨S, B0, ρ, fp, s, x, s1, R, e1, fun v H1 k1 o1 r1 => h.run (R.keep k1 o1).dom r1 e2 fun u H2 m r2 => q u H2 (k1.same m) (o1.same m) r2⟩
theorem go1F {r : V → Hp → VK → Prop} {g : D → Option (List D)} (h : R1F P w r g) (q : tF P w (f1 g fa) σ H Q) : tI P w fa σ H fun x H1 => r x H1 Q := by
  obtain ⟨S, B0, ρ, fp, s, d, s', R, e, q⟩ := q
  obtain ⟨⟨x, s1⟩, e1, e⟩ := bind_some' e
  obtain ⟨z, e2, e⟩ := map_some' e
  cases e
  refine ⟨S, B0, ρ, fp, s, x, s1, R, e1, fun v H1 k1 o1 r1 => h.run (R.keep k1 o1).dom r1 e2 fun p H2 vs m n e3 r2 => q p H2 (k1.same m) (o1.same m) ?_ ⟨vs, e3, r2⟩⟩
  cases z : H p with
  | none => rfl
  | some o =>
    by_cases hs : Sb S p
    · have := (R.keep k1 o1).dom p (.inl (R.sB p hs)); exact absurd n this
    · rw [k1 p o hs z] at n; cases n
theorem go2 (h : R2V P w r g) (q : tV P w (e2 g fa fb) σ H Q) : tI P w fa σ H fun x H1 => tI P w fb σ H1 fun y H2 => r x y H2 Q := by
  obtain ⟨S, B0, ρ, fp, s, d, s', R, e, q⟩ := q
  obtain ⟨⟨x, s1⟩, e1, e⟩ := bind_some' e
  obtain ⟨⟨y, s2⟩, e2, e⟩ := bind_some' e
  obtain ⟨z, e3, e⟩ := map_some' e
  cases e
  refine ⟨S, B0, ρ, fp, s, x, s1, R, e1, fun v H1 k1 o1 r1 => ⟨S, B0, ρ, fp, s1, y, s2, R.keep k1 o1, e2, fun u H2 k2 o2 r2 => ?_⟩⟩
  exact h.run ((R.keep k1 o1).keep k2 o2).dom (r1.keep k2 R.sBk) r2 e3 fun u H3 m r3 => q u H3 ((k1.trans k2).same m) (o2.same m) r3
theorem go2F {g : D → D → Option (List D)} (h : R2F P w r g) (q : tF P w (f2 g fa fb) σ H Q) : tI P w fa σ H fun x H1 => tI P w fb σ H1 fun y H2 => r x y H2 Q := by
  obtain ⟨S, B0, ρ, fp, s, d, s', R, e, q⟩ := q
  obtain ⟨⟨x, s1⟩, e1, e⟩ := bind_some' e
  obtain ⟨⟨y, s2⟩, e2, e⟩ := bind_some' e
  obtain ⟨z, e3, e⟩ := map_some' e
  cases e
  refine ⟨S, B0, ρ, fp, s, x, s1, R, e1, fun v H1 k1 o1 r1 => ⟨S, B0, ρ, fp, s1, y, s2, R.keep k1 o1, e2, fun u H2 k2 o2 r2 => ?_⟩⟩
  refine h.run ((R.keep k1 o1).keep k2 o2).dom (r1.keep k2 R.sBk) r2 e3 fun p H3 vs m n e4 r3 => q p H3 ((k1.trans k2).same m) (o2.same m) ?_ ⟨vs, e4, r3⟩
  cases z : H p with
  | none => rfl
  | some o =>
    by_cases hs : Sb S p
    · have := ((R.keep k1 o1).keep k2 o2).dom p (.inl (R.sB p hs)); exact absurd n this
    · rw [k2 p o hs (k1 p o hs z)] at n; cases n
end

section
variable {X : Cx} {a b c : Expr} {es : List Expr} {pos : Pos} {fa fb fc : EE} {g g' : D → D → Option D}
/-! ### atoms -/
theorem v_c {v : V} {d : D} {e : Expr} (h : PE X e (tC v)) (r : ∀ {S : SA} {B : Addr → Prop} {H : Hp}, Rep X.prog X.w S B H v d) : PE X e (tV X.prog X.w (eC d)) := PE.imp h fun σ H Q ⟨S, B0, ρ, fp, s, d', s', R, e, q⟩ => by
  cases e
  exact q v H .refl R.src r
theorem v_int {i j pos} : PE X (.Constant (.int i) j pos) (tV X.prog X.w (eC (.int i))) := v_c pe_int (.int i)
theorem v_bl {b j pos} : PE X (.Constant (.bool b) j pos) (tV X.prog X.w (eC (.bl b))) := v_c pe_bl (.bl b)
theorem v_non {j pos} : PE X (.Constant .none j pos) (tV X.prog X.w (eC .non)) := v_c pe_non .non
theorem v_str {x j pos} : PE X (.Constant (.str x) j pos) (tV X.prog X.w (eC (.str x))) := v_c pe_str (.str x)
theorem v_var (i : Nat) {x : Str} {pos : Pos} (hN : X.N[i]? = some x := by rfl) (hv : Vis X.env.scope x := by first | exact Or.inl rfl | exact Or.inr (Or.inl rfl) | exact Or.inr (Or.inr rfl)) (hd : (x == ("__debug__" : Str)) = false := by decide)
    (hcd : (x == ("__classdict__" : Str)) = false := by decide) : PE X (.Name x pos) (tV X.prog X.w (eVar i)) := PE.imp (pe_var hN hv hd hcd) fun σ H Q ⟨S, B0, ρ, fp, s, d, s', R, e, q⟩ => by
  unfold eVar at e
  split at e <;> cases e
  rename_i d h
  obtain ⟨v, h1, h2⟩ := R.slot i _ h
  exact ⟨v, h1, q v H .refl R.src (by generalize fp i = l at h2; cases h2 with | p r => exact r)⟩
theorem v_bor (i : Nat) {x : Str} {pos : Pos} (hN : X.N[i]? = some x := by rfl) (hv : Vis X.env.scope x := by first | exact Or.inl rfl | exact Or.inr (Or.inl rfl) | exact Or.inr (Or.inr rfl)) (hd : (x == ("__debug__" : Str)) = false := by decide)
    (hcd : (x == ("__classdict__" : Str)) = false := by decide) : PE X (.Name x pos) (tI X.prog X.w (eBor i)) := PE.imp (pe_var hN hv hd hcd) fun σ H Q ⟨S, B0, ρ, fp, s, d, s', R, e, q⟩ => by
  have key : ∀ sv, ρ[i]? = some (some sv) → ∃ v, σ[i]? = some (some v) ∧ RepS X.prog X.w S (Blk B0 fp) H (fp i) v sv := R.slot i
  have ns : ∀ a, a ∈ fp i → ¬ Sb S a := fun a h => R.notS h
  generalize fp i = l at key ns
  unfold eBor at e
  split at e <;> cases e <;> rename_i h <;> obtain ⟨v, h1, h2⟩ := key _ h <;> refine ⟨v, h1, q v H .refl R.src ?_⟩
  · cases h2 with | p r => exact .r r
  · cases h2 with | ol e l => exact .l (ns _ (by simp)) e l
  · cases h2 with | lk e l => exact .l (ns _ (by simp)) e l
  · cases h2 with
    | dk e z l => exact .dk (ns _ (by simp)) e z l
    | dn e z k l => exact .dn (ns _ (by simp)) e z k l

/-! ### and, or, not, if, comparisons -/
theorem t_of {e : Expr} {f : EE} (h : PE X e (tV X.prog X.w f)) (he : ∀ whole, isTrue e X.env whole = (do let v ← whole; standAt e.pos; holding [v] (truthy v)) := by intro _; rfl) : PT X e (tT X.prog X.w (bE f)) := PT.imp (pt_val h he) fun σ H Q ⟨S, B0, ρ, fp, s, d, s', R, e, q⟩ => by
  obtain ⟨⟨x, s1⟩, e1, e⟩ := bind_some' e
  obtain ⟨z, e2, e⟩ := map_some' e
  cases e
  refine ⟨S, B0, ρ, fp, s, x, s1, R, e1, fun v H1 k o r => ?_⟩
  cases x <;> cases e2
  cases r
  exact ⟨_, rfl, q H1 k o⟩
theorem v_and {rest : List Expr} (ha : PE X a (tV X.prog X.w fa)) (hb : PE X (.BoolOp .And (b :: rest) pos) (tV X.prog X.w fb)) : PE X (.BoolOp .And (a :: b :: rest) pos) (tV X.prog X.w (eAnd fa fb)) := PE.imp (pe_and ha hb) fun σ H Q ⟨S, B0, ρ, fp, s, d, s', R, e, q⟩ => by
  obtain ⟨⟨x, s1⟩, e1, e⟩ := bind_some' e
  refine ⟨S, B0, ρ, fp, s, x, s1, R, e1, fun v H1 k o r => ?_⟩
  cases x with
  | bl c =>
    cases r
    refine ⟨c, rfl, ?_⟩
    cases c with
    | true => exact iteT ⟨S, B0, ρ, fp, s1, d, s', R.keep k o, e, fun v H2 k2 o2 r2 => q v H2 (k.trans k2) o2 r2⟩
    | false => cases e; exact iteF (q _ H1 k o (.bl false))
  | _ => cases e
theorem v_or {rest : List Expr} (ha : PE X a (tV X.prog X.w fa)) (hb : PE X (.BoolOp .Or (b :: rest) pos) (tV X.prog X.w fb)) : PE X (.BoolOp .Or (a :: b :: rest) pos) (tV X.prog X.w (eOr fa fb)) := PE.imp (pe_or ha hb) fun σ H Q ⟨S, B0, ρ, fp, s, d, s', R, e, q⟩ => by
  obtain ⟨⟨x, s1⟩, e1, e⟩ := bind_some' e
  refine ⟨S, B0, ρ, fp, s, x, s1, R, e1, fun v H1 k o r => ?_⟩
  cases x with
  | bl c =>
    cases r
    refine ⟨c, rfl, ?_⟩
    cases c with
    | false => exact iteF ⟨S, B0, ρ, fp, s1, d, s', R.keep k o, e, fun v H2 k2 o2 r2 => q v H2 (k.trans k2) o2 r2⟩
    | true => cases e; exact iteT (q _ H1 k o (.bl true))
  | _ => cases e
theorem v_not (ha : PE X a (tV X.prog X.w fa)) : PE X (.UnaryOp .Not a pos) (tV X.prog X.w (e1 eNot fa)) := PE.imp (pe_not ha) fun σ H Q ⟨S, B0, ρ, fp, s, d, s', R, e, q⟩ => by
  obtain ⟨⟨x, s1⟩, e1, e⟩ := bind_some' e
  obtain ⟨z, e2, e⟩ := map_some' e
  cases e
  refine ⟨S, B0, ρ, fp, s, x, s1, R, e1, fun v H1 k o r => ?_⟩
  cases x <;> cases e2
  cases r
  exact ⟨_, rfl, q _ H1 k o (.bl _)⟩
variable {ca cb : EB}
theorem w_and1 (ha : PT X a (tT X.prog X.w ca)) : PW X (.BoolOp .And [a] pos) (tT X.prog X.w ca) := pw_and1 ha
theorem w_or1 (ha : PT X a (tT X.prog X.w ca)) : PW X (.BoolOp .Or [a] pos) (tT X.prog X.w ca) := pw_or1 ha
theorem w_and {rest : List Expr} (ha : PT X a (tT X.prog X.w ca)) (hb : PW X (.BoolOp .And (b :: rest) pos) (tT X.prog X.w cb)) : PW X (.BoolOp .And (a :: b :: rest) pos) (tT X.prog X.w (bAnd ca cb)) :=
  ⟨fun wh pins s σ H Q I q => (pw_and ha hb).run wh pins s σ H Q I (by
    obtain ⟨S, B0, ρ, fp, s, d, s', R, e, q⟩ := q
    obtain ⟨⟨x, s1⟩, e1, e⟩ := bind_some' e
    refine ⟨S, B0, ρ, fp, s, x, s1, R, e1, fun H1 k o => ?_⟩
    cases x with
    | true => exact iteT ⟨S, B0, ρ, fp, s1, d, s', R.keep k o, e, fun H2 k2 o2 => q H2 (k.trans k2) o2⟩
    | false => cases e; exact iteF (q H1 k o))⟩
theorem w_or {rest : List Expr} (ha : PT X a (tT X.prog X.w ca)) (hb : PW X (.BoolOp .Or (b :: rest) pos) (tT X.prog X.w cb)) : PW X (.BoolOp .Or (a :: b :: rest) pos) (tT X.prog X.w (bOr ca cb)) :=
  ⟨fun wh pins s σ H Q I q => (pw_or ha hb).run wh pins s σ H Q I (by
    obtain ⟨S, B0, ρ, fp, s, d, s', R, e, q⟩ := q
    obtain ⟨⟨x, s1⟩, e1, e⟩ := bind_some' e
    refine ⟨S, B0, ρ, fp, s, x, s1, R, e1, fun H1 k o => ?_⟩
    cases x with
    | false => exact iteF ⟨S, B0, ρ, fp, s1, d, s', R.keep k o, e, fun H2 k2 o2 => q H2 (k.trans k2) o2⟩
    | true => cases e; exact iteT (q H1 k o))⟩
theorem t_not (ha : PT X a (tT X.prog X.w ca)) : PT X (.UnaryOp .Not a pos) (tT X.prog X.w (bNot ca)) := PT.imp (pt_not ha) fun σ H Q ⟨S, B0, ρ, fp, s, d, s', R, e, q⟩ => by
  obtain ⟨⟨x, s1⟩, e1, e⟩ := map_some' e
  cases e
  exact ⟨S, B0, ρ, fp, s, x, s1, R, e1, fun H1 k o => q H1 k o⟩
theorem v_if (hc : PT X c (tT X.prog X.w ca)) (ha : PE X a (tV X.prog X.w fa)) (hb : PE X b (tV X.prog X.w fb)) : PE X (.IfExp c a b pos) (tV X.prog X.w (eIf ca fa fb)) := PE.imp (pe_ifExp hc ha hb) fun σ H Q ⟨S, B0, ρ, fp, s, d, s', R, e, q⟩ => by
  obtain ⟨⟨x, s1⟩, e1, e⟩ := bind_some' e
  refine ⟨S, B0, ρ, fp, s, x, s1, R, e1, fun H1 k o => ?_⟩
  cases x with
  | true => exact iteT ⟨S, B0, ρ, fp, s1, d, s', R.keep k o, e, fun v H2 k2 o2 r2 => q v H2 (k.trans k2) o2 r2⟩
  | false => exact iteF ⟨S, B0, ρ, fp, s1, d, s', R.keep k o, e, fun v H2 k2 o2 r2 => q v H2 (k.trans k2) o2 r2⟩

/-! ### operators -/
theorem v_op {op : Operator} {r : R2} (ho : OpR X (binaryOp op) r) (h : R2V X.prog X.w r g) (ha : PE X a (tI X.prog X.w fa)) (hb : PE X b (tI X.prog X.w fb)) : PE X (.BinOp a op b pos) (tV X.prog X.w (e2 g fa fb)) := PE.imp (pe_op ho ha hb) fun σ H Q q => go2 h q
theorem v_opF {op : Operator} {r : R2} {g : D → D → Option (List D)} (ho : OpR X (binaryOp op) r) (h : R2F X.prog X.w r g) (ha : PE X a (tI X.prog X.w fa)) (hb : PE X b (tI X.prog X.w fb)) : PE X (.BinOp a op b pos) (tF X.prog X.w (f2 g fa fb)) := PE.imp (pe_op ho ha hb) fun σ H Q q => go2F h q
theorem v_un {op : UnaryOp} {r : V → Hp → VK → Prop} {g : D → Option D} (ho : UnR X (unaryOp op) r) (h : R1V X.prog X.w r g) (ha : PE X a (tI X.prog X.w fa)) : PE X (.UnaryOp op a pos) (tV X.prog X.w (e1 g fa)) := PE.imp (pe_un ho ha) fun σ H Q q => go1 h q
theorem v_cmp {op : CmpOp} {r : R2} (ho : OpR X (compareOp op) r) (h : R2V X.prog X.w r g) (ha : PE X a (tI X.prog X.w fa)) (hb : PE X b (tI X.prog X.w fb)) (hm : behindInMarks op b = false := by first | exact nomark _ | rfl) : PE X (.Compare a [op] [b] pos) (tV X.prog X.w (e2 g fa fb)) :=
  PE.imp (pe_cmpR ho ha hb hm) fun σ H Q q => go2 h q
theorem t_cmp {op : CmpOp} {r : R2} (ho : OpR X (compareOp op) r) (h : R2V X.prog X.w r g) (ha : PE X a (tI X.prog X.w fa)) (hb : PE X b (tI X.prog X.w fb)) (hm : behindInMarks op b = false := by first | exact nomark _ | rfl) : PT X (.Compare a [op] [b] pos) (tT X.prog X.w (bE (e2 g fa fb))) :=
  PT.imp (pt_cmpR ho ha hb hm) fun σ H Q ⟨S, B0, ρ, fp, s, d, s', R, e, q⟩ => by
    obtain ⟨⟨x, s1⟩, e1, e⟩ := bind_some' e
    obtain ⟨z, e2, e⟩ := map_some' e
    cases e
    refine go2 h ⟨S, B0, ρ, fp, s, x, s1, R, e1, fun v H1 k o r => ?_⟩
    cases x <;> cases e2
    cases r
    exact ⟨_, rfl, q H1 k o⟩
theorem go_chain {r r' : R2} (h : R2V X.prog X.w r g) (h' : R2V X.prog X.w r' g') {σ : L2.St} {H : Hp} {Q : VK} (q : tV X.prog X.w (chain g g' fa fb fc) σ H Q) : tChain r r' (tI X.prog X.w fa) (tI X.prog X.w fb) (tI X.prog X.w fc) σ H Q := by
  obtain ⟨S, B0, ρ, fp, s, d, s', R, e, q⟩ := q
  obtain ⟨⟨x, s1⟩, e1, e⟩ := bind_some' e
  obtain ⟨⟨y, s2⟩, e2, e⟩ := bind_some' e
  obtain ⟨k, e3, e⟩ := bind_some' e
  refine ⟨S, B0, ρ, fp, s, x, s1, R, e1, fun v H1 k1 o1 r1 => ⟨S, B0, ρ, fp, s1, y, s2, R.keep k1 o1, e2, fun u H2 k2 o2 r2 => ?_⟩⟩
  have R2 := (R.keep k1 o1).keep k2 o2
  refine h.run R2.dom (r1.keep k2 R.sBk) r2 e3 fun z H3 m r3 => ?_
  cases k with
  | bl c =>
    cases r3
    refine ⟨c, rfl, ?_⟩
    cases c with
    | true =>
      obtain ⟨⟨z, s3⟩, e4, e⟩ := bind_some' e
      obtain ⟨t, e5, e⟩ := map_some' e
      cases e
      refine iteT ⟨S, B0, ρ, fp, s2, z, s3, R2.keep (.ofSame m) (o2.same m), e4, fun v3 H4 k4 o4 r4 => ?_⟩
      exact h'.run ((R2.keep (.ofSame m) (o2.same m)).keep k4 o4).dom ((r2.keep (.ofSame m) R.sBk).keep k4 R.sBk) r4 e5 fun v5 H5 m5 r5 => q v5 H5 ((((k1.trans k2).same m).trans k4).same m5) (o4.same m5) r5
    | false => cases e; exact iteF (q _ H3 ((k1.trans k2).same m) (o2.same m) (.bl false))
  | _ => cases e
theorem v_chain {op op' : CmpOp} {r r' : R2} (ho : OpR X (compareOp op) r) (h : R2V X.prog X.w r g) (ho' : OpR X (compareOp op') r') (h' : R2V X.prog X.w r' g') (ha : PE X a (tI X.prog X.w fa)) (hb : PE X b (tI X.prog X.w fb)) (hc : PE X c (tI X.prog X.w fc))
    (hm : lastMarks [op, op'] [b, c] = false := by with_unfolding_all rfl) : PE X (.Compare a [op, op'] [b, c] pos) (tV X.prog X.w (chain g g' fa fb fc)) := PE.imp (pe_chain ho ho' ha hb hc hm) fun σ H Q q => go_chain h h' q
theorem t_chain {op op' : CmpOp} {r r' : R2} (ho : OpR X (compareOp op) r) (h : R2V X.prog X.w r g) (ho' : OpR X (compareOp op') r') (h' : R2V X.prog X.w r' g') (ha : PE X a (tI X.prog X.w fa)) (hb : PE X b (tI X.prog X.w fb)) (hc : PE X c (tI X.prog X.w fc))
    (hm : lastMarks [op, op'] [b, c] = false := by with_unfolding_all rfl) : PT X (.Compare a [op, op'] [b, c] pos) (tT X.prog X.w (bE (chain g g' fa fb fc))) :=
  PT.imp (pt_chain ho ho' ha hb hc hm) fun σ H Q ⟨S, B0, ρ, fp, s, d, s', R, e, q⟩ => by
    obtain ⟨⟨x, s1⟩, e1, e⟩ := bind_some' e
    obtain ⟨z, e2, e⟩ := map_some' e
    cases e
    refine go_chain h h' ⟨S, B0, ρ, fp, s, x, s1, R, e1, fun v H1 k o r => ?_⟩
    cases x <;> cases e2
    cases r
    exact ⟨_, rfl, q H1 k o⟩
/-! ### arguments -/
theorem a_nil : PA X [] (tA X.prog X.w aNil) := PA.imp pa_nil fun σ H Q ⟨S, B0, ρ, fp, s, d, s', R, e, q⟩ => by cases e; exact q [] H .refl R.src .nil
theorem a_cons {f : EE} {r : EA} {e : Expr} (ha : PE X e (tV X.prog X.w f)) (hr : PA X es (tA X.prog X.w r)) (hs : starEach (e :: es) X.env = (false, eval e X.env) :: starEach es X.env := by rfl) : PA X (e :: es) (tA X.prog X.w (aCons f r)) :=
  PA.imp (pa_cons ha hr hs) fun σ H Q ⟨S, B0, ρ, fp, s, d, s', R, e, q⟩ => by
    obtain ⟨⟨x, s1⟩, e1, e⟩ := bind_some' e
    obtain ⟨⟨y, s2⟩, e2, e⟩ := map_some' e
    cases e
    exact ⟨S, B0, ρ, fp, s, x, s1, R, e1, fun v H1 k1 o1 r1 => ⟨S, B0, ρ, fp, s1, y, s2, R.keep k1 o1, e2, fun vs H2 k2 o2 r2 => q (v :: vs) H2 (k1.trans k2) o2 (.cons (r1.ext (k2.ext R.sBk)) r2)⟩⟩
end
end Pv

set_option Elab.async false
set_option linter.all false
set_option maxRecDepth 100000
set_option maxHeartbeats 1000000
namespace Pv
open PySem PySem.Spec L2
open PyProof.Rows hiding St

/-! ### plain data of the library -/
mutual
def keyP : NestedKey → PyData
  | .none => .none
  | .num i => .int i
  | .text x => .str x
  | .tup ks => .tuple (keyPs ks)
def keyPs : List NestedKey → List PyData
  | [] => []
  | k :: r => keyP k :: keyPs r
end
mutual
def py : D → PyData
  | .non => .none
  | .bl b => .bool b
  | .int i => .int i
  | .str x => .str x
  | .tup l => .tuple (pys l)
  | .lst l => .list (pys l)
  | .dct l => .dict (pyk l)
  | .src => .none
def pys : List D → List PyData
  | [] => []
  | d :: r => py d :: pys r
def pyk : List (NestedKey × D) → List (PyData × PyData)
  | [] => []
  | (k, d) :: r => (keyP k, py d) :: pyk r
end
mutual
/-- no dict in it, and not the drawing dict -/
def flat : D → Bool
  | .tup l => flats l
  | .lst l => flats l
  | .dct _ => false
  | .src => false
  | _ => true
def flats : List D → Bool
  | [] => true
  | d :: r => flat d && flats r
end
section
variable {P : Program} {w : World} {S : SA} {B : Addr → Prop} {H : Hp} {K : PySem.W.Frag}
theorem flats_cons {d : D} {ds : List D} (h : flats (d :: ds) = true) : flat d = true ∧ flats ds = true := by rw [flats, Bool.and_eq_true] at h; exact h
theorem Rep.dp {v : V} {d : D} (h : Rep P w S B H v d) : flat d = true → Dp K H v (py d) :=
  Rep.rec (motive_1 := fun v d _ => flat d = true → Dp K H v (py d)) (motive_2 := fun vs ds _ => flats ds = true → DpAll K H vs (pys ds))
    (fun _ => .non) (fun b _ => .bl b) (fun i _ => .int i) (fun z _ => .str z)
    (fun _ r _ ih f => .tup (.inl r.rd) (ih f)) (fun _ r _ ih f => .lst (.inl r.rd) (ih f))
    (fun _ _ _ _ _ f => by cases f) (fun _ _ _ _ _ _ _ f => by cases f) (fun _ f => by cases f)
    (fun _ => .nil) (fun _ _ ih1 ih2 f => .cons (ih1 (flats_cons f).1) (ih2 (flats_cons f).2)) h
theorem Reps.dp {vs : List V} {ds : List D} (h : Reps P w S B H vs ds) : flats ds = true → DpAll K H vs (pys ds) := by
  induction ds generalizing vs with
  | nil => cases h; exact fun _ => .nil
  | cons d ds ih => cases h with | cons r l => exact fun f => .cons (r.dp (flats_cons f).1) (ih l (flats_cons f).2)
end
theorem RepI.dp {P : Program} {w : World} {S : SA} {B : Addr → Prop} {H : Hp} {K : PySem.W.Frag} {v : V} {d : D} (h : RepI P w S B H v d) (f : flat d = true) : Dp K H v (py d) := by
  cases h with
  | r h => exact h.dp f
  | l n e l => exact .lst (.inl (.inl e)) (l.dp f)
  | dk n e z l => cases f
  | dn n e z k l => cases f

theorem OpR.or {X : Cx} {f : Value → Value → Sem Value} {r r' : R2} (h : OpR X f r) (h' : OpR X f r') : OpR X f (fun x y H Q => r x y H Q ∨ r' x y H Q) := fun pins s σ H x y v u Q I rx ry q =>
  q.elim (h pins s σ H x y v u Q I rx ry) (h' pins s σ H x y v u Q I rx ry)
theorem CallR.or {X : Cx} {f : Value} {r r' : List V → Hp → VK → Prop} (h : CallR X f r) (h' : CallR X f r') : CallR X f (fun xs H Q => r xs H Q ∨ r' xs H Q) := fun pins s σ H xs us Q I rx q =>
  q.elim (h pins s σ H xs us Q I rx) (h' pins s σ H xs us Q I rx)

/-! ### new tuples, known to the object -/
abbrev tupO (us : List Value) : Obj := { cls := .type "tuple", data := .seq us.toArray }
section
variable {X : Cx} {pins : List (Addr × Obj)} {σ : L2.St} {H : Hp} {s : Shared}
theorem newTup {t' : Nat} {us : List Value} {vs : List V} (I : Inv X pins σ H s) (r : Vals vs us) (z : vs.length ≤ sizeLine) :
    Inv X pins σ (upd H s.heap.objs.size (.frz (tupO us) (.tup vs))) { s with heap := s.heap.push (tupO us), toks := t' } :=
  I.laid (fun b o e => Heap.get?_push_of_some _ e) (Nat.le_refl _) ⟨Heap.get?_push_size _ rfl, z, us, r, ⟨_, Heap.get?_push_size _ rfl, rfl, _, rfl⟩⟩
theorem freshI (I : Inv X pins σ H s) : H s.heap.objs.size = none := I.hok.fresh (Nat.le_refl _)
end
theorem at_new {H : Hp} {p : Addr} {o : Obj} {vs : List V} (d : o.dict = none) : At (upd H p (.frz o (.tup vs))) p (.tup vs) := ⟨o, upd_same, d⟩
theorem rep_new {P : Program} {w : World} {S : SA} {B : Addr → Prop} {H : Hp} {p : Addr} {o : Obj} {vs : List V} {ds : List D} (dom : ∀ a, B a → H a ≠ none) (n : H p = none) (d : o.dict = none) (l : Reps P w S B H vs ds) :
    Rep P w S B (upd H p (.frz o (.tup vs))) (.ref p) (.tup ds) := .tup (fun z => dom p z n) (at_new d) (l.ext (Same.ext (same_new n)))
theorem rep_newL {P : Program} {w : World} {S : SA} {B : Addr → Prop} {H : Hp} {p : Addr} {vs : List V} {ds : List D} (dom : ∀ a, B a → H a ≠ none) (n : H p = none) (l : Reps P w S B H vs ds) :
    Rep P w S B (upd H p (.lst vs)) (.ref p) (.lst ds) := .lst (fun z => dom p z n) upd_same (l.ext (Same.ext (same_new n)))

/-! ### displays -/
def tTupZ (t : TA) : TE := fun σ H Q => t σ H fun xs H1 => xs.length ≤ sizeLine ∧ ∀ p o, H1 p = none → o.dict = none → Q (.ref p) (upd H1 p (.frz o (.tup xs)))
def lenOk (ds : List D) : Option (List D) := if ds.length ≤ LIM then some ds else none
theorem lenOk_some {ds zs : List D} (h : lenOk ds = some zs) : zs = ds ∧ ds.length ≤ LIM := by
  unfold lenOk at h
  split at h
  · cases h; exact ⟨rfl, by assumption⟩
  · cases h
def eTup (f : EA) : EE := fun ρ s => (f ρ s).bind fun z => (lenOk z.1).map fun ds => (.tup ds, z.2)
def fLst (f : EA) : EL := fun ρ s => (f ρ s).bind fun z => (lenOk z.1).map fun ds => (ds, z.2)
section
variable {X : Cx} {es : List Expr} {pos : Pos} {fa : EA}
theorem pe_tupZ {t : TA} {k} (h : PA X es t) : PE X (.Tuple es k pos) (tTupZ t) :=
  ⟨fun pins s σ H Q I hq => wpAny_Tuple_spliced (thn (h.run pos pins s σ H _ I hq) fun us s1 ⟨xs, H1, I1, r, z, q⟩ =>
    ⟨by rw [← r.length]; exact z, ⟨.ref s1.heap.objs.size, _, newTup (t' := s1.toks) I1 r z, rfl, q _ _ (freshI I1) rfl⟩⟩)⟩
theorem v_tup {k} (h : PA X es (tA X.prog X.w fa)) : PE X (.Tuple es k pos) (tV X.prog X.w (eTup fa)) := PE.imp (pe_tupZ h) fun σ H Q ⟨S, B0, ρ, fp, s, d, s', R, e, q⟩ => by
  obtain ⟨⟨x, s1⟩, e1, e⟩ := bind_some' e
  obtain ⟨z, e2, e⟩ := map_some' e
  cases e
  obtain ⟨rfl, hl⟩ := lenOk_some e2
  refine ⟨S, B0, ρ, fp, s, _, s1, R, e1, fun vs H1 k o l => ⟨?_, fun p ob n hd => ?_⟩⟩
  · rw [l.length]; exact Nat.le_trans hl (Nat.le_of_lt lim_line)
  · exact q _ _ (k.same (same_new n)) (o.same (same_new n)) (rep_new (R.keep k o).dom n hd l)
theorem v_lst (h : PA X es (tA X.prog X.w fa)) : PE X (.List es pos) (tF X.prog X.w (fLst fa)) := PE.imp (pe_lst h) fun σ H Q ⟨S, B0, ρ, fp, s, d, s', R, e, q⟩ => by
  obtain ⟨⟨x, s1⟩, e1, e⟩ := bind_some' e
  obtain ⟨z, e2, e⟩ := map_some' e
  cases e
  obtain ⟨rfl, hl⟩ := lenOk_some e2
  refine ⟨S, B0, ρ, fp, s, _, s1, R, e1, fun vs H1 k o l => ⟨?_, fun p n => ?_⟩⟩
  · rw [l.length]; exact Nat.le_trans hl (Nat.le_of_lt lim_line)
  · refine q _ _ (k.same (same_new n)) (o.same (same_new n)) ?_ ⟨vs, upd_same, l.ext (new_ext n)⟩
    cases z : H p with
    | none => rfl
    | some ob =>
      by_cases hs : Sb S p
      · exact absurd n ((R.keep k o).dom p (.inl (R.sB p hs)))
      · rw [k p ob hs z] at n; cases n
end

/-! ### arithmetic -/
def gI2 (c : Int → Int → Bool) (f : Int → Int → D) : D → D → Option D
  | .int i, .int j => if c i j = true then some (f i j) else none
  | _, _ => none
theorem r_I {P : Program} {w : World} {C : Int → Int → Prop} {c : Int → Int → Bool} {f : Int → Int → Int} (h : ∀ i j, c i j = true → C i j) : R2V P w (rI C fun i j => .int (f i j)) (gI2 c fun i j => .int (f i j)) := ⟨by
  intro S B H x y d e z Q dom rx ry hg q
  cases d <;> cases e <;> try cases hg
  rename_i i j
  have hg : (if c i j = true then some (D.int (f i j)) else none) = some z := hg
  by_cases hc : c i j = true
  · rw [if_pos hc] at hg; cases hg
    exact ⟨i, j, rx.int_inv, ry.int_inv, h i j hc, q _ H (Same.refl H) (.int _)⟩
  · rw [if_neg hc] at hg; cases hg⟩
theorem r_I0 {P : Program} {w : World} {f : Int → Int → Int} : R2V P w (rI0 fun i j => .int (f i j)) (gI2 (fun _ _ => true) fun i j => .int (f i j)) := ⟨by
  intro S B H x y d e z Q dom rx ry hg q
  cases d <;> cases e <;> try cases hg
  exact ⟨_, _, rx.int_inv, ry.int_inv, q _ H (Same.refl H) (.int _)⟩⟩
theorem r_B0 {P : Program} {w : World} {f : Int → Int → Bool} : R2V P w (rI0 fun i j => .bl (f i j)) (gI2 (fun _ _ => true) fun i j => .bl (f i j)) := ⟨by
  intro S B H x y d e z Q dom rx ry hg q
  cases d <;> cases e <;> try cases hg
  exact ⟨_, _, rx.int_inv, ry.int_inv, q _ H (Same.refl H) (.bl _)⟩⟩
def cMul (i j : Int) : Bool := decide (i.natAbs < 2 ^ 64) || decide (j.natAbs < 2 ^ 64)
def cDiv (_ j : Int) : Bool := decide (j ≠ 0) && decide (j.natAbs < 1073741824)
def cMod (_ j : Int) : Bool := decide (j ≠ 0)
def cPow (i j : Int) : Bool := decide (0 ≤ j) && decide (j ≤ 1000000) && decide (i.natAbs < 2 ^ 64)
def cNN (_ j : Int) : Bool := decide (0 ≤ j)
def gAddI := gI2 (fun _ _ => true) fun i j => .int (i + j)
def gSub := gI2 (fun _ _ => true) fun i j => .int (i - j)
def gMulI := gI2 cMul fun i j => .int (i * j)
def gFdiv := gI2 cDiv fun i j => .int (i.fdiv j)
def gMod := gI2 cMod fun i j => .int (i.fmod j)
def gPow := gI2 cPow fun i j => .int (i ^ j.toNat)
def gShl := gI2 cPow fun i j => .int (i * 2 ^ j.toNat)
def gShr := gI2 cNN fun i j => .int (i / 2 ^ j.toNat)
def gBand := gI2 (fun _ _ => true) fun i j => .int (Builtin.bitAnd i j)
def gBor := gI2 (fun _ _ => true) fun i j => .int (Builtin.bitOr i j)
def gBxor := gI2 (fun _ _ => true) fun i j => .int (Builtin.bitXor i j)
def gLt := gI2 (fun _ _ => true) fun i j => .bl (decide (i < j))
def gLe := gI2 (fun _ _ => true) fun i j => .bl (decide (i ≤ j))
def gGt := gI2 (fun _ _ => true) fun i j => .bl (decide (j < i))
def gGe := gI2 (fun _ _ => true) fun i j => .bl (decide (j ≤ i))
def gNeg : D → Option D
  | .int i => some (.int (-i))
  | _ => none
/-- + of numbers, lists, tuples, texts -/
def gAdd : D → D → Option D
  | .int i, .int j => some (.int (i + j))
  | .lst l, .lst m => if l.length + m.length ≤ LIM then some (.lst (l ++ m)) else none
  | .tup l, .tup m => if l.length + m.length ≤ LIM then some (.tup (l ++ m)) else none
  | .str x, .str y => if x.length + y.length ≤ LIM then some (.str (x ++ y)) else none
  | _, _ => none
def gCat : D → D → Option (List D)
  | .lst l, .lst m => if l.length + m.length ≤ LIM then some (l ++ m) else none
  | _, _ => none
/-- * of numbers, of a list or a tuple and a number -/
def gMul : D → D → Option D
  | .int i, .int j => if cMul i j = true then some (.int (i * j)) else none
  | .lst l, .int k => if 0 ≤ k ∧ k ≤ LIM ∧ l.length * k.toNat ≤ LIM then some (.lst (List.replicate k.toNat l).flatten) else none
  | .tup l, .int k => if 0 ≤ k ∧ k ≤ 1000 ∧ l.length = 1 then some (.tup (List.replicate k.toNat l).flatten) else none
  | _, _ => none
def gRepL : D → D → Option (List D)
  | .lst l, .int k => if 0 ≤ k ∧ k ≤ LIM ∧ l.length * k.toNat ≤ LIM then some (List.replicate k.toNat l).flatten else none
  | _, _ => none

section
variable {P : Program} {w : World}
theorem r_cat : R2F P w rCat gCat := ⟨by
  intro S B H x y d e z Q dom rx ry hg q
  cases d <;> cases e <;> try cases hg
  rename_i l m
  have hg : (if l.length + m.length ≤ LIM then some (l ++ m) else none) = some z := hg
  by_cases hc : l.length + m.length ≤ LIM
  · rw [if_pos hc] at hg; cases hg
    obtain ⟨a, vs, rfl, ha, la⟩ := rx.lst_inv
    obtain ⟨b, us, rfl, hb, lb⟩ := ry.lst_inv
    refine ⟨a, b, vs, us, rfl, rfl, ha, hb, by rw [la.length, lb.length]; exact Nat.le_trans hc (Nat.le_of_lt lim_line), fun p n => ?_⟩
    exact q p _ _ (same_new n) n upd_same ((la.append lb).ext (new_ext n))
  · rw [if_neg hc] at hg; cases hg⟩
theorem Reps.flat_rep {S : SA} {B : Addr → Prop} {H : Hp} {vs : List V} {ds : List D} (l : Reps P w S B H vs ds) : ∀ n, Reps P w S B H (List.replicate n vs).flatten (List.replicate n ds).flatten
  | 0 => .nil
  | n + 1 => by rw [List.replicate_succ, List.replicate_succ, List.flatten_cons, List.flatten_cons]; exact l.append (Reps.flat_rep l n)
theorem r_rep : R2F P w rRep gRepL := ⟨by
  intro S B H x y d e z Q dom rx ry hg q
  cases d <;> cases e <;> try cases hg
  rename_i l k
  have hg : (if 0 ≤ k ∧ k ≤ LIM ∧ l.length * k.toNat ≤ LIM then some (List.replicate k.toNat l).flatten else none) = some z := hg
  by_cases hc : 0 ≤ k ∧ k ≤ LIM ∧ l.length * k.toNat ≤ LIM
  · rw [if_pos hc] at hg; cases hg
    obtain ⟨a, vs, rfl, ha, la⟩ := rx.lst_inv
    obtain ⟨h1, h2, h3⟩ := hc
    have hl := lim_line
    have : LIM = 1000000 := rfl
    refine ⟨a, k, vs, rfl, ry.int_inv, ha, by omega, by omega, by rw [la.length]; omega, fun p n => ?_⟩
    exact q p _ _ (same_new n) n upd_same ((la.flat_rep _).ext (new_ext n))
  · rw [if_neg hc] at hg; cases hg⟩
end
end Pv

set_option Elab.async false
set_option linter.all false
set_option maxRecDepth 100000
set_option maxHeartbeats 1000000
namespace Pv
open PySem PySem.Spec L2
open PyProof.Rows hiding St

section
variable {X : Cx}
/-! ### tuple + tuple -/
def rCatZ (K : PySem.W.Frag) : R2 := fun x y H Q => ∃ a b xs ys, x = .ref a ∧ y = .ref b ∧ SqT K H a xs ∧ SqT K H b ys ∧ xs.length + ys.length ≤ sizeLine ∧
  (xs = [] → Q (.ref b) H) ∧ (ys = [] → Q (.ref a) H) ∧ ∀ p o, H p = none → o.dict = none → Q (.ref p) (upd H p (.frz o (.tup (xs ++ ys))))
theorem op_catZ : OpR X (binaryOp .Add) (rCatZ X.K) := by
  rintro pins s σ H x y v u Q I rx ry ⟨a, b, xs, ys, rfl, rfl, ha, hb, hz, q0, q1, q2⟩
  cases rx; cases ry
  obtain ⟨is, r1, p1, _⟩ := I.tuple ha
  obtain ⟨js, r2, p2, _⟩ := I.tuple hb
  by_cases hx : xs = []
  · subst hx; cases r1
    exact cat_tup0 p1 p2 ⟨.ref b, H, I, rfl, q0 rfl⟩
  · refine HT.cat_tup p1 p2 (fun z => hx (r1.nil_iff.mp z)) (fun z => ⟨.ref a, H, I, rfl, q1 (r2.nil_iff.mp z)⟩) (fun _ => ?_) (by rw [← r1.length, ← r2.length]; exact hz)
    exact ⟨.ref s.heap.objs.size, _, newTup (t' := s.toks) I (r1.append r2) (by rw [List.length_append]; exact hz), rfl, q2 _ _ (freshI I) rfl⟩
def gCatT : D → D → Option D
  | .tup l, .tup m => if l.length + m.length ≤ LIM then some (.tup (l ++ m)) else none
  | _, _ => none
end
section
variable {P : Program} {w : World} {K : PySem.W.Frag}
theorem Reps.nil_iff {S : SA} {B : Addr → Prop} {H : Hp} {vs : List V} {ds : List D} (l : Reps P w S B H vs ds) : vs = [] ↔ ds = [] := by cases l <;> simp
theorem r_catZ : R2V P w (rCatZ K) gCatT := ⟨by
  intro S B H x y d e z Q dom rx ry hg q
  cases d <;> cases e <;> try cases hg
  rename_i l m
  have hg : (if l.length + m.length ≤ LIM then some (D.tup (l ++ m)) else none) = some z := hg
  by_cases hc : l.length + m.length ≤ LIM
  · rw [if_pos hc] at hg; cases hg
    obtain ⟨a, vs, o, rfl, ha, oa, na, la⟩ := rx.tup_inv
    obtain ⟨b, us, o', rfl, hb, ob, nb, lb⟩ := ry.tup_inv
    refine ⟨a, b, vs, us, rfl, rfl, .inl (.inr ⟨o, ha⟩), .inl (.inr ⟨o', hb⟩), by rw [la.length, lb.length]; exact Nat.le_trans hc (Nat.le_of_lt lim_line), fun z => ?_, fun z => ?_, fun p o n hd => ?_⟩
    · have e := la.nil_iff.mp z; subst e
      exact q _ H (Same.refl H) (.tup nb ⟨o', hb, ob⟩ lb)
    · have e := lb.nil_iff.mp z; subst e
      rw [List.append_nil] at *
      exact q _ H (Same.refl H) (.tup na ⟨o, ha, oa⟩ la)
    · exact q _ _ (same_new n) (rep_new dom n hd (la.append lb))
  · rw [if_neg hc] at hg; cases hg⟩
def rAddS : R2 := fun x y H Q => ∃ i j, x = .str i ∧ y = .str j ∧ i.length + j.length ≤ sizeLine ∧ Q (.str (i ++ j)) H
def gAddS : D → D → Option D
  | .str x, .str y => if x.length + y.length ≤ LIM then some (.str (x ++ y)) else none
  | _, _ => none
theorem r_addS : R2V P w rAddS gAddS := ⟨by
  intro S B H x y d e z Q dom rx ry hg q
  cases d <;> cases e <;> try cases hg
  rename_i l m
  have hg : (if l.length + m.length ≤ LIM then some (D.str (l ++ m)) else none) = some z := hg
  by_cases hc : l.length + m.length ≤ LIM
  · rw [if_pos hc] at hg; cases hg
    exact ⟨_, _, rx.str_inv, ry.str_inv, Nat.le_trans hc (Nat.le_of_lt lim_line), q _ H (Same.refl H) (.str _)⟩
  · rw [if_neg hc] at hg; cases hg⟩
def gF (g : D → D → Option (List D)) : D → D → Option D := fun a b => (g a b).map .lst
theorem R2F.v {r : R2} {g : D → D → Option (List D)} (h : R2F P w r g) : R2V P w r (gF g) := ⟨by
  intro S B H x y d e z Q dom rx ry hg q
  obtain ⟨zs, e1, e2⟩ := map_some' hg
  subst e2
  exact h.run dom rx ry e1 fun p H' vs m n e3 l => q _ H' m (.lst (fun z => dom p z n) e3 (l.ext (.less fun a z => .inl z)))⟩
theorem R2V.or {r r' : R2} {g g' g'' : D → D → Option D} (h : R2V P w r g) (h' : R2V P w r' g') (hg : ∀ a b z, g'' a b = some z → g a b = some z ∨ g' a b = some z) : R2V P w (fun x y H Q => r x y H Q ∨ r' x y H Q) g'' := ⟨by
  intro S B H x y d e z Q dom rx ry e q
  rcases hg _ _ _ e with e | e
  · exact .inl (h.run dom rx ry e q)
  · exact .inr (h'.run dom rx ry e q)⟩
end
section
variable {X : Cx} {a b : Expr} {pos : Pos} {fa fb : EE}
def rAddA (K : PySem.W.Frag) : R2 := fun x y H Q => (rI0 fun i j => .int (i + j)) x y H Q ∨ rCat x y H Q ∨ rCatZ K x y H Q ∨ rAddS x y H Q
theorem op_addA : OpR X (binaryOp .Add) (rAddA X.K) := op_add.or (op_cat.or (op_catZ.or op_add_str))
theorem r_addA {P : Program} {w : World} {K : PySem.W.Frag} : R2V P w (rAddA K) gAdd :=
  R2V.or (g' := fun a b => match a, b with | .int _, .int _ => none | _, _ => gAdd a b) (r_I0 (f := fun i j => i + j)) (R2V.or (g' := fun a b => match a, b with | .tup _, .tup _ => gCatT a b | _, _ => gAddS a b) r_cat.v (R2V.or r_catZ r_addS
    (fun a b z e => by cases a <;> cases b <;> first | exact .inl e | exact .inr e))
    (fun a b z e => by
      cases a <;> cases b <;> first | (cases e; done) | exact .inr e | skip
      rename_i l m
      have e : (if l.length + m.length ≤ LIM then some (D.lst (l ++ m)) else none) = some z := e
      refine .inl ?_
      show (if l.length + m.length ≤ LIM then some (l ++ m) else none).map D.lst = some z
      rw [← e]; split <;> rfl))
    (fun a b z e => by cases a <;> cases b <;> first | exact .inl e | exact .inr e)
theorem v_add (ha : PE X a (tI X.prog X.w fa)) (hb : PE X b (tI X.prog X.w fb)) : PE X (.BinOp a .Add b pos) (tV X.prog X.w (e2 gAdd fa fb)) := v_op op_addA r_addA ha hb
theorem v_cat (ha : PE X a (tI X.prog X.w fa)) (hb : PE X b (tI X.prog X.w fb)) : PE X (.BinOp a .Add b pos) (tF X.prog X.w (f2 gCat fa fb)) := v_opF op_cat r_cat ha hb
theorem v_sub (ha : PE X a (tI X.prog X.w fa)) (hb : PE X b (tI X.prog X.w fb)) : PE X (.BinOp a .Sub b pos) (tV X.prog X.w (e2 gSub fa fb)) := v_op op_sub (r_I0 (f := fun i j => i - j)) ha hb
theorem v_fdiv (ha : PE X a (tI X.prog X.w fa)) (hb : PE X b (tI X.prog X.w fb)) : PE X (.BinOp a .FloorDiv b pos) (tV X.prog X.w (e2 gFdiv fa fb)) :=
  v_op op_fdivN (r_I (f := Int.fdiv) fun i j h => by simp only [cDiv, Bool.and_eq_true, decide_eq_true_eq] at h; exact h) ha hb
theorem v_mod (ha : PE X a (tI X.prog X.w fa)) (hb : PE X b (tI X.prog X.w fb)) : PE X (.BinOp a .Mod b pos) (tV X.prog X.w (e2 gMod fa fb)) :=
  v_op op_modN (r_I (f := Int.fmod) fun i j h => by simp only [cMod, decide_eq_true_eq] at h; exact h) ha hb
theorem cPow_ok {i j : Int} (h : cPow i j = true) : CPow i j := by simp only [cPow, Bool.and_eq_true, decide_eq_true_eq] at h; exact ⟨h.1.1, h.1.2, h.2⟩
theorem v_pow (ha : PE X a (tI X.prog X.w fa)) (hb : PE X b (tI X.prog X.w fb)) : PE X (.BinOp a .Pow b pos) (tV X.prog X.w (e2 gPow fa fb)) := v_op op_pow (r_I (f := fun i j => i ^ j.toNat) fun i j h => cPow_ok h) ha hb
theorem v_shl (ha : PE X a (tI X.prog X.w fa)) (hb : PE X b (tI X.prog X.w fb)) : PE X (.BinOp a .LShift b pos) (tV X.prog X.w (e2 gShl fa fb)) := v_op op_shl (r_I (f := fun i j => i * 2 ^ j.toNat) fun i j h => cPow_ok h) ha hb
theorem v_shr (ha : PE X a (tI X.prog X.w fa)) (hb : PE X b (tI X.prog X.w fb)) : PE X (.BinOp a .RShift b pos) (tV X.prog X.w (e2 gShr fa fb)) := v_op op_shr (r_I (f := fun i j => i / 2 ^ j.toNat) fun i j h => by simp only [cNN, decide_eq_true_eq] at h; exact h) ha hb
theorem v_band (ha : PE X a (tI X.prog X.w fa)) (hb : PE X b (tI X.prog X.w fb)) : PE X (.BinOp a .BitAnd b pos) (tV X.prog X.w (e2 gBand fa fb)) := v_op op_and (r_I0 (f := Builtin.bitAnd)) ha hb
theorem v_bior (ha : PE X a (tI X.prog X.w fa)) (hb : PE X b (tI X.prog X.w fb)) : PE X (.BinOp a .BitOr b pos) (tV X.prog X.w (e2 gBor fa fb)) := v_op op_or (r_I0 (f := Builtin.bitOr)) ha hb
theorem v_bxor (ha : PE X a (tI X.prog X.w fa)) (hb : PE X b (tI X.prog X.w fb)) : PE X (.BinOp a .BitXor b pos) (tV X.prog X.w (e2 gBxor fa fb)) := v_op op_xor (r_I0 (f := Builtin.bitXor)) ha hb
theorem r_neg {P : Program} {w : World} : R1V P w (rU fun i => .int (-i)) gNeg := ⟨by
  intro S B H x d z Q dom rx hg q
  cases d <;> try cases hg
  exact ⟨_, rx.int_inv, q _ H (Same.refl H) (.int _)⟩⟩
theorem v_neg (ha : PE X a (tI X.prog X.w fa)) : PE X (.UnaryOp .USub a pos) (tV X.prog X.w (e1 gNeg fa)) := v_un un_neg r_neg ha

/-! ### indices -/
def gIx : D → D → Option D
  | .lst l, .int i => atI l i
  | .tup l, .int i => atI l i
  | _, _ => none
theorem Reps.atI {P : Program} {w : World} {S : SA} {B : Addr → Prop} {H : Hp} {vs : List V} {ds : List D} (l : Reps P w S B H vs ds) {i : Int} {d : D} (h : L2.atI ds i = some d) : ∃ v, L2.atI vs i = some v ∧ Rep P w S B H v d := by
  unfold L2.atI at h ⊢
  rw [l.length]
  cases e : ixN ds.length i with
  | none => rw [e] at h; cases h
  | some j => rw [e] at h; exact l.get (i := j) h
theorem r_ix {P : Program} {w : World} {K : PySem.W.Frag} : R2V P w (rIx K) gIx := ⟨by
  intro S B H x y d e z Q dom rx ry hg q
  cases d <;> cases e <;> try cases hg
  · obtain ⟨a, vs, o, rfl, ha, oa, na, la⟩ := rx.tup_inv
    obtain ⟨v, hv, rv⟩ := la.atI hg
    exact .inr (.inl ⟨a, vs, _, v, rfl, ry.int_inv, .inl (.inr ⟨o, ha⟩), hv, q _ H (Same.refl H) rv⟩)
  · obtain ⟨a, vs, rfl, ha, la⟩ := rx.lst_inv
    obtain ⟨v, hv, rv⟩ := la.atI hg
    exact .inl ⟨a, vs, _, v, rfl, ry.int_inv, .inl (.inl ha), hv, q _ H (Same.refl H) rv⟩⟩
theorem v_ix (ha : PE X a (tI X.prog X.w fa)) (hb : PE X b (tI X.prog X.w fb)) (hs : PlainIx b := by intro _ _; rfl) : PE X (.Subscript a b pos) (tV X.prog X.w (e2 gIx fa fb)) := PE.imp (pe_ix ix_seq ha hb hs) fun σ H Q q => go2 r_ix q

/-! ### slices -/
def cutG {α : Type} (xs : List α) (lo hi : Option Int) : List α := (xs.drop (HT.sIx xs.length 0 lo)).take (HT.sIx xs.length xs.length hi - HT.sIx xs.length 0 lo)
theorem Reps.cut {P : Program} {w : World} {S : SA} {B : Addr → Prop} {H : Hp} {vs : List V} {ds : List D} (l : Reps P w S B H vs ds) (lo hi : Option Int) : Reps P w S B H (cutV vs lo hi) (cutG ds lo hi) := by
  unfold cutV cutG
  rw [l.length]
  exact (l.drop _).take _
abbrev EPt := Env → Src → Option (Option Int × Src)
def pNo : EPt := fun _ s => some (none, s)
def pSo (f : EE) : EPt := fun ρ s => (f ρ s).bind fun z => match z.1 with
  | .int i => some (some i, z.2)
  | _ => none
def tP (P : Program) (w : World) (f : EPt) : TO := fun σ H Q => ∃ (S : SA) (B0 : Addr → Prop) (ρ : Env) (fp : Fp) (s : Src) (d : Option Int) (s' : Src), Rl P w S B0 ρ σ fp s H ∧ f ρ s = some (d, s') ∧
  ∀ H', Keep S H H' → SrcOk S s' H' → Q d H'
theorem PO.imp {X : Cx} {e : Option Expr} {t t' : TO} (h : PO X e t) (i : ∀ σ H Q, t' σ H Q → t σ H Q) : PO X e t' := ⟨fun pins s σ H Q I q => h.run pins s σ H Q I (i σ H Q q)⟩
theorem p_no : PO X none (tP X.prog X.w pNo) := PO.imp po_none fun σ H Q ⟨S, B0, ρ, fp, s, d, s', R, e, q⟩ => by cases e; exact q H .refl R.src
theorem p_so {e : Expr} {f : EE} (h : PE X e (tI X.prog X.w f)) : PO X (some e) (tP X.prog X.w (pSo f)) := PO.imp (po_some h) fun σ H Q ⟨S, B0, ρ, fp, s, d, s', R, e, q⟩ => by
  obtain ⟨⟨x, s1⟩, e1, e⟩ := bind_some' e
  refine ⟨S, B0, ρ, fp, s, x, s1, R, e1, fun v H1 k o r => ?_⟩
  cases x <;> cases e
  exact ⟨_, r.int_inv, q H1 k o⟩
def eSlT (f : EE) (pl ph : EPt) : EE := fun ρ s => (f ρ s).bind fun x => (pl ρ x.2).bind fun l => (ph ρ l.2).bind fun h => match x.1 with
  | .tup ds => some (.tup (cutG ds l.1 h.1), h.2)
  | _ => none
def fSlL (f : EE) (pl ph : EPt) : EL := fun ρ s => (f ρ s).bind fun x => (pl ρ x.2).bind fun l => (ph ρ l.2).bind fun h => match x.1 with
  | .lst ds => some (cutG ds l.1 h.1, h.2)
  | _ => none
def rSlZ (K : PySem.W.Frag) : V → Option Int → Option Int → Hp → VK → Prop := fun x lo hi H Q => ∃ a xs, x = .ref a ∧ SqT K H a xs ∧
  (cutV xs lo hi = xs → Q (.ref a) H) ∧ ∀ p o, H p = none → o.dict = none → Q (.ref p) (upd H p (.frz o (.tup (cutV xs lo hi))))
theorem sl_tupZ : SlR X (rSlZ X.K) := by
  rintro pins s σ H x v vl vu lo hi sl Q I rx hs pl pu ⟨a, xs, rfl, hx, q1, q2⟩
  cases rx
  obtain ⟨is, r, ht, hz⟩ := I.tuple hx
  have hlen : is.toArray.size = xs.length := by rw [List.size_toArray]; exact r.length.symm
  refine ⟨"tuple", _, PyProof.Rows.slot_tuple_getitem.lookup, ht.typeIs, ?_⟩
  by_cases hw : HT.sIx xs.length 0 lo = 0 ∧ HT.sIx xs.length xs.length hi = xs.length
  · refine getItem_tuple_whole ht hs pl pu (by rw [hlen]; exact hw) ⟨.ref a, H, I, rfl, q1 ?_⟩
    unfold cutV
    rw [hw.1, hw.2]; simp
  · refine HT.getItem_tuple_cut ht hs pl pu (by rw [hlen]; exact hw) ?_ (by rw [hlen]; exact hz)
    rw [hlen]
    exact ⟨.ref s.heap.objs.size, _, newTup (t' := s.toks) I ((r.drop (HT.sIx xs.length 0 lo)).take (HT.sIx xs.length xs.length hi - HT.sIx xs.length 0 lo)) (Nat.le_trans (cutV_length xs lo hi) hz), rfl, q2 _ _ (freshI I) rfl⟩
theorem v_slT {lo hi : Option Expr} {p2 : Pos} {pl ph : EPt} (ha : PE X a (tI X.prog X.w fa)) (hl : PO X lo (tP X.prog X.w pl)) (hh : PO X hi (tP X.prog X.w ph)) : PE X (.Subscript a (.Slice lo hi none p2) pos) (tV X.prog X.w (eSlT fa pl ph)) :=
  PE.imp (pe_slice sl_tupZ ha hl hh) fun σ H Q ⟨S, B0, ρ, fp, s, d, s', R, e, q⟩ => by
    obtain ⟨⟨x, s1⟩, e1, e⟩ := bind_some' e
    obtain ⟨⟨l, s2⟩, e2, e⟩ := bind_some' e
    obtain ⟨⟨h, s3⟩, e3, e⟩ := bind_some' e
    refine ⟨S, B0, ρ, fp, s, x, s1, R, e1, fun v H1 k1 o1 r1 => ⟨S, B0, ρ, fp, s1, l, s2, R.keep k1 o1, e2, fun H2 k2 o2 => ⟨S, B0, ρ, fp, s2, h, s3, (R.keep k1 o1).keep k2 o2, e3, fun H3 k3 o3 => ?_⟩⟩⟩
    have r3 := (r1.keep k2 R.sBk).keep k3 R.sBk
    have R3 := ((R.keep k1 o1).keep k2 o2).keep k3 o3
    cases x <;> cases e
    obtain ⟨a, vs, o, rfl, ha, oa, na, la⟩ := r3.tup_inv
    refine ⟨a, vs, rfl, .inl (.inr ⟨o, ha⟩), fun z => ?_, fun p ob n hd => ?_⟩
    · refine q _ H3 ((k1.trans k2).trans k3) o3 (.tup na ⟨o, ha, oa⟩ ?_)
      have := la.cut l h
      rw [z] at this; exact this
    · exact q _ _ (((k1.trans k2).trans k3).same (same_new n)) (o3.same (same_new n)) (rep_new R3.dom n hd (la.cut l h))
theorem v_slL {lo hi : Option Expr} {p2 : Pos} {pl ph : EPt} (ha : PE X a (tI X.prog X.w fa)) (hl : PO X lo (tP X.prog X.w pl)) (hh : PO X hi (tP X.prog X.w ph)) : PE X (.Subscript a (.Slice lo hi none p2) pos) (tF X.prog X.w (fSlL fa pl ph)) :=
  PE.imp (pe_slice sl_list ha hl hh) fun σ H Q ⟨S, B0, ρ, fp, s, d, s', R, e, q⟩ => by
    obtain ⟨⟨x, s1⟩, e1, e⟩ := bind_some' e
    obtain ⟨⟨l, s2⟩, e2, e⟩ := bind_some' e
    obtain ⟨⟨h, s3⟩, e3, e⟩ := bind_some' e
    refine ⟨S, B0, ρ, fp, s, x, s1, R, e1, fun v H1 k1 o1 r1 => ⟨S, B0, ρ, fp, s1, l, s2, R.keep k1 o1, e2, fun H2 k2 o2 => ⟨S, B0, ρ, fp, s2, h, s3, (R.keep k1 o1).keep k2 o2, e3, fun H3 k3 o3 => ?_⟩⟩⟩
    have r3 := (r1.keep k2 R.sBk).keep k3 R.sBk
    have R3 := ((R.keep k1 o1).keep k2 o2).keep k3 o3
    cases x <;> cases e
    obtain ⟨a, vs, rfl, ha, la⟩ := r3.lst_inv
    refine ⟨a, vs, rfl, .inl (.inl ha), fun p n => ?_⟩
    refine q _ _ (((k1.trans k2).trans k3).same (same_new n)) (o3.same (same_new n)) ?_ ⟨_, upd_same, (la.cut l h).ext (new_ext n)⟩
    cases z : H p with
    | none => rfl
    | some ob =>
      by_cases hs : Sb S p
      · exact absurd n (R3.dom p (.inl (R.sB p hs)))
      · rw [((k1.trans k2).trans k3) p ob hs z] at n; cases n
end
end Pv

set_option Elab.async false
set_option linter.all false
set_option maxRecDepth 100000
set_option maxHeartbeats 1000000
namespace Pv
open PySem PySem.Spec L2
open PyProof.Rows hiding St

/-- how a statement ends -/
inductive Out where
  | nx | ret (d : D) | brk | cont
abbrev SS := Env → Src → Option (Out × Env × Src)

/-- what a slot that is owned (and not walked just now) has -/
def OwnU (ρ : Env) (fp : Fp) (b : Addr) : Prop := ∃ i sv, ρ[i]? = some (some sv) ∧ sv.un = true ∧ b ∈ fp i
/-- from one state of a body to a later one: what may have changed -/
structure Fr (S : SA) (ρ : Env) (fp : Fp) (H : Hp) (ρ' : Env) (fp' : Fp) (H' : Hp) : Prop where
  same : ∀ b o, H b = some o → ¬ Sb S b → ¬ OwnU ρ fp b → H' b = some o
  lk : ∀ i ds, ρ'[i]? = some (some (.lk ds)) → ρ[i]? = some (some (.lk ds)) ∧ fp' i = fp i
  own : ∀ b, ¬ Sb S b → OwnU ρ' fp' b → OwnU ρ fp b ∨ H b = none
  blk : ∀ b i, ¬ Sb S b → b ∈ fp' i → (∃ j, b ∈ fp j) ∨ H b = none
section
variable {P : Program} {w : World} {S : SA} {B0 : Addr → Prop} {ρ ρ' ρ1 ρ2 : Env} {σ : L2.St} {fp fp' fp1 fp2 : Fp} {s s' : Src} {H H' H1 H2 : Hp}
theorem Fr.refl : Fr S ρ fp H ρ fp H := ⟨fun _ _ e _ _ => e, fun _ _ e => ⟨e, rfl⟩, fun _ _ h => .inl h, fun _ i _ h => .inl ⟨i, h⟩⟩
theorem Fr.trans (a : Fr S ρ fp H ρ1 fp1 H1) (b : Fr S ρ1 fp1 H1 ρ2 fp2 H2) : Fr S ρ fp H ρ2 fp2 H2 := by
  refine ⟨fun c o e n u => ?_, fun i ds e => ?_, fun c n h => ?_, fun c i n h => ?_⟩
  · refine b.same c o (a.same c o e n u) n fun z => ?_
    rcases a.own c n z with z | z
    · exact u z
    · rw [z] at e; cases e
  · obtain ⟨h1, h2⟩ := b.lk i ds e
    obtain ⟨h3, h4⟩ := a.lk i ds h1
    exact ⟨h3, h2.trans h4⟩
  · rcases b.own c n h with z | z
    · exact a.own c n z
    · by_cases u : OwnU ρ fp c
      · exact .inl u
      · cases e : H c with
        | none => exact .inr rfl
        | some o => rw [a.same c o e n u] at z; cases z
  · rcases b.blk c i n h with ⟨j, z⟩ | z
    · exact a.blk c j n z
    · by_cases u : OwnU ρ fp c
      · obtain ⟨j, sv, _, _, m⟩ := u; exact .inl ⟨j, m⟩
      · cases e : H c with
        | none => exact .inr rfl
        | some o => rw [a.same c o e n u] at z; cases z
theorem Fr.keep (k : Keep S H H') : Fr S ρ fp H ρ fp H' := ⟨fun b o e n _ => k b o n e, fun _ _ e => ⟨e, rfl⟩, fun _ _ h => .inl h, fun _ i _ h => .inl ⟨i, h⟩⟩

/-- a new value at slot i -/
theorem Rl.set (R : Rl P w S B0 ρ σ fp s H) (k : Keep S H H') (q : SrcOk S s' H') {i : Nat} {v : V} {sv : SV} {nf : List Addr} (hn : nf.Nodup) (hf : ∀ a ∈ nf, H a = none)
    (r : RepS P w S (fun a => Blk B0 fp a ∨ a ∈ nf) H' nf v sv) : Rl P w S B0 (ρ.set i (some sv)) (σ.set i (some v)) (fun j => if j = i then nf else fp j) s' H' := by
  have st : ∀ a, ¬ Sb S a → H a ≠ none → H' a = H a := fun a z h => by
    cases e : H a with
    | none => exact absurd e h
    | some o => exact k a o z e
  have bk : ∀ a, Blk B0 (fun j => if j = i then nf else fp j) a → Blk B0 fp a ∨ a ∈ nf := fun a h => by
    rcases h with h | ⟨j, h⟩
    · exact .inl (.inl h)
    · by_cases e : j = i
      · simp only [e, if_true] at h; exact .inr h
      · simp only [e, if_false] at h; exact .inl (.inr ⟨j, h⟩)
  have nf0 : ∀ a ∈ nf, H a ≠ none → False := fun a h z => z (hf a h)
  have x : Ext (Blk B0 fp) (Blk B0 (fun j => if j = i then nf else fp j)) H H' := fun a u nb r => by
    have hs : ¬ Sb S a := fun z => nb (R.sBk a z)
    refine ⟨fun z => (bk a z).elim nb fun z => nf0 a z (Rd.tracked r.rd), r.same fun o e => k a o hs e⟩
  refine ⟨by rw [List.length_set, List.length_set]; exact R.len, fun j sw e => ?_, fun j a h => ?_, fun j l a h1 h2 => ?_, fun j => ?_, fun j a h => ?_, fun a h => ?_, R.sB, q⟩
  · by_cases hj : j = i
    · subst hj
      have hl : j < ρ.length := by
        by_cases hl : j < ρ.length
        · exact hl
        · rw [List.getElem?_eq_none (by simpa using hl)] at e; cases e
      rw [List.getElem?_set_self hl] at e
      cases e
      refine ⟨v, List.getElem?_set_self (by rw [← R.len]; exact hl), ?_⟩
      simp only [if_true]
      exact r.ext (.less bk) fun _ _ => rfl
    · rw [List.getElem?_set_ne (Ne.symm hj)] at e
      obtain ⟨u, h1, h2⟩ := R.slot j sw e
      refine ⟨u, by rw [List.getElem?_set_ne (Ne.symm hj)]; exact h1, ?_⟩
      simp only [hj, if_false]
      exact h2.ext x fun a ha => st a (R.notS ha) (R.own j a ha)
  · by_cases hj : j = i
    · simp only [hj, if_true] at h
      cases r <;> first
        | (simp at h; done)
        | (obtain ⟨o, e, _⟩ := RepS.tracked (by first | exact .ol ‹_› ‹_› | exact .lk ‹_› ‹_› | exact .oo ‹_› ‹_› | exact .dk ‹_› ‹_› ‹_› | exact .dn ‹_› ‹_› ‹_› ‹_›) a h; rw [e]; simp)
    · simp only [hj, if_false] at h
      rw [st a (R.notS h) (R.own j a h)]; exact R.own j a h
  · by_cases hj : j = i <;> by_cases hl : l = i
    · rw [hj, hl]
    · simp only [hj, if_true] at h1; simp only [hl, if_false] at h2
      exact (nf0 a h1 (R.own l a h2)).elim
    · simp only [hj, if_false] at h1; simp only [hl, if_true] at h2
      exact (nf0 a h2 (R.own j a h1)).elim
    · simp only [hj, if_false] at h1; simp only [hl, if_false] at h2
      exact R.dis j l a h1 h2
  · by_cases hj : j = i
    · simp only [hj, if_true]; exact hn
    · simp only [hj, if_false]; exact R.nod j
  · by_cases hj : j = i
    · simp only [hj, if_true] at h; exact fun z => nf0 a h (R.dom0 a z)
    · simp only [hj, if_false] at h; exact R.base j a h
  · by_cases z : Sb S a
    · exact q.tracked z
    · rw [st a z (R.dom0 a h)]; exact R.dom0 a h
theorem Fr.set (k : Keep S H H') {i : Nat} {sv : SV} {nf : List Addr} (hu : sv.un = true) (hf : ∀ a ∈ nf, H a = none) : Fr S ρ fp H (ρ.set i (some sv)) (fun j => if j = i then nf else fp j) H' := by
  refine ⟨fun b o e n _ => k b o n e, fun j ds e => ?_, fun b n h => ?_, fun b j n m => ?_⟩
  · by_cases hj : j = i
    · subst hj
      by_cases hl : j < ρ.length
      · rw [List.getElem?_set_self hl] at e; cases e; cases hu
      · rw [List.getElem?_eq_none (by simpa using hl)] at e; cases e
    · rw [List.getElem?_set_ne (Ne.symm hj)] at e
      exact ⟨e, by simp only [hj, if_false]⟩
  · obtain ⟨j, sw, e, u, m⟩ := h
    by_cases hj : j = i
    · simp only [hj, if_true] at m; exact .inr (hf b m)
    · simp only [hj, if_false] at m
      rw [List.getElem?_set_ne (Ne.symm hj)] at e
      exact .inl ⟨j, sw, e, u, m⟩
  · by_cases hj : j = i
    · simp only [hj, if_true] at m; exact .inr (hf b m)
    · simp only [hj, if_false] at m; exact .inl ⟨j, m⟩
/-- some slots forgotten -/
theorem Rl.weak (R : Rl P w S B0 ρ σ fp s H) {ρ' : Env} {σ' : L2.St} (hl : ρ'.length = σ'.length) (h : ∀ (i : Nat) (sv : SV), ρ'[i]? = some (some sv) → ρ[i]? = some (some sv) ∧ σ'[i]? = σ[i]?) : Rl P w S B0 ρ' σ' fp s H :=
  ⟨hl, fun i sv e => by obtain ⟨v, h1, h2⟩ := R.slot i sv (h i sv e).1; exact ⟨v, (h i sv e).2.trans h1, h2⟩, R.own, R.dis, R.nod, R.base, R.dom0, R.sB, R.src⟩
theorem Fr.weak {ρ' : Env} (h : ∀ (i : Nat) (sv : SV), ρ'[i]? = some (some sv) → ρ[i]? = some (some sv)) : Fr S ρ fp H ρ' fp H :=
  ⟨fun _ _ e _ _ => e, fun i ds e => ⟨h i _ e, rfl⟩, fun b _ ⟨i, sv, e, u, m⟩ => .inl ⟨i, sv, h i sv e, u, m⟩, fun _ i _ h => .inl ⟨i, h⟩⟩
def wipeE (ρ : Env) : List Nat → Env
  | [] => ρ
  | v :: vs => (wipeE ρ vs).set v none
theorem wipeE_length (ρ : Env) : ∀ vs, (wipeE ρ vs).length = ρ.length
  | [] => rfl
  | v :: vs => by unfold wipeE; rw [List.length_set, wipeE_length ρ vs]
theorem wipeE_some {i : Nat} {sv : SV} : ∀ {vs : List Nat}, (wipeE ρ vs)[i]? = some (some sv) → ρ[i]? = some (some sv) ∧ i ∉ vs
  | [], h => ⟨h, by simp⟩
  | v :: vs, h => by
    unfold wipeE at h
    by_cases hi : v = i
    · subst hi
      by_cases hv : v < (wipeE ρ vs).length
      · rw [List.getElem?_set_self hv] at h; cases h
      · rw [List.getElem?_eq_none (by simpa using hv)] at h; cases h
    · rw [List.getElem?_set_ne hi] at h
      obtain ⟨h1, h2⟩ := wipeE_some h
      exact ⟨h1, by simp only [List.mem_cons, not_or]; exact ⟨fun e => hi e.symm, h2⟩⟩
theorem wipe_get {i : Nat} : ∀ {vs : List Nat}, i ∉ vs → (wipe σ vs)[i]? = σ[i]?
  | [], _ => rfl
  | v :: vs, h => by
    unfold wipe
    simp only [List.mem_cons, not_or] at h
    rw [List.getElem?_set_ne (fun e => h.1 e.symm)]
    exact wipe_get h.2
theorem Rl.wipe (R : Rl P w S B0 ρ σ fp s H) (vs : List Nat) : Rl P w S B0 (wipeE ρ vs) (L2.wipe σ vs) fp s H :=
  R.weak (by rw [wipeE_length, wipe_length]; exact R.len) fun i sv e => ⟨(wipeE_some e).1, wipe_get (wipeE_some e).2⟩
theorem Rl.wipeR (R : Rl P w S B0 ρ σ fp s H) (vs : List Nat) : Rl P w S B0 (wipeE ρ vs) σ fp s H :=
  R.weak (by rw [wipeE_length]; exact R.len) fun i sv e => ⟨(wipeE_some e).1, rfl⟩
end

/-! ### readings of statements -/
/-- what must follow an end -/
def Follows (P : Program) (w : World) (S : SA) (B0 : Addr → Prop) (ρ : Env) (fp : Fp) (H : Hp) (Dn : Ends) (ρ' : Env) (s' : Src) : Out → Prop
  | .nx => ∀ σ' fp' H', Rl P w S B0 ρ' σ' fp' s' H' → Fr S ρ fp H ρ' fp' H' → Dn.nx σ' H'
  | .brk => ∀ σ' fp' H', Rl P w S B0 ρ' σ' fp' s' H' → Fr S ρ fp H ρ' fp' H' → Dn.bk σ' H'
  | .cont => ∀ σ' fp' H', Rl P w S B0 ρ' σ' fp' s' H' → Fr S ρ fp H ρ' fp' H' → Dn.ct σ' H'
  | .ret d => ∀ v H', Rep P w S B0 H' v d → SrcOk S s' H' → (∀ b o, H b = some o → ¬ Sb S b → ¬ OwnU ρ fp b → H' b = some o) → Dn.rt v H'
def tS (P : Program) (w : World) (g : SS) : TS := fun Dn σ H => ∃ (S : SA) (B0 : Addr → Prop) (ρ : Env) (fp : Fp) (s : Src) (o : Out) (ρ' : Env) (s' : Src), Rl P w S B0 ρ σ fp s H ∧ g ρ s = some (o, ρ', s') ∧ Follows P w S B0 ρ fp H Dn ρ' s' o
theorem Follows.imp {P : Program} {w : World} {S : SA} {B0 : Addr → Prop} {ρ ρ1 : Env} {fp fp1 : Fp} {H H1 : Hp} {Dn Dn' : Ends} {ρ' : Env} {s' : Src} {o : Out} (f : Follows P w S B0 ρ fp H Dn ρ' s' o) (fr : Fr S ρ fp H ρ1 fp1 H1)
    (h1 : ∀ σ H, Dn.nx σ H → Dn'.nx σ H) (h2 : ∀ v H, Dn.rt v H → Dn'.rt v H) (h3 : ∀ σ H, Dn.bk σ H → Dn'.bk σ H) (h4 : ∀ σ H, Dn.ct σ H → Dn'.ct σ H) : Follows P w S B0 ρ1 fp1 H1 Dn' ρ' s' o := by
  cases o with
  | nx => exact fun σ' fp' H' R' fr' => h1 _ _ (f σ' fp' H' R' (fr.trans fr'))
  | brk => exact fun σ' fp' H' R' fr' => h3 _ _ (f σ' fp' H' R' (fr.trans fr'))
  | cont => exact fun σ' fp' H' R' fr' => h4 _ _ (f σ' fp' H' R' (fr.trans fr'))
  | ret d => exact fun v H' r q k => h2 _ _ (f v H' r q fun b o e n u => k b o (fr.same b o e n u) n fun z => by
      rcases fr.own b n z with z | z
      · exact u z
      · rw [z] at e; cases e)
theorem Follows.fr {P : Program} {w : World} {S : SA} {B0 : Addr → Prop} {ρ ρ1 : Env} {fp fp1 : Fp} {H H1 : Hp} {Dn : Ends} {ρ' : Env} {s' : Src} {o : Out} (f : Follows P w S B0 ρ fp H Dn ρ' s' o) (fr : Fr S ρ fp H ρ1 fp1 H1) : Follows P w S B0 ρ1 fp1 H1 Dn ρ' s' o :=
  f.imp fr (fun _ _ h => h) (fun _ _ h => h) (fun _ _ h => h) fun _ _ h => h

def sNil : SS := fun ρ s => some (.nx, ρ, s)
def sSeq (g1 g2 : SS) : SS := fun ρ s => (g1 ρ s).bind fun z => match z.1 with
  | .nx => g2 z.2.1 z.2.2
  | _ => some z
def sSet (i : Nat) (f : EO) : SS := fun ρ s => (f ρ s).bind fun z => if z.1.un = true then some (.nx, ρ.set i (some z.1), z.2) else none
def sRet (f : EE) : SS := fun ρ s => (f ρ s).map fun z => (.ret z.1, ρ, z.2)
def sRetN : SS := fun ρ s => some (.ret .non, ρ, s)
/-- return of a name's own list, list of lists, dict -/
def sRetM (i : Nat) : SS := fun ρ s => match ρ[i]? with
  | some (some (.p d)) => some (.ret d, ρ, s)
  | some (some (.ol ds)) => some (.ret (.lst ds), ρ, s)
  | some (some (.od l)) => some (.ret (.dct l), ρ, s)
  | _ => none
def sDrop (f : EE) : SS := fun ρ s => (f ρ s).map fun z => (.nx, ρ, z.2)
def sIf (c : EB) (g1 g2 : SS) : SS := fun ρ s => (c ρ s).bind fun b => if b.1 = true then g1 ρ b.2 else g2 ρ b.2
def sBrk : SS := fun ρ s => some (.brk, ρ, s)
def sCont : SS := fun ρ s => some (.cont, ρ, s)
/-- some slots forgotten ahead of a statement -/
def sFgt (is : List Nat) (g : SS) : SS := fun ρ s => g (wipeE ρ is) s
def frzE (i : Nat) (ρ : Env) : Env := match ρ[i]? with
  | some (some (.ol ds)) => ρ.set i (some (.p (.lst ds)))
  | some (some (.od l)) => ρ.set i (some (.p (.dct l)))
  | some (some (.oo dss)) => ρ.set i (some (.p (.lst (dss.map .lst))))
  | _ => ρ
/-- a name's own list is from here on a plain value -/
def sFrz (i : Nat) (g : SS) : SS := fun ρ s => g (frzE i ρ) s
section
variable {X : Cx} {st : Stmt} {rest : List Stmt} {e : Expr} {pos : Pos} {g g1 g2 : SS}
theorem PSs.imp {X : Cx} {st : List Stmt} {t t' : TS} (h : PSs X st t) (i : ∀ D σ H, t' D σ H → t D σ H) : PSs X st t' := ⟨fun pins s σ H D I q => h.run pins s σ H D I (i D σ H q)⟩
theorem s_nil : PSs X [] (tS X.prog X.w sNil) := PSs.imp pss_nil fun D σ H ⟨S, B0, ρ, fp, s, o, ρ', s', R, e, f⟩ => by cases e; exact f σ fp H R .refl
theorem s_cons (h1 : PS X st (tS X.prog X.w g1)) (h2 : PSs X rest (tS X.prog X.w g2)) : PSs X (st :: rest) (tS X.prog X.w (sSeq g1 g2)) := PSs.imp (pss_cons h1 h2) fun D σ H ⟨S, B0, ρ, fp, s, o, ρ', s', R, e, f⟩ => by
  obtain ⟨⟨o1, ρ1, s1⟩, e1, e⟩ := bind_some' e
  refine ⟨S, B0, ρ, fp, s, o1, ρ1, s1, R, e1, ?_⟩
  cases o1 with
  | nx => exact fun σ1 fp1 H1 R1 fr => ⟨S, B0, ρ1, fp1, s1, o, ρ', s', R1, e, f.fr fr⟩
  | brk => cases e; exact f
  | cont => cases e; exact f
  | ret d => cases e; exact f
theorem s_one (h1 : PS X st (tS X.prog X.w g1)) : PSs X [st] (tS X.prog X.w g1) := pss_one h1
theorem s_pass : PS X (.Pass pos) (tS X.prog X.w sNil) := PS.imp ps_pass fun D σ H ⟨S, B0, ρ, fp, s, o, ρ', s', R, e, f⟩ => by cases e; exact f σ fp H R .refl
theorem s_brk : PS X (.Break pos) (tS X.prog X.w sBrk) := PS.imp ps_break fun D σ H ⟨S, B0, ρ, fp, s, o, ρ', s', R, e, f⟩ => by cases e; exact f σ fp H R .refl
theorem s_cont : PS X (.Continue pos) (tS X.prog X.w sCont) := PS.imp ps_continue fun D σ H ⟨S, B0, ρ, fp, s, o, ρ', s', R, e, f⟩ => by cases e; exact f σ fp H R .refl
theorem go_set {i : Nat} {f : EO} {D : Ends} {σ : L2.St} {H : Hp} (q : tS X.prog X.w (sSet i f) D σ H) : tAsg (tO X.prog X.w f) (gName i) D σ H := by
  obtain ⟨S, B0, ρ, fp, s, o, ρ', s', R, e, q⟩ := q
  obtain ⟨⟨sv, s1⟩, e1, e⟩ := bind_some' e
  by_cases hu : sv.un = true
  · have e : (if sv.un = true then some (Out.nx, List.set ρ i (some sv), s1) else none) = some (o, ρ', s') := e
    rw [if_pos hu] at e; cases e
    exact ⟨S, B0, ρ, fp, s, sv, _, R, e1, hu, fun v H' nf k o hn hf r => q _ _ _ (R.set k o hn hf r) (.set k hu hf)⟩
  · have e : (if sv.un = true then some (Out.nx, List.set ρ i (some sv), s1) else none) = some (o, ρ', s') := e
    rw [if_neg hu] at e; cases e
/-- x = e -/
theorem s_set {i : Nat} {x : Str} {pos' : Pos} {f : EO} (hN : X.N.Nodup) (hi : X.N[i]? = some x) (hx : Loc X.env.scope x) (he : PE X e (tO X.prog X.w f)) (hs : swapsWith e (some (.Name x pos')) pos.line X.env = pure false := by rfl)
    (hf : X.fn x = true ∨ X.env.scope.names.lookup x = some .local := by first | exact .inl rfl | exact .inr rfl | assumption) : PS X (.Assign [.Name x pos'] e pos) (tS X.prog X.w (sSet i f)) := PS.imp (ps_set hN hi hx he hs hf) fun D σ H q => go_set q
theorem s_ret {f : EE} (he : PE X e (tV X.prog X.w f)) : PS X (.Return (some e) pos) (tS X.prog X.w (sRet f)) := PS.imp (ps_ret he) fun D σ H ⟨S, B0, ρ, fp, s, o, ρ', s', R, e, q⟩ => by
  obtain ⟨⟨d, s1⟩, e1, e⟩ := map_some' e
  cases e
  exact ⟨S, B0, ρ, fp, s, d, s1, R, e1, fun v H' k o r => q v H' (r.ext (.less fun a z => .inl z)) o fun b u e n _ => k b u n e⟩
theorem s_retN : PS X (.Return none pos) (tS X.prog X.w sRetN) := PS.imp ps_retN fun D σ H ⟨S, B0, ρ, fp, s, o, ρ', s', R, e, q⟩ => by
  cases e
  exact q _ H .non R.src fun b u e n _ => e
theorem s_retM (i : Nat) {x : Str} {pos' : Pos} (hN : X.N[i]? = some x := by rfl) (hv : Vis X.env.scope x := by first | exact Or.inl rfl | exact Or.inr (Or.inl rfl) | exact Or.inr (Or.inr rfl)) (hd : (x == ("__debug__" : Str)) = false := by decide)
    (hcd : (x == ("__classdict__" : Str)) = false := by decide) : PS X (.Return (some (.Name x pos')) pos) (tS X.prog X.w (sRetM i)) := PS.imp (ps_ret (pe_var hN hv hd hcd)) fun D σ H ⟨S, B0, ρ, fp, s, o, ρ', s', R, e, q⟩ => by
  have key : ∀ sv, ρ[i]? = some (some sv) → ∃ v, σ[i]? = some (some v) ∧ RepS X.prog X.w S (Blk B0 fp) H (fp i) v sv := R.slot i
  have ns : ∀ a, a ∈ fp i → ¬ B0 a := R.base i
  generalize fp i = l at key ns
  unfold sRetM at e
  split at e <;> cases e <;> rename_i h <;> obtain ⟨v, h1, h2⟩ := key _ h <;> refine ⟨v, h1, q v H ?_ R.src fun b u e n _ => e⟩
  · cases h2 with | p r => exact r.ext (.less fun a z => .inl z)
  · cases h2 with | ol e l => exact .lst (ns _ (by simp)) e (l.ext (.less fun a z => .inl z))
  · cases h2 with
    | dk e z l => exact .dk (ns _ (by simp)) (.inl e) z (l.ext (.less fun a z => .inl z))
    | dn e z k l => exact .dn (ns _ (by simp)) (.inl e) z (k.ext (.less fun a z => .inl z)) (l.ext (.less fun a z => .inl z))
theorem s_drop {f : EE} (he : PE X e (tI X.prog X.w f)) (hs : swapsWith e none pos.line X.env = pure false := by rfl) : PS X (.Expr e pos) (tS X.prog X.w (sDrop f)) := PS.imp (ps_expr he hs) fun D σ H ⟨S, B0, ρ, fp, s, o, ρ', s', R, e, q⟩ => by
  obtain ⟨⟨d, s1⟩, e1, e⟩ := map_some' e
  cases e
  exact ⟨S, B0, ρ, fp, s, d, s1, R, e1, fun v H' k o r => q _ _ _ (R.keep k o) (.keep k)⟩
theorem s_if {c : Expr} {a b : List Stmt} {fc : EB} (hc : PT X c (tT X.prog X.w fc)) (ha : PSs X a (tS X.prog X.w g1)) (hb : PSs X b (tS X.prog X.w g2)) : PS X (.If c a b pos) (tS X.prog X.w (sIf fc g1 g2)) := PS.imp (ps_if hc ha hb) fun D σ H ⟨S, B0, ρ, fp, s, o, ρ', s', R, e, q⟩ => by
  obtain ⟨⟨b, s1⟩, e1, e⟩ := bind_some' e
  refine ⟨S, B0, ρ, fp, s, b, s1, R, e1, fun H1 k o1 => ?_⟩
  cases b with
  | true => exact iteT ⟨S, B0, ρ, fp, s1, o, ρ', s', R.keep k o1, e, q.fr (.keep k)⟩
  | false => exact iteF ⟨S, B0, ρ, fp, s1, o, ρ', s', R.keep k o1, e, q.fr (.keep k)⟩
theorem s_fgt (is : List Nat) (h : PS X st (tS X.prog X.w g)) : PS X st (tS X.prog X.w (sFgt is g)) := PS.imp h fun D σ H ⟨S, B0, ρ, fp, s, o, ρ', s', R, e, q⟩ =>
  ⟨S, B0, wipeE ρ is, fp, s, o, ρ', s', R.wipeR is, e, q.fr (.weak fun i sv e => (wipeE_some e).1)⟩
end

section
variable {P : Program} {w : World} {S : SA} {B0 : Addr → Prop} {ρ : Env} {σ : L2.St} {fp : Fp} {s : Src} {H : Hp}
/-- what slot i owns becomes plain -/
theorem Rl.frz (R : Rl P w S B0 ρ σ fp s H) {i : Nat} {sv : SV} {d : D} (h : ρ[i]? = some (some sv)) (hr : ∀ {v : V}, RepS P w S (Blk B0 fp) H (fp i) v sv → Rep P w S (Blk B0 (fun j => if j = i then [] else fp j)) H v d) :
    Rl P w S B0 (ρ.set i (some (.p d))) σ (fun j => if j = i then [] else fp j) s H := by
  have less : ∀ a, Blk B0 (fun j => if j = i then [] else fp j) a → Blk B0 fp a := fun a z => by
    rcases z with z | ⟨j, z⟩
    · exact .inl z
    · by_cases hj : j = i
      · simp only [hj, if_true] at z; cases z
      · simp only [hj, if_false] at z; exact .inr ⟨j, z⟩
  have sub : ∀ j a, a ∈ (if j = i then [] else fp j) → a ∈ fp j := fun j a z => by
    by_cases hj : j = i
    · simp only [hj, if_true] at z; cases z
    · simp only [hj, if_false] at z; exact z
  refine ⟨by rw [List.length_set]; exact R.len, fun j sw e => ?_, fun j a z => R.own j a (sub j a z), fun j l a z1 z2 => R.dis j l a (sub j a z1) (sub l a z2), fun j => ?_, fun j a z => R.base j a (sub j a z), R.dom0, R.sB, R.src⟩
  · by_cases hj : j = i
    · subst hj
      have hl : j < ρ.length := (List.getElem?_eq_some_iff.mp h).1
      rw [List.getElem?_set_self hl] at e; cases e
      obtain ⟨v, h1, h2⟩ := R.slot j sv h
      refine ⟨v, h1, ?_⟩
      simp only [if_true]
      exact .p (hr h2)
    · rw [List.getElem?_set_ne (Ne.symm hj)] at e
      obtain ⟨v, h1, h2⟩ := R.slot j sw e
      refine ⟨v, h1, ?_⟩
      simp only [hj, if_false]
      exact h2.ext (.less less) fun _ _ => rfl
  · by_cases hj : j = i
    · simp [hj]
    · simp only [hj, if_false]; exact R.nod j
theorem RepOO.reps {B B' : Addr → Prop} (less : ∀ a, B' a → B a) : ∀ {as : List Addr} {dss : List (List D)}, RepOO P w S B H as dss → (∀ a ∈ as, ¬ B' a) → Reps P w S B' H (as.map V.ref) (dss.map .lst)
  | _, _, .nil, _ => .nil
  | _, _, .cons e l r, h => .cons (.lst (h _ (by simp)) e (l.ext (.less less))) (RepOO.reps less r fun a ha => h a (by simp [ha]))
theorem Rl.frzE (R : Rl P w S B0 ρ σ fp s H) (i : Nat) : ∃ fp', Rl P w S B0 (frzE i ρ) σ fp' s H ∧ Fr S ρ fp H (frzE i ρ) fp' H := by
  have nb : ∀ a, a ∈ fp i → ¬ Blk B0 (fun j => if j = i then [] else fp j) a := fun a h z => by
    rcases z with z | ⟨j, z⟩
    · exact R.base i a h z
    · by_cases hj : j = i
      · simp only [hj, if_true] at z; cases z
      · simp only [hj, if_false] at z; exact hj (R.dis j i a z h)
  have less : ∀ a, Blk B0 (fun j => if j = i then [] else fp j) a → Blk B0 fp a := fun a z => by
    rcases z with z | ⟨j, z⟩
    · exact .inl z
    · by_cases hj : j = i
      · simp only [hj, if_true] at z; cases z
      · simp only [hj, if_false] at z; exact .inr ⟨j, z⟩
  have fr : ∀ sv d, ρ[i]? = some (some sv) → sv.un = true → Fr S ρ fp H (ρ.set i (some (.p d))) (fun j => if j = i then [] else fp j) H := fun sv d h u => by
    refine ⟨fun _ _ e _ _ => e, fun j ds e => ?_, fun b _ ⟨j, sw, e, u', m⟩ => ?_, fun b j _ m => ?_⟩
    · by_cases hj : j = i
      · subst hj
        rw [List.getElem?_set_self (List.getElem?_eq_some_iff.mp h).1] at e; cases e
      · rw [List.getElem?_set_ne (Ne.symm hj)] at e
        exact ⟨e, by simp only [hj, if_false]⟩
    · by_cases hj : j = i
      · simp only [hj, if_true] at m; cases m
      · simp only [hj, if_false] at m
        rw [List.getElem?_set_ne (Ne.symm hj)] at e
        exact .inl ⟨j, sw, e, u', m⟩
    · by_cases hj : j = i
      · simp only [hj, if_true] at m; cases m
      · simp only [hj, if_false] at m; exact .inl ⟨j, m⟩
  unfold Pv.frzE
  split
  · rename_i ds h
    refine ⟨_, R.frz h fun {v} r => ?_, fr _ _ h rfl⟩
    generalize fp i = l at nb r
    cases r with | ol e l => exact .lst (nb _ (by simp)) e (l.ext (.less less))
  · rename_i ds h
    refine ⟨_, R.frz h fun {v} r => ?_, fr _ _ h rfl⟩
    generalize fp i = l at nb r
    cases r with
    | dk e z l => exact .dk (nb _ (by simp)) (.inl e) z (l.ext (.less less))
    | dn e z k l => exact .dn (nb _ (by simp)) (.inl e) z (k.ext (.less less)) (l.ext (.less less))
  · rename_i dss h
    refine ⟨_, R.frz h fun {v} r => ?_, fr _ _ h rfl⟩
    generalize fp i = l at nb r
    cases r with | oo e l => exact .lst (nb _ (by simp)) e (l.reps less fun a ha => nb a (by simp [ha]))
  · exact ⟨fp, R, .refl⟩
end
section
variable {X : Cx} {st : Stmt} {g : SS}
theorem s_frz (i : Nat) (h : PS X st (tS X.prog X.w g)) : PS X st (tS X.prog X.w (sFrz i g)) := PS.imp h fun D σ H ⟨S, B0, ρ, fp, s, o, ρ', s', R, e, q⟩ => by
  obtain ⟨fp', R', fr⟩ := R.frzE i
  exact ⟨S, B0, frzE i ρ, fp', s, o, ρ', s', R', e, q.fr fr⟩
end
end Pv

set_option Elab.async false
set_option linter.all false
set_option maxRecDepth 100000
set_option maxHeartbeats 1000000
namespace Pv
open PySem PySem.Spec L2
open PyProof.Rows hiding St

section
variable {P : Program} {w : World} {S : SA} {B0 : Addr → Prop} {ρ : Env} {σ : L2.St} {fp : Fp} {s : Src} {H : Hp}
/-- the list that slot i owns is changed -/
theorem Rl.mutL (R : Rl P w S B0 ρ σ fp s H) {i : Nat} {ds ds' : List D} (h : ρ[i]? = some (some (.ol ds))) {a : Addr} {vs vs' : List V} (hs : σ[i]? = some (some (.ref a))) (hf : fp i = [a])
    (l : Reps P w S (Blk B0 fp) H vs' ds') : Rl P w S B0 (ρ.set i (some (.ol ds'))) σ fp s (upd H a (.lst vs')) ∧ Fr S ρ fp H (ρ.set i (some (.ol ds'))) fp (upd H a (.lst vs')) := by
  have ai : a ∈ fp i := by rw [hf]; simp
  have nb : Blk B0 fp a := .inr ⟨i, ai⟩
  have x : Ext (Blk B0 fp) (Blk B0 fp) H (upd H a (.lst vs')) := fun b u n r => by
    have hb : b ≠ a := fun z => n (z ▸ nb)
    exact ⟨n, r.same fun o e => by rw [upd_ne hb]; exact e⟩
  have hS : ¬ Sb S a := R.notS ai
  refine ⟨⟨by rw [List.length_set]; exact R.len, fun j sw e => ?_, fun j b z => ?_, R.dis, R.nod, R.base, fun b z => ?_, R.sB, fun p e => ?_⟩, ⟨fun b o e n u => ?_, fun j ds e => ?_, fun b _ ⟨j, sw, e, u, m⟩ => ?_, fun _ j _ h => .inl ⟨j, h⟩⟩⟩
  · by_cases hj : j = i
    · subst hj
      rw [List.getElem?_set_self (List.getElem?_eq_some_iff.mp h).1] at e; cases e
      refine ⟨.ref a, hs, ?_⟩
      rw [hf]
      exact .ol upd_same (l.ext x)
    · rw [List.getElem?_set_ne (Ne.symm hj)] at e
      obtain ⟨v, h1, h2⟩ := R.slot j sw e
      exact ⟨v, h1, h2.ext x fun b hb => upd_ne fun z => hj (R.dis j i a (z ▸ hb) ai)⟩
  · by_cases z' : b = a
    · rw [z', upd_same]; simp
    · rw [upd_ne z']; exact R.own j b z
  · rw [upd_ne fun z' => R.base i a ai (by rw [← z']; exact z)]; exact R.dom0 b z
  · obtain ⟨h1, h2, h3⟩ := R.src p e
    exact ⟨h1, by rw [upd_ne fun z => hS ⟨p, e, .inl z.symm⟩]; exact h2, by rw [upd_ne fun z => hS ⟨p, e, .inr z.symm⟩]; exact h3⟩
  · rw [upd_ne fun z => u ⟨i, _, h, rfl, by rw [z]; exact ai⟩]; exact e
  · by_cases hj : j = i
    · subst hj
      rw [List.getElem?_set_self (List.getElem?_eq_some_iff.mp h).1] at e; cases e
    · rw [List.getElem?_set_ne (Ne.symm hj)] at e; exact ⟨e, rfl⟩
  · by_cases hj : j = i
    · subst hj; exact .inl ⟨j, _, h, rfl, m⟩
    · rw [List.getElem?_set_ne (Ne.symm hj)] at e; exact .inl ⟨j, sw, e, u, m⟩
theorem Rl.atL (R : Rl P w S B0 ρ σ fp s H) {i : Nat} {ds : List D} (h : ρ[i]? = some (some (.ol ds))) : ∃ a vs, σ[i]? = some (some (.ref a)) ∧ fp i = [a] ∧ H a = some (.lst vs) ∧ Reps P w S (Blk B0 fp) H vs ds ∧ ¬ Sb S a := by
  obtain ⟨v, h1, h2⟩ := R.slot i _ h
  have ns : ∀ a, a ∈ fp i → ¬ Sb S a := fun a h => R.notS h
  generalize hf : fp i = l at h2 ns
  cases h2 with | ol e l => exact ⟨_, _, h1, rfl, e, l, ns _ (by simp)⟩
end

def sApp (i : Nat) (f : EE) : SS := fun ρ s => (f ρ s).bind fun z => match ρ[i]? with
  | some (some (.ol ds)) => if ds.length < LIM then some (.nx, ρ.set i (some (.ol (ds ++ [z.1]))), z.2) else none
  | _ => none
/-- x[k] = e -/
def sPut (i : Nat) (fk f : EE) : SS := fun ρ s => (f ρ s).bind fun z => (fk ρ z.2).bind fun k => match ρ[i]?, k.1 with
  | some (some (.ol ds)), .int j => (ixN ds.length j).map fun n => (.nx, ρ.set i (some (.ol (ds.set n z.1))), k.2)
  | _, _ => none
section
variable {X : Cx} {e e2 : Expr} {pos apos cpos : Pos} {f fk : EE}
theorem s_app (i : Nat) {x : Str} {px : Pos} (hN : X.N[i]? = some x := by rfl) (hv : Vis X.env.scope x := by first | exact Or.inl rfl | exact Or.inr (Or.inl rfl) | exact Or.inr (Or.inr rfl)) (hd : (x == ("__debug__" : Str)) = false := by decide)
    (hcd : (x == ("__classdict__" : Str)) = false := by decide) (he : PE X e (tV X.prog X.w f))
    (hbase : attributeBase (.Name x px) "append" X.env (eval (.Name x px) X.env) = eval (.Name x px) X.env := by rfl)
    (hfew : ((backTo cpos (starEach [e] X.env)).all (fun x => !x.1) && (backToKw cpos (keywordEach [] X.env)).all (fun x => x.1.isSome)
      && decide ([e].length + ([] : List Keyword).length + (if ([] : List Keyword).isEmpty then 0 else 1) < 30)) = true := by rfl)
    (hline : (apos.endLine == cpos.line) = true := by rfl) (hs : starEach [e] X.env = (false, eval e X.env) :: starEach [] X.env := by rfl) (hplain : (backTo cpos (starEach [] X.env)).any (·.1) = false := by rfl)
    (hsw : swapsWith (.Call (.Attribute (.Name x px) "append" apos) [e] [] cpos) none pos.line X.env = pure false := by rfl) :
    PS X (.Expr (.Call (.Attribute (.Name x px) "append" apos) [e] [] cpos) pos) (tS X.prog X.w (sApp i f)) :=
  PS.imp (ps_expr (pe_bm PySem.F.plainAttrs_list PySem.F.slot_list_append PySem.F.type_list_append mt_append (pe_var hN hv hd hcd) (pa_cons he pa_nil hs) hbase hfew hline hs hplain) hsw) fun D σ H ⟨S, B0, ρ, fp, s, o, ρ', s', R, e, q⟩ => by
    obtain ⟨⟨d, s1⟩, e1, e⟩ := bind_some' e
    dsimp only at e
    split at e
    · rename_i ds h
      by_cases hz : ds.length < LIM
      · rw [if_pos hz] at e; cases e
        obtain ⟨a, vs, h1, hf, ha, l, nS⟩ := R.atL h
        refine ⟨.ref a, h1, .inl ⟨rfl, _, .inl (.inl ha)⟩, S, B0, ρ, fp, s, d, _, R, e1, fun v H1 k o r => ?_⟩
        have R1 := R.keep k o
        have ha1 := k a _ nS ha
        have l1 := l.ext (k.ext R.sBk)
        refine ⟨a, vs, v, rfl, rfl, ha1, by rw [l.length]; exact Nat.lt_trans hz lim_line, ?_⟩
        obtain ⟨R2, fr⟩ := R1.mutL h (vs := vs) h1 hf (l1.append (.cons r .nil))
        exact q _ _ _ R2 (Fr.trans (.keep k) fr)
      · rw [if_neg hz] at e; cases e
    · cases e
theorem s_put (i : Nat) {x : Str} {px ps : Pos} (hN : X.N[i]? = some x := by rfl) (hv : Vis X.env.scope x := by first | exact Or.inl rfl | exact Or.inr (Or.inl rfl) | exact Or.inr (Or.inr rfl)) (hd : (x == ("__debug__" : Str)) = false := by decide)
    (hcd : (x == ("__classdict__" : Str)) = false := by decide) (he : PE X e (tV X.prog X.w f)) (hk : PE X e2 (tI X.prog X.w fk))
    (ha : ∀ v, assign (.Subscript (.Name x px) e2 ps) X.env v = (do
      let ov ← holding [v] (eval (.Name x px) X.env)
      let iv ← holding [v, ov] (eval e2 X.env)
      standAt ps
      holding [v, ov, iv] (setItem ov iv v)
      release [v, ov, iv] []) := by intro _; rfl)
    (hs : swapsWithSole [.Subscript (.Name x px) e2 ps] e pos.line X.env = pure false := by rfl) (hw : swappedStores [.Subscript (.Name x px) e2 ps] e X.env = pure none := by rfl)
    (h1 : (assignEach [.Subscript (.Name x px) e2 ps] X.env).map (·.2) = [assign (.Subscript (.Name x px) e2 ps) X.env] := by rfl) :
    PS X (.Assign [.Subscript (.Name x px) e2 ps] e pos) (tS X.prog X.w (sPut i fk f)) :=
  PS.imp (ps_asg he (pg_sub (pe_var hN hv hd hcd) hk set_list ha) hs hw h1) fun D σ H ⟨S, B0, ρ, fp, s, o, ρ', s', R, e, q⟩ => by
    obtain ⟨⟨d, s1⟩, e1, e⟩ := bind_some' e
    obtain ⟨⟨k, s2⟩, e2, e⟩ := bind_some' e
    dsimp only at e
    split at e
    · rename_i ds j h
      obtain ⟨n, e3, e⟩ := map_some' e
      cases e
      obtain ⟨a, vs, h1, hf, ha, l, nS⟩ := R.atL h
      refine ⟨S, B0, ρ, fp, s, d, s1, R, e1, fun v H1 k1 o1 r1 => ⟨.ref a, h1, S, B0, ρ, fp, s1, _, _, R.keep k1 o1, e2, fun u H2 k2 o2 r2 => ?_⟩⟩
      have k := k1.trans k2
      refine ⟨a, vs, j, n, rfl, r2.int_inv, k a _ nS ha, by rw [l.length]; exact e3, ?_⟩
      obtain ⟨R3, fr⟩ := (R.keep k o2).mutL h (vs := vs) h1 hf ((l.ext (k.ext R.sBk)).set (r1.ext (k2.ext R.sBk)) n)
      exact q _ _ _ R3 (Fr.trans (.keep k) fr)
    · cases e
end
end Pv

set_option Elab.async false
set_option linter.all false
set_option maxRecDepth 100000
set_option maxHeartbeats 1000000
namespace Pv
open PySem PySem.Spec L2
open PyProof.Rows hiding St

/-! ### what a loop hands out, and targets -/
/-- a value; a tuple that is only taken apart -/
inductive Itm where
  | v (d : D) | pr (ds : List D)
inductive RepIt (P : Program) (w : World) (S : SA) (B : Addr → Prop) (H : Hp) (K : PySem.W.Frag) : V → Itm → Prop
  | v {v : V} {d : D} : Rep P w S B H v d → RepIt P w S B H K v (.v d)
  | pr {a : Addr} {vs : List V} {ds : List D} : SqT K H a vs → Reps P w S B H vs ds → RepIt P w S B H K (.ref a) (.pr ds)
abbrev Pt := Itm → Env → Option Env
abbrev Pts := List D → Env → Option Env
def ptN (i : Nat) : Pt := fun it ρ => match it with
  | .v d => some (ρ.set i (some (.p d)))
  | _ => none
def ptT (q : Pts) : Pt := fun it ρ => match it with
  | .v (.tup ds) => q ds ρ
  | .pr ds => q ds ρ
  | _ => none
def ptNil : Pts := fun ds ρ => match ds with
  | [] => some ρ
  | _ => none
def ptCons (p : Pt) (q : Pts) : Pts := fun ds ρ => match ds with
  | d :: r => (p (.v d) ρ).bind fun ρ1 => q r ρ1
  | [] => none
/-- only the slots us may have changed -/
def Only' (us : List Nat) (σ σ' : L2.St) : Prop := σ'.length = σ.length ∧ ∀ i, i ∉ us → σ'[i]? = σ[i]?
def OnlyF (us : List Nat) (fp fp' : Fp) : Prop := ∀ i, i ∉ us → fp' i = fp i
def tG (P : Program) (w : World) (K : PySem.W.Frag) (us : List Nat) (p : Pt) : TG := fun v σ H Q => ∃ (S : SA) (B0 : Addr → Prop) (ρ : Env) (fp : Fp) (s : Src) (it : Itm) (ρ' : Env), Rl P w S B0 ρ σ fp s H ∧ RepIt P w S (Blk B0 fp) H K v it ∧ p it ρ = some ρ' ∧
  ∀ σ' fp', Rl P w S B0 ρ' σ' fp' s H → Fr S ρ fp H ρ' fp' H → (∀ a, Blk B0 fp' a → Blk B0 fp a) → Only' us σ σ' → OnlyF us fp fp' → Q σ' H
def tGs (P : Program) (w : World) (us : List Nat) (p : Pts) : TGs := fun vs σ H Q => ∃ (S : SA) (B0 : Addr → Prop) (ρ : Env) (fp : Fp) (s : Src) (ds : List D) (ρ' : Env), Rl P w S B0 ρ σ fp s H ∧ Reps P w S (Blk B0 fp) H vs ds ∧ p ds ρ = some ρ' ∧
  ∀ σ' fp', Rl P w S B0 ρ' σ' fp' s H → Fr S ρ fp H ρ' fp' H → (∀ a, Blk B0 fp' a → Blk B0 fp a) → Only' us σ σ' → OnlyF us fp fp' → Q σ' H
theorem PG.imp {X : Cx} {e : Expr} {t t' : TG} (h : PG X e t) (i : ∀ v σ H Q, t' v σ H Q → t v σ H Q) : PG X e t' := ⟨fun pins s σ H v u Q I r q => h.run pins s σ H v u Q I r (i v σ H Q q)⟩
theorem PGs.imp {X : Cx} {es : List Expr} {t t' : TGs} (h : PGs X es t) (i : ∀ v σ H Q, t' v σ H Q → t v σ H Q) : PGs X es t' := ⟨fun pins s σ H v u Q I r q => h.run pins s σ H v u Q I r (i v σ H Q q)⟩
section
variable {X : Cx} {pos : Pos}
theorem g_name {i : Nat} {x : Str} (hN : X.N.Nodup) (hi : X.N[i]? = some x) (hx : Loc X.env.scope x) (hf : X.fn x = true ∨ X.env.scope.names.lookup x = some .local := by first | exact .inl rfl | exact .inr rfl | assumption) : PG X (.Name x pos) (tG X.prog X.w X.K [i] (ptN i)) :=
  PG.imp (pg_name hN hi hx hf) fun v σ H Q ⟨S, B0, ρ, fp, s, it, ρ', R, r, e, q⟩ => by
    cases it with
    | pr ds => cases e
    | v d =>
      cases e
      cases r with
      | v r =>
        refine q _ _ (R.set .refl R.src .nil (fun a h => by simp at h) (.p (r.ext (.less fun a z => z.elim id fun z => by simp at z)))) (.set .refl rfl fun a h => by simp at h) (fun a z => ?_) ⟨by rw [List.length_set], fun j hj => ?_⟩ fun j hj => if_neg (by simpa using hj)
        · rcases z with z | ⟨j, z⟩
          · exact .inl z
          · by_cases hj : j = i
            · simp only [hj, if_true] at z; cases z
            · simp only [hj, if_false] at z; exact .inr ⟨j, z⟩
        · rw [List.getElem?_set_ne fun z => hj (by simp [z])]
theorem gs_nil : PGs X [] (tGs X.prog X.w [] ptNil) := PGs.imp pgs_nil fun vs σ H Q ⟨S, B0, ρ, fp, s, ds, ρ', R, r, e, q⟩ => by
  cases ds with
  | nil => cases e; cases r; exact ⟨rfl, q σ fp R .refl (fun _ z => z) ⟨rfl, fun _ _ => rfl⟩ fun _ _ => rfl⟩
  | cons d r => cases e
theorem gs_cons {e : Expr} {es : List Expr} {us ws : List Nat} {p : Pt} {q : Pts} (h1 : PG X e (tG X.prog X.w X.K us p)) (h2 : PGs X es (tGs X.prog X.w ws q))
    (hs : (assignEach (e :: es) X.env).map (·.2) = assign e X.env :: (assignEach es X.env).map (·.2) := by rfl) : PGs X (e :: es) (tGs X.prog X.w (us ++ ws) (ptCons p q)) := PGs.imp (pgs_cons h1 h2 hs) fun vs σ H Q ⟨S, B0, ρ, fp, s, ds, ρ', R, r, e, q⟩ => by
  cases ds with
  | nil => cases e
  | cons d ds =>
    obtain ⟨ρ1, e1, e⟩ := bind_some' e
    cases r with
    | cons r l =>
      refine ⟨_, _, rfl, S, B0, ρ, fp, s, .v d, ρ1, R, .v r, e1, fun σ1 fp1 R1 fr1 b1 o1 u1 => ⟨S, B0, ρ1, fp1, s, ds, ρ', R1, l.ext (.less b1), e, fun σ2 fp2 R2 fr2 b2 o2 u2 => ?_⟩⟩
      refine q σ2 fp2 R2 (fr1.trans fr2) (fun a z => b1 a (b2 a z)) ⟨o2.1.trans o1.1, fun i hi => ?_⟩ fun i hi => ?_
      · simp only [List.mem_append, not_or] at hi
        rw [o2.2 i hi.2, o1.2 i hi.1]
      · simp only [List.mem_append, not_or] at hi
        rw [u2 i hi.2, u1 i hi.1]
/-- a, b, .. as a target -/
theorem g_tup {es : List Expr} {k : Nat} {us : List Nat} {q : Pts} {n : Nat} (hc : X.calm = true) (h : PGs X es (tGs X.prog X.w us q)) (hq : ∀ ds ρ ρ', q ds ρ = some ρ' → ds.length = n)
    (hn : (assignEach es X.env).length = n := by rfl) (hst : (assignEach es X.env).findIdx? (·.1) = none := by rfl) : PG X (.Tuple es k pos) (tG X.prog X.w X.K us (ptT q)) := PG.imp (pg_tup hc h hn hst) fun v σ H Q ⟨S, B0, ρ, fp, s, it, ρ', R, r, e, f⟩ => by
  cases r with
  | v r =>
    cases r with
    | tup nb ha l => exact ⟨_, _, rfl, .inl ha.rd, by rw [l.length]; exact hq _ _ _ e, S, B0, ρ, fp, s, _, ρ', R, l, e, f⟩
    | _ => cases e
  | pr hs l => exact ⟨_, _, rfl, hs, by rw [l.length]; exact hq _ _ _ e, S, B0, ρ, fp, s, _, ρ', R, l, e, f⟩
end
theorem ptNil_len {ds : List D} {ρ ρ' : Env} (h : ptNil ds ρ = some ρ') : ds.length = 0 := by
  cases ds with
  | nil => rfl
  | cons d r => cases h
theorem ptCons_len {p : Pt} {q : Pts} {n : Nat} (hq : ∀ ds ρ ρ', q ds ρ = some ρ' → ds.length = n) {ds : List D} {ρ ρ' : Env} (h : ptCons p q ds ρ = some ρ') : ds.length = n + 1 := by
  cases ds with
  | nil => cases h
  | cons d r => obtain ⟨ρ1, _, e⟩ := bind_some' h; rw [List.length_cons, hq _ _ _ e]

/-! ### while -/
def FUEL : Nat := 1000000000
def loopW (c : EB) (b : SS) : Nat → SS
  | 0 => fun _ _ => none
  | n + 1 => fun ρ s => (c ρ s).bind fun x => if x.1 = true then (b ρ x.2).bind fun z => match z.1 with
      | .nx => loopW c b n z.2.1 z.2.2
      | .cont => loopW c b n z.2.1 z.2.2
      | .brk => some (.nx, z.2.1, z.2.2)
      | .ret d => some (.ret d, z.2.1, z.2.2)
    else some (.nx, ρ, x.2)
def sWhile (c : EB) (b : SS) : SS := loopW c b FUEL
section
variable {X : Cx} {pos : Pos} {c : Expr} {body : List Stmt} {fc : EB} {g : SS}
theorem s_while (hc : PT X c (tT X.prog X.w fc)) (hb : PSs X body (tS X.prog X.w g)) (hp : PassesOwn (model X.prog X.w) X.A X.env X.xe := by exact PassesOwn.never) : PS X (.While c body [] pos) (tS X.prog X.w (sWhile fc g)) :=
  PS.imp (ps_while hp hc hb) fun D σ H ⟨S, B0, ρ, fp, s, o, ρ', s', R, e, q⟩ => by
    refine ⟨fun m σ1 H1 => ∃ ρ1 fp1 s1, Rl X.prog X.w S B0 ρ1 σ1 fp1 s1 H1 ∧ Fr S ρ fp H ρ1 fp1 H1 ∧ loopW fc g m ρ1 s1 = some (o, ρ', s'), ⟨FUEL, ρ, fp, s, R, .refl, e⟩, ?_⟩
    rintro m σ1 H1 ⟨ρ1, fp1, s1, R1, fr1, e⟩
    cases m with
    | zero => cases e
    | succ m =>
      obtain ⟨⟨b, s2⟩, e1, e⟩ := bind_some' e
      refine ⟨S, B0, ρ1, fp1, s1, b, s2, R1, e1, fun H2 k2 o2 => ?_⟩
      have R2 := R1.keep k2 o2
      have fr2 : Fr S ρ fp H ρ1 fp1 H2 := fr1.trans (.keep k2)
      cases b with
      | false =>
        cases e
        exact iteF (q σ1 fp1 H2 R2 fr2)
      | true =>
        obtain ⟨⟨o3, ρ3, s3⟩, e2, e⟩ := bind_some' e
        refine iteT ⟨_, fun σ' H' (h : ∃ ρ1 fp1 s1, Rl X.prog X.w S B0 ρ1 σ' fp1 s1 H' ∧ Fr S ρ fp H ρ1 fp1 H' ∧ loopW fc g m ρ1 s1 = some (o, ρ', s')) => ⟨m, Nat.lt_succ_self m, h⟩, S, B0, ρ1, fp1, s2, o3, ρ3, s3, R2, e2, ?_⟩
        cases o3 with
        | nx => exact fun σ3 fp3 H3 R3 fr3 => ⟨ρ3, fp3, s3, R3, fr2.trans fr3, e⟩
        | cont => exact fun σ3 fp3 H3 R3 fr3 => ⟨ρ3, fp3, s3, R3, fr2.trans fr3, e⟩
        | brk => cases e; exact fun σ3 fp3 H3 R3 fr3 => q σ3 fp3 H3 R3 (fr2.trans fr3)
        | ret d => cases e; exact q.fr fr2
end

/-! ### what is walked -/
/-- J hands out these items as long as G stands -/
structure Feed (P : Program) (w : World) (S : SA) (K : PySem.W.Frag) (J : It) (G : (Addr → Prop) → Hp → Prop) (its : List Itm) : Prop where
  go : ∀ {B H i}, G B H → i < its.length → J.go i H
  stop : ∀ {B H}, G B H → J.stop its.length H
  yld : ∀ {B H i x H' it}, G B H → (∀ a, B a → H a ≠ none) → J.yld i H x H' → its[i]? = some it → Same H H' ∧ RepIt P w S B H' K x it
  keep : ∀ {B H H'}, G B H → (∀ a, Sb S a → B a) → Keep S H H' → G B H'
  more : ∀ {B B' H}, G B H → (∀ a, B' a → B a ∨ H a = none) → G B' H
/-- .. and whatever a body does -/
structure FeedS (P : Program) (w : World) (S : SA) (K : PySem.W.Frag) (J : It) (G : (Addr → Prop) → Hp → Prop) (its : List Itm) : Prop extends Feed P w S K J G its where
  ext : ∀ {B B' H H'}, G B H → Ext B B' H H' → G B' H'
abbrev EI := Env → Src → Option (List Itm × Src)
def tJ (P : Program) (w : World) (K : PySem.W.Frag) (f : EI) : TI := fun σ H R => ∃ (S : SA) (B0 : Addr → Prop) (ρ : Env) (fp : Fp) (s : Src) (its : List Itm) (s' : Src), Rl P w S B0 ρ σ fp s H ∧ f ρ s = some (its, s') ∧
  ∀ J H' G, Keep S H H' → SrcOk S s' H' → FeedS P w S K J G its → G (Blk B0 fp) H' → R J H'
/-- walked within an expression: also a list that the def alone knows -/
def tJI (P : Program) (w : World) (K : PySem.W.Frag) (f : EI) : TI := fun σ H R => ∃ (S : SA) (B0 : Addr → Prop) (ρ : Env) (fp : Fp) (s : Src) (its : List Itm) (s' : Src), Rl P w S B0 ρ σ fp s H ∧ f ρ s = some (its, s') ∧
  ∀ J H' G, Keep S H H' → SrcOk S s' H' → Feed P w S K J G its → G (Blk B0 fp) H' → R J H'
theorem PI.imp {X : Cx} {tg e : Expr} {t t' : TI} (h : PI X tg e t) (i : ∀ σ H R, t' σ H R → t σ H R) : PI X tg e t' := ⟨fun pins s σ H R I q => h.run pins s σ H R I (i σ H R q)⟩
theorem PI.i {X : Cx} {tg e : Expr} {f : EI} (h : PI X tg e (tJ X.prog X.w X.K f)) : PI X tg e (tJI X.prog X.w X.K f) := PI.imp h fun σ H R ⟨S, B0, ρ, fp, s, its, s', Rl, e, q⟩ => ⟨S, B0, ρ, fp, s, its, s', Rl, e, fun J H' G k o F g => q J H' G k o F.toFeed g⟩

/-! ### for -/
def loopF (p : Pt) (b : SS) (ws : List Nat) : List Itm → SS
  | [] => fun ρ s => some (.nx, ρ, s)
  | x :: r => fun ρ s => (p x ρ).bind fun ρ1 => (b ρ1 s).bind fun z => match z.1 with
      | .nx => loopF p b ws r (wipeE z.2.1 ws) z.2.2
      | .cont => loopF p b ws r (wipeE z.2.1 ws) z.2.2
      | .brk => some (.nx, z.2.1, z.2.2)
      | .ret d => some (.ret d, z.2.1, z.2.2)
def sFor (it : EI) (p : Pt) (b : SS) (ws : List Nat) : SS := fun ρ s => (it ρ s).bind fun z => loopF p b ws z.1 ρ z.2
section
variable {P : Program} {w : World} {S : SA} {B0 : Addr → Prop} {ρ ρ1 : Env} {σ σ1 : L2.St} {fp fp1 : Fp} {s s1 : Src} {H H1 : Hp}
theorem Fr.ext (fr : Fr S ρ fp H ρ1 fp1 H1) (R : Rl P w S B0 ρ σ fp s H) (R1 : Rl P w S B0 ρ1 σ1 fp1 s1 H1) : Ext (Blk B0 fp) (Blk B0 fp1) H H1 := fun a u n r => by
  have hs : ¬ Sb S a := fun z => n (R.sBk a z)
  have hu : ¬ OwnU ρ fp a := fun ⟨i, sv, _, _, m⟩ => n (.inr ⟨i, m⟩)
  refine ⟨fun z => ?_, r.same fun o e => fr.same a o e hs hu⟩
  rcases z with z | ⟨i, z⟩
  · exact n (.inl z)
  · rcases fr.blk a i hs z with z | z
    · exact n (.inr z)
    · exact Rd.tracked r.rd z
end
section
variable {X : Cx} {pos : Pos} {tg iter : Expr} {body : List Stmt} {f : EI} {p : Pt} {g : SS} {us : List Nat}
theorem s_for (ws : List Nat) (hc : X.calm = true) (hi : PI X tg iter (tJ X.prog X.w X.K f)) (hg : PG X tg (tG X.prog X.w X.K us p)) (hb : PSs X body (tS X.prog X.w g)) (hp : PassesOwn (model X.prog X.w) X.A X.env X.xe := by exact PassesOwn.never)
    (hs : ∀ x, foldedSetIterable iter X.env x = pure x := by intro _; rfl) : PS X (.For tg iter body [] pos) (tS X.prog X.w (sFor f p g ws)) := PS.imp (ps_for hp hc hi hg hb hs) fun D σ H ⟨S, B0, ρ, fp, s, o, ρ', s', R, e, q⟩ => by
  obtain ⟨⟨its, s1⟩, e1, e⟩ := bind_some' e
  refine ⟨S, B0, ρ, fp, s, its, s1, R, e1, fun J H1 G k o1 F hG => ?_⟩
  have R1 := R.keep k o1
  refine ⟨fun i m σ2 H2 => m = its.length - i ∧ i ≤ its.length ∧ ∃ ρ2 fp2 s2, Rl X.prog X.w S B0 ρ2 σ2 fp2 s2 H2 ∧ Fr S ρ fp H1 ρ2 fp2 H2 ∧ loopF p g ws (its.drop i) ρ2 s2 = some (o, ρ', s'), ⟨its.length, by simp, Nat.zero_le _, ρ, fp, s1, R1, .refl, e⟩, ?_⟩
  rintro i m σ2 H2 ⟨rfl, hi, ρ2, fp2, s2, R2, fr2, e⟩
  have G2 : G (Blk B0 fp2) H2 := F.ext hG (fr2.ext R1 R2)
  have fr02 : Fr S ρ fp H ρ2 fp2 H2 := Fr.trans (.keep k) fr2
  by_cases hlt : i < its.length
  · refine .inr ⟨F.go G2 hlt, fun σ3 H3 => i + 1 ≤ its.length ∧ ∃ ρ3 fp3 s3, Rl X.prog X.w S B0 ρ3 σ3 fp3 s3 H3 ∧ Fr S ρ fp H1 ρ3 fp3 H3 ∧ loopF p g ws (its.drop (i + 1)) ρ3 s3 = some (o, ρ', s'),
      fun σ3 H3 h => ⟨its.length - (i + 1), by omega, rfl, h⟩, fun x H3 hy => ?_⟩
    rw [List.drop_eq_getElem_cons hlt] at e
    obtain ⟨ρ3, e3, e⟩ := bind_some' e
    obtain ⟨sm, ri⟩ := F.yld G2 R2.dom hy (List.getElem?_eq_getElem hlt)
    have R3 := R2.keep (.ofSame sm) (R2.src.same sm)
    refine ⟨S, B0, ρ2, fp2, s2, its[i], ρ3, R3, ri, e3, fun σ4 fp4 R4 fr4 _ _ _ => ?_⟩
    obtain ⟨⟨o5, ρ5, s5⟩, e5, e⟩ := bind_some' e
    have fr14 : Fr S ρ fp H1 ρ3 fp4 H3 := (fr2.trans (.keep (.ofSame sm))).trans fr4
    refine ⟨S, B0, ρ3, fp4, s2, o5, ρ5, s5, R4, e5, ?_⟩
    have wk : Fr S ρ5 (fun i => []) H3 (wipeE ρ5 ws) (fun i => []) H3 := .weak fun i sv e => (wipeE_some e).1
    cases o5 with
    | nx => exact fun σ6 fp6 H6 R6 fr6 => ⟨hlt, wipeE ρ5 ws, fp6, s5, R6.wipeR ws, (fr14.trans fr6).trans (.weak fun i sv e => (wipeE_some e).1), e⟩
    | cont => exact fun σ6 fp6 H6 R6 fr6 => ⟨hlt, wipeE ρ5 ws, fp6, s5, R6.wipeR ws, (fr14.trans fr6).trans (.weak fun i sv e => (wipeE_some e).1), e⟩
    | brk => cases e; exact fun σ6 fp6 H6 R6 fr6 => q σ6 fp6 H6 R6 (Fr.trans (.keep k) (fr14.trans fr6))
    | ret d => cases e; exact q.fr (Fr.trans (.keep k) fr14)
  · have ei : i = its.length := by omega
    subst ei
    rw [List.drop_length] at e
    cases e
    exact .inl ⟨F.stop G2, q σ2 fp2 H2 R2 fr02⟩
end

/-! ### comprehensions -/
/-- the items' values, those that the test takes -/
def loopC (us : List Nat) (p : Pt) (c : EB) (f : EE) (ρ : Env) : List Itm → Src → Option (List D × Src)
  | [], s => some ([], s)
  | x :: r, s => (p x (wipeE ρ us)).bind fun ρ1 => (c ρ1 s).bind fun b => if b.1 = true then (f ρ1 b.2).bind fun y => (loopC us p c f ρ r y.2).map fun z => (y.1 :: z.1, z.2) else loopC us p c f ρ r b.2
def fLc (it : EI) (us : List Nat) (p : Pt) (c : EB) (f : EE) : EL := fun ρ s => (it ρ s).bind fun z => if z.1.length ≤ LIM then loopC us p c f ρ z.1 z.2 else none
def bYes : EB := fun _ s => some (true, s)
theorem wipe_only {σ σ' : L2.St} {us vs : List Nat} (h : Only' us σ σ') (hs : ∀ i ∈ us, i ∈ vs) : wipe σ' vs = wipe σ vs := by
  apply List.ext_getElem?
  intro i
  by_cases hi : i ∈ vs
  · have key : ∀ τ : L2.St, (wipe τ vs)[i]? = if i < τ.length then some none else none := fun τ => by
      clear h hs
      induction vs with
      | nil => cases hi
      | cons v vs ih =>
        unfold wipe
        by_cases hv : v = i
        · subst hv
          by_cases hl : v < τ.length
          · rw [if_pos hl, List.getElem?_set_self (by rw [wipe_length]; exact hl)]
          · rw [if_neg hl, List.getElem?_eq_none (by rw [List.length_set, wipe_length]; omega)]
        · rw [List.getElem?_set_ne hv]
          exact ih ((List.mem_cons.mp hi).resolve_left fun z => hv z.symm)
    rw [key, key, h.1]
  · rw [wipe_get hi, wipe_get hi]
    exact h.2 i fun z => hi (hs i z)
theorem wipe_wipe (σ : L2.St) (vs : List Nat) : wipe (wipe σ vs) vs = wipe σ vs := wipe_only ⟨wipe_length _ _, fun i hi => wipe_get hi⟩ fun _ h => h
theorem t_yes {P : Program} {w : World} {σ : L2.St} {H : Hp} {Q : Bool → Hp → Prop} (h : tT P w bYes σ H Q) : tYes σ H Q := by
  obtain ⟨S, B0, ρ, fp, s, d, s', R, e, q⟩ := h
  cases e
  exact q H .refl R.src
section
variable {P : Program} {w : World} {S : SA} {B0 : Addr → Prop} {ρ : Env} {σ : L2.St} {fp : Fp} {s s' : Src} {H H' : Hp} {Dd : Addr}
def IsOn (ρ : Env) (i : Nat) : Prop := ∃ sv, ρ[i]? = some (some sv)
/-- within a block: the new list, and what the block's own slots had, may not be handed on -/
def parkB (B0 : Addr → Prop) (ρ : Env) (fp : Fp) (Dd : Addr) (a : Addr) : Prop := B0 a ∨ a = Dd ∨ ∃ i, a ∈ fp i ∧ ¬ IsOn ρ i
open Classical in
noncomputable def parkF (ρ : Env) (fp : Fp) : Fp := fun i => if IsOn ρ i then fp i else []
theorem park_iff (a : Addr) : Blk (parkB B0 ρ fp Dd) (parkF ρ fp) a ↔ Blk B0 fp a ∨ a = Dd := by
  constructor
  · rintro (h | ⟨i, h⟩)
    · rcases h with h | h | ⟨i, h, _⟩
      · exact .inl (.inl h)
      · exact .inr h
      · exact .inl (.inr ⟨i, h⟩)
    · unfold parkF at h
      split at h
      · exact .inl (.inr ⟨i, h⟩)
      · cases h
  · rintro (h | h)
    · rcases h with h | ⟨i, h⟩
      · exact .inl (.inl h)
      · by_cases z : IsOn ρ i
        · exact .inr ⟨i, by unfold parkF; rw [if_pos z]; exact h⟩
        · exact .inl (.inr (.inr ⟨i, h, z⟩))
    · exact .inl (.inr (.inl h))
theorem Rl.park (R : Rl P w S B0 ρ σ fp s H) (k : Keep S H H') (o : SrcOk S s' H') (hD : H Dd = none) (hD' : H' Dd ≠ none) (vs : List Nat) :
    Rl P w S (parkB B0 (wipeE ρ vs) fp Dd) (wipeE ρ vs) (L2.wipe σ vs) (parkF (wipeE ρ vs) fp) s' H' := by
  have R' := (R.keep k o).wipe vs
  have pf : ∀ i a, a ∈ parkF (wipeE ρ vs) fp i → a ∈ fp i ∧ IsOn (wipeE ρ vs) i := fun i a h => by
    unfold parkF at h
    split at h
    · exact ⟨h, by assumption⟩
    · cases h
  refine ⟨R'.len, fun i sv e => ?_, fun i a h => R'.own i a (pf i a h).1, fun i j a h1 h2 => R'.dis i j a (pf i a h1).1 (pf j a h2).1, fun i => ?_, fun i a h z => ?_, fun a h => ?_, fun a h => .inl (R.sB a h), o⟩
  · obtain ⟨e1, hi⟩ := wipeE_some e
    obtain ⟨v, h1, h2⟩ := R.slot i sv e1
    refine ⟨v, (wipe_get hi).trans h1, ?_⟩
    have ef : parkF (wipeE ρ vs) fp i = fp i := by unfold parkF; rw [if_pos ⟨sv, e⟩]
    rw [ef]
    refine h2.ext (fun a u n r => ?_) fun a ha => ?_
    · have hs : ¬ Sb S a := fun z => n (R.sBk a z)
      refine ⟨fun z => ?_, r.same fun ob e => k a ob hs e⟩
      rcases (park_iff a).mp z with z | z
      · exact n z
      · subst z; exact Rd.tracked r.rd hD
    · cases e : H a with
      | none => exact absurd e (R.own i a ha)
      | some ob => exact k a ob (R.notS ha) e
  · unfold parkF
    split
    · exact R'.nod i
    · exact .nil
  · obtain ⟨h1, h2⟩ := pf i a h
    rcases z with z | z | ⟨j, z1, z2⟩
    · exact R.base i a h1 z
    · subst z; exact R.own i a h1 hD
    · have := R.dis i j a h1 z1; subst this; exact z2 h2
  · rcases h with h | h | ⟨i, h, _⟩
    · exact R'.dom0 a h
    · subst h; exact hD'
    · exact R'.own i a h
end
theorem go_lc {P : Program} {w : World} {K : PySem.W.Frag} {fi : EI} {us vs : List Nat} {p : Pt} {fc : EB} {f : EE} {wi : TI} {tt : TT} {te : TE} (hu : ∀ i ∈ us, i ∈ vs) (hwi : ∀ σ H R, tJI P w K fi σ H R → wi σ H R) (ht : ∀ σ H Q, tT P w fc σ H Q → tt σ H Q) (he : ∀ σ H Q, tV P w f σ H Q → te σ H Q)
    {σ : L2.St} {H : Hp} {Q : VK} (h : tF P w (fLc fi vs p fc f) σ H Q) : tLc wi (tG P w K us p) tt te vs σ H Q := by
  obtain ⟨S, B0, ρ, fp, s, ds, s', R, e, q⟩ := h
  obtain ⟨⟨its, s1⟩, e1, e⟩ := bind_some' e
  have e : (if its.length ≤ LIM then loopC vs p fc f ρ its s1 else none) = some (ds, s') := e
  by_cases hl : its.length ≤ LIM
  · rw [if_pos hl] at e
    refine hwi _ _ _ ⟨S, B0, ρ, fp, s, its, s1, R, e1, fun J H1 G k1 o1 F hG Dd hD => ?_⟩
    have R1 := R.keep k1 o1
    have hDs : ¬ Sb S Dd := fun z => R1.dom Dd (R1.sBk Dd z) hD
    have hDH : H Dd = none := by
      cases z : H Dd with
      | none => rfl
      | some ob => rw [k1 Dd ob hDs z] at hD; cases hD
    have hGD : G (fun a => Blk B0 fp a ∨ a = Dd) H1 := F.more hG fun a z => z.elim .inl fun z => .inr (z ▸ hD)
    have sBD : ∀ a, Sb S a → Blk B0 fp a ∨ a = Dd := fun a z => .inl (R.sBk a z)
    refine ⟨fun i m H2 => m = its.length - i ∧ i ≤ its.length ∧ ∃ s2 acc vs2, Keep S H1 H2 ∧ SrcOk S s2 H2 ∧ H2 Dd = some (.lst vs2) ∧ Reps P w S (fun a => Blk B0 fp a ∨ a = Dd) H2 vs2 acc ∧ acc.length ≤ i ∧ ∃ rest, loopC vs p fc f ρ (its.drop i) s2 = some (rest, s') ∧ ds = acc ++ rest,
      ⟨its.length, by simp, Nat.zero_le _, s1, [], [], .ofSame (same_new hD), o1.same (same_new hD), upd_same, .nil, Nat.zero_le _, ds, e, rfl⟩, ?_⟩
    rintro i m H2 ⟨rfl, hi, s2, acc, vs2, k2, o2, e2, l2, hacc, rest, e, ed⟩
    have G2 := F.keep hGD sBD k2
    have R2 := R1.keep k2 o2
    have dom2 : ∀ a, (Blk B0 fp a ∨ a = Dd) → H2 a ≠ none := fun a z => z.elim (R2.dom a) fun z => by rw [z, e2]; simp
    by_cases hlt : i < its.length
    · refine .inr ⟨F.go G2 hlt, fun H3 => i + 1 ≤ its.length ∧ ∃ s3 acc vs3, Keep S H1 H3 ∧ SrcOk S s3 H3 ∧ H3 Dd = some (.lst vs3) ∧ Reps P w S (fun a => Blk B0 fp a ∨ a = Dd) H3 vs3 acc ∧ acc.length ≤ i + 1 ∧ ∃ rest, loopC vs p fc f ρ (its.drop (i + 1)) s3 = some (rest, s') ∧ ds = acc ++ rest,
        fun H3 h => ⟨its.length - (i + 1), by omega, rfl, h⟩, fun x H3 hy => ?_⟩
      rw [List.drop_eq_getElem_cons hlt] at e
      obtain ⟨ρ3, e3, e⟩ := bind_some' e
      obtain ⟨sm, ri⟩ := F.yld G2 dom2 hy (List.getElem?_eq_getElem hlt)
      have k3 : Keep S H1 H3 := k2.same sm
      have e3D : H3 Dd = some (.lst vs2) := sm _ _ e2
      have R3 := R1.park (Dd := Dd) k3 (o2.same sm) hD (by rw [e3D]; simp) vs
      have ri' : RepIt P w S (Blk (parkB B0 (wipeE ρ vs) fp Dd) (parkF (wipeE ρ vs) fp)) H3 K x its[i] := by
        generalize its[i] = it at ri
        cases ri with
        | v r => exact .v (r.ext (.less fun a z => (park_iff a).mp z))
        | pr h l => exact .pr h (l.ext (.less fun a z => (park_iff a).mp z))
      refine ⟨S, _, wipeE ρ vs, _, s2, its[i], ρ3, R3, ri', e3, fun σ4 fp4 R4 fr4 b4 on4 of4 => ⟨by rw [wipe_only on4 hu, wipe_wipe], ?_⟩⟩
      have bk : ∀ a, (Blk B0 fp a ∨ a = Dd) → Blk (parkB B0 (wipeE ρ vs) fp Dd) fp4 a := fun a z => by
        rcases (park_iff (ρ := wipeE ρ vs) a).mpr z with z | ⟨j, z⟩
        · exact .inl z
        · by_cases hj : j ∈ us
          · exfalso
            unfold parkF at z
            split at z
            · rename_i on
              obtain ⟨sv, e⟩ := on
              exact (wipeE_some e).2 (hu j hj)
            · cases z
          · exact .inr ⟨j, by rw [of4 j hj]; exact z⟩
      obtain ⟨⟨b, s5⟩, e5, e⟩ := bind_some' e
      refine ht _ _ _ ⟨S, _, ρ3, fp4, s2, b, s5, R4, e5, fun H5 k5 o5 => ?_⟩
      have R5 := R4.keep k5 o5
      have l5 : Reps P w S (fun a => Blk B0 fp a ∨ a = Dd) H5 vs2 acc := (l2.ext (Same.ext sm)).ext (k5.ext sBD)
      have e5D : H5 Dd = some (.lst vs2) := k5 _ _ hDs e3D
      cases b with
      | false =>
        exact iteF ⟨hlt, s5, acc, vs2, k3.trans k5, o5, e5D, l5, by omega, rest, e, ed⟩
      | true =>
        obtain ⟨⟨y, s6⟩, e6, e⟩ := bind_some' e
        obtain ⟨⟨rest', s7⟩, e7, e⟩ := map_some' e
        cases e
        refine iteT (he _ _ _ ⟨S, _, ρ3, fp4, s5, y, s6, R5, e6, fun v H6 k6 o6 r6 => ⟨vs2, k6 _ _ hDs e5D, ?_, hlt, s6, acc ++ [y], vs2 ++ [v], fun a ob n z => ?_, ?_, upd_same, ?_, by rw [List.length_append]; simp; omega, rest', e7, by simp [ed]⟩⟩)
        · rw [l5.length]
          have := lim_line
          omega
        · have hne : a ≠ Dd := fun z' => by rw [z', hD] at z; cases z
          rw [upd_ne hne]
          exact k6 a ob n (k5 a ob n (k3 a ob n z))
        · intro pr ep
          obtain ⟨h1, h2, h3⟩ := o6 pr ep
          exact ⟨h1, by rw [upd_ne fun z => hDs ⟨pr, ep, .inl z.symm⟩]; exact h2, by rw [upd_ne fun z => hDs ⟨pr, ep, .inr z.symm⟩]; exact h3⟩
        · have x : Ext (fun a => Blk B0 fp a ∨ a = Dd) (fun a => Blk B0 fp a ∨ a = Dd) H6 (upd H6 Dd (.lst (vs2 ++ [v]))) := fun a u n r => ⟨n, r.same fun ob z => by rw [upd_ne fun z' => n (.inr z')]; exact z⟩
          exact ((l5.ext (k6.ext sBD)).append (.cons (r6.ext (.less bk)) .nil)).ext x
    · have ei : i = its.length := by omega
      subst ei
      rw [List.drop_length] at e
      cases e
      rw [List.append_nil] at ed
      subst ed
      exact .inl ⟨F.stop G2, q Dd H2 (k1.trans k2) o2 hDH ⟨vs2, e2, l2⟩⟩
  · rw [if_neg hl] at e; cases e
section
variable {X : Cx} {elt tg iter : Expr} {ifs : List Expr} {scope : Scope} {pos : Pos} {fi : EI} {us : List Nat} {p : Pt} {fc : EB} {f : EE}
/-- tests of a clause -/
theorem c_nil : PTs X [] (tT X.prog X.w bYes) := ⟨fun pins s σ H Q I q => pts_nil.run pins s σ H Q I (t_yes q)⟩
theorem c_one {c : Expr} (h : PT X c (tT X.prog X.w fc)) : PTs X [c] (tT X.prog X.w fc) := pts_one h
/-- [elt for tg in iter if ..] -/
theorem v_lc (own : List (Str × Nat)) (hc : X.calm = true) (hN : X.N.Nodup) (hi : PI X tg iter (tJI X.prog X.w X.K fi)) (ok : BlkOk X.N X.env.scope scope own)
    (hg : ∀ (s : Shared) (H : Hp) (C : Addr) (cl : List (Str × Addr)) (fp : List Addr), PG (X.blk s H scope (compEnvC scope cl C X.env) fp) tg (tG X.prog X.w X.K us p)) (ht : ∀ (s : Shared) (H : Hp) (C : Addr) (cl : List (Str × Addr)) (fp : List Addr), PTs (X.blk s H scope (compEnvC scope cl C X.env) fp) ifs (tT X.prog X.w fc))
    (he : ∀ (s : Shared) (H : Hp) (C : Addr) (cl : List (Str × Addr)) (fp : List Addr), PE (X.blk s H scope (compEnvC scope cl C X.env) fp) elt (tV X.prog X.w f)) (hu : ∀ i ∈ us, i ∈ own.map (·.2) := by decide) (hs : ∀ x, foldedSetIterable iter X.env x = pure x := by intro _; rfl) :
    PE X (.ListComp elt [⟨tg, iter, ifs, 0⟩] scope pos) (tF X.prog X.w (fLc fi (own.map (·.2)) p fc f)) := PE.imp (pe_lc hc hN hi ok hg ht he hs) fun σ H Q q => go_lc hu (fun _ _ _ h => h) (fun _ _ _ h => h) (fun _ _ _ h => h) q
/-- name = [..] on one line -/
theorem s_lc (own : List (Str × Nat)) {i : Nat} {y : Str} {py spos : Pos} (hc : X.calm = true) (hN : X.N.Nodup) (hy : X.N[i]? = some y) (hyl : X.env.scope.names.lookup y = some .local)
    (hsw : swapsWith (.ListComp elt [⟨tg, iter, ifs, 0⟩] scope pos) (some (.Name y py)) spos.line X.env = pure true) (hi : PI X tg iter (tJI X.prog X.w X.K fi)) (ok : BlkOk X.N X.env.scope scope own)
    (hg : ∀ (s : Shared) (H : Hp) (C : Addr) (cl : List (Str × Addr)) (fp : List Addr), PG (X.blk s H scope (compEnvC scope cl C X.env) fp) tg (tG X.prog X.w X.K us p)) (ht : ∀ (s : Shared) (H : Hp) (C : Addr) (cl : List (Str × Addr)) (fp : List Addr), PTs (X.blk s H scope (compEnvC scope cl C X.env) fp) ifs (tT X.prog X.w fc))
    (he : ∀ (s : Shared) (H : Hp) (C : Addr) (cl : List (Str × Addr)) (fp : List Addr), PE (X.blk s H scope (compEnvC scope cl C X.env) fp) elt (tV X.prog X.w f)) (hu : ∀ i ∈ us, i ∈ own.map (·.2) := by decide) (hs : ∀ x, foldedSetIterable iter X.env x = pure x := by intro _; rfl) :
    PS X (.Assign [.Name y py] (.ListComp elt [⟨tg, iter, ifs, 0⟩] scope pos) spos) (tS X.prog X.w (sSet i (oV (eF (fLc fi (own.map (·.2)) p fc f))))) := PS.imp (ps_setLc hc hN hy hyl hsw hi ok hg ht he hs) fun D σ H q => by
  have h2 := go_set q
  show tLc _ _ _ _ _ σ H _
  refine go_lc hu (fun _ _ _ h => h) (fun _ _ _ h => h) (fun _ _ _ h => h) ?_
  obtain ⟨S, B0, ρ, fp, s, sv, s', R, e, hun, q⟩ := h2
  obtain ⟨⟨d, s1⟩, e1, e⟩ := map_some' e
  obtain ⟨⟨ds, s2⟩, e2, e3⟩ := map_some' e1
  cases e3
  cases e
  exact ⟨S, B0, ρ, fp, s, ds, _, R, e2, fun p H' k o n ⟨vs, e4, l⟩ => q _ H' [] k o .nil (by simp) (.p (.lst (fun z => R.dom p (z.elim id fun z => by simp at z) n) e4 (l.ext (.less fun a z => .inl (z.elim id fun z => by simp at z)))))⟩
theorem s_lcO (own : List (Str × Nat)) {i : Nat} {y : Str} {py spos : Pos} (hc : X.calm = true) (hN : X.N.Nodup) (hy : X.N[i]? = some y) (hyl : X.env.scope.names.lookup y = some .local)
    (hsw : swapsWith (.ListComp elt [⟨tg, iter, ifs, 0⟩] scope pos) (some (.Name y py)) spos.line X.env = pure true) (hi : PI X tg iter (tJI X.prog X.w X.K fi)) (ok : BlkOk X.N X.env.scope scope own)
    (hg : ∀ (s : Shared) (H : Hp) (C : Addr) (cl : List (Str × Addr)) (fp : List Addr), PG (X.blk s H scope (compEnvC scope cl C X.env) fp) tg (tG X.prog X.w X.K us p)) (ht : ∀ (s : Shared) (H : Hp) (C : Addr) (cl : List (Str × Addr)) (fp : List Addr), PTs (X.blk s H scope (compEnvC scope cl C X.env) fp) ifs (tT X.prog X.w fc))
    (he : ∀ (s : Shared) (H : Hp) (C : Addr) (cl : List (Str × Addr)) (fp : List Addr), PE (X.blk s H scope (compEnvC scope cl C X.env) fp) elt (tV X.prog X.w f)) (hu : ∀ i ∈ us, i ∈ own.map (·.2) := by decide) (hs : ∀ x, foldedSetIterable iter X.env x = pure x := by intro _; rfl) :
    PS X (.Assign [.Name y py] (.ListComp elt [⟨tg, iter, ifs, 0⟩] scope pos) spos) (tS X.prog X.w (sSet i (oF (fLc fi (own.map (·.2)) p fc f)))) := PS.imp (ps_setLc hc hN hy hyl hsw hi ok hg ht he hs) fun D σ H q => by
  have h2 := go_set q
  show tLc _ _ _ _ _ σ H _
  refine go_lc hu (fun _ _ _ h => h) (fun _ _ _ h => h) (fun _ _ _ h => h) ?_
  obtain ⟨S, B0, ρ, fp, s, sv, s', R, e, hun, q⟩ := h2
  obtain ⟨⟨ds, s1⟩, e1, e⟩ := map_some' e
  cases e
  exact ⟨S, B0, ρ, fp, s, ds, _, R, e1, fun p H' k o n ⟨vs, e4, l⟩ => q _ H' [p] k o (by simp) (fun a ha => by simp at ha; subst ha; exact n) (.ol e4 (l.ext (.less fun a z => z.elim .inl fun z => .inr (by simpa using z))))⟩
end
end Pv

set_option Elab.async false
set_option linter.all false
set_option maxRecDepth 100000
set_option maxHeartbeats 1000000
namespace Pv
open PySem PySem.Spec L2
open PyProof.Rows hiding St

theorem PI.or {X : Cx} {tg e : Expr} {t t' : TI} (h : PI X tg e t) (h' : PI X tg e t') : PI X tg e (fun σ H R => t σ H R ∨ t' σ H R) := ⟨fun pins s σ H R I q => q.elim (h.run pins s σ H R I) (h'.run pins s σ H R I)⟩
/-- what a list or a tuple hands out -/
def seqD : D → Option (List D)
  | .lst l => some l
  | .tup l => some l
  | _ => none
def iSeq (f : EE) : EI := fun ρ s => (f ρ s).bind fun z => (seqD z.1).map fun l => (l.map .v, z.2)
theorem get_v {l : List D} {i : Nat} {it : Itm} (h : (l.map Itm.v)[i]? = some it) : ∃ d, l[i]? = some d ∧ it = .v d := by
  rw [List.getElem?_map] at h
  obtain ⟨d, h1, h2⟩ := map_some' h
  exact ⟨d, h1, h2.symm⟩
section
variable {P : Program} {w : World} {S : SA} {K : PySem.W.Frag}
theorem more_ext {B B' : Addr → Prop} {H : Hp} (h : ∀ a, B' a → B a ∨ H a = none) : Ext B B' H H := fun a u n r => ⟨fun z => (h a z).elim n fun z => Rd.tracked r.rd z, r⟩
theorem feed_l {a : Addr} {vs : List V} {ds : List D} : FeedS P w S K (Itl K a) (fun B H => ¬ B a ∧ At H a (.lst vs) ∧ Reps P w S B H vs ds) (ds.map .v) where
  go := fun ⟨_, h, l⟩ hi => by
    rw [List.length_map, ← l.length] at hi
    exact ⟨vs, vs[_], .inl (.inl h), List.getElem?_eq_getElem hi⟩
  stop := fun ⟨_, h, l⟩ => ⟨vs, .inl (.inl h), by rw [List.length_map, l.length]; exact Nat.le_refl _⟩
  yld := fun {B H i x H' it} ⟨_, h, l⟩ _ y e => by
    obtain ⟨rfl, y⟩ := y
    obtain ⟨d, e1, rfl⟩ := get_v e
    obtain ⟨v, e2, r⟩ := l.get e1
    rw [y vs (.inl (.inl h))] at e2; cases e2
    exact ⟨Same.refl _, .v r⟩
  keep := fun ⟨n, h, l⟩ sB k => ⟨(k.ext sB a _ n h).1, (k.ext sB a _ n h).2, l.ext (k.ext sB)⟩
  more := fun {B B' H} ⟨n, h, l⟩ m => ⟨(more_ext m a _ n h).1, h, l.ext (more_ext m)⟩
  ext := fun ⟨n, h, l⟩ x => ⟨(x a _ n h).1, (x a _ n h).2, l.ext x⟩
theorem feed_t {a : Addr} {vs : List V} {ds : List D} : FeedS P w S K (Itt K a) (fun B H => ¬ B a ∧ At H a (.tup vs) ∧ Reps P w S B H vs ds) (ds.map .v) where
  go := fun ⟨_, h, l⟩ hi => by
    rw [List.length_map, ← l.length] at hi
    exact ⟨vs, vs[_], .inl h.rd, List.getElem?_eq_getElem hi⟩
  stop := fun ⟨_, h, l⟩ => ⟨vs, .inl h.rd, by rw [List.length_map, l.length]; exact Nat.le_refl _⟩
  yld := fun {B H i x H' it} ⟨_, h, l⟩ _ y e => by
    obtain ⟨rfl, y⟩ := y
    obtain ⟨d, e1, rfl⟩ := get_v e
    obtain ⟨v, e2, r⟩ := l.get e1
    rw [y vs (.inl h.rd)] at e2; cases e2
    exact ⟨Same.refl _, .v r⟩
  keep := fun ⟨n, h, l⟩ sB k => ⟨(k.ext sB a _ n h).1, (k.ext sB a _ n h).2, l.ext (k.ext sB)⟩
  more := fun {B B' H} ⟨n, h, l⟩ m => ⟨(more_ext m a _ n h).1, h, l.ext (more_ext m)⟩
  ext := fun ⟨n, h, l⟩ x => ⟨(x a _ n h).1, (x a _ n h).2, l.ext x⟩
/-- a list that the def alone knows -/
theorem feed_o {a : Addr} {vs : List V} {ds : List D} : Feed P w S K (Itl K a) (fun B H => ¬ Sb S a ∧ H a = some (.lst vs) ∧ Reps P w S B H vs ds) (ds.map .v) where
  go := fun ⟨_, h, l⟩ hi => by
    rw [List.length_map, ← l.length] at hi
    exact ⟨vs, vs[_], .inl (.inl h), List.getElem?_eq_getElem hi⟩
  stop := fun ⟨_, h, l⟩ => ⟨vs, .inl (.inl h), by rw [List.length_map, l.length]; exact Nat.le_refl _⟩
  yld := fun {B H i x H' it} ⟨_, h, l⟩ _ y e => by
    obtain ⟨rfl, y⟩ := y
    obtain ⟨d, e1, rfl⟩ := get_v e
    obtain ⟨v, e2, r⟩ := l.get e1
    rw [y vs (.inl (.inl h))] at e2; cases e2
    exact ⟨Same.refl _, .v r⟩
  keep := fun ⟨n, h, l⟩ sB k => ⟨n, k _ _ n h, l.ext (k.ext sB)⟩
  more := fun {B B' H} ⟨n, h, l⟩ m => ⟨n, h, l.ext (more_ext m)⟩
theorem RepI.lst_cases {B : Addr → Prop} {H : Hp} {v : V} {ds : List D} (h : RepI P w S B H v (.lst ds)) : ∃ a vs, v = .ref a ∧ H a = some (.lst vs) ∧ Reps P w S B H vs ds ∧ (¬ Sb S a ∨ ¬ B a) := by
  cases h with
  | r h => cases h with | lst n r l => exact ⟨_, _, rfl, r, l, .inr n⟩
  | l n e l => exact ⟨_, _, rfl, e, l, .inl n⟩
/-- n numbers from lo on by c -/
def rngD (lo c : Int) (n : Nat) : List Itm := (List.range n).map fun i => .v (.int (lo + (i : Nat) * c))
theorem rngD_length {lo c : Int} {n : Nat} : (rngD lo c n).length = n := by unfold rngD; simp
theorem rngD_get {lo c : Int} {n i : Nat} {it : Itm} (h : (rngD lo c n)[i]? = some it) : it = .v (.int (lo + (i : Nat) * c)) := by
  unfold rngD at h
  rw [List.getElem?_map] at h
  obtain ⟨k, h1, h2⟩ := map_some' h
  rw [List.getElem?_eq_some_iff] at h1
  obtain ⟨h3, h4⟩ := h1
  rw [List.getElem_range] at h4
  subst h4; exact h2.symm
theorem feed_r {lo : Int} {n : Nat} : FeedS P w S K (Itr lo n) (fun _ _ => True) (rngD lo 1 n) where
  go := fun _ hi => by rw [rngD_length] at hi; exact hi
  stop := fun _ => by rw [rngD_length]; exact Nat.le_refl _
  yld := fun _ _ y e => by
    obtain ⟨rfl, rfl⟩ := y
    rw [rngD_get e, Int.mul_one]
    exact ⟨Same.refl _, .v (.int _)⟩
  keep := fun _ _ _ => trivial
  more := fun _ _ => trivial
  ext := fun _ _ => trivial
theorem feed_rc {lo c : Int} {n : Nat} : FeedS P w S K (Itc lo c n) (fun _ _ => True) (rngD lo c n) where
  go := fun _ hi => by rw [rngD_length] at hi; exact hi
  stop := fun _ => by rw [rngD_length]; exact Nat.le_refl _
  yld := fun _ _ y e => by
    obtain ⟨rfl, rfl⟩ := y
    rw [rngD_get e]
    exact ⟨Same.refl _, .v (.int _)⟩
  keep := fun _ _ _ => trivial
  more := fun _ _ => trivial
  ext := fun _ _ => trivial
end
section
variable {X : Cx} {tg e : Expr} {f : EE}
/-- over a list, a tuple that is plain -/
theorem i_seq (h : PE X e (tV X.prog X.w f)) : PI X tg e (tJ X.prog X.w X.K (iSeq f)) := PI.imp (PI.or (pi_list h) (pi_tup h)) fun σ H R ⟨S, B0, ρ, fp, s, its, s', Rl, e, q⟩ => by
  obtain ⟨⟨d, s1⟩, e1, e⟩ := bind_some' e
  obtain ⟨l, e2, e⟩ := map_some' e
  cases e
  cases d <;> cases e2
  · refine .inr ⟨S, B0, ρ, fp, s, _, s1, Rl, e1, fun v H1 k o r => ?_⟩
    cases r with
    | tup n h l => exact ⟨_, rfl, ⟨_, .inl h.rd⟩, q _ H1 _ k o feed_t ⟨n, h, l⟩⟩
  · refine .inl ⟨S, B0, ρ, fp, s, _, s1, Rl, e1, fun v H1 k o r => ?_⟩
    cases r with
    | lst n h l => exact ⟨_, rfl, ⟨_, .inl (.inl h)⟩, q _ H1 _ k o feed_l ⟨n, h, l⟩⟩
/-- over what is only read -/
theorem i_bor (h : PE X e (tI X.prog X.w f)) : PI X tg e (tJI X.prog X.w X.K (iSeq f)) := PI.imp (PI.or (pi_list h) (pi_tup h)) fun σ H R ⟨S, B0, ρ, fp, s, its, s', Rl, e, q⟩ => by
  obtain ⟨⟨d, s1⟩, e1, e⟩ := bind_some' e
  obtain ⟨l, e2, e⟩ := map_some' e
  cases e
  cases d <;> cases e2
  · refine .inr ⟨S, B0, ρ, fp, s, _, s1, Rl, e1, fun v H1 k o r => ?_⟩
    cases r with
    | r r => cases r with | tup n h l => exact ⟨_, rfl, ⟨_, .inl h.rd⟩, q _ H1 _ k o feed_t.toFeed ⟨n, h, l⟩⟩
  · refine .inl ⟨S, B0, ρ, fp, s, _, s1, Rl, e1, fun v H1 k o r => ?_⟩
    obtain ⟨a, vs, rfl, h, l, n⟩ := r.lst_cases
    refine ⟨_, rfl, ⟨_, .inl (.inl h)⟩, ?_⟩
    rcases n with n | n
    · exact q _ H1 _ k o feed_o ⟨n, h, l⟩
    · exact q _ H1 _ k o feed_l.toFeed ⟨n, h, l⟩
/-- range: the numbers are small -/
def smI (i : Int) : Bool := decide (i.natAbs ≤ LIM)
theorem smI_le {i : Int} (h : smI i = true) : i.natAbs ≤ 1000000 := by unfold smI at h; exact of_decide_eq_true h
def r1 (z : List D) : Option (List Itm) := match z with
  | [.int j] => if smI j = true then some (rngD 0 1 j.toNat) else none
  | _ => none
def r2 (z : List D) : Option (List Itm) := match z with
  | [.int i, .int j] => if smI i = true ∧ smI j = true then some (rngD i 1 (j - i).toNat) else none
  | _ => none
/-- range(i, j, -1) -/
def r3 (z : List D) : Option (List Itm) := match z with
  | [.int i, .int j, .int c] => if smI i = true ∧ smI j = true ∧ c = -1 then some (rngD i c (i - j).toNat) else none
  | _ => none
def iRng (g : List D → Option (List Itm)) (f : EA) : EI := fun ρ s => (f ρ s).bind fun z => (g z.1).map fun l => (l, z.2)
variable {a b c : Expr} {p pos : Pos} {fa : EA}
theorem i_rng1 (hg : Gl X "range") (hm : X.mg "range" = none) (ha : PA X [a] (tA X.prog X.w fa)) (hs : starEach [a] X.env = [(false, eval a X.env)] := by rfl) : PI X tg (.Call (.Name "range" p) [a] [] pos) (tJ X.prog X.w X.K (iRng r1 fa)) :=
  PI.imp (pi_range1 hg hm ha hs) fun σ H R ⟨S, B0, ρ, fp, s, its, s', Rl, e, q⟩ => by
    obtain ⟨⟨d, s1⟩, e1, e⟩ := bind_some' e
    obtain ⟨l, e2, e⟩ := map_some' e
    cases e
    unfold r1 at e2
    split at e2
    · rename_i j h
      split at e2
      · rename_i hj
        cases e2
        have := smI_le hj
        refine ⟨S, B0, ρ, fp, s, _, s1, Rl, e1, fun vs H1 k o l => ?_⟩
        dsimp only at h; subst h
        exact ⟨j, Reps.ints_of (ns := [j]) l, by omega, by omega, q _ H1 _ k o feed_r trivial⟩
      · cases e2
    · cases e2
theorem i_rng2 (hg : Gl X "range") (hm : X.mg "range" = none) (ha : PA X [a, b] (tA X.prog X.w fa)) (hs : starEach [a, b] X.env = [(false, eval a X.env), (false, eval b X.env)] := by rfl) (hs2 : starEach [b] X.env = [(false, eval b X.env)] := by rfl) : PI X tg (.Call (.Name "range" p) [a, b] [] pos) (tJ X.prog X.w X.K (iRng r2 fa)) :=
  PI.imp (pi_range2 hg hm ha hs hs2) fun σ H R ⟨S, B0, ρ, fp, s, its, s', Rl, e, q⟩ => by
    obtain ⟨⟨d, s1⟩, e1, e⟩ := bind_some' e
    obtain ⟨l, e2, e⟩ := map_some' e
    cases e
    unfold r2 at e2
    split at e2
    · rename_i i j h
      split at e2
      · rename_i hj
        cases e2
        have := smI_le hj.1
        have := smI_le hj.2
        refine ⟨S, B0, ρ, fp, s, _, s1, Rl, e1, fun vs H1 k o l => ?_⟩
        dsimp only at h; subst h
        exact ⟨i, j, Reps.ints_of (ns := [i, j]) l, ⟨by omega, by omega, by omega, by omega⟩, q _ H1 _ k o feed_r trivial⟩
      · cases e2
    · cases e2
theorem i_rng3 (hg : Gl X "range") (hm : X.mg "range" = none) (ha : PA X [a, b, c] (tA X.prog X.w fa)) (hs : starEach [a, b, c] X.env = (false, eval a X.env) :: starEach [b, c] X.env := by rfl) (hpl : (backTo pos (starEach [b, c] X.env)).any (·.1) = false := by rfl) : PI X tg (.Call (.Name "range" p) [a, b, c] [] pos) (tJ X.prog X.w X.K (iRng r3 fa)) :=
  PI.imp (pi_range3 hg hm ha hs hpl) fun σ H R ⟨S, B0, ρ, fp, s, its, s', Rl, e, q⟩ => by
    obtain ⟨⟨d, s1⟩, e1, e⟩ := bind_some' e
    obtain ⟨l, e2, e⟩ := map_some' e
    cases e
    unfold r3 at e2
    split at e2
    · rename_i i j c h
      split at e2
      · rename_i hj
        cases e2
        have := smI_le hj.1
        have := smI_le hj.2.1
        obtain rfl := hj.2.2
        refine ⟨S, B0, ρ, fp, s, _, s1, Rl, e1, fun vs H1 k o l => ?_⟩
        dsimp only at h; subst h
        exact ⟨i, j, -1, _, Reps.ints_of (ns := [i, j, -1]) l, .neg (by omega) (by omega) (by omega) (by omega), q _ H1 _ k o feed_rc trivial⟩
      · cases e2
    · cases e2

/-! ### enumerate, zip, reversed -/
def enD : List D → Nat → List Itm
  | [], _ => []
  | d :: r, i => .pr [.int (i : Nat), d] :: enD r (i + 1)
theorem enD_length : ∀ (l : List D) (i : Nat), (enD l i).length = l.length
  | [], _ => rfl
  | _ :: r, i => congrArg Nat.succ (enD_length r (i + 1))
theorem enD_get {it : Itm} : ∀ {l : List D} {j i : Nat}, (enD l j)[i]? = some it → ∃ d, l[i]? = some d ∧ it = .pr [.int (j + i : Nat), d]
  | [], j, i, h => by simp [enD] at h
  | d :: r, j, 0, h => by simp [enD] at h; exact ⟨d, rfl, h.symm⟩
  | d :: r, j, i + 1, h => by
    obtain ⟨e, h1, h2⟩ := enD_get (l := r) (j := j + 1) (i := i) (by simpa [enD] using h)
    exact ⟨e, by simpa using h1, by rw [h2]; congr 3; omega⟩
def zpD : List D → List D → List Itm
  | a :: r, b :: t => .pr [a, b] :: zpD r t
  | _, _ => []
theorem zpD_length : ∀ (l m : List D), (zpD l m).length = min l.length m.length
  | [], m => by simp [zpD]
  | _ :: _, [] => by simp [zpD]
  | a :: r, b :: t => by simp [zpD, zpD_length r t]
theorem zpD_get {it : Itm} : ∀ {l m : List D} {i : Nat}, (zpD l m)[i]? = some it → ∃ a b, l[i]? = some a ∧ m[i]? = some b ∧ it = .pr [a, b]
  | [], m, i, h => by simp [zpD] at h
  | _ :: _, [], i, h => by simp [zpD] at h
  | a :: r, b :: t, 0, h => by simp [zpD] at h; exact ⟨a, b, rfl, rfl, h.symm⟩
  | a :: r, b :: t, i + 1, h => by
    obtain ⟨x, y, h1, h2, h3⟩ := zpD_get (l := r) (m := t) (i := i) (by simpa [zpD] using h)
    exact ⟨x, y, by simpa using h1, by simpa using h2, h3⟩
end
section
variable {P : Program} {w : World} {S : SA} {K : PySem.W.Frag}
theorem feed_en {a : Addr} {vs : List V} {ds : List D} : FeedS P w S K (Ite K a) (fun B H => ¬ B a ∧ At H a (.lst vs) ∧ Reps P w S B H vs ds) (enD ds 0) where
  go := fun ⟨_, h, l⟩ hi => by
    rw [enD_length, ← l.length] at hi
    exact ⟨vs, vs[_], .inl (.inl h), List.getElem?_eq_getElem hi⟩
  stop := fun ⟨_, h, l⟩ => ⟨vs, .inl (.inl h), by rw [enD_length, l.length]; exact Nat.le_refl _⟩
  yld := fun {B H i x H' it} ⟨_, h, l⟩ _ y e => by
    obtain ⟨T, z, rfl, hT, rfl, y⟩ := y
    obtain ⟨d, e1, rfl⟩ := enD_get e
    obtain ⟨v, e2, r⟩ := l.get e1
    rw [y vs (.inl (.inl h))] at e2; cases e2
    have x := Same.ext (B := B) (same_new (o := .tup [.int (i : Nat), z]) hT)
    refine ⟨same_new hT, .pr (.inl (.inl upd_same)) (.cons ?_ (.cons (r.ext x) .nil))⟩
    rw [Nat.zero_add]; exact .int _
  keep := fun ⟨n, h, l⟩ sB k => ⟨(k.ext sB a _ n h).1, (k.ext sB a _ n h).2, l.ext (k.ext sB)⟩
  more := fun {B B' H} ⟨n, h, l⟩ m => ⟨(more_ext m a _ n h).1, h, l.ext (more_ext m)⟩
  ext := fun ⟨n, h, l⟩ x => ⟨(x a _ n h).1, (x a _ n h).2, l.ext x⟩
theorem feed_eno {a : Addr} {vs : List V} {ds : List D} : Feed P w S K (Ite K a) (fun B H => ¬ Sb S a ∧ H a = some (.lst vs) ∧ Reps P w S B H vs ds) (enD ds 0) where
  go := fun ⟨_, h, l⟩ hi => by
    rw [enD_length, ← l.length] at hi
    exact ⟨vs, vs[_], .inl (.inl h), List.getElem?_eq_getElem hi⟩
  stop := fun ⟨_, h, l⟩ => ⟨vs, .inl (.inl h), by rw [enD_length, l.length]; exact Nat.le_refl _⟩
  yld := fun {B H i x H' it} ⟨_, h, l⟩ _ y e => by
    obtain ⟨T, z, rfl, hT, rfl, y⟩ := y
    obtain ⟨d, e1, rfl⟩ := enD_get e
    obtain ⟨v, e2, r⟩ := l.get e1
    rw [y vs (.inl (.inl h))] at e2; cases e2
    have x := Same.ext (B := B) (same_new (o := .tup [.int (i : Nat), z]) hT)
    refine ⟨same_new hT, .pr (.inl (.inl upd_same)) (.cons ?_ (.cons (r.ext x) .nil))⟩
    rw [Nat.zero_add]; exact .int _
  keep := fun ⟨n, h, l⟩ sB k => ⟨n, k _ _ n h, l.ext (k.ext sB)⟩
  more := fun {B B' H} ⟨n, h, l⟩ m => ⟨n, h, l.ext (more_ext m)⟩
theorem feed_zl {a b : Addr} {vs us : List V} {ds es : List D} : FeedS P w S K (Itz K a b) (fun B H => (¬ B a ∧ At H a (.lst vs) ∧ Reps P w S B H vs ds) ∧ ¬ B b ∧ At H b (.lst us) ∧ Reps P w S B H us es) (zpD ds es) where
  go := fun ⟨⟨_, h, l⟩, _, h', l'⟩ hi => by
    rw [zpD_length, ← l.length, ← l'.length] at hi
    exact ⟨vs, us, vs[_], us[_], .inl (.inl h), .inl (.inl h'), List.getElem?_eq_getElem (by omega), List.getElem?_eq_getElem (by omega)⟩
  stop := fun ⟨⟨_, h, l⟩, _, h', l'⟩ => ⟨vs, us, .inl (.inl h), .inl (.inl h'), by rw [zpD_length, l.length, l'.length]; omega⟩
  yld := fun {B H i x H' it} ⟨⟨_, h, l⟩, _, h', l'⟩ _ y e => by
    obtain ⟨T, z, t, rfl, hT, rfl, y, y'⟩ := y
    obtain ⟨d, d', e1, e1', rfl⟩ := zpD_get e
    obtain ⟨v, e2, r⟩ := l.get e1
    obtain ⟨v', e2', r'⟩ := l'.get e1'
    rw [y vs (.inl (.inl h))] at e2; cases e2
    rw [y' us (.inl (.inl h'))] at e2'; cases e2'
    have x := Same.ext (B := B) (same_new (o := .tup [z, t]) hT)
    exact ⟨same_new hT, .pr (.inl (.inl upd_same)) (.cons (r.ext x) (.cons (r'.ext x) .nil))⟩
  keep := fun ⟨⟨n, h, l⟩, n', h', l'⟩ sB k => ⟨⟨(k.ext sB _ _ n h).1, (k.ext sB _ _ n h).2, l.ext (k.ext sB)⟩, (k.ext sB _ _ n' h').1, (k.ext sB _ _ n' h').2, l'.ext (k.ext sB)⟩
  more := fun {B B' H} ⟨⟨n, h, l⟩, n', h', l'⟩ m => ⟨⟨(more_ext m _ _ n h).1, h, l.ext (more_ext m)⟩, (more_ext m _ _ n' h').1, h', l'.ext (more_ext m)⟩
  ext := fun ⟨⟨n, h, l⟩, n', h', l'⟩ x => ⟨⟨(x _ _ n h).1, (x _ _ n h).2, l.ext x⟩, (x _ _ n' h').1, (x _ _ n' h').2, l'.ext x⟩
theorem feed_zt {a b : Addr} {vs us : List V} {ds es : List D} : FeedS P w S K (RZ.ItzT K a b) (fun B H => (¬ B a ∧ At H a (.tup vs) ∧ Reps P w S B H vs ds) ∧ ¬ B b ∧ At H b (.tup us) ∧ Reps P w S B H us es) (zpD ds es) where
  go := fun ⟨⟨_, h, l⟩, _, h', l'⟩ hi => by
    rw [zpD_length, ← l.length, ← l'.length] at hi
    exact ⟨vs, us, vs[_], us[_], .inl h.rd, .inl h'.rd, List.getElem?_eq_getElem (by omega), List.getElem?_eq_getElem (by omega)⟩
  stop := fun ⟨⟨_, h, l⟩, _, h', l'⟩ => ⟨vs, us, .inl h.rd, .inl h'.rd, by rw [zpD_length, l.length, l'.length]; omega⟩
  yld := fun {B H i x H' it} ⟨⟨_, h, l⟩, _, h', l'⟩ _ y e => by
    obtain ⟨T, z, t, rfl, hT, rfl, y, y'⟩ := y
    obtain ⟨d, d', e1, e1', rfl⟩ := zpD_get e
    obtain ⟨v, e2, r⟩ := l.get e1
    obtain ⟨v', e2', r'⟩ := l'.get e1'
    rw [y vs (.inl h.rd)] at e2; cases e2
    rw [y' us (.inl h'.rd)] at e2'; cases e2'
    have x := Same.ext (B := B) (same_new (o := .tup [z, t]) hT)
    exact ⟨same_new hT, .pr (.inl (.inl upd_same)) (.cons (r.ext x) (.cons (r'.ext x) .nil))⟩
  keep := fun ⟨⟨n, h, l⟩, n', h', l'⟩ sB k => ⟨⟨(k.ext sB _ _ n h).1, (k.ext sB _ _ n h).2, l.ext (k.ext sB)⟩, (k.ext sB _ _ n' h').1, (k.ext sB _ _ n' h').2, l'.ext (k.ext sB)⟩
  more := fun {B B' H} ⟨⟨n, h, l⟩, n', h', l'⟩ m => ⟨⟨(more_ext m _ _ n h).1, h, l.ext (more_ext m)⟩, (more_ext m _ _ n' h').1, h', l'.ext (more_ext m)⟩
  ext := fun ⟨⟨n, h, l⟩, n', h', l'⟩ x => ⟨⟨(x _ _ n h).1, (x _ _ n h).2, l.ext x⟩, (x _ _ n' h').1, (x _ _ n' h').2, l'.ext x⟩
/-- from the end -/
theorem feed_rv {a : Addr} {vs : List V} {ds : List D} : FeedS P w S K (Itv K a vs.length) (fun B H => ¬ B a ∧ At H a (.lst vs) ∧ Reps P w S B H vs ds) (ds.reverse.map .v) where
  go := fun ⟨_, h, l⟩ hi => by
    rw [List.length_map, List.length_reverse, ← l.length] at hi
    exact ⟨hi, vs, vs[vs.length - 1 - _]'(by omega), .inl (.inl h), List.getElem?_eq_getElem (by omega)⟩
  stop := fun ⟨_, h, l⟩ => by
    rw [List.length_map, List.length_reverse, ← l.length]; exact Nat.le_refl _
  yld := fun {B H i x H' it} ⟨_, h, l⟩ _ y e => by
    obtain ⟨rfl, y⟩ := y
    obtain ⟨d, e1, rfl⟩ := get_v e
    have hi : i < ds.length := by
      have := (List.getElem?_eq_some_iff.mp e1).1
      rw [List.length_reverse] at this; exact this
    rw [List.getElem?_reverse hi] at e1
    obtain ⟨v, e2, r⟩ := l.get e1
    rw [← l.length, y vs (.inl (.inl h))] at e2; cases e2
    exact ⟨Same.refl _, .v r⟩
  keep := fun ⟨n, h, l⟩ sB k => ⟨(k.ext sB a _ n h).1, (k.ext sB a _ n h).2, l.ext (k.ext sB)⟩
  more := fun {B B' H} ⟨n, h, l⟩ m => ⟨(more_ext m a _ n h).1, h, l.ext (more_ext m)⟩
  ext := fun ⟨n, h, l⟩ x => ⟨(x a _ n h).1, (x a _ n h).2, l.ext x⟩
end
def gEnL (z : List D) : Option (List Itm) := match z with
  | [.lst l] => some (enD l 0)
  | _ => none
def gZip (z : List D) : Option (List Itm) := match z with
  | [.lst l, .lst m] => some (zpD l m)
  | [.tup l, .tup m] => some (zpD l m)
  | _ => none
def gRevL (z : List D) : Option (List Itm) := match z with
  | [.lst l] => some (l.reverse.map .v)
  | _ => none
theorem Reps.two {P : Program} {w : World} {S : SA} {B : Addr → Prop} {H : Hp} {vs : List V} {d e : D} (l : Reps P w S B H vs [d, e]) : ∃ x y, vs = [x, y] ∧ Rep P w S B H x d ∧ Rep P w S B H y e := by
  cases l with | cons a l => cases l with | cons b l => cases l; exact ⟨_, _, rfl, a, b⟩
theorem Reps.one {P : Program} {w : World} {S : SA} {B : Addr → Prop} {H : Hp} {vs : List V} {d : D} (l : Reps P w S B H vs [d]) : ∃ x, vs = [x] ∧ Rep P w S B H x d := by
  cases l with | cons a l => cases l; exact ⟨_, rfl, a⟩
section
variable {X : Cx} {tg a b : Expr} {fa : EA} {p pos tpos : Pos} {elts : List Expr} {kk : Nat}
theorem i_enum (hg : Gl X "enumerate") (hm : X.mg "enumerate" = none) (ha : PA X [a] (tA X.prog X.w fa)) (hs : starEach [a] X.env = [(false, eval a X.env)] := by rfl) : PI X (.Tuple elts kk tpos) (.Call (.Name "enumerate" p) [a] [] pos) (tJ X.prog X.w X.K (iRng gEnL fa)) :=
  PI.imp (pi_enum hg hm ha hs) fun σ H R ⟨S, B0, ρ, fp, s, its, s', Rl, e, q⟩ => by
    obtain ⟨⟨d, s1⟩, e1, e⟩ := bind_some' e
    obtain ⟨l, e2, e⟩ := map_some' e
    cases e
    unfold gEnL at e2
    split at e2 <;> cases e2
    rename_i l h _
    refine ⟨S, B0, ρ, fp, s, _, s1, Rl, e1, fun vs H1 k o l => ?_⟩
    dsimp only at h; subst h
    obtain ⟨x, rfl, r⟩ := l.one
    cases r with | lst n h l => exact ⟨_, _, rfl, .inl (.inl h), q _ H1 _ k o feed_en ⟨n, h, l⟩⟩
theorem i_zip (hg : Gl X "zip") (hm : X.mg "zip" = none) (ha : PA X [a, b] (tA X.prog X.w fa))
    (hs : starEach [a, b] X.env = (false, eval a X.env) :: starEach [b] X.env := by rfl) (hpl : (backTo pos (starEach [b] X.env)).any (·.1) = false := by rfl) : PI X (.Tuple elts kk tpos) (.Call (.Name "zip" p) [a, b] [] pos) (tJ X.prog X.w X.K (iRng gZip fa)) :=
  PI.imp (RZ.pi_zipA hg hm ha hs hpl) fun σ H R ⟨S, B0, ρ, fp, s, its, s', Rl, e, q⟩ => by
    obtain ⟨⟨d, s1⟩, e1, e⟩ := bind_some' e
    obtain ⟨l, e2, e⟩ := map_some' e
    cases e
    unfold gZip at e2
    split at e2 <;> cases e2
    · rename_i l m h _
      refine ⟨S, B0, ρ, fp, s, _, s1, Rl, e1, fun vs H1 k o l => ?_⟩
      dsimp only at h; subst h
      obtain ⟨x, y, rfl, r, r'⟩ := l.two
      cases r with | lst n h l9 => cases r' with | lst n' h' l' => exact ⟨_, _, _, _, rfl, .inl ⟨.inl (.inl h), .inl (.inl h'), q _ H1 _ k o feed_zl ⟨⟨n, h, l9⟩, n', h', l'⟩⟩⟩
    · rename_i l m h _
      refine ⟨S, B0, ρ, fp, s, _, s1, Rl, e1, fun vs H1 k o l => ?_⟩
      dsimp only at h; subst h
      obtain ⟨x, y, rfl, r, r'⟩ := l.two
      cases r with | tup n h l9 => cases r' with | tup n' h' l' => exact ⟨_, _, _, _, rfl, .inr ⟨.inl h.rd, .inl h'.rd, q _ H1 _ k o feed_zt ⟨⟨n, h, l9⟩, n', h', l'⟩⟩⟩
theorem i_rev (hg : Gl X "reversed") (hm : X.mg "reversed" = none) (ha : PA X [a] (tA X.prog X.w fa)) (hs : starEach [a] X.env = [(false, eval a X.env)] := by rfl) : PI X tg (.Call (.Name "reversed" p) [a] [] pos) (tJ X.prog X.w X.K (iRng gRevL fa)) :=
  PI.imp (pi_reversed hg hm ha hs) fun σ H R ⟨S, B0, ρ, fp, s, its, s', Rl, e, q⟩ => by
    obtain ⟨⟨d, s1⟩, e1, e⟩ := bind_some' e
    obtain ⟨l, e2, e⟩ := map_some' e
    cases e
    unfold gRevL at e2
    split at e2 <;> cases e2
    rename_i l h _
    refine ⟨S, B0, ρ, fp, s, _, s1, Rl, e1, fun vs H1 k o l => ?_⟩
    dsimp only at h; subst h
    obtain ⟨x, rfl, r⟩ := l.one
    cases r with | lst n h l => exact ⟨_, _, rfl, .inl (.inl h), q _ H1 _ k o feed_rv ⟨n, h, l⟩⟩
end
end Pv

set_option Elab.async false
set_option linter.all false
set_option maxRecDepth 100000
set_option maxHeartbeats 1000000
namespace Pv
open PySem PySem.Spec L2
open PyProof.Rows hiding St

/-! ### enumerate(tuple) -/
theorem draws_tup {prog : Program} {w : World} {A : Around} (hh : A.handled = none) (it l : Addr) (hne : l ≠ it) (us : Array Value) :
    Draws prog w A it [it, l] us.size (fun i v => us[i]? = some v) (fun i h => h.IsTupleIter it l i ∧ h.IsTuple l us) := by
  constructor
  · rintro i h ⟨⟨o, ho, _⟩, _⟩; exact ⟨o, ho⟩
  · rintro i h h' ⟨h1, h2⟩ hk; exact ⟨h1.at fun o e => hk it (by simp) o e, h2.at fun o e => hk l (by simp) o e⟩
  · rintro i s Q E hi ⟨h1, h2⟩ hQ
    have hx : us[i]? = some us[i] := by simp [hi]
    exact RZ.nextOf_tuple_item h1 h2 hx fun h' g1 g2 => hQ _ h' s.toks hx ⟨g1, h2.extBut g2.extBut hne⟩ g2
  · rintro s Q E ⟨h1, h2⟩ hE
    exact RZ.nextOf_tuple_end hh h1 h2 (by simp) hE
/-- enumerate of anything that begins -/
theorem meets_en1 {v : Value} {o : Obj} {Z : Heap → Prop} (B : Begins v o Z) :
    Meets (Builtin.«enumerate.__new__» ⟨[.type "enumerate", v], []⟩) (fun _ R s => Z s.heap ∧
      R (.ok (.ret (.ref (s.heap.push o).objs.size))) { s with heap := (s.heap.push o).push { cls := .type "enumerate", data := .fields #[.none, .bool false, .ref s.heap.objs.size, rawInt 0, .none, .none] } }) := by
  refine .of_wp fun prog w A R s h => ?_
  obtain ⟨hp, g, d, tk, os⟩ := s
  obtain ⟨hz, h⟩ := h
  have hsub := sub_enumerate
  have q1 : ∀ {A' : Around} {E : Value → Shared → Prop} {Q : Value → Shared → Prop}, Q (.ref hp.objs.size) ⟨hp.push o, g, d, tk, os⟩ → wpAny (model prog w) A' (pyIter v) Q E ⟨hp, g, d, tk, os⟩ := by
    intro A' E Q q
    exact B.iter prog w _ _ ⟨hp, g, d, tk, os⟩ _ hz q
  wp_walk using q1
  refine wpAny_stack_any fun st => wpAny_pure ?_
  split
  · rename_i c _ _ _ _ _
    cases (c == Value.type "enumerate") <;> (wp_walk using q1; exact ⟨_, rfl, h⟩)
  · wp_walk using q1
    exact ⟨_, rfl, h⟩
theorem call_en1 {prog : Program} {w : World} {A : Around} {E : Value → Shared → Prop} {s : Shared} {v : Value} {o : Obj} {Z : Heap → Prop} {Q : Value → Shared → Prop} (B : Begins v o Z) (h1 : Z s.heap)
    (h : ∀ h', IsEnum h' (s.heap.objs.size + 1) s.heap.objs.size 0 .none → h'.get? s.heap.objs.size = some o → h'.objs.size = s.heap.objs.size + 2 →
      (∀ b ob, s.heap.get? b = some ob → h'.get? b = some ob) → Q (.ref (s.heap.objs.size + 1)) { s with heap := h' }) : wpAny (model prog w) A (call (.type "enumerate") [v]) Q E s := by
  have hz : (s.heap.push o).objs.size = s.heap.objs.size + 1 := Heap.size_push ..
  have e0 : ((s.heap.push o).push { cls := .type "enumerate", data := .fields #[.none, .bool false, .ref s.heap.objs.size, rawInt 0, .none, .none] }).get? (s.heap.push o).objs.size = some { cls := .type "enumerate", data := .fields #[.none, .bool false, .ref s.heap.objs.size, rawInt 0, .none, .none] } := Heap.get?_push_size _ rfl
  rw [hz] at e0
  have he : IsEnum ((s.heap.push o).push { cls := .type "enumerate", data := .fields #[.none, .bool false, .ref s.heap.objs.size, rawInt 0, .none, .none] }) (s.heap.objs.size + 1) s.heap.objs.size 0 .none := e0
  refine callType_new F.called_enumerate (by decide) (F.typeCall_enumerate_1 _) (F.newCall_enumerate_1 _) (fun obj => F.args_object_init_2 obj _) F.entry_enumerate_new (meets_en1 B) ⟨h1, ?_⟩
  show _ ∧ _
  rw [hz]
  exact ⟨⟨_, he, rfl⟩, h _ he (Heap.get?_push_of_some _ (Heap.get?_push_size _ B.free)) (by rw [Heap.size_push, hz]) fun b ob x => Heap.get?_push_of_some _ (Heap.get?_push_of_some _ x)⟩
/-- the tuple at a as it stands at each turn -/
def IteT (K : PySem.W.Frag) (a : Addr) : It :=
  ⟨fun i H => ∃ (xs : List V) (x : V), SqT K H a xs ∧ xs[i]? = some x, fun i H v H' => ∃ T x, v = .ref T ∧ H T = none ∧ H' = upd H T (.tup [.int (i : Nat), x]) ∧ ∀ xs, SqT K H a xs → xs[i]? = some x, fun i H => ∃ xs : List V, SqT K H a xs ∧ xs.length = i⟩
theorem turn_enT {P : Program} {w : World} {K : PySem.W.Frag} {elts : List Expr} {kk : Nat} {tpos : Pos} (a e it : Addr) :
    Turn P w K (.Tuple elts kk tpos) (IteT K a) [e, it] e (fun i h => (∃ old, IsEnum h e it ((i : Nat) : Int) old) ∧ h.IsTupleIter it a i ∧ e ≠ it ∧ e ≠ a ∧ a ≠ it) where
  mem := by simp
  obj := fun i h st b hb => by
    obtain ⟨⟨old, he⟩, ⟨o, ho, hc, hd⟩, _⟩ := st
    rcases List.mem_cons.mp hb with rfl | hb
    · exact ⟨_, he, fun v q => nomatch q⟩
    · obtain rfl := List.mem_singleton.mp hb
      exact ⟨o, ho, fun v q => by rw [hd] at q; cases q⟩
  keep := fun i h h' st k => by
    obtain ⟨⟨old, he⟩, hi, hn⟩ := st
    exact ⟨⟨old, k e (by simp) _ he⟩, hi.at fun o q => k it (by simp) o q, hn⟩
  item := by
    intro X hP hw hK hc i pins s σ H E I hf st hg
    subst hP hw hK
    obtain ⟨⟨old, he⟩, hit, hne, hea, hai⟩ := st
    obtain ⟨xs, x, hq, hx⟩ := hg
    obtain ⟨us, rv, p, hz⟩ := I.tuple hq
    obtain ⟨u, hu, ru⟩ := rv.get hx
    have hlt : i < us.toArray.size := by rw [List.size_toArray]; exact (List.getElem?_eq_some_iff.mp hu).1
    have hel : e < s.heap.objs.size := Heap.lt_size he
    have hil : it < s.heap.objs.size := by obtain ⟨_, q, _⟩ := hit; exact Heap.lt_size q
    refine wpAny_pyNext_enum_itemD (draws_tup (A := X.A.in1) (show X.A.in1.handled = none from I.ok.hd hc) it a hai us.toArray) he ⟨hit, p⟩ hlt hne (by simp [hne, hea]) fun y h' tk hy ho hst hT hsz hk => ?_
    have ey : y = u := by
      have hy' : us[i]? = some y := by simpa using hy
      rw [hu] at hy'; exact (Option.some.inj hy').symm
    subst ey
    refine ⟨_, rfl, wpAny_letOwnedTupleGo_enum (s := { s with heap := h', toks := tk + 1 }) ho fun h'' he' sb => ?_⟩
    have hT2 : h''.get? s.heap.objs.size = some { cls := .type "tuple", data := .seq #[.int i tk, y] } := (sb.2 _ (Nat.ne_of_gt hel)).trans hT
    have new : ObjOk X.prog X.w (upd H s.heap.objs.size (.tup [.int (i : Nat), x])) h'' s.heap.objs.size (.tup [.int (i : Nat), x]) :=
      ⟨show 2 ≤ sizeLine by decide, [.int i tk, y], .cons ⟨_, rfl⟩ (.cons ru .nil), ⟨_, hT2, rfl, _, rfl⟩⟩
    have I1 : Inv X pins σ (upd H s.heap.objs.size (.tup [.int (i : Nat), x])) { s with heap := h'', toks := tk + 1 } :=
      I.turnedNew (ch := [e, it]) (fun b ob hb q => (sb.2 b (fun z => hb (by simp [z]))).trans (hk b ob (fun z => hb (by simp [z])) (fun z => hb (by simp [z])) q)) hf (Nat.le_refl _) new
    refine ⟨.ref s.heap.objs.size, _, I1, rfl, ⟨_, x, rfl, I.hok.fresh (Nat.le_refl _), rfl, fun ys hy => by rw [I.tuple_inj hy hq]; exact hx⟩, ⟨⟨y, ?_⟩, hst.1.at fun o q => (sb.2 it (Ne.symm hne)).trans q, hne, hea, hai⟩, fun b hb => ?_⟩
    · have e1 : ((i + 1 : Nat) : Int) = (i : Int) + 1 := by omega
      rw [e1]; exact he'
    · have hb' : b < s.heap.objs.size := by
        rcases List.mem_cons.mp hb with rfl | hb
        · exact hel
        · obtain rfl := List.mem_singleton.mp hb; exact hil
      rw [upd_ne (Nat.ne_of_lt hb')]
      exact (hf b hb).1
  done := by
    intro X hP hw hK hc i pins s σ H E I hf st hg
    subst hP hw hK
    obtain ⟨⟨old, he⟩, hit, hne, hea, hai⟩ := st
    obtain ⟨xs, hq, hx⟩ := hg
    obtain ⟨us, rv, p, hz⟩ := I.tuple hq
    obtain ⟨f0, f1, f2, f3, f4, f5⟩ := hf it (by simp)
    have hl : i = us.toArray.size := by rw [List.size_toArray, ← hx]; exact rv.length
    subst hl
    exact wpAny_pyNext_enum_endD (draws_tup (A := X.A.in1) (show X.A.in1.handled = none from I.ok.hd hc) it a hai us.toArray) he ⟨hit, p⟩ fun h' eb => ⟨rfl, I.turned (t' := s.toks) (fun b o hb q => eb b o hb q) f0 f1 f3 f4 f5⟩
  self := fun A i s Q E st h => by
    obtain ⟨⟨_, he⟩, _⟩ := st
    exact wpAny_pyIter_enum he h
def iEnT (K : PySem.W.Frag) (ta : TA) : TI := fun σ H R => ta σ H fun vs H1 => ∃ a xs, vs = [.ref a] ∧ SqT K H1 a xs ∧ R (IteT K a) H1
theorem pi_enT {X : Cx} {e : Expr} {ta : TA} {p pos tpos : Pos} {elts : List Expr} {kk : Nat} (hg : Gl X "enumerate") (hm : X.mg "enumerate" = none) (ha : PA X [e] ta) (hs : starEach [e] X.env = [(false, eval e X.env)] := by rfl) :
    PI X (.Tuple elts kk tpos) (.Call (.Name "enumerate" p) [e] [] pos) (iEnT X.K ta) := by
  refine ⟨fun pins s σ H R I h => Call_ (ld_blt I hg hm boot_enumerate (PyProof.Rows.callWith_type1 (thn (ha.run pos pins s σ H _ I h) ?_) hs rfl))⟩
  rintro us s1 ⟨vs, H1, I1, r1, a, xs, ex, hq, q⟩
  subst ex
  cases r1 with
  | cons r rr =>
    cases rr
    cases r
    obtain ⟨us, rv, p', hz⟩ := I1.tuple hq
    have hal : a < s1.heap.objs.size := by obtain ⟨o, ho, _⟩ := id p'; exact Heap.lt_size ho
    refine call_en1 (begins_tuple a us.toArray) p' fun h' he hit hsz hk => wpAny_pyIter_enum he ?_
    have I2 : Inv X pins σ H1 { s1 with heap := h' } := I1.kept (t' := s1.toks) hk
    refine ⟨s1.heap.objs.size + 1, [s1.heap.objs.size + 1, s1.heap.objs.size], _, _, H1, rfl, I2, turn_enT a (s1.heap.objs.size + 1) s1.heap.objs.size, ⟨⟨.none, he⟩, ⟨_, hit, rfl, rfl⟩, Nat.succ_ne_self _, Nat.ne_of_gt (Nat.lt_succ_of_lt hal), Nat.ne_of_lt hal⟩, fun b hb => ?_, q⟩
    have hle : s1.heap.objs.size ≤ b := by
      rcases List.mem_cons.mp hb with rfl | hb
      · exact Nat.le_succ _
      · obtain rfl := List.mem_singleton.mp hb; exact Nat.le_refl _
    exact I1.fpOk hle (I1.hok.fresh hle)
section
variable {P : Program} {w : World} {S : SA} {K : PySem.W.Frag}
theorem feed_enT {a : Addr} {vs : List V} {ds : List D} : FeedS P w S K (IteT K a) (fun B H => ¬ B a ∧ At H a (.tup vs) ∧ Reps P w S B H vs ds) (enD ds 0) where
  go := fun ⟨_, h, l⟩ hi => by
    rw [enD_length, ← l.length] at hi
    exact ⟨vs, vs[_], .inl h.rd, List.getElem?_eq_getElem hi⟩
  stop := fun ⟨_, h, l⟩ => ⟨vs, .inl h.rd, by rw [enD_length, l.length]⟩
  yld := fun {B H i x H' it} ⟨_, h, l⟩ _ y e => by
    obtain ⟨T, z, rfl, hT, rfl, y⟩ := y
    obtain ⟨d, e1, rfl⟩ := enD_get e
    obtain ⟨v, e2, r⟩ := l.get e1
    rw [y vs (.inl h.rd)] at e2; cases e2
    have x := Same.ext (B := B) (same_new (o := .tup [.int (i : Nat), z]) hT)
    refine ⟨same_new hT, .pr (.inl (.inl upd_same)) (.cons ?_ (.cons (r.ext x) .nil))⟩
    rw [Nat.zero_add]; exact .int _
  keep := fun ⟨n, h, l⟩ sB k => ⟨(k.ext sB a _ n h).1, (k.ext sB a _ n h).2, l.ext (k.ext sB)⟩
  more := fun {B B' H} ⟨n, h, l⟩ m => ⟨(more_ext m a _ n h).1, h, l.ext (more_ext m)⟩
  ext := fun ⟨n, h, l⟩ x => ⟨(x a _ n h).1, (x a _ n h).2, l.ext x⟩
end
/-- enumerate of a list or a tuple -/
def gEn (z : List D) : Option (List Itm) := match z with
  | [.lst l] => some (enD l 0)
  | [.tup l] => some (enD l 0)
  | _ => none
section
variable {X : Cx} {tg a b : Expr} {fa : EA} {p pos tpos : Pos} {elts : List Expr} {kk : Nat}
theorem i_en (hg : Gl X "enumerate") (hm : X.mg "enumerate" = none) (ha : PA X [a] (tA X.prog X.w fa)) (hs : starEach [a] X.env = [(false, eval a X.env)] := by rfl) : PI X (.Tuple elts kk tpos) (.Call (.Name "enumerate" p) [a] [] pos) (tJ X.prog X.w X.K (iRng gEn fa)) :=
  PI.imp (PI.or (pi_enum hg hm ha hs) (pi_enT hg hm ha hs)) fun σ H R ⟨S, B0, ρ, fp, s, its, s', Rl, e, q⟩ => by
    obtain ⟨⟨d, s1⟩, e1, e⟩ := bind_some' e
    obtain ⟨l, e2, e⟩ := map_some' e
    cases e
    unfold gEn at e2
    split at e2 <;> cases e2 <;> rename_i l h _
    · refine .inl ⟨S, B0, ρ, fp, s, _, s1, Rl, e1, fun vs H1 k o l => ?_⟩
      dsimp only at h; subst h
      obtain ⟨x, rfl, r⟩ := l.one
      cases r with | lst n h l => exact ⟨_, _, rfl, .inl (.inl h), q _ H1 _ k o feed_en ⟨n, h, l⟩⟩
    · refine .inr ⟨S, B0, ρ, fp, s, _, s1, Rl, e1, fun vs H1 k o l => ?_⟩
      dsimp only at h; subst h
      obtain ⟨x, rfl, r⟩ := l.one
      cases r with | tup n h l => exact ⟨_, _, rfl, .inl h.rd, q _ H1 _ k o feed_enT ⟨n, h, l⟩⟩
end
end Pv

set_option Elab.async false
set_option linter.all false
set_option maxRecDepth 100000
set_option maxHeartbeats 1000000
namespace Pv
open PySem PySem.Spec L2
open PyProof.Rows hiding St

/-! ### sorted(..) of lists and tuples of plain data -/
section
open PySem.W PySem.Calls
variable {prog : Program} {w : World} {A : Around} {E : Value → Shared → Prop} {s : Shared} {β : Type} {us : List Value} {bs : List β} {enc : β → PyData} {R : Value → β → Prop}
/-- sorted(xs, reverse=b), sorted(xs) -/
theorem sort_seq {it : Addr} {T : String} {o : Obj} {n : Nat} {b : Bool} {Q : Value → Shared → Prop} {kw : List (Str × Value)} (hkw : kw = [(Str.ofString "reverse", .bool b)] ∨ kw = [] ∧ b = false) (hT : T = "list" ∨ T = "tuple") (ho : s.heap.get? it = some o) (hc : o.cls = .type T) (hd : o.data = .seq us.toArray n)
    (e : EachIs R us bs) (er : EachIs (fun v b => ∃ as, Reads s.heap v (enc b) as) us bs) (hal : AllAlike (bs.map enc)) (hk : Sortable (bs.map enc)) (hL : bs.length ≤ sizeLine) (hu : ∀ b, b ∈ bs → A.units + 3 + (enc b).depth < cLine)
    (h : ∀ (out : List Value) (p : Addr) (h1 h' : Heap) (c : Nat), out.length = bs.length → EachIs R out (bs.mergeSort (dataLe b enc)) → (∀ a ob, s.heap.get? a = some ob → h1.get? a = some ob) → h1.objs.size ≤ p → (∀ a ob, h1.get? a = some ob → h'.get? a = some ob) → h'.get? p = some (seqObj "list" out.toArray c) → Q (.ref p) { s with heap := h' }) :
    wpAny (model prog w) A (call (.builtin "sorted") [.ref it] kw) Q E s := by
  have hlen : us.length = bs.length := e.length
  have args : argsOk "sorted" ⟨[.ref it], kw⟩ := by
    rcases hkw with rfl | ⟨rfl, _⟩
    · exact args_sorted_rev _ _
    · exact args_sorted1 _
  refine call_function_entry_kw kind_sorted plain_sorted entry_sorted args ?_
  unfold Builtin.«sorted»
  refine wpAny_bind (m := checkCount "sorted" 1 1 _) (wpAny_pure ?_)
  refine wpAny_bind (wpAny_collect_seq it hT ho hc hd (fun h1 k1 => ?_) (by rw [List.size_toArray, hlen]; exact hL))
  refine wpAny_bind (wpAny_newList ?_ (by rw [List.toList_toArray, hlen]; exact hL))
  have ho2 : (h1.push (seqObj "list" us.toArray 0)).get? h1.objs.size = some (seqObj "list" us.toArray 0) := Heap.get?_push_size _ rfl
  have k2 : ∀ a ob, s.heap.get? a = some ob → (h1.push (seqObj "list" us.toArray 0)).get? a = some ob := fun a ob z => Heap.get?_push_of_some _ (k1 a ob z)
  have er2 : EachIs (fun v b => ∃ as, Reads (h1.push (seqObj "list" us.toArray 0)) v (enc b) as ∧ h1.objs.size ∉ as) us bs := er.mono fun v b ⟨as, r⟩ => ⟨as, PyProof.Rows.Reads.keeps k2 r, fun m => by
    obtain ⟨ob, z⟩ := PyProof.On.reads_mem_get r _ m
    exact absurd (Heap.lt_size (k1 _ _ z)) (Nat.lt_irrefl _)⟩
  have fin : ∀ out : List Value, out.length = bs.length → EachIs R out (bs.mergeSort (dataLe b enc)) → Q (.ref h1.objs.size) { s with heap := sortedHeap (h1.push (seqObj "list" us.toArray 0)) h1.objs.size us out.toArray } := fun out l1 l2 => by
    obtain ⟨c, z⟩ := sortedHeap_at (out := out.toArray) ho2
    refine h out h1.objs.size h1 _ c l1 l2 k1 (Nat.le_refl _) (fun a ob q => ?_) z
    have hlt := Heap.lt_size q
    rw [sortedHeap_old (Nat.ne_of_lt hlt) (by rw [Heap.size_push]; exact Nat.lt_succ_of_lt hlt)]
    exact Heap.get?_push_of_some _ q
  refine wpAny_bind (wpAny_holding ?_)
  have hu1 : ∀ b, b ∈ bs → A.in1.units + 1 + (enc b).depth < cLine := fun b m => by
    have := hu b m
    show A.units + 1 + 1 + (enc b).depth < cLine
    omega
  rcases hkw with rfl | ⟨rfl, rfl⟩
  · exact list_sort_rev_data (s := { s with heap := h1.push (seqObj "list" us.toArray 0) }) (A := A.in1) ho2 e er2 hal hk hL hu1 fun out l1 l2 => wpAny_pure ⟨_, rfl, fin out l1 l2⟩
  · exact list_sort_data (s := { s with heap := h1.push (seqObj "list" us.toArray 0) }) (A := A.in1) ho2 e er2 hal hk hL hu1 fun out l1 l2 => wpAny_pure ⟨_, rfl, fin out l1 l2⟩
end
end Pv

set_option Elab.async false
set_option linter.all false
set_option maxRecDepth 100000
set_option maxHeartbeats 1000000
namespace Pv
open PySem PySem.Spec L2
open PyProof.Rows hiding St

/-- what a body has: room for k calls, no guards, quiet -/
structure Rm (k : Nat) (X : Cx) : Prop where
  r : Room k X.A
  g : X.A.guards = some []
  c : X.calm = true
theorem Rm.units {k : Nat} {X : Cx} (h : Rm k X) : X.A.units + 190 < cLine := by have := h.r.un; omega

/-! ### arguments that are only read -/
inductive RepsI (P : Program) (w : World) (S : SA) (B : Addr → Prop) (H : Hp) : List V → List D → Prop
  | nil : RepsI P w S B H [] []
  | cons {v : V} {vs : List V} {d : D} {ds : List D} : RepI P w S B H v d → RepsI P w S B H vs ds → RepsI P w S B H (v :: vs) (d :: ds)
theorem RepsI.keep {P : Program} {w : World} {S : SA} {B : Addr → Prop} {H H' : Hp} (k : Keep S H H') (sB : ∀ a, Sb S a → B a) : ∀ {vs : List V} {ds : List D}, RepsI P w S B H vs ds → RepsI P w S B H' vs ds
  | _, _, .nil => .nil
  | _, _, .cons r l => .cons (r.keep k sB) (RepsI.keep k sB l)
theorem RepsI.one {P : Program} {w : World} {S : SA} {B : Addr → Prop} {H : Hp} {vs : List V} {d : D} (l : RepsI P w S B H vs [d]) : ∃ x, vs = [x] ∧ RepI P w S B H x d := by
  cases l with | cons a l => cases l; exact ⟨_, rfl, a⟩
theorem RepsI.two {P : Program} {w : World} {S : SA} {B : Addr → Prop} {H : Hp} {vs : List V} {d e : D} (l : RepsI P w S B H vs [d, e]) : ∃ x y, vs = [x, y] ∧ RepI P w S B H x d ∧ RepI P w S B H y e := by
  cases l with | cons a l => cases l with | cons b l => cases l; exact ⟨_, _, rfl, a, b⟩
def tAI (P : Program) (w : World) (f : EA) : TA := fun σ H Q => ∃ (S : SA) (B0 : Addr → Prop) (ρ : Env) (fp : Fp) (s : Src) (ds : List D) (s' : Src), Rl P w S B0 ρ σ fp s H ∧ f ρ s = some (ds, s') ∧
  ∀ vs H', Keep S H H' → SrcOk S s' H' → RepsI P w S (Blk B0 fp) H' vs ds → Q vs H'
section
variable {X : Cx} {es : List Expr} {pos : Pos}
theorem a_nilI : PA X [] (tAI X.prog X.w aNil) := PA.imp pa_nil fun σ H Q ⟨S, B0, ρ, fp, s, d, s', R, e, q⟩ => by cases e; exact q [] H .refl R.src .nil
theorem a_consI {f : EE} {r : EA} {e : Expr} (ha : PE X e (tI X.prog X.w f)) (hr : PA X es (tAI X.prog X.w r)) (hs : starEach (e :: es) X.env = (false, eval e X.env) :: starEach es X.env := by rfl) : PA X (e :: es) (tAI X.prog X.w (aCons f r)) :=
  PA.imp (pa_cons ha hr hs) fun σ H Q ⟨S, B0, ρ, fp, s, d, s', R, e, q⟩ => by
    obtain ⟨⟨x, s1⟩, e1, e⟩ := bind_some' e
    obtain ⟨⟨y, s2⟩, e2, e⟩ := map_some' e
    cases e
    exact ⟨S, B0, ρ, fp, s, x, s1, R, e1, fun v H1 k1 o1 r1 => ⟨S, B0, ρ, fp, s1, y, s2, R.keep k1 o1, e2, fun vs H2 k2 o2 r2 => q (v :: vs) H2 (k1.trans k2) o2 (.cons (r1.keep k2 R.sBk) r2)⟩⟩
end

/-! ### calls of built-ins -/
structure RCV (P : Program) (w : World) (r : List V → Hp → VK → Prop) (g : List D → Option D) : Prop where
  run : ∀ {S : SA} {B : Addr → Prop} {H : Hp} {xs : List V} {ds : List D} {z : D} {Q : VK}, (∀ a, B a → H a ≠ none) → RepsI P w S B H xs ds → g ds = some z → (∀ v H', Same H H' → Rep P w S B H' v z → Q v H') → r xs H Q
structure RCF (P : Program) (w : World) (r : List V → Hp → VK → Prop) (g : List D → Option (List D)) : Prop where
  run : ∀ {S : SA} {B : Addr → Prop} {H : Hp} {xs : List V} {ds : List D} {zs : List D} {Q : VK}, (∀ a, B a → H a ≠ none) → RepsI P w S B H xs ds → g ds = some zs →
    (∀ p H' vs, Same H H' → H p = none → H' p = some (.lst vs) → Reps P w S (fun a => B a ∨ a = p) H' vs zs → Q (.ref p) H') → r xs H Q
def eCl (g : List D → Option D) (f : EA) : EE := fun ρ s => (f ρ s).bind fun x => (g x.1).map fun d => (d, x.2)
def fCl (g : List D → Option (List D)) (f : EA) : EL := fun ρ s => (f ρ s).bind fun x => (g x.1).map fun d => (d, x.2)
section
variable {P : Program} {w : World} {r r' : List V → Hp → VK → Prop} {fa : EA} {σ : L2.St} {H : Hp} {Q : VK}
theorem goC {g : List D → Option D} (h : RCV P w r g) (q : tV P w (eCl g fa) σ H Q) : tAI P w fa σ H fun xs H1 => r xs H1 Q := by
  obtain ⟨S, B0, ρ, fp, s, d, s', R, e, q⟩ := q
  obtain ⟨⟨x, s1⟩, e1, e⟩ := bind_some' e
  obtain ⟨z, e2, e⟩ := map_some' e
  cases e
  exact ⟨S, B0, ρ, fp, s, x, s1, R, e1, fun v H1 k1 o1 r1 => h.run (R.keep k1 o1).dom r1 e2 fun u H2 m r2 => q u H2 (k1.same m) (o1.same m) r2⟩
theorem none_back {S : SA} {B0 : Addr → Prop} {ρ : Env} {fp : Fp} {s s1 : Src} {H1 : Hp} {p : Addr} (R : Rl P w S B0 ρ σ fp s H) (k : Keep S H H1) (o : SrcOk S s1 H1) (n : H1 p = none) : H p = none := by
  cases z : H p with
  | none => rfl
  | some ob =>
    by_cases hs : Sb S p
    · exact absurd n ((R.keep k o).dom p (.inl (R.sB p hs)))
    · rw [k p ob hs z] at n; cases n
theorem goCF {g : List D → Option (List D)} (h : RCF P w r g) (q : tF P w (fCl g fa) σ H Q) : tAI P w fa σ H fun xs H1 => r xs H1 Q := by
  obtain ⟨S, B0, ρ, fp, s, d, s', R, e, q⟩ := q
  obtain ⟨⟨x, s1⟩, e1, e⟩ := bind_some' e
  obtain ⟨z, e2, e⟩ := map_some' e
  cases e
  exact ⟨S, B0, ρ, fp, s, x, s1, R, e1, fun v H1 k1 o1 r1 => h.run (R.keep k1 o1).dom r1 e2 fun p H2 vs m n e3 r2 => q p H2 (k1.same m) (o1.same m) (none_back R k1 o1 n) ⟨vs, e3, r2⟩⟩
theorem RCV.or {g g' g'' : List D → Option D} (h : RCV P w r g) (h' : RCV P w r' g') (hg : ∀ a z, g'' a = some z → g a = some z ∨ g' a = some z) : RCV P w (fun x H Q => r x H Q ∨ r' x H Q) g'' := ⟨by
  intro S B H xs ds z Q dom rx e q
  rcases hg _ _ e with e | e
  · exact .inl (h.run dom rx e q)
  · exact .inr (h'.run dom rx e q)⟩
end
section
variable {X : Cx} {x : Str} {p pos : Pos} {e : Expr} {es : List Expr} {fa : EA} {id T : String} {r : List V → Hp → VK → Prop}
theorem v_callB {g : List D → Option D} (hc : CallR X (.builtin id) r) (h : RCV X.prog X.w r g) (hg : Gl X x) (hm : X.mg x = none) (hv : bootBuiltins x = some (.builtin id)) (ha : PA X (e :: es) (tAI X.prog X.w fa)) (hn : x ≠ "__name__" := by decide) (hdb : (x == ("__debug__" : Str)) = false := by decide)
    (he : starEach (e :: es) X.env = (false, eval e X.env) :: starEach es X.env := by rfl) (hpl : (backTo pos (starEach es X.env)).any (·.1) = false := by rfl) : PE X (.Call (.Name x p) (e :: es) [] pos) (tV X.prog X.w (eCl g fa)) := PE.imp (pe_callB hc hg hm hv ha hn hdb he hpl) fun σ H Q q => goC h q
theorem f_callB {g : List D → Option (List D)} (hc : CallR X (.builtin id) r) (h : RCF X.prog X.w r g) (hg : Gl X x) (hm : X.mg x = none) (hv : bootBuiltins x = some (.builtin id)) (ha : PA X (e :: es) (tAI X.prog X.w fa)) (hn : x ≠ "__name__" := by decide) (hdb : (x == ("__debug__" : Str)) = false := by decide)
    (he : starEach (e :: es) X.env = (false, eval e X.env) :: starEach es X.env := by rfl) (hpl : (backTo pos (starEach es X.env)).any (·.1) = false := by rfl) : PE X (.Call (.Name x p) (e :: es) [] pos) (tF X.prog X.w (fCl g fa)) := PE.imp (pe_callB hc hg hm hv ha hn hdb he hpl) fun σ H Q q => goCF h q
theorem v_callT {g : List D → Option D} (hc : CallR X (.type T) r) (h : RCV X.prog X.w r g) (hg : Gl X x) (hm : X.mg x = none) (hv : bootBuiltins x = some (.type T)) (ha : PA X (e :: es) (tAI X.prog X.w fa)) (hn : x ≠ "__name__" := by decide) (hdb : (x == ("__debug__" : Str)) = false := by decide)
    (he : starEach (e :: es) X.env = (false, eval e X.env) :: starEach es X.env := by rfl) (hpl : (backTo pos (starEach es X.env)).any (·.1) = false := by rfl) : PE X (.Call (.Name x p) (e :: es) [] pos) (tV X.prog X.w (eCl g fa)) := PE.imp (pe_callTy hc hg hm hv ha hn hdb he hpl) fun σ H Q q => goC h q
theorem f_callT {g : List D → Option (List D)} (hc : CallR X (.type T) r) (h : RCF X.prog X.w r g) (hg : Gl X x) (hm : X.mg x = none) (hv : bootBuiltins x = some (.type T)) (ha : PA X (e :: es) (tAI X.prog X.w fa)) (hn : x ≠ "__name__" := by decide) (hdb : (x == ("__debug__" : Str)) = false := by decide)
    (he : starEach (e :: es) X.env = (false, eval e X.env) :: starEach es X.env := by rfl) (hpl : (backTo pos (starEach es X.env)).any (·.1) = false := by rfl) : PE X (.Call (.Name x p) (e :: es) [] pos) (tF X.prog X.w (fCl g fa)) := PE.imp (pe_callTy hc hg hm hv ha hn hdb he hpl) fun σ H Q q => goCF h q
end

/-! ### len, int, abs, max, min, sum -/
def gLen : List D → Option D
  | [.lst l] => some (.int l.length)
  | [.tup l] => some (.int l.length)
  | [.str x] => if x.length ≤ LIM then some (.int x.length) else none
  | _ => none
def gInt : List D → Option D
  | [.int i] => some (.int i)
  | [.bl b] => some (.int (if b then 1 else 0))
  | _ => none
def gAbs : List D → Option D
  | [.int i] => some (.int (if i < 0 then -i else i))
  | _ => none
def gMax2 : List D → Option D
  | [.int i, .int j] => some (.int (if j > i then j else i))
  | _ => none
def gMin2 : List D → Option D
  | [.int i, .int j] => some (.int (if j < i then j else i))
  | _ => none
/-- all numbers -/
def intsD : List D → Option (List Int)
  | [] => some []
  | .int i :: r => (intsD r).map (i :: ·)
  | _ :: _ => none
theorem intsD_eq : ∀ {l : List D} {ns : List Int}, intsD l = some ns → l = ns.map .int
  | [], _, h => by cases h; rfl
  | .int i :: r, _, h => by
    obtain ⟨ns, h1, h2⟩ := map_some' (show (intsD r).map (i :: ·) = some _ from h)
    subst h2
    rw [intsD_eq h1]; rfl
def gSum : List D → Option D
  | [.lst l] => (intsD l).map fun ns => .int ns.sum
  | _ => none
def maxI : Int → List Int → Int
  | a, [] => a
  | a, b :: r => maxI (if a < b then b else a) r
def minI : Int → List Int → Int
  | a, [] => a
  | a, b :: r => minI (if b < a then b else a) r
theorem maxI_spec : ∀ (a : Int) (l : List Int), maxI a l ∈ a :: l ∧ ∀ y ∈ a :: l, y ≤ maxI a l
  | a, [] => ⟨by simp [maxI], by simp [maxI]⟩
  | a, b :: r => by
    obtain ⟨h1, h2⟩ := maxI_spec (if a < b then b else a) r
    have hl : (if a < b then b else a) ≤ maxI (if a < b then b else a) r := h2 _ (by simp)
    show maxI (if a < b then b else a) r ∈ _ ∧ ∀ y ∈ a :: b :: r, y ≤ maxI (if a < b then b else a) r
    refine ⟨?_, fun y hy => ?_⟩
    · rcases List.mem_cons.mp h1 with h | h
      · rw [h]; split <;> simp
      · simp [h]
    · rcases List.mem_cons.mp hy with rfl | hy
      · split at hl <;> split <;> omega
      · rcases List.mem_cons.mp hy with rfl | hy
        · split at hl <;> split <;> omega
        · exact h2 y (by simp [hy])
theorem minI_spec : ∀ (a : Int) (l : List Int), minI a l ∈ a :: l ∧ ∀ y ∈ a :: l, minI a l ≤ y
  | a, [] => ⟨by simp [minI], by simp [minI]⟩
  | a, b :: r => by
    obtain ⟨h1, h2⟩ := minI_spec (if b < a then b else a) r
    have hl : minI (if b < a then b else a) r ≤ (if b < a then b else a) := h2 _ (by simp)
    show minI (if b < a then b else a) r ∈ _ ∧ ∀ y ∈ a :: b :: r, minI (if b < a then b else a) r ≤ y
    refine ⟨?_, fun y hy => ?_⟩
    · rcases List.mem_cons.mp h1 with h | h
      · rw [h]; split <;> simp
      · simp [h]
    · rcases List.mem_cons.mp hy with rfl | hy
      · split at hl <;> split <;> omega
      · rcases List.mem_cons.mp hy with rfl | hy
        · split at hl <;> split <;> omega
        · exact h2 y (by simp [hy])
def gMaxL : List D → Option D
  | [.lst l] => match intsD l with
    | some (a :: r) => some (.int (maxI a r))
    | _ => none
  | _ => none
def gMinL : List D → Option D
  | [.lst l] => match intsD l with
    | some (a :: r) => some (.int (minI a r))
    | _ => none
  | _ => none
section
variable {P : Program} {w : World} {K : PySem.W.Frag}
theorem RepI.ints {S : SA} {B : Addr → Prop} {H : Hp} {v : V} {l : List D} {ns : List Int} (h : RepI P w S B H v (.lst l)) (e : intsD l = some ns) : ∃ a, v = .ref a ∧ SqL K H a (ns.map V.int) := by
  obtain ⟨a, vs, rfl, ha, l⟩ := h.lst_inv
  rw [intsD_eq e] at l
  exact ⟨a, rfl, .inl (.inl (by rw [← l.ints_of]; exact ha))⟩
theorem rc_len : RCV P w (fun xs H Q => (∃ p ys, xs = [.ref p] ∧ (SqL K H p ys ∨ SqT K H p ys) ∧ Q (.int ys.length) H) ∨ ∃ z, xs = [.str z] ∧ z.length ≤ sizeLine ∧ Q (.int z.length) H) gLen := ⟨by
  intro S B H xs ds z Q dom rx e q
  unfold gLen at e
  split at e
  · cases e
    obtain ⟨x, rfl, r⟩ := rx.one
    obtain ⟨a, vs, rfl, ha, l⟩ := r.lst_inv
    exact .inl ⟨a, vs, rfl, .inl (.inl (.inl ha)), q _ H (Same.refl H) (by rw [l.length]; exact .int _)⟩
  · cases e
    obtain ⟨x, rfl, r⟩ := rx.one
    obtain ⟨a, vs, o, rfl, ha, _, _, l⟩ := r.tup_inv
    exact .inl ⟨a, vs, rfl, .inr (.inl (.inr ⟨o, ha⟩)), q _ H (Same.refl H) (by rw [l.length]; exact .int _)⟩
  · rename_i x
    split at e
    · rename_i hx
      cases e
      obtain ⟨x, rfl, r⟩ := rx.one
      exact .inr ⟨_, by rw [r.str_inv], Nat.le_trans hx (Nat.le_of_lt lim_line), q _ H (Same.refl H) (.int _)⟩
    · cases e
  · cases e⟩
theorem rc_int : RCV P w (fun xs H Q => (∃ i, xs = [.int i] ∧ Q (.int i) H) ∨ ∃ k, xs = [.bl k] ∧ Q (.int (if k then 1 else 0)) H) gInt := ⟨by
  intro S B H xs ds z Q dom rx e q
  unfold gInt at e
  split at e
  · cases e
    obtain ⟨x, rfl, r⟩ := rx.one
    exact .inl ⟨_, by rw [r.int_inv], q _ H (Same.refl H) (.int _)⟩
  · cases e
    obtain ⟨x, rfl, r⟩ := rx.one
    exact .inr ⟨_, by rw [r.bl_inv], q _ H (Same.refl H) (.int _)⟩
  · cases e⟩
theorem rc_abs : RCV P w (fun xs H Q => ∃ i, xs = [.int i] ∧ Q (.int (if i < 0 then -i else i)) H) gAbs := ⟨by
  intro S B H xs ds z Q dom rx e q
  unfold gAbs at e
  split at e <;> cases e
  obtain ⟨x, rfl, r⟩ := rx.one
  exact ⟨_, by rw [r.int_inv], q _ H (Same.refl H) (.int _)⟩⟩
theorem rc_max2 : RCV P w (fun xs H Q => ∃ i j, xs = [.int i, .int j] ∧ Q (.int (if j > i then j else i)) H) gMax2 := ⟨by
  intro S B H xs ds z Q dom rx e q
  unfold gMax2 at e
  split at e <;> cases e
  obtain ⟨x, y, rfl, r, r'⟩ := rx.two
  exact ⟨_, _, by rw [r.int_inv, r'.int_inv], q _ H (Same.refl H) (.int _)⟩⟩
theorem rc_min2 : RCV P w (fun xs H Q => ∃ i j, xs = [.int i, .int j] ∧ Q (.int (if j < i then j else i)) H) gMin2 := ⟨by
  intro S B H xs ds z Q dom rx e q
  unfold gMin2 at e
  split at e <;> cases e
  obtain ⟨x, y, rfl, r, r'⟩ := rx.two
  exact ⟨_, _, by rw [r.int_inv, r'.int_inv], q _ H (Same.refl H) (.int _)⟩⟩
theorem rc_sum : RCV P w (rSum K) gSum := ⟨by
  intro S B H xs ds z Q dom rx e q
  unfold gSum at e
  split at e
  · obtain ⟨ns, e1, e⟩ := map_some' e
    cases e
    obtain ⟨x, rfl, r⟩ := rx.one
    obtain ⟨a, rfl, h⟩ := r.ints (K := K) e1
    exact ⟨a, ns, rfl, h, q _ H (Same.refl H) (.int _)⟩
  · cases e⟩
theorem rc_max : RCV P w (rMax K) gMaxL := ⟨by
  intro S B H xs ds z Q dom rx e q
  unfold gMaxL at e
  split at e
  · split at e <;> cases e
    rename_i l n r e1
    obtain ⟨x, rfl, rr⟩ := rx.one
    obtain ⟨a, rfl, h⟩ := rr.ints (K := K) e1
    refine ⟨a, _, rfl, h, by simp, fun m hm hy => ?_⟩
    obtain ⟨h1, h2⟩ := maxI_spec n r
    have e2 : m = maxI n r := Int.le_antisymm (h2 m hm) (hy _ h1)
    rw [e2]
    exact q _ H (Same.refl H) (.int _)
  · cases e⟩
theorem rc_min : RCV P w (rMin K) gMinL := ⟨by
  intro S B H xs ds z Q dom rx e q
  unfold gMinL at e
  split at e
  · split at e <;> cases e
    rename_i l n r e1
    obtain ⟨x, rfl, rr⟩ := rx.one
    obtain ⟨a, rfl, h⟩ := rr.ints (K := K) e1
    refine ⟨a, _, rfl, h, by simp, fun m hm hy => ?_⟩
    obtain ⟨h1, h2⟩ := minI_spec n r
    have e2 : m = minI n r := Int.le_antisymm (hy _ h1) (h2 m hm)
    rw [e2]
    exact q _ H (Same.refl H) (.int _)
  · cases e⟩
end
end Pv

set_option Elab.async false
set_option linter.all false
set_option maxRecDepth 100000
set_option maxHeartbeats 1000000
namespace Pv
open PySem PySem.Spec L2
open PyProof.Rows hiding St

/-! ### == and in -/
/-- can be compared by value -/
def okD (d : D) : Bool := flat d && SeqAt.shaped (py d)
theorem okD_iff {d : D} (h : okD d = true) : flat d = true ∧ SeqAt.shaped (py d) = true := by unfold okD at h; rw [Bool.and_eq_true] at h; exact h
def gEqD (a b : D) : Option D := if okD a = true ∧ okD b = true then some (.bl (PyData.eqv (py a) (py b))) else none
def gNeD (a b : D) : Option D := if okD a = true ∧ okD b = true then some (.bl (!PyData.eqv (py a) (py b))) else none
def gEq : D → D → Option D
  | .str x, .str y => some (.bl (decide (x = y)))
  | a, b => gEqD a b
def gNe : D → D → Option D
  | .str x, .str y => some (.bl (!decide (x = y)))
  | a, b => gNeD a b
def inAny (a : D) (l : List D) : Bool := (pys l).any fun z => PyData.eqv z (py a)
def gIn (a b : D) : Option D := if okD a = true ∧ okD b = true then (seqD b).map fun l => .bl (inAny a l) else none
def gNotIn (a b : D) : Option D := if okD a = true ∧ okD b = true then (seqD b).map fun l => .bl (!inAny a l) else none
def nonD : D → Bool
  | .non => true
  | _ => false
def gIsN (a b : D) : Option D := if nonD b = true then some (.bl (nonD a)) else none
def gIsNot (a b : D) : Option D := if nonD b = true then some (.bl (!nonD a)) else none
section
variable {X : Cx}
def rInT (K : PySem.W.Frag) (neg : Bool) : R2 := fun x y H Q => ∃ d ds, Dp K H x d ∧ Dp K H y (.tuple ds) ∧ SeqAt.shaped d = true ∧ SeqAt.shaped (.tuple ds) = true ∧ Q (.bl (if neg then !(ds.any fun z => PyData.eqv z d) else ds.any fun z => PyData.eqv z d)) H
theorem op_inT (hu : X.A.units + 65 < cLine) : OpR X (compareOp .In) (rInT X.K false) := by
  rintro pins s σ H x y v u Q I rx ry ⟨d, ds, hd, he, sd, se, q⟩
  obtain ⟨as, h1⟩ := Dp.reads I d x v hd rx
  obtain ⟨bs, h2⟩ := Dp.reads I (.tuple ds) y u he ry
  exact SeqAt.in_tuple_reads h2 h1 (SeqAt.canLay_of_shaped se) (SeqAt.canLay_of_shaped sd) (room_in_shaped sd hu) ⟨.bl _, H, I, rfl, q⟩
theorem op_notInT (hu : X.A.units + 65 < cLine) : OpR X (compareOp .NotIn) (rInT X.K true) := by
  rintro pins s σ H x y v u Q I rx ry ⟨d, ds, hd, he, sd, se, q⟩
  obtain ⟨as, h1⟩ := Dp.reads I d x v hd rx
  obtain ⟨bs, h2⟩ := Dp.reads I (.tuple ds) y u he ry
  exact SeqAt.notIn_tuple_reads h2 h1 (SeqAt.canLay_of_shaped se) (SeqAt.canLay_of_shaped sd) (room_in_shaped sd hu) ⟨.bl _, H, I, rfl, q⟩
theorem r_eqD {P : Program} {w : World} {K : PySem.W.Frag} : R2V P w (rEqD K) gEqD := ⟨by
  intro S B H x y d e z Q dom rx ry hg q
  unfold gEqD at hg
  split at hg <;> cases hg
  rename_i h
  have h1 := okD_iff h.1
  have h2 := okD_iff h.2
  exact ⟨_, _, rx.dp h1.1, ry.dp h2.1, h1.2, h2.2, q _ H (Same.refl H) (.bl _)⟩⟩
theorem r_neD {P : Program} {w : World} {K : PySem.W.Frag} : R2V P w (rNeD K) gNeD := ⟨by
  intro S B H x y d e z Q dom rx ry hg q
  unfold gNeD at hg
  split at hg <;> cases hg
  rename_i h
  have h1 := okD_iff h.1
  have h2 := okD_iff h.2
  exact ⟨_, _, rx.dp h1.1, ry.dp h2.1, h1.2, h2.2, q _ H (Same.refl H) (.bl _)⟩⟩
theorem r_inD {P : Program} {w : World} {K : PySem.W.Frag} : R2V P w (fun x y H Q => rInD K x y H Q ∨ rInT K false x y H Q) gIn := ⟨by
  intro S B H x y d e z Q dom rx ry hg q
  unfold gIn at hg
  split at hg
  · rename_i h
    have h1 := okD_iff h.1
    have h2 := okD_iff h.2
    cases e <;> cases hg
    · exact .inr ⟨_, _, rx.dp h1.1, ry.dp h2.1, h1.2, h2.2, q _ H (Same.refl H) (.bl _)⟩
    · exact .inl ⟨_, _, rx.dp h1.1, ry.dp h2.1, h1.2, h2.2, q _ H (Same.refl H) (.bl _)⟩
  · cases hg⟩
theorem r_notInD {P : Program} {w : World} {K : PySem.W.Frag} : R2V P w (fun x y H Q => rNotInD K x y H Q ∨ rInT K true x y H Q) gNotIn := ⟨by
  intro S B H x y d e z Q dom rx ry hg q
  unfold gNotIn at hg
  split at hg
  · rename_i h
    have h1 := okD_iff h.1
    have h2 := okD_iff h.2
    cases e <;> cases hg
    · exact .inr ⟨_, _, rx.dp h1.1, ry.dp h2.1, h1.2, h2.2, q _ H (Same.refl H) (.bl _)⟩
    · exact .inl ⟨_, _, rx.dp h1.1, ry.dp h2.1, h1.2, h2.2, q _ H (Same.refl H) (.bl _)⟩
  · cases hg⟩
theorem RepI.non_inv {P : Program} {w : World} {S : SA} {B : Addr → Prop} {H : Hp} {v : V} (h : RepI P w S B H v .non) : v = .non := by
  cases h with | r h => cases h; rfl
theorem RepI.isN {P : Program} {w : World} {S : SA} {B : Addr → Prop} {H : Hp} {v : V} {d : D} (h : RepI P w S B H v d) : decide (v = .non) = nonD d := by
  cases h with
  | r h => cases h <;> rfl
  | _ => rfl
theorem r_isN {P : Program} {w : World} : R2V P w rIsN gIsN := ⟨by
  intro S B H x y d e z Q dom rx ry hg q
  unfold gIsN at hg
  split at hg <;> cases hg
  rename_i h
  cases e <;> first | cases h | skip
  exact ⟨ry.non_inv, by rw [rx.isN]; exact q _ H (Same.refl H) (.bl _)⟩⟩
theorem r_isNot {P : Program} {w : World} : R2V P w rNotN gIsNot := ⟨by
  intro S B H x y d e z Q dom rx ry hg q
  unfold gIsNot at hg
  split at hg <;> cases hg
  rename_i h
  cases e <;> first | cases h | skip
  exact ⟨ry.non_inv, by rw [rx.isN]; exact q _ H (Same.refl H) (.bl _)⟩⟩
def gEqS : D → D → Option D
  | .str x, .str y => some (.bl (decide (x = y)))
  | _, _ => none
def gNeS : D → D → Option D
  | .str x, .str y => some (.bl (!decide (x = y)))
  | _, _ => none
theorem r_eqS {P : Program} {w : World} : R2V P w rEq gEqS := ⟨by
  intro S B H x y d e z Q dom rx ry hg q
  cases d <;> cases e <;> cases hg
  rw [rx.str_inv, ry.str_inv]
  refine ⟨rfl, ?_⟩
  have e1 : ∀ a b : Str, decide (V.str a = V.str b) = decide (a = b) := fun a b => by simp
  rw [e1]
  exact q _ H (Same.refl H) (.bl _)⟩
theorem r_neS {P : Program} {w : World} : R2V P w rNe gNeS := ⟨by
  intro S B H x y d e z Q dom rx ry hg q
  cases d <;> cases e <;> cases hg
  rw [rx.str_inv, ry.str_inv]
  refine ⟨rfl, ?_⟩
  have e1 : ∀ a b : Str, decide (V.str a = V.str b) = decide (a = b) := fun a b => by simp
  rw [e1]
  exact q _ H (Same.refl H) (.bl _)⟩
/-- the operators of comparisons, with what they ask -/
structure Cmp (X : Cx) (op : CmpOp) (g : D → D → Option D) : Prop where
  ex : ∃ r : R2, OpR X (compareOp op) r ∧ R2V X.prog X.w r g
variable {k : Nat} (m : Rm k X)
theorem Cmp.eq (m : Rm k X) : Cmp X .Eq gEq := ⟨_, OpR.or op_eq (op_eqD (by have := m.units; omega)), R2V.or r_eqS r_eqD fun a b z e => by cases a <;> cases b <;> first | exact .inr e | exact .inl e⟩
theorem Cmp.ne (m : Rm k X) : Cmp X .NotEq gNe := ⟨_, OpR.or op_ne (op_neD (by have := m.units; omega)), R2V.or r_neS r_neD fun a b z e => by cases a <;> cases b <;> first | exact .inr e | exact .inl e⟩
theorem Cmp.in_ (m : Rm k X) : Cmp X .In gIn := ⟨_, OpR.or (op_inD (by have := m.units; omega)) (op_inT (by have := m.units; omega)), r_inD⟩
theorem Cmp.notIn (m : Rm k X) : Cmp X .NotIn gNotIn := ⟨_, OpR.or (op_notInD (by have := m.units; omega)) (op_notInT (by have := m.units; omega)), r_notInD⟩
theorem Cmp.is_ : Cmp X .Is gIsN := ⟨_, op_isN1, r_isN⟩
theorem Cmp.isNot : Cmp X .IsNot gIsNot := ⟨_, op_notN1, r_isNot⟩
theorem Cmp.lt : Cmp X .Lt gLt := ⟨_, op_lt, r_B0⟩
theorem Cmp.le : Cmp X .LtE gLe := ⟨_, op_le, r_B0⟩
theorem Cmp.gt : Cmp X .Gt gGt := ⟨_, op_gt, r_B0⟩
theorem Cmp.ge : Cmp X .GtE gGe := ⟨_, op_ge, r_B0⟩
variable {a b c : Expr} {pos : Pos} {fa fb fc : EE} {op op' : CmpOp} {g g' : D → D → Option D}
theorem vc (h : Cmp X op g) (ha : PE X a (tI X.prog X.w fa)) (hb : PE X b (tI X.prog X.w fb)) (hm : behindInMarks op b = false := by first | exact nomark _ | rfl) : PE X (.Compare a [op] [b] pos) (tV X.prog X.w (e2 g fa fb)) := by
  obtain ⟨r, h1, h2⟩ := h.ex
  exact v_cmp h1 h2 ha hb hm
theorem tc (h : Cmp X op g) (ha : PE X a (tI X.prog X.w fa)) (hb : PE X b (tI X.prog X.w fb)) (hm : behindInMarks op b = false := by first | exact nomark _ | rfl) : PT X (.Compare a [op] [b] pos) (tT X.prog X.w (bE (e2 g fa fb))) := by
  obtain ⟨r, h1, h2⟩ := h.ex
  exact t_cmp h1 h2 ha hb hm
theorem vcc (h : Cmp X op g) (h' : Cmp X op' g') (ha : PE X a (tI X.prog X.w fa)) (hb : PE X b (tI X.prog X.w fb)) (hc : PE X c (tI X.prog X.w fc)) (hm : lastMarks [op, op'] [b, c] = false := by with_unfolding_all rfl) : PE X (.Compare a [op, op'] [b, c] pos) (tV X.prog X.w (chain g g' fa fb fc)) := by
  obtain ⟨r, h1, h2⟩ := h.ex
  obtain ⟨r', h3, h4⟩ := h'.ex
  exact v_chain h1 h2 h3 h4 ha hb hc hm
theorem tcc (h : Cmp X op g) (h' : Cmp X op' g') (ha : PE X a (tI X.prog X.w fa)) (hb : PE X b (tI X.prog X.w fb)) (hc : PE X c (tI X.prog X.w fc)) (hm : lastMarks [op, op'] [b, c] = false := by with_unfolding_all rfl) : PT X (.Compare a [op, op'] [b, c] pos) (tT X.prog X.w (bE (chain g g' fa fb fc))) := by
  obtain ⟨r, h1, h2⟩ := h.ex
  obtain ⟨r', h3, h4⟩ := h'.ex
  exact t_chain h1 h2 h3 h4 ha hb hc hm
end

/-! ### tuple(..), list(..), sorted(..) -/
def gTup : List D → Option D
  | [.lst l] => if l.length ≤ LIM then some (.tup l) else none
  | [.tup l] => some (.tup l)
  | _ => none
def gLst : List D → Option (List D)
  | [.lst l] => some l
  | [.tup l] => some l
  | _ => none
section
variable {X : Cx}
def rTupZ (K : PySem.W.Frag) : List V → Hp → VK → Prop := fun xs H Q => ∃ a ys, xs = [.ref a] ∧ ((SqL K H a ys ∧ ∀ l o, H l = none → o.dict = none → Q (.ref l) (upd H l (.frz o (.tup ys)))) ∨ (SqT K H a ys ∧ Q (.ref a) H))
theorem call_tupZ : CallR X (.type "tuple") (rTupZ X.K) := by
  rintro pins s σ H xs us Q I r ⟨a, ys, rfl, h⟩
  obtain ⟨u, rfl, rx⟩ := vals1 r
  cases rx
  rcases h with ⟨hq, q⟩ | ⟨hq, q⟩
  · obtain ⟨its, r', pl, hz⟩ := I.list hq
    have hlen := r'.length
    refine call_tuple_list pl.isList (fun h1 kp => ?_) (by simp only [List.size_toArray]; omega)
    have I1 : Inv X pins σ H { s with heap := h1 } := I.kept (t' := s.toks) kp
    exact ⟨.ref h1.objs.size, _, newTup (t' := s.toks) I1 r' hz, rfl, q _ _ (freshI I1) rfl⟩
  · obtain ⟨its, r', pl, hz⟩ := I.tuple hq
    exact call_tuple_same pl ⟨.ref a, H, I, rfl, q⟩
theorem rc_tup {P : Program} {w : World} {K : PySem.W.Frag} : RCV P w (rTupZ K) gTup := ⟨by
  intro S B H xs ds z Q dom rx e q
  unfold gTup at e
  split at e
  · split at e <;> cases e
    obtain ⟨x, rfl, r⟩ := rx.one
    obtain ⟨a, vs, rfl, ha, l⟩ := r.lst_inv
    exact ⟨a, vs, rfl, .inl ⟨.inl (.inl ha), fun p o n hd => q _ _ (same_new n) (rep_new dom n hd l)⟩⟩
  · cases e
    obtain ⟨x, rfl, r⟩ := rx.one
    obtain ⟨a, vs, o, rfl, ha, oa, na, l⟩ := r.tup_inv
    exact ⟨a, vs, rfl, .inr ⟨.inl (.inr ⟨o, ha⟩), q _ H (Same.refl H) (.tup na ⟨o, ha, oa⟩ l)⟩⟩
  · cases e⟩
theorem rc_lst {P : Program} {w : World} {K : PySem.W.Frag} : RCF P w (fun xs H Q => ∃ p ys, xs = [.ref p] ∧ (SqL K H p ys ∨ SqT K H p ys) ∧ ∀ l, H l = none → Q (.ref l) (upd H l (.lst ys))) gLst := ⟨by
  intro S B H xs ds z Q dom rx e q
  unfold gLst at e
  split at e <;> cases e
  · obtain ⟨x, rfl, r⟩ := rx.one
    obtain ⟨a, vs, rfl, ha, l⟩ := r.lst_inv
    exact ⟨a, vs, rfl, .inl (.inl (.inl ha)), fun p n => q _ _ _ (same_new n) n upd_same (l.ext (new_ext n))⟩
  · obtain ⟨x, rfl, r⟩ := rx.one
    obtain ⟨a, vs, o, rfl, ha, oa, na, l⟩ := r.tup_inv
    exact ⟨a, vs, rfl, .inr (.inl (.inr ⟨o, ha⟩)), fun p n => q _ _ _ (same_new n) n upd_same (l.ext (new_ext n))⟩⟩
end

open PySem.W in
def sortOk (l : List D) : Bool := flats l && decide (l.length ≤ LIM) && (l.all fun a => l.all fun b => alike (py a) (py b)) && ((l.all fun a => match a with | .tup (_ :: _) => true | _ => false) || (l.all fun a => match a with | .tup _ => false | .non => false | _ => true)) && l.all fun a => decide ((py a).depth ≤ 60)
def sortD (b : Bool) (l : List D) : List D := l.mergeSort (PySem.W.dataLe b py)
def gSrt (b : Bool) : List D → Option (List D)
  | [.lst l] => if sortOk l = true then some (sortD b l) else none
  | [.tup l] => if sortOk l = true then some (sortD b l) else none
  | _ => none
section
variable {X : Cx}
theorem flats_mem {l : List D} (h : flats l = true) : ∀ a ∈ l, flat a = true := by
  induction l with
  | nil => simp
  | cons b l ih => 
    intro a ha
    rcases List.mem_cons.mp ha with rfl | ha
    · exact (flats_cons h).1
    · exact ih (flats_cons h).2 a ha
theorem sortOk_spec {l : List D} (h : sortOk l = true) : flats l = true ∧ l.length ≤ LIM ∧ PySem.W.AllAlike (l.map py) ∧ PySem.W.Sortable (l.map py) ∧ ∀ a ∈ l, (py a).depth ≤ 60 := by
  unfold sortOk at h
  simp only [Bool.and_eq_true, Bool.or_eq_true, decide_eq_true_eq, List.all_eq_true] at h
  obtain ⟨⟨⟨⟨h1, h2⟩, h3⟩, h4⟩, h5⟩ := h
  refine ⟨h1, h2, fun d hd d' hd' => ?_, ?_, h5⟩
  · obtain ⟨a, ha, rfl⟩ := List.mem_map.mp hd
    obtain ⟨b, hb, rfl⟩ := List.mem_map.mp hd'
    exact h3 a ha b hb
  · rcases h4 with h4 | h4
    · refine .inl fun d hd => ?_
      obtain ⟨a, ha, rfl⟩ := List.mem_map.mp hd
      have := h4 a ha
      split at this
      · rename_i x r
        exact ⟨py x, pys r, by rw [py, pys]⟩
      · cases this
    · refine .inr fun d hd => ?_
      obtain ⟨a, ha, rfl⟩ := List.mem_map.mp hd
      have h6 := h4 a ha
      have h7 := flats_mem h1 _ ha
      cases a with
      | tup _ => cases h6
      | non => cases h6
      | src => cases h7
      | bl b => constructor <;> intros <;> simp [py]
      | int b => constructor <;> intros <;> simp [py]
      | str b => constructor <;> intros <;> simp [py]
      | lst b => constructor <;> intros <;> simp [py]
      | dct b => constructor <;> intros <;> simp [py]
/-- values with their data -/
inductive Both (R : V → D → Prop) : List V → List D → Prop
  | nil : Both R [] []
  | cons {v : V} {vs : List V} {d : D} {ds : List D} : R v d → Both R vs ds → Both R (v :: vs) (d :: ds)
theorem Both.each {R : V → D → Prop} : ∀ {vs : List V} {ds : List D} {us : List Value}, Both R vs ds → Vals vs us → PySem.W.EachIs (fun u d => ∃ v, RelV v u ∧ R v d) us ds
  | _, _, _, .nil, .nil => .nil
  | _, _, _, .cons r l, .cons q t => .cons ⟨_, q, r⟩ (Both.each l t)
theorem Both.of {R : V → D → Prop} : ∀ {us : List Value} {ds : List D}, PySem.W.EachIs (fun u d => ∃ v, RelV v u ∧ R v d) us ds → ∃ vs, Vals vs us ∧ Both R vs ds
  | _, _, .nil => ⟨[], .nil, .nil⟩
  | _, _, .cons ⟨v, q, r⟩ t => by
    obtain ⟨vs, h1, h2⟩ := Both.of t
    exact ⟨v :: vs, .cons q h1, .cons r h2⟩
theorem Both.length {R : V → D → Prop} : ∀ {vs : List V} {ds : List D}, Both R vs ds → vs.length = ds.length
  | _, _, .nil => rfl
  | _, _, .cons _ l => congrArg Nat.succ (Both.length l)
theorem Reps.both {P : Program} {w : World} {S : SA} {B : Addr → Prop} {H : Hp} : ∀ {vs : List V} {ds : List D}, Reps P w S B H vs ds → Both (Rep P w S B H) vs ds
  | _, _, .nil => .nil
  | _, _, .cons r l => .cons r (Reps.both l)
theorem Both.reps {P : Program} {w : World} {S : SA} {B : Addr → Prop} {H : Hp} : ∀ {vs : List V} {ds : List D}, Both (Rep P w S B H) vs ds → Reps P w S B H vs ds
  | _, _, .nil => .nil
  | _, _, .cons r l => .cons r (Both.reps l)
def rSrtD (K : PySem.W.Frag) (b : Bool) : List V → Hp → VK → Prop := fun vs H Q => ∃ (a : Addr) (xs : List V) (ds : List D) (R : V → D → Prop), vs = [.ref a] ∧ (SqL K H a xs ∨ SqT K H a xs) ∧ Both R xs ds ∧ (∀ v d, R v d → Dp K H v (py d)) ∧ sortOk ds = true ∧
  ∀ zs p, Both R zs (sortD b ds) → H p = none → Q (.ref p) (upd H p (.lst zs))
theorem srt_run {k : Nat} (m : Rm k X) {b : Bool} {kw : List (Str × Value)} (hkw : kw = [(Str.ofString "reverse", .bool b)] ∨ kw = [] ∧ b = false) {pins : List (Addr × Obj)} {s : Shared} {σ : St} {H : Hp} {xs : List V} {us : List Value} {Q : VK} (I : Inv X pins σ H s) (r : Vals xs us) (h : rSrtD X.K b xs H Q) :
    wpAny (model X.prog X.w) X.A (call (.builtin "sorted") us kw) (EP X pins σ Q) X.xe s := by
  obtain ⟨a, ys, ds, R, rfl, hs, bt, hdp, ok, q⟩ := h
  obtain ⟨u, rfl, rx⟩ := vals1 r
  cases rx
  obtain ⟨h1, h2, h3, h4, h5⟩ := sortOk_spec ok
  obtain ⟨its, T, o, n, rv, hT, ho, hc, hd⟩ : ∃ (its : List Value) (T : String) (o : Obj) (n : Nat), Vals ys its ∧ (T = "list" ∨ T = "tuple") ∧ s.heap.get? a = some o ∧ o.cls = .type T ∧ o.data = .seq its.toArray n := by
    rcases hs with hs | hs
    · obtain ⟨its, rv, pl, _⟩ := I.list hs
      obtain ⟨o, ho, hc, n, hd⟩ := pl.isList
      exact ⟨its, _, o, n, rv, .inl rfl, ho, hc, hd⟩
    · obtain ⟨its, rv, pl, _⟩ := I.tuple hs
      obtain ⟨o, ho, hc, n, hd⟩ := pl
      exact ⟨its, _, o, n, rv, .inr rfl, ho, hc, hd⟩
  have hL : ds.length ≤ sizeLine := Nat.le_trans h2 (Nat.le_of_lt lim_line)
  refine sort_seq (enc := py) (R := fun u d => ∃ v, RelV v u ∧ R v d) hkw hT ho hc hd (bt.each rv) ((bt.each rv).mono fun u d ⟨v, r1, r2⟩ => Dp.reads I (py d) v u (hdp v d r2) r1) h3 h4 hL (fun d hd => ?_) fun out p h1' h' c l1 l2 k1 hp k2 ho' => ?_
  · have := h5 d hd
    have := m.units
    omega
  · obtain ⟨zs, r1, r2⟩ := Both.of l2
    have I1 : Inv X pins σ H { s with heap := h1' } := I.kept (t' := s.toks) k1
    have hz : zs.length ≤ sizeLine := by rw [r1.length, l1]; exact hL
    exact ⟨.ref p, upd H p (.lst zs), I1.laid (t' := s.toks) k2 hp ⟨hz, out, c, r1, ho'⟩, rfl, q zs p r2 (I1.hok.fresh hp)⟩
theorem cr_srt {k : Nat} (m : Rm k X) : CallR X (.builtin "sorted") (rSrtD X.K false) := fun pins s σ H xs us Q I r h => srt_run m (.inr ⟨rfl, rfl⟩) I r h
theorem RepI.seq {P : Program} {w : World} {K : PySem.W.Frag} {S : SA} {B : Addr → Prop} {H : Hp} {v : V} {d : D} {l : List D} (h : RepI P w S B H v d) (e : seqD d = some l) : ∃ a vs, v = .ref a ∧ (SqL K H a vs ∨ SqT K H a vs) ∧ Reps P w S B H vs l := by
  cases d <;> cases e
  · obtain ⟨a, vs, o, rfl, ha, oa, na, l⟩ := h.tup_inv
    exact ⟨a, vs, rfl, .inr (.inl (.inr ⟨o, ha⟩)), l⟩
  · obtain ⟨a, vs, rfl, ha, l⟩ := h.lst_inv
    exact ⟨a, vs, rfl, .inl (.inl (.inl ha)), l⟩
theorem rc_srt {P : Program} {w : World} {K : PySem.W.Frag} {b : Bool} : RCF P w (rSrtD K b) (gSrt b) := ⟨by
  intro S B H xs ds z Q dom rx e q
  have key : ∃ d l, ds = [d] ∧ seqD d = some l ∧ sortOk l = true ∧ z = sortD b l := by
    unfold gSrt at e
    split at e
    · split at e <;> cases e
      exact ⟨_, _, rfl, rfl, by assumption, rfl⟩
    · split at e <;> cases e
      exact ⟨_, _, rfl, rfl, by assumption, rfl⟩
    · cases e
  obtain ⟨d, l, rfl, e1, ok, rfl⟩ := key
  obtain ⟨x, rfl, r⟩ := rx.one
  obtain ⟨a, vs, rfl, hs, l1⟩ := r.seq (K := K) e1
  refine ⟨a, vs, l, fun v d => Rep P w S B H v d ∧ flat d = true, rfl, hs, ?_, fun v d h => h.1.dp h.2, ok, fun zs p h n => ?_⟩
  · have hf := flats_mem (sortOk_spec ok).1
    have l2 := l1.both
    clear e1 ok e r rx hs q l1
    induction l2 with
    | nil => exact .nil
    | cons r l ih => exact .cons ⟨r, hf _ (by simp)⟩ (ih fun a ha => hf a (by simp [ha]))
  · refine q p _ zs (same_new n) n upd_same (Reps.ext (new_ext n) ?_)
    generalize sortD b l = zl at h
    clear e1 ok e r rx hs q l1
    induction h with
    | nil => exact .nil
    | cons r l ih => exact .cons r.1 ih⟩
end
end Pv

set_option Elab.async false
set_option linter.all false
set_option maxRecDepth 100000
set_option maxHeartbeats 1000000
namespace Pv
open PySem PySem.Spec L2
open PyProof.Rows hiding St

/-! ### x[::-1] -/
section
open HT
variable {prog : Program} {w : World} {A : Around} {E : Value → Shared → Prop} {s : Shared}
theorem applied_rev {sl : Addr} {vs : Value} {n : Nat} {Q : Int × Int × Nat → Shared → Prop} (hs : s.heap.IsSliceOf sl .none .none vs) (ps : IsPart vs (some (-1))) (h : Q ((n : Int) - 1, -1, n) s) : wpAny (model prog w) A (Builtin.Slice.sliceApplied (.ref sl) (pure (n : Int))) Q E s := by
  obtain ⟨os, hos, hcs, hds⟩ := id hs
  unfold Builtin.Slice.sliceApplied Builtin.Slice.sliceFields
  refine wpAny_bind (wpAny_bind (wpAny_field hos hds (x := .none) rfl (wpAny_bind (wpAny_field hos hds (x := .none) rfl (wpAny_bind (wpAny_field hos hds (x := vs) rfl (wpAny_pure ?_)))))))
  refine wpAny_bind (slicePart_ ps ?_)
  show wpAny _ _ (if ((-1 : Int) == 0) = true then _ else _) _ _ s
  rw [if_neg (by decide)]
  refine wpAny_bind (slicePart_none (wpAny_bind (slicePart_none (wpAny_bind (wpAny_pure ?_)))))
  show wpAny _ _ (match Builtin.Slice.sliceAdjust none none (-1) (n : Int) with | (lo, hi) => pure (lo, (-1 : Int), Builtin.Slice.slicePlaces lo hi (-1))) _ _ s
  have e1 : Builtin.Slice.sliceAdjust none none (-1) (n : Int) = ((n : Int) - 1, -1) := by
    unfold Builtin.Slice.sliceAdjust
    simp
  have e2 : Builtin.Slice.slicePlaces ((n : Int) - 1) (-1) (-1) = n := by
    unfold Builtin.Slice.slicePlaces
    simp
    split <;> omega
  rw [e1]
  show wpAny _ _ (pure ((n : Int) - 1, (-1 : Int), Builtin.Slice.slicePlaces ((n : Int) - 1) (-1) (-1))) _ _ s
  rw [e2]
  exact wpAny_pure h
theorem pick_rev (xs : Array Value) : ((List.range xs.size).filterMap fun (m : Nat) => xs[((xs.size : Int) - 1 + (m : Int) * -1).toNat]?).toArray = xs.toList.reverse.toArray := by
  have e : (List.range xs.size).filterMap (fun (m : Nat) => xs[((xs.size : Int) - 1 + (m : Int) * -1).toNat]?) = ((List.range xs.size).map fun k => xs.size - 1 - k).filterMap (xs[·]?) := by
    rw [List.filterMap_map]
    have e2 : (fun (m : Nat) => xs[((xs.size : Int) - 1 + (m : Int) * -1).toNat]?) = (fun x => xs[x]?) ∘ fun k => xs.size - 1 - k := by
      funext m
      have e3 : ((xs.size : Int) - 1 + (m : Int) * -1).toNat = xs.size - 1 - m := by omega
      show xs[((xs.size : Int) - 1 + (m : Int) * -1).toNat]? = xs[xs.size - 1 - m]?
      rw [e3]
    rw [e2]
  rw [e, PySem.W.krv_range, List.filterMap_reverse, PySem.W.krv_all]
theorem getItem_rev {t sl : Addr} {items : Array Value} {vs : Value} {Q : Value → Shared → Prop} (ht : IsTup s.heap t items) (hs : s.heap.IsSliceOf sl .none .none vs) (ps : IsPart vs (some (-1)))
    (h : Q (.ref s.heap.objs.size) { s with heap := s.heap.push { cls := .type "tuple", data := .seq items.toList.reverse.toArray } }) (hsz : items.size ≤ sizeLine) : wpAny (model prog w) A (getItem (.ref t) (.ref sl)) Q E s := by
  have hz : sizeOk (.seq items.toList.reverse.toArray) := by
    show items.toList.reverse.toArray.size ≤ sizeLine
    rw [List.size_toArray, List.length_reverse, Array.length_toList]; exact hsz
  obtain ⟨os, hos, hcs, hds⟩ := id hs
  have hTs : s.TypeIs (.ref sl) "slice" := ⟨os, hos, hcs⟩
  unfold getItem
  try with_reducible refine wpAny_holding ?_
  first | refine wpAny_bind (wpAny_pure ?_) | skip
  refine wpAny_bind (wpAny_sequenceKey ht.typeIs (by decide) ?_)
  refine wpAny_bind (wpAny_callSpecial?_slot (name := Str.ofString "__getitem__") ht.typeIs PyProof.Rows.slot_tuple_getitem (wpAny_call_entry PyProof.Rows.slot_tuple_getitem ht.typeIs entry_tuple_getitem ?_ (args_tuple_getitem _ _)))
  show wpAny _ _ (Builtin.Tuple.tupleItemsOf (.ref t) >>= _) _ _ s
  refine wpAny_bind (tupleItemsOf_ ht ?_)
  refine wpAny_bind (wpAny_typeOf hTs ?_)
  rw [if_pos (by decide)]
  refine wpAny_bind (applied_rev hs ps ?_)
  show wpAny _ _ (if (((items.size : Int) - 1) == 0 && (-1 : Int) == 1 && items.size == items.size) = true then _ else _) _ _ s
  rw [if_neg (by simp), pick_rev]
  first
    | exact wpAny_bind (m := Builtin.Tuple.tupleExact _) (wpAny_newObj_type (wpAny_pure ⟨_, rfl, wpAny_pure h⟩) hz)
    | exact wpAny_bind (m := Builtin.Tuple.tupleExact _) (wpAny_newObj_type (wpAny_bind (wpAny_pure (wpAny_pure ⟨_, rfl, wpAny_pure h⟩))) hz)
    | exact wpAny_bind (wpAny_bind (m := Builtin.Tuple.tupleExact _) (wpAny_newObj_type (wpAny_pure (wpAny_pure ⟨_, rfl, wpAny_pure h⟩)) hz))
    | exact wpAny_bind (wpAny_bind (m := Builtin.Tuple.tupleExact _) (wpAny_newObj_type (wpAny_pure ⟨_, rfl, wpAny_pure h⟩) hz))
end
section
variable {X : Cx}
def tRevT (K : PySem.W.Frag) (te : TE) : TE := fun σ H Q => te σ H fun x H1 => ∃ a xs, x = .ref a ∧ SqT K H1 a xs ∧ ∀ (p : Addr) (o : Obj), H1 p = none → o.dict = none → Q (.ref p) (upd H1 p (.frz o (.tup xs.reverse)))
theorem pe_revT {e : Expr} {te : TE} {k : Nat} {p1 p2 p3 pos : Pos} (he : PE X e te) : PE X (.Subscript e (.Slice none none (some (.UnaryOp .USub (.Constant (.int 1) k p1) p2)) p3) pos) (tRevT X.K te) := by
  refine ⟨fun pins s σ H Q I h => Subscript_ (thn (he.run pins s σ H _ I h) ?_)⟩
  rintro v s1 ⟨x, H1, I1, r1, a, xs, rfl, hx, q⟩
  cases r1
  have hst : PO X (some (.UnaryOp .USub (.Constant (.int 1) k p1) p2)) (tPart (tUn (rU fun i => .int (-i)) (tC (.int 1)))) := po_some (pe_un un_neg pe_int)
  refine wpAny_Slice (thn (po_none.run pins s1 σ H1 (fun o H2 => o = none ∧ H2 = H1) I1 ⟨rfl, rfl⟩) ?_)
  rintro vl s2 ⟨l, H2, I2, pl, rfl, rfl⟩
  refine thn (po_none.run pins s2 σ H2 (fun o H3 => o = none ∧ H3 = H2) I2 ⟨rfl, rfl⟩) ?_
  rintro vu s3 ⟨u, H3, I3, pu, rfl, rfl⟩
  refine thn (hst.run pins s3 σ H3 (fun o H4 => o = some (-1) ∧ H4 = H3) I3 ⟨1, rfl, -1, rfl, rfl, rfl⟩) ?_
  rintro vs s4 ⟨o, H4, I4, ps, rfl, rfl⟩
  cases pl
  cases pu
  have I5 : Inv X pins σ H4 { s4 with heap := s4.heap.push { cls := .type "slice", data := .fields #[.none, .none, vs] } } := I4.kept (t' := s4.toks) fun b ob q => Heap.get?_push_of_some _ q
  obtain ⟨its, r, ht, hz⟩ := I5.tuple hx
  have hlen := r.length
  show wpAny (model X.prog X.w) X.A (subscriptTail e (.Slice none none (some (.UnaryOp .USub (.Constant (.int 1) k p1) p2)) p3) (.ref a) (.ref s4.heap.objs.size)) (EP X pins σ Q) X.xe { s4 with heap := s4.heap.push { cls := .type "slice", data := .fields #[.none, .none, vs] } }
  refine tail_any (ops := [.ref a, .ref s4.heap.objs.size]) ht.typeIs PyProof.Rows.slot_tuple_getitem.lookup ?_ (by with_unfolding_all rfl)
  have hsl : (s4.heap.push { cls := .type "slice", data := .fields #[.none, .none, vs] }).IsSliceOf s4.heap.objs.size .none .none vs := Heap.IsSliceOf.new _ .none .none vs
  refine getItem_rev (s := { s4 with heap := s4.heap.push { cls := .type "slice", data := .fields #[.none, .none, vs] } }) ht hsl ps ?_ (by rw [List.size_toArray]; omega)
  exact ⟨.ref (s4.heap.push { cls := .type "slice", data := .fields #[.none, .none, vs] }).objs.size, _, newTup (t' := s4.toks) I5 r.reverse (by rw [List.length_reverse]; exact hz), rfl, q _ _ (freshI I5) rfl⟩
variable {e : Expr} {f : EE} {k : Nat} {p1 p2 p3 pos : Pos}
def gRevT : D → Option D
  | .tup l => some (.tup l.reverse)
  | _ => none
def gRevF : D → Option (List D)
  | .lst l => some l.reverse
  | _ => none
theorem v_revT (he : PE X e (tI X.prog X.w f)) : PE X (.Subscript e (.Slice none none (some (.UnaryOp .USub (.Constant (.int 1) k p1) p2)) p3) pos) (tV X.prog X.w (e1 gRevT f)) :=
  PE.imp (pe_revT he) fun σ H Q q => go1 (r := fun x H1 Q => ∃ a xs, x = .ref a ∧ SqT X.K H1 a xs ∧ ∀ (p : Addr) (o : Obj), H1 p = none → o.dict = none → Q (.ref p) (upd H1 p (.frz o (.tup xs.reverse)))) ⟨by
    intro S B H x d z Q dom rx e q
    cases d <;> cases e
    obtain ⟨a, vs, o, rfl, ha, oa, na, l⟩ := rx.tup_inv
    exact ⟨a, vs, rfl, .inl (.inr ⟨o, ha⟩), fun p (ob : Obj) n (hd : ob.dict = none) => q _ _ (same_new n) (rep_new dom n hd l.reverse)⟩⟩ q
theorem v_revL (he : PE X e (tI X.prog X.w f)) : PE X (.Subscript e (.Slice none none (some (.UnaryOp .USub (.Constant (.int 1) k p1) p2)) p3) pos) (tF X.prog X.w (f1 gRevF f)) :=
  PE.imp (pe_revL he) fun σ H Q q => go1F (r := fun x H1 Q => ∃ a xs, x = .ref a ∧ SqL X.K H1 a xs ∧ ∀ p, H1 p = none → Q (.ref p) (upd H1 p (.lst xs.reverse))) ⟨by
    intro S B H x d z Q dom rx e q
    cases d <;> cases e
    obtain ⟨a, vs, rfl, ha, l⟩ := rx.lst_inv
    exact ⟨a, vs, rfl, .inl (.inl ha), fun p n => q _ _ _ (same_new n) n upd_same (l.reverse.ext (new_ext n))⟩⟩ q

/-! ### sorted(.., reverse=True) -/
theorem f_srtR {k : Nat} {x : Str} {p pos kp cp : Pos} {e : Expr} {es : List Expr} {fa : EA} {j : Nat} (m : Rm k X) (hx : x = "sorted" := by rfl) (hg : Gl X x) (hm : X.mg x = none) (ha : PA X (e :: es) (tAI X.prog X.w fa)) (hn : x ≠ "__name__" := by decide) (hdb : (x == ("__debug__" : Str)) = false := by decide) (hv : bootBuiltins x = some (.builtin "sorted") := by rfl)
    (he : backTo pos (starEach (e :: es) X.env) = (false, eval e X.env) :: backTo pos (starEach es X.env) := by rfl) (hpl : (backTo pos (starEach (e :: es) X.env)).any (·.1) = false := by rfl) (kws : List Keyword := [⟨some "reverse", .Constant (.bool true) j cp, kp⟩])
    (hkw : kws = [⟨some "reverse", .Constant (.bool true) j cp, kp⟩] := by rfl)
    (hall : (backToKw pos (keywordEach kws X.env)).all (·.1.isSome) = true := by rfl) (hnone : (backToKw pos (keywordEach kws X.env)).any (·.1.isNone) = false := by rfl) (hks : (backToKw pos (keywordEach kws X.env)).filterMap (·.1) = [Str.ofString "reverse"] := by rfl) :
    PE X (.Call (.Name x p) (e :: es) kws pos) (tF X.prog X.w (fCl (gSrt true) fa)) := by
  subst hkw
  refine PE.imp (pe_callBK (r := fun xs zs H Q => zs = [.bl true] ∧ rSrtD X.K true xs H Q) (fun pins s σ H xs zs us ws Q I r rz h => ?_) hg hm hv ha (pk_cons pe_bl pk_nil) hn hdb he hpl hall hnone hks) fun σ H Q q => ?_
  · obtain ⟨rfl, h⟩ := h
    obtain ⟨u, rfl, e⟩ := vals1 rz
    cases (show u = Value.bool true from e)
    exact srt_run m (.inl rfl) I r h
  · have q2 := goCF (r := fun xs H Q => rSrtD X.K true xs H Q) rc_srt q
    show tAI X.prog X.w fa σ H _
    obtain ⟨S, B0, ρ, fp, s, d, s', R, e, q⟩ := q2
    exact ⟨S, B0, ρ, fp, s, d, s', R, e, fun vs H' k o l => ⟨rfl, q vs H' k o l⟩⟩
end
end Pv

set_option Elab.async false
set_option linter.all false
set_option maxRecDepth 100000
set_option maxHeartbeats 1000000
namespace Pv
open PySem PySem.Spec L2
open PyProof.Rows hiding St

/-! ### isinstance -/
def tyN : D → Option String
  | .non => some "NoneType"
  | .bl _ => some "bool"
  | .int _ => some "int"
  | .str _ => some "str"
  | .tup _ => some "tuple"
  | .lst _ => some "list"
  | .dct _ => some "dict"
  | .src => none
/-- T is such a class, and which data are of it -/
structure IsT (T : String) (f : String → Bool) : Prop where
  non : ∀ K, PySem.W.kitOne K (.type "NoneType") (.type T) = some (f "NoneType")
  bl : ∀ K, PySem.W.kitOne K (.type "bool") (.type T) = some (f "bool")
  int : ∀ K, PySem.W.kitOne K (.type "int") (.type T) = some (f "int")
  str : ∀ K, PySem.W.kitOne K (.type "str") (.type T) = some (f "str")
  tup : ∀ K, PySem.W.kitOne K (.type "tuple") (.type T) = some (f "tuple")
  lst : ∀ K, PySem.W.kitOne K (.type "list") (.type T) = some (f "list")
  dct : ∀ K, PySem.W.kitOne K (.type "dict") (.type T) = some (f "dict")
def fInt (t : String) : Bool := t == "int" || t == "bool"
theorem is_int : IsT "int" fInt := ⟨fun K => by kernel_rfl, fun K => by kernel_rfl, fun K => by kernel_rfl, fun K => by kernel_rfl, fun K => by kernel_rfl, fun K => by kernel_rfl, fun K => by kernel_rfl⟩
theorem is_bool : IsT "bool" (· == "bool") := ⟨fun K => by kernel_rfl, fun K => by kernel_rfl, fun K => by kernel_rfl, fun K => by kernel_rfl, fun K => by kernel_rfl, fun K => by kernel_rfl, fun K => by kernel_rfl⟩
theorem is_str : IsT "str" (· == "str") := ⟨fun K => by kernel_rfl, fun K => by kernel_rfl, fun K => by kernel_rfl, fun K => by kernel_rfl, fun K => by kernel_rfl, fun K => by kernel_rfl, fun K => by kernel_rfl⟩
theorem is_tup : IsT "tuple" (· == "tuple") := ⟨fun K => by kernel_rfl, fun K => by kernel_rfl, fun K => by kernel_rfl, fun K => by kernel_rfl, fun K => by kernel_rfl, fun K => by kernel_rfl, fun K => by kernel_rfl⟩
theorem is_lst : IsT "list" (· == "list") := ⟨fun K => by kernel_rfl, fun K => by kernel_rfl, fun K => by kernel_rfl, fun K => by kernel_rfl, fun K => by kernel_rfl, fun K => by kernel_rfl, fun K => by kernel_rfl⟩
theorem is_dct : IsT "dict" (· == "dict") := ⟨fun K => by kernel_rfl, fun K => by kernel_rfl, fun K => by kernel_rfl, fun K => by kernel_rfl, fun K => by kernel_rfl, fun K => by kernel_rfl, fun K => by kernel_rfl⟩
def gIsi (f : String → Bool) (d : D) : Option D := (tyN d).map fun t => .bl (f t)
/-- the class of a tracked dict with tuple keys -/
theorem dno_is {X : Cx} {pins : List (Addr × Obj)} {σ : L2.St} {H : Hp} {s : Shared} {a : Addr} {ks : List (NestedKey × Addr)} {vs : List V} (I : Inv X pins σ H s) (h : Rd H a (DNo X.prog X.w a ks vs)) : ∃ o es ep, s.heap.get? a = some o ∧ o.ExactDict ∧ o.data = .dict es ep := by
  rcases h with h | ⟨ob, h⟩
  · obtain ⟨⟨_, _, _, _, us, _, o, es, ep, h1, h2, h3, _⟩, _⟩ := I.hok a _ h
    exact ⟨o, es, ep, h1, h2, h3⟩
  · obtain ⟨_, ⟨_, _, _, _, us, _, o, es, ep, h1, h2, h3, _⟩, _⟩ := I.hok a _ h
    exact ⟨o, es, ep, h1, h2, h3⟩
/-- x is of the class t -/
def KX (X : Cx) (H : Hp) (x : V) (t : String) : Prop := TyX X.K H x (.type t) ∨ ∃ a ks vs, x = .ref a ∧ Rd H a (DNo X.prog X.w a ks vs) ∧ t = "dict"
section
variable {X : Cx}
theorem RepI.kx {S : SA} {B : Addr → Prop} {H : Hp} {v : V} {d : D} {t : String} (h : RepI X.prog X.w S B H v d) (e : tyN d = some t) : KX X H v t := by
  cases h with
  | r h =>
    cases h <;> cases e
    · exact .inl (.base .non)
    · exact .inl (.base (.bl _))
    · exact .inl (.base (.int _))
    · exact .inl (.base (.str _))
    · rename_i r _
      obtain ⟨o, r, _⟩ := r
      exact .inl (.fTuple r)
    · rename_i r _
      exact .inl (.base (.lst r))
    · rename_i r _ _
      rcases r with r | ⟨o, r⟩
      · exact .inl (.base (.dK r))
      · exact .inl (.fDict r)
    · rename_i r _ _ _
      exact .inr ⟨_, _, _, rfl, r, rfl⟩
  | l n r l => cases e; exact .inl (.base (.lst r))
  | dk n r z l => cases e; exact .inl (.base (.dK r))
  | dn n r z q l => cases e; exact .inr ⟨_, _, _, rfl, .inl r, rfl⟩
def rIsiX (X : Cx) : List V → Hp → VK → Prop := fun xs H Q => ∃ x T t b, xs = [x, .ty T] ∧ KX X H x t ∧ PySem.W.kitOne X.K (.type t) (.type T) = some b ∧ Q (.bl b) H
theorem call_isiX : CallR X (.builtin "isinstance") (rIsiX X) := by
  rintro pins s σ H xs us Q I r ⟨x, T, t, b, rfl, k, e, q⟩
  rcases k with k | ⟨a, ks, vs, rfl, h, rfl⟩
  · exact call_isi pins s σ H _ us Q I r ⟨x, .ty T, .type t, .type T, b, rfl, .ty T, k, e, q⟩
  · obtain ⟨u1, u2, rfl, r1, r2⟩ := vals2 r
    cases r1
    cases (show u2 = Value.type T from r2)
    obtain ⟨o, es, ep, h1, h2, h3⟩ := dno_is I h
    exact PySem.W.kia_one PySem.W.kitx_dict I.kIn ⟨o, h1, h2.1⟩ e (fun z => nomatch z) fun tk => ⟨.bl b, H, I.tok tk, rfl, q⟩
variable {x y : Str} {p p2 pos : Pos} {e : Expr} {f : EE} {T : String} {g : String → Bool}
theorem v_isi (t : IsT T g) (hg : Gl X x) (hm : X.mg x = none) (hg2 : Gl X y) (hm2 : X.mg y = none) (hv2 : bootBuiltins y = some (.type T)) (ha : PE X e (tI X.prog X.w f)) (hn2 : y ≠ "__name__" := by decide) (hd2 : (y == ("__debug__" : Str)) = false := by decide)
    (hv : bootBuiltins x = some (.builtin "isinstance") := by rfl) (hn : x ≠ "__name__" := by decide) (hdb : (x == ("__debug__" : Str)) = false := by decide)
    (hs : starEach [e, .Name y p2] X.env = (false, eval e X.env) :: starEach [.Name y p2] X.env := by rfl) (hs2 : starEach [.Name y p2] X.env = (false, eval (.Name y p2) X.env) :: starEach [] X.env := by rfl) (hpl : (backTo pos (starEach [.Name y p2] X.env)).any (·.1) = false := by rfl) :
    PE X (.Call (.Name x p) [e, .Name y p2] [] pos) (tV X.prog X.w (e1 (gIsi g) f)) :=
  PE.imp (pe_callB call_isiX hg hm hv (pa_cons ha (pa_cons (pe_bltn (v := .ty T) hg2 hm2 hv2 rfl hn2 hd2) pa_nil hs2) hs) hn hdb hs hpl) fun σ H Q ⟨S, B0, ρ, fp, s, d, s', R, e, q⟩ => by
    obtain ⟨⟨x, s1⟩, e1, e⟩ := bind_some' e
    obtain ⟨z, e2, e⟩ := map_some' e
    cases e
    refine ⟨S, B0, ρ, fp, s, x, s1, R, e1, fun v H1 k o r => ?_⟩
    obtain ⟨tn, e3, e4⟩ := map_some' e2
    subst e4
    have key : PySem.W.kitOne X.K (.type tn) (.type T) = some (g tn) := by
      cases x <;> cases e3
      · exact t.non _
      · exact t.bl _
      · exact t.int _
      · exact t.str _
      · exact t.tup _
      · exact t.lst _
      · exact t.dct _
    exact ⟨v, T, tn, g tn, rfl, r.kx e3, key, q _ H1 k o (.bl _)⟩
end

/-! ### all, any of bools; index -/
def blsD : List D → Option (List Bool)
  | [] => some []
  | .bl b :: r => (blsD r).map (b :: ·)
  | _ :: _ => none
theorem blsD_eq : ∀ {l : List D} {ns : List Bool}, blsD l = some ns → l = ns.map .bl
  | [], _, h => by cases h; rfl
  | .bl i :: r, _, h => by
    obtain ⟨ns, h1, h2⟩ := map_some' (show (blsD r).map (i :: ·) = some _ from h)
    subst h2
    rw [blsD_eq h1]; rfl
theorem Reps.bls_of {P : Program} {w : World} {S : SA} {B : Addr → Prop} {H : Hp} : ∀ {ns : List Bool} {vs : List V}, Reps P w S B H vs (ns.map D.bl) → vs = ns.map V.bl
  | [], _, .nil => rfl
  | n :: r, _, .cons h l => by cases h; rw [Reps.bls_of l]; rfl
def gAll : List D → Option D
  | [.lst l] => (blsD l).map fun bs => .bl (bs.all id)
  | _ => none
def gAny : List D → Option D
  | [.lst l] => (blsD l).map fun bs => .bl (bs.any id)
  | _ => none
theorem rc_all {P : Program} {w : World} {K : PySem.W.Frag} : RCV P w (rAll K) gAll := ⟨by
  intro S B H xs ds z Q dom rx e q
  unfold gAll at e
  split at e
  · obtain ⟨ns, h1, h2⟩ := map_some' e
    subst h2
    obtain ⟨x, rfl, r⟩ := rx.one
    obtain ⟨a, vs, rfl, ha, l⟩ := r.lst_inv
    rw [blsD_eq h1] at l
    exact ⟨a, ns, rfl, .inl (.inl (by rw [← l.bls_of]; exact ha)), q _ H (Same.refl H) (.bl _)⟩
  · cases e⟩
theorem rc_any {P : Program} {w : World} {K : PySem.W.Frag} : RCV P w (rAny K) gAny := ⟨by
  intro S B H xs ds z Q dom rx e q
  unfold gAny at e
  split at e
  · obtain ⟨ns, h1, h2⟩ := map_some' e
    subst h2
    obtain ⟨x, rfl, r⟩ := rx.one
    obtain ⟨a, vs, rfl, ha, l⟩ := r.lst_inv
    rw [blsD_eq h1] at l
    exact ⟨a, ns, rfl, .inl (.inl (by rw [← l.bls_of]; exact ha)), q _ H (Same.refl H) (.bl _)⟩
  · cases e⟩
section
variable {X : Cx} {o e : Expr} {es : List Expr} {fo fe : EE} {apos cpos : Pos}
/-- row.index(k), numbers; k is in it -/
def gIdx (a b : D) : Option D := match a, b with
  | .tup l, .int k => match intsD l with
    | some ns => if k ∈ ns then some (.int (ns.idxOf k : Nat)) else none
    | none => none
  | _, _ => none
theorem v_idx (ho : PE X o (tI X.prog X.w fo)) (he : PE X e (tI X.prog X.w fe))
    (hbase : attributeBase o "index" X.env (eval o X.env) = eval o X.env := by rfl)
    (hfew : ((backTo cpos (starEach [e] X.env)).all (fun x => !x.1) && (backToKw cpos (keywordEach [] X.env)).all (fun x => x.1.isSome)
      && decide ([e].length + ([] : List Keyword).length + (if ([] : List Keyword).isEmpty then 0 else 1) < 30)) = true := by rfl)
    (hline : (apos.endLine == cpos.line) = true := by rfl) (hs : starEach [e] X.env = (false, eval e X.env) :: starEach [] X.env := by rfl) (hplain : (backTo cpos (starEach [] X.env)).any (·.1) = false := by rfl) :
    PE X (.Call (.Attribute o "index" apos) [e] [] cpos) (tV X.prog X.w (e2 gIdx fo fe)) := by
  refine ⟨fun pins s σ H Q I ⟨S, B0, ρ, fp, s0, d, s', R, e0, q⟩ => ?_⟩
  obtain ⟨⟨x, s1⟩, e1, e0⟩ := bind_some' e0
  obtain ⟨⟨y, s2⟩, e2, e0⟩ := bind_some' e0
  obtain ⟨z, e3, e0⟩ := map_some' e0
  cases e0
  unfold gIdx at e3
  split at e3
  · rename_i l k e5 e6
    have e5 : x = .tup l := e5
    have e6 : y = .int k := e6
    subst e5 e6
    split at e3
    · rename_i ns e4
      split at e3
      · rename_i hk
        cases e3
        refine wpAny_Call_method_late hbase hfew hline rfl (thn (ho.run pins s σ H (fun v H1 => Keep S H H1 ∧ SrcOk S s1 H1 ∧ RepI X.prog X.w S (Blk B0 fp) H1 v (.tup l)) I ⟨S, B0, ρ, fp, s0, _, s1, R, e1, fun v H1 a b c => ⟨a, b, c⟩⟩) ?_)
        rintro v st1 ⟨u, H1, I1, r1, k1, o1, q1⟩
        obtain ⟨a, vs, ob, rfl, ha, oa, na, l1⟩ := q1.tup_inv
        cases r1
        have hob := (I1.hok a _ ha).1
        obtain ⟨us, rv, ht, _⟩ := I1.tuple (.inl (.inr ⟨ob, ha⟩))
        refine ⟨"tuple", "tuple.index", PySem.F.plainAttrs_tuple, PySem.F.slot_tuple_index, PySem.F.type_tuple_index, ht.typeIs, fun b z => ?_, ?_⟩
        · cases z; exact ⟨ob, hob, oa⟩
        have hA := (pa_cons he pa_nil hs).run cpos pins st1 σ H1 (fun xs H2 => xs = [.int k] ∧ Keep S H1 H2 ∧ SrcOk S s2 H2) I1 ⟨S, B0, ρ, fp, s1, _, s2, R.keep k1 o1, e2, fun v H2 a b c => ⟨by rw [c.int_inv], a, b⟩⟩
        rw [hs] at hA ⊢
        refine Calls.callWith_builtin (by show (false || (backTo cpos (starEach [] X.env)).any (·.1)) = false; rw [hplain]; rfl) (Calls.evalArgs_plain (thn hA ?_))
        rintro ws st2 ⟨xs, H2, I2, r2, rfl, k2, o2⟩
        obtain ⟨u, rfl, t, rfl⟩ := vals1 r2
        have ha2 := (k2 a _ (fun z => na (R.sBk a z)) ha)
        obtain ⟨us2, rv2, ht2, _⟩ := I2.tuple (.inl (.inr ⟨ob, ha2⟩))
        rw [intsD_eq e4] at l1
        rw [l1.ints_of] at rv2
        refine PySem.SeqAt.tuple_index_ints ht2 (intsAre_of rv2) hk ⟨.int _, H2, I2.tok _, ⟨_, rfl⟩, ?_⟩
        exact q _ H2 (k1.trans k2) o2 (.int _)
      · cases e3
    · cases e3
  · cases e3
end

/-! ### repr -/
def gRepr : List D → Option D
  | [d] => if flat d = true ∧ (py d).showable = true ∧ (py d).shown.length ≤ LIM ∧ (py d).depth ≤ 60 then some (.str (py d).shown) else none
  | _ => none
section
variable {X : Cx}
def rReprD (K : PySem.W.Frag) : List V → Hp → VK → Prop := fun xs H Q => ∃ x d, xs = [x] ∧ Dp K H x d ∧ d.hasDict = false ∧ d.showable = true ∧ d.shown.length ≤ sizeLine ∧ d.depth ≤ 60 ∧ Q (.str d.shown) H
theorem call_reprD {k : Nat} (m : Rm k X) : CallR X (.builtin "repr") (rReprD X.K) := by
  rintro pins s σ H xs us Q I r ⟨x, d, rfl, hd, nd, sh, hz, dp, q⟩
  obtain ⟨u, rfl, rx⟩ := vals1 r
  obtain ⟨as, rd⟩ := Dp.reads I d x u hd rx
  have hu := m.units
  have fin : ∀ (h' : Heap) (t : Tok) (tk : Nat), (∀ b o, s.heap.get? b = some o → h'.get? b = some o) → EP X pins σ Q (.str d.shown t) { s with heap := h', toks := tk } := fun h' t tk kp => ⟨.str d.shown, H, I.kept kp, ⟨t, rfl⟩, q⟩
  cases rd with
  | none => exact PySem.P.repr_of_none (fin s.heap _ _ fun _ _ z => z)
  | bool b => exact PySem.P.repr_of_bool (fin s.heap _ _ fun _ _ z => z)
  | int i t => exact PySem.P.repr_of_int (by simpa [PyData.showable] using sh) (fin s.heap _ _ fun _ _ z => z)
  | str y t => exact PySem.P.repr_of_str (fin s.heap _ _ fun _ _ z => z) hz
  | list h1 h2 h3 h4 => exact repr_of_reads' (.list h1 h2 h3 h4) sh (PyData.noDict_hsm nd) m.g (by omega) (fun _ _ z => z) fin hz
  | tuple h1 h2 h3 h4 => exact repr_of_reads' (.tuple h1 h2 h3 h4) sh (PyData.noDict_hsm nd) m.g (by omega) (fun _ _ z => z) fin hz
  | dict h1 h2 h3 h4 h5 => simp [PyData.hasDict] at nd
mutual
theorem nodict_flat : ∀ {d : D}, flat d = true → (py d).hasDict = false
  | .non, _ => by simp [py, PyData.hasDict]
  | .bl _, _ => by simp [py, PyData.hasDict]
  | .int _, _ => by simp [py, PyData.hasDict]
  | .str _, _ => by simp [py, PyData.hasDict]
  | .tup _, h => by simp only [py, PyData.hasDict]; exact nodict_flats h
  | .lst _, h => by simp only [py, PyData.hasDict]; exact nodict_flats h
  | .dct _, h => by cases h
  | .src, h => by cases h
theorem nodict_flats : ∀ {l : List D}, flats l = true → PyData.hasDictAll (pys l) = false
  | [], _ => by simp [pys, PyData.hasDictAll]
  | _ :: _, h => by simp only [pys, PyData.hasDictAll, nodict_flat (flats_cons h).1, nodict_flats (flats_cons h).2]; rfl
end
theorem rc_repr {P : Program} {w : World} {K : PySem.W.Frag} : RCV P w (rReprD K) gRepr := ⟨by
  intro S B H xs ds z Q dom rx e q
  unfold gRepr at e
  split at e
  · split at e <;> cases e
    rename_i h
    obtain ⟨x, rfl, r⟩ := rx.one
    exact ⟨x, _, rfl, r.dp h.1, nodict_flat h.1, h.2.1, Nat.le_trans h.2.2.1 (Nat.le_of_lt lim_line), h.2.2.2, q _ H (Same.refl H) (.str _)⟩
  · cases e⟩
end
end Pv

set_option Elab.async false
set_option linter.all false
set_option maxRecDepth 100000
set_option maxHeartbeats 1000000
namespace Pv
open PySem PySem.Spec L2
open PyProof.Rows hiding St

/-! ### what a def of plain data promises -/
abbrev Sem1 := List D → Src → Option (D × Src)
def spD (P : Program) (w : World) (sem : Sem1) : Sp := fun vs H Q _ => ∃ (S : SA) (B : Addr → Prop) (ds : List D) (st : Src) (d : D) (st' : Src), (∀ a, Sb S a → B a) ∧ (∀ a, B a → H a ≠ none) ∧ Reps P w S B H vs ds ∧ SrcOk S st H ∧ sem ds st = some (d, st') ∧
  ∀ v H', Keep S H H' → SrcOk S st' H' → Rep P w S B H' v d → Q v H'
/-- FnOk for callers that hold no guards -/
structure FnG (P : Program) (w : World) (K : PySem.W.Frag) (mg : Str → Option Value) (base : Heap) (CX : CXT) (k : Nat) (f : Addr) (fd : FuncData) (ps : List Str) (sp : Sp) : Prop where
  len : ∀ vs H Q E, sp vs H Q E → vs.length = ps.length
  run : ∀ (A : Around) (outer : List PySem.Env) (s : Shared) (H : Hp) (args : Args) (us : List Value) (vs : List V) (Q : VK) (E : XK), A.guards = some [] → Room k A → Env0 P w K mg base A outer s H → BindsTo s fd args (ps.zip us) → Vals vs us → sp vs H Q E →
    codeAny (model P w) A (.call (.ref f) args) (CR CX outer P w H s Q E) s
section
variable {P : Program} {w : World} {K : PySem.W.Frag} {mg : Str → Option Value} {base : Heap} {CX : CXT} {j k : Nat} {f : Addr} {fd : FuncData} {ps : List Str} {sp : Sp}
theorem FnG.mono (F : FnG P w K mg base CX j f fd ps sp) (h : j ≤ k) : FnG P w K mg base CX k f fd ps sp := ⟨F.len, fun A outer s H args us vs Q E g r => F.run A outer s H args us vs Q E g (r.mono h)⟩
/-- a def by its body -/
theorem fn_ofG {name qual : Str} {params : Arguments} {body : List Stmt} {scope : Scope} {dV kV doc pm cdv ct oc : Value} {an od : Option Addr} {osl : Array (Option Value)} {N : List Str}
    (lk : K.lookup f = some ⟨oc, od, .func (PySem.W.fnOf name qual params body scope dV kV doc pm an cdv ct), osl⟩) (hcd : PySem.W.codeIn K cdv qual = true) (S : FnScope N ps scope) (len : ∀ vs H Q E, sp vs H Q E → vs.length = ps.length)
    (hbody : ∀ (A : Around) (outer : List PySem.Env) (s : Shared) (H : Hp) (vs : List V) (Q : VK) (E : XK), Rm k (cxOf CX P w K mg base N qual scope f cdv A outer s H E) → sp vs H Q E →
      ∃ t, PSs (cxOf CX P w K mg base N qual scope f cdv A outer s H E) body t ∧ t { nx := fun _ H' => Q .non H', rt := Q } (start N vs) H) :
    FnG P w K mg base CX (k + 1) f (PySem.W.fnOf name qual params body scope dV kV doc pm an cdv ct) ps sp := by
  constructor
  · exact len
  intro A outer s H args us vs Q E hg hr e0 hb r hsp
  have hl : vs.length = ps.length := len _ _ _ _ hsp
  have kp : ∀ b o, base.get? b = some o → s.heap.get? b = some o := fun b o e => (e0.bs b o e).1
  have KX : K.In s.heap := e0.mod.kin.keeps kp
  have hkind : ∀ y ∈ ps.zip us, scope.names.lookup y.1 = some .local ∨ (scope.names.lookup y.1 = some .cell ∧ ((cellsFrom (s.heap.objs.size + 1) scope.names []).lookup y.1).isSome = true) := by
    rintro ⟨n, v⟩ hy
    exact (S.par n (List.of_mem_zip hy).1).imp id fun q => ⟨q, PySem.W.cellsFrom_some _ _ _ (.inl q)⟩
  refine codeAny_call_function hr.depth (KX _ _ lk) rfl S.co S.gen rfl (PySem.W.codeRec_of KX hcd) (hb _ _ _ _ (wpAny_newFunctionEnv_cells S.kind hkind ?_))
  rintro env rfl s1 x
  refine ⟨(e0.mod.nolimit.keeps kp).keeps x.toInCall.keep, codeAny_func ?_⟩
  have hR : Rm k (cxOf CX P w K mg base N qual scope f cdv A outer s H E) := ⟨hr.deeper _, hg, rfl⟩
  obtain ⟨t, ht, hq⟩ := hbody A outer s H vs Q E hR hsp
  have I : Inv (cxOf CX P w K mg base N qual scope f cdv A outer s H E) [] (start N vs) H s1 := inv_start S hr.hd e0 hl r x
  refine wpAny_mono (ht.run [] s1 (start N vs) H _ I hq) (fun fl s' hs => ?_) fun e s' hs => hs
  cases fl with
  | brk => exact hs.elim fun _ h => h.elim fun _ h => h.2.elim
  | cont => exact hs.elim fun _ h => h.elim fun _ h => h.2.elim
  | ret u =>
    obtain ⟨v, σ', H', J, rv, q⟩ := hs
    exact ⟨v, H', J.os, J.bare, J.base, J.hok, rv, q⟩
  | next =>
    obtain ⟨σ', H', J, q⟩ := hs
    exact ⟨.non, H', J.os, J.bare, J.base, J.hok, (show RelV .non Value.none from rfl), q⟩
theorem okG {x qual : Str} {params : Arguments} {body : List Stmt} {scope : Scope} {dvs : List V} {kws : List (Str × V)} {N : List Str} (F : FunD K x qual params body scope dvs kws f fd) (S : FnScope N ps scope) (len : ∀ vs H Q E, sp vs H Q E → vs.length = ps.length)
    (hbody : ∀ (cdv : Value) (A : Around) (outer : List PySem.Env) (s : Shared) (H : Hp) (vs : List V) (Q : VK) (E : XK), Rm k (cxOf CX P w K mg base N qual scope f cdv A outer s H E) → sp vs H Q E →
      ∃ t, PSs (cxOf CX P w K mg base N qual scope f cdv A outer s H E) body t ∧ t { nx := fun _ H' => Q .non H', rt := Q } (start N vs) H) : FnG P w K mg base CX (k + 1) f fd ps sp := by
  obtain ⟨oc, od, dV, kV, doc, pm, an, cdv, ct, osl, rfl, lk, hcd, _, _⟩ := F.ex
  exact fn_ofG lk hcd S len (hbody cdv)
end

/-- the entry's state -/
def start1 (N : Nat) (ds : List D) : Env := (ds.map fun d => some (.p d)) ++ List.replicate (N - ds.length) none
/-- a def by the reading of its body -/
def runDef (n N : Nat) (g : SS) : Sem1 := fun ds s => if ds.length = n then (g (start1 N ds) s).bind fun z => match z.1 with
  | .ret d => some (d, z.2.2)
  | .nx => some (.non, z.2.2)
  | _ => none
  else none
theorem rl_start {P : Program} {w : World} {S : SA} {B : Addr → Prop} {H : Hp} {vs : List V} {ds : List D} {N : List Str} {st : Src} (sB : ∀ a, Sb S a → B a) (dom : ∀ a, B a → H a ≠ none) (l : Reps P w S B H vs ds) (q : SrcOk S st H) :
    Rl P w S B (start1 N.length ds) (L2.start N vs) (fun _ => []) st H := by
  refine ⟨?_, fun i sv e => ?_, fun i a h => absurd h List.not_mem_nil, fun i j a h _ => absurd h List.not_mem_nil, fun i => .nil, fun i a h => absurd h List.not_mem_nil, dom, sB, q⟩
  · unfold start1 L2.start; rw [List.length_append, List.length_append, List.length_map, List.length_map, List.length_replicate, List.length_replicate, l.length]
  · unfold start1 at e
    by_cases hi : i < ds.length
    · rw [List.getElem?_append_left (by simpa using hi), List.getElem?_map] at e
      cases z : ds[i]? with
      | none => rw [z] at e; cases e
      | some d =>
        rw [z] at e; cases e
        obtain ⟨v, h1, h2⟩ := l.get z
        refine ⟨v, ?_, .p (h2.ext (.less fun a z => z.elim id fun ⟨_, z⟩ => by cases z))⟩
        unfold L2.start
        rw [List.getElem?_append_left (by rw [List.length_map, l.length]; exact hi), List.getElem?_map, h1]; rfl
    · rw [List.getElem?_append_right (by simpa using hi), List.getElem?_replicate] at e
      split at e <;> cases e
section
variable {P : Program} {w : World} {K : PySem.W.Frag} {mg : Str → Option Value} {base : Heap} {CX : CXT} {k : Nat} {f : Addr} {fd : FuncData} {ps N : List Str}
theorem spD_len {n m : Nat} {g : SS} (h : ps.length = n) : ∀ vs H Q E, spD P w (runDef n m g) vs H Q E → vs.length = ps.length := by
  rintro vs H Q E ⟨S, B, ds, st, d, st', _, _, l, _, e, _⟩
  unfold runDef at e
  split at e
  · rename_i hn; rw [l.length, hn, h]
  · cases e
/-- THE RULE: a def keeps the plain reading of its body -/
theorem okD_def {x qual : Str} {params : Arguments} {body : List Stmt} {scope : Scope} {dvs : List V} {kws : List (Str × V)} {n m : Nat} {g : SS} (F : FunD K x qual params body scope dvs kws f fd) (S : FnScope N ps scope) (hn : ps.length = n := by rfl) (hm : N.length = m := by rfl)
    (hbody : ∀ (cdv : Value) (A : Around) (outer : List PySem.Env) (s : Shared) (H : Hp) (E : XK), Rm k (cxOf CX P w K mg base N qual scope f cdv A outer s H E) → PSs (cxOf CX P w K mg base N qual scope f cdv A outer s H E) body (tS P w g)) :
    FnG P w K mg base CX (k + 1) f fd ps (spD P w (runDef n m g)) := by
  refine okG F S (spD_len hn) fun cdv A outer s H vs Q E hR hsp => ⟨_, hbody cdv A outer s H E hR, ?_⟩
  obtain ⟨SS, B, ds, st, d, st', sB, dom, l, q, e, hQ⟩ := hsp
  unfold runDef at e
  split at e
  · obtain ⟨⟨o, ρ', s'⟩, e1, e⟩ := bind_some' e
    have R := rl_start (N := N) sB dom l q
    rw [hm] at R
    refine ⟨SS, B, _, _, st, o, ρ', s', R, e1, ?_⟩
    cases o with
    | brk => cases e
    | cont => cases e
    | ret d' =>
      cases e
      exact fun v H' r q' kp => hQ v H' (fun a ob n z => kp a ob z n fun ⟨i, sv, _, _, z2⟩ => by cases z2) q' r
    | nx =>
      cases e
      exact fun σ' fp' H' R' fr => hQ .non H' (fun a ob n z => fr.same a ob z n fun ⟨i, sv, _, _, z2⟩ => by cases z2) R'.src .non
  · cases e
end

/-! ### calls of defs -/
def eFn (sem : Sem1) (f : EA) : EE := fun ρ s => (f ρ s).bind fun z => sem z.1 z.2
section
variable {X : Cx} {CX : CXT} {k : Nat} {f : Addr} {fd : FuncData} {ps : List Str} {sem : Sem1} {x : Str} {p pos : Pos} {e : Expr} {es : List Expr} {fa : EA}
theorem run_fnG {sp : Sp} {E : XK} {pins : List (Addr × Obj)} {σ : L2.St} {H : Hp} {s : Shared} {Q : VK} {us : List Value} {vs : List V} (F : FnG X.prog X.w X.K X.mg X.base CX k f fd ps sp) (m : Rm k X) (hb : Binds X.K fd ps []) (hx : Passes CX X E)
    (I : Inv X pins σ H s) (r : Vals vs us) (h : sp vs H Q E) : wpAny (model X.prog X.w) X.A (call (.ref f) us) (EP X pins σ Q) X.xe s := by
  have hl : (us ++ []).length = ps.length := by rw [List.append_nil, ← r.length]; exact F.len _ _ _ _ h
  have hbt := hb s us I.kIn hl
  rw [List.append_nil] at hbt
  refine wpAny_call (codeAny_mono (F.run X.A X.stack s H ⟨us, []⟩ us vs Q E m.g m.r I.env0 hbt r h) fun r s' hq => ?_)
  match r, hq with
  | .error e, hq => exact hx pins σ H s e s' I hq
  | .ok (.ret u), hq => exact I.after hq
theorem go_fn {P : Program} {w : World} {σ : L2.St} {H : Hp} {Q : VK} {E : XK} (q : tV P w (eFn sem fa) σ H Q) : tA P w fa σ H fun vs H1 => spD P w sem vs H1 Q E := by
  obtain ⟨S, B0, ρ, fp, s, d, s', R, e, q⟩ := q
  obtain ⟨⟨ds, s1⟩, e1, e⟩ := bind_some' e
  refine ⟨S, B0, ρ, fp, s, ds, s1, R, e1, fun vs H1 k o l => ⟨S, Blk B0 fp, ds, s1, d, s', R.sBk, (R.keep k o).dom, l, o, e, fun v H2 k2 o2 r => q v H2 (k.trans k2) o2 r⟩⟩
theorem v_fn (F : FnG X.prog X.w X.K X.mg X.base CX0 k f fd ps (spD X.prog X.w sem)) (m : Rm k X) (hg : Gl X x) (hm : X.mg x = some (.ref f)) (hk : PySem.W.keepIn X.K (.ref f) = true) (hb : Binds X.K fd ps [])
    (ha : PA X (e :: es) (tA X.prog X.w fa)) (hdb : (x == ("__debug__" : Str)) = false := by decide) (he : starEach (e :: es) X.env = (false, eval e X.env) :: starEach es X.env := by rfl) (hpl : (backTo pos (starEach es X.env)).any (·.1) = false := by rfl) :
    PE X (.Call (.Name x p) (e :: es) [] pos) (tV X.prog X.w (eFn sem fa)) := by
  refine ⟨fun pins s σ H Q I q => wpAny_Call_Name_kw (ld_glob I hg hm ?_ hdb)⟩
  refine PySem.W.callWith_K (h₀ := X.base) I.ok.mod.kin hk (thn (ha.run pos pins s σ H _ I (go_fn (E := E0) q)) ?_) he hpl
  rintro us s1 ⟨vs, H1, I1, r, h⟩
  exact ⟨I1.kIn, run_fnG F m hb (fun _ _ _ _ _ _ _ h => h.elim) I1 r h⟩
end

/-! ### a law's end -/
/-- the answer of a law, at its caller -/
abbrev LawEnd (s1 : Shared) (r : Result) (s' : Shared) : Prop := r = .ok (.ret (.bool true)) ∧ OldK s1.heap s'.heap ∧ s'.os = s1.os ∧ AllBare s'.gens
theorem law_callG {P : Program} {w : World} {K : PySem.W.Frag} {mg mb : Str → Option Value} {k : Nat} {fa a : Addr} {fd : FuncData} {x : Str} {sp : Sp} {s1 : Shared} {us : List Value} {ns : List Int}
    (KX : K.In s1.heap) (hns : s1.heap.Ns mainGlobals mg) (hb : s1.heap.Ns builtinsNs mb) (hbb : ∀ x : Str, x ≠ "__name__" → mb x = bootBuiltins x) (hlim : s1.heap.NoLimit) (hg : s1.gens = #[])
    (ha : s1.heap.get? a = some { cls := .type "list", data := .seq us.toArray }) (hi : IntsAre us ns) (hl : ns.length ≤ sizeLine) (hr : Room k callerA)
    (F : ∀ base : Heap, K.In base → base.Ns mainGlobals mg → FnG P w K mg base CX0 k fa fd [x] sp) (hbind : ∀ (s : Shared) (u : Value), BindsTo s fd ⟨[u], []⟩ [(x, u)])
    (hsp : ∀ H : Hp, SqL K H a (ns.map V.int) → sp [.ref a] H (fun v _ => v = .bl true) fun _ _ _ => False) :
    codeAny (model P w) callerA (.call (.ref fa) ⟨[.ref a], []⟩) (LawEnd s1) s1 := by
  have rv := vals_ints hi
  -- H: the script alone, known to its object, or nothing
  have main : ∀ H : Hp, (∀ b o, s1.heap.get? b = some o → H b ≠ none → b = a ∧ K.lookup a = none) → (∀ b u, H b = some u → ∃ ob xs, u = .frz ob (.lst xs)) → SqL K H a (ns.map V.int) → HOk P w H s1.heap → codeAny (model P w) callerA (.call (.ref fa) ⟨[.ref a], []⟩) (LawEnd s1) s1 := by
    intro H only frz hS ok
    have hid : ∀ {b : Addr} {o : Obj}, s1.heap.get? b = some o → H b = none → (hidT s1.heap H).get? b = some o := fun e n => hidT_get e n
    have notA : ∀ {b : Addr} {o : Obj} {es : Array DictEntry} {ep : Nat}, s1.heap.get? b = some o → o.data = .dict es ep → H b = none := by
      intro b o es ep e d
      by_cases q : H b = none
      · exact q
      · have e' := (only b o e q).1
        rw [e', ha] at e
        cases e
        cases d
    have ns_ : ∀ {b : Addr} {m : Str → Option Value}, s1.heap.Ns b m → (hidT s1.heap H).Ns b m := by
      rintro b m ⟨o, es, ep, e, d, r⟩
      exact ⟨o, es, ep, hid e (notA e d), d, r⟩
    have inK : K.In (hidT s1.heap H) := by
      intro b o e
      refine hid (KX b o e) ?_
      by_cases q : H b = none
      · exact q
      · obtain ⟨e1, e2⟩ := only b o (KX b o e) q
        rw [e1, e2] at e
        cases e
    obtain ⟨mc, l1, l2⟩ := hlim
    have e0 : Env0 P w K mg (hidT s1.heap H) callerA [] s1 H := ⟨rfl, ⟨inK, ns_ hns, ⟨mb, ns_ hb, hbb⟩, ⟨mc, ns_ l1, l2⟩⟩, fun b o e => of_hidT e, Nat.le_of_eq (hidT_size _ _), trivial, fun b z => absurd z (List.not_mem_nil), ok, .of_eq hg⟩
    refine codeAny_mono ((F _ inK (ns_ hns)).run callerA [] s1 H ⟨[.ref a], []⟩ [.ref a] [.ref a] _ _ rfl hr e0 (hbind s1 (.ref a)) (.cons rfl .nil) (hsp H hS)) ?_
    intro r s' h
    match r, h with
    | .ok (.ret u), ⟨v, H', os, bare, un, ok', rel, q⟩ =>
      obtain rfl : v = .bl true := q
      obtain rfl : u = Value.bool true := rel
      refine ⟨rfl, OldK.of_keep fun b o e => ?_, os, bare⟩
      cases q : H b with
      | none => exact un.keep b o e q (fun z => absurd z (List.not_mem_nil)) (by simp)
      | some u =>
        obtain ⟨ob, xs, rfl⟩ := frz b u q
        have g1 := (ok b _ q).1
        have g2 := (ok' b _ (un.frzs b ob _ q)).1
        rw [e] at g1
        cases g1
        exact g2
  have hlen : (ns.map V.int).length ≤ sizeLine := by rw [List.length_map]; exact hl
  cases hK : K.lookup a with
  | some o =>
    have e := KX a o hK
    rw [ha] at e
    cases e
    exact main (fun _ => none) (fun _ _ _ z => absurd rfl z) (fun b u z => by cases z) (.inr ⟨_, us.toArray, _, hK, rfl, rfl, rfl, by rw [List.size_toArray, hi.length]; exact hl, rv⟩) (fun b u z => by cases z)
  | none =>
    have hf : ∀ b (u : HO), (if b = a then some (HO.frz { cls := .type "list", data := .seq us.toArray } (.lst (ns.map V.int))) else none) = some u → b = a ∧ u = .frz { cls := .type "list", data := .seq us.toArray } (.lst (ns.map V.int)) := fun b u z => by
      by_cases h : b = a
      · rw [if_pos h] at z; exact ⟨h, (Option.some.inj z).symm⟩
      · rw [if_neg h] at z; cases z
    refine main (fun b => if b = a then some (.frz { cls := .type "list", data := .seq us.toArray } (.lst (ns.map V.int))) else none) (fun b o _ z => ?_) (fun b u z => ⟨_, _, (hf b u z).2⟩) (.inl (.inr ⟨{ cls := .type "list", data := .seq us.toArray }, if_pos rfl⟩)) (fun b u z => ?_)
    · by_cases h : b = a
      · exact ⟨h, hK⟩
      · exact absurd (if_neg h) z
    · obtain ⟨rfl, rfl⟩ := hf b u z
      exact ⟨ha, hlen, us, _, rv, ha⟩
theorem walk_G {l : PySem.W.OpenLaw} {n k : Nat} {q : Program} {loose : List Str} {XP : (Str → Option Value) → Heap → Prop} {YP : World → Heap → Prop} {d : DefRec} {x : Str} (hn : l.most = some n) (hn2 : n ≤ sizeLine) (hdf : d.params.defaults = []) (hr : Room k callerA)
    (F : ∀ (w : World) (mg : Str → Option Value) (fa : Addr) (h : Heap), YP w h → h.Ns mainGlobals mg → mg d.name = some (.ref fa) → ∃ (K : PySem.W.Frag) (fd : FuncData) (sp : Sp), K.In h ∧ (∀ (s : Shared) (u : Value), BindsTo s fd ⟨[u], []⟩ [(x, u)]) ∧
      (∀ (H : Hp) (a : Addr) (ns : List Int), ns.length ≤ n → SqL K H a (ns.map V.int) → sp [.ref a] H (fun v _ => v = .bl true) fun _ _ _ => False) ∧ ∀ base : Heap, K.In base → base.Ns mainGlobals mg → FnG l.prog w K mg base CX0 k fa fd [x] sp) :
    PySem.W.WalkO q loose XP YP l.row.toRowW d [] (fun f vs => PySem.call f vs) := by
  refine Att.attach_call hn hdf ?_
  intro w s0 s1 mg mb fa o pm cd doc a vs ns G Y ho hd hcd hmg hobj hints hlen hg
  obtain ⟨K, fd, sp, KX, hb, hsp, hF⟩ := F w mg fa _ Y G.T.g hmg
  exact law_callG KX G.T.g G.T.b G.T.builtins G.T.nolimit hg hobj hints (Nat.le_trans hlen hn2) hr hF hb fun H hS => hsp H a ns hlen hS
end Pv

set_option Elab.async false
set_option linter.all false
set_option maxRecDepth 100000
set_option maxHeartbeats 1000000
namespace Pv
open PySem PySem.Spec L2
open PyProof.Rows hiding St

/-! ### the drawing dict -/
abbrev srcL (c : Addr) (s : Src) : List (Key × V) := [(.inr "cells", .ref c), (.inr "left", .int s.left), (.inr "mixed", .int s.mixed), (.inr "turn", .int s.turn)]
/-- what stands at a key -/
inductive SK where
  | left | mixed | turn
def SK.name : SK → Str
  | .left => "left"
  | .mixed => "mixed"
  | .turn => "turn"
def SK.get (s : Src) : SK → Int
  | .left => s.left
  | .mixed => s.mixed
  | .turn => s.turn
def SK.put (s : Src) (i : Int) : SK → Src
  | .left => { s with left := i }
  | .mixed => { s with mixed := i }
  | .turn => { s with turn := i }
theorem src_val {c : Addr} {s : Src} (k : SK) : valV (srcL c s) (.inr k.name) = some (.int (k.get s)) := by cases k <;> rfl
theorem src_cells {c : Addr} {s : Src} : valV (srcL c s) (.inr "cells") = some (.ref c) := rfl
theorem src_put {c : Addr} {s : Src} (k : SK) (i : Int) : putK (srcL c s) (.inr k.name) (.int i) = srcL c (k.put s i) := by cases k <;> rfl
def eSg (i : Nat) (k : SK) : EE := fun ρ s => match ρ[i]? with
  | some (some (.p .src)) => some (.int (k.get s), s)
  | _ => none
def eSlen (i : Nat) : EE := fun ρ s => match ρ[i]? with
  | some (some (.p .src)) => some (.int s.cells.length, s)
  | _ => none
def sSput (i : Nat) (k : SK) (f : EE) : SS := fun ρ s => (f ρ s).bind fun z => match z.1, ρ[i]? with
  | .int j, some (some (.p .src)) => some (.nx, ρ, k.put z.2 j)
  | _, _ => none
def sSpop (i : Nat) : SS := fun ρ s => match ρ[i]? with
  | some (some (.p .src)) => s.cells.getLast?.map fun c => (.nx, ρ, { s with cells := s.cells.dropLast, left := c })
  | _ => none
section
variable {P : Program} {w : World} {S : SA} {B0 : Addr → Prop} {ρ : Env} {σ : L2.St} {fp : Fp} {s s' : Src} {H H' : Hp}
theorem Rl.srcAt (R : Rl P w S B0 ρ σ fp s H) {i : Nat} (h : ρ[i]? = some (some (.p .src))) : ∃ a c, S = some (a, c) ∧ σ[i]? = some (some (.ref a)) ∧ a ≠ c ∧ H a = some (.dK (srcL c s)) ∧ H c = some (.lst (s.cells.map V.int)) := by
  obtain ⟨v, h1, h2⟩ := R.slot i _ h
  generalize fp i = l at h2
  cases h2 with
  | p r => cases r with | src e => obtain ⟨h3, h4, h5⟩ := R.src _ e; exact ⟨_, _, e, h1, h3, h4, h5⟩
theorem keep_src {a c : Addr} {u : HO} (e : S = some (a, c)) : Keep S H (upd H a u) := fun b o n z => by rw [upd_ne fun z' => n ⟨_, e, .inl z'⟩]; exact z
theorem keep_srcC {a c : Addr} {u : HO} (e : S = some (a, c)) : Keep S H (upd H c u) := fun b o n z => by rw [upd_ne fun z' => n ⟨_, e, .inr z'⟩]; exact z
end
section
variable {X : Cx} {k : Nat} {x : Str} {px pk pos : Pos} {e : Expr} {f : EE} {jj : Nat} {key : Str}
theorem v_sg (i : Nat) (sk : SK) (m : Rm k X) (hk : key = sk.name := by rfl) (hN : X.N[i]? = some x := by rfl) (hv : Vis X.env.scope x := by first | exact Or.inl rfl | exact Or.inr (Or.inl rfl) | exact Or.inr (Or.inr rfl)) (hd : (x == ("__debug__" : Str)) = false := by decide)
    (hcd : (x == ("__classdict__" : Str)) = false := by decide) (hs : NoSl (.Constant (.str key) jj pk) := by intro _ _; rfl) : PE X (.Subscript (.Name x px) (.Constant (.str key) jj pk) pos) (tV X.prog X.w (eSg i sk)) :=
  PE.imp (pe_dget (by have := m.units; omega) (pe_var hN hv hd hcd) pe_str hs) fun σ H Q ⟨S, B0, ρ, fp, s, d, s', R, e, q⟩ => by
    unfold eSg at e
    split at e <;> cases e
    rename_i h
    obtain ⟨a, c, eS, h1, hn, h2, h3⟩ := R.srcAt h
    subst hk
    exact ⟨.ref a, h1, a, _, rfl, by have := DGet.k (k := .inr sk.name) h2; rw [src_val] at this; exact this, q _ H .refl R.src (.int _)⟩
theorem v_slen (i : Nat) {y : Str} {py pp : Pos} (m : Rm k X) (hg : Gl X y) (hm : X.mg y = none) (hvb : bootBuiltins y = some (.builtin "len")) (hN : X.N[i]? = some x := by rfl) (hv : Vis X.env.scope x := by first | exact Or.inl rfl | exact Or.inr (Or.inl rfl) | exact Or.inr (Or.inr rfl)) (hd : (x == ("__debug__" : Str)) = false := by decide)
    (hcd : (x == ("__classdict__" : Str)) = false := by decide) (hs : NoSl (.Constant (.str "cells") jj pk) := by intro _ _; rfl) (hn : y ≠ "__name__" := by decide) (hdb : (y == ("__debug__" : Str)) = false := by decide)
    (he : starEach [.Subscript (.Name x px) (.Constant (.str "cells") jj pk) pos] X.env = (false, eval (.Subscript (.Name x px) (.Constant (.str "cells") jj pk) pos) X.env) :: starEach [] X.env := by rfl) (hpl : (backTo pp (starEach [] X.env)).any (·.1) = false := by rfl) :
    PE X (.Call (.Name y py) [.Subscript (.Name x px) (.Constant (.str "cells") jj pk) pos] [] pp) (tV X.prog X.w (eSlen i)) :=
  PE.imp (pe_callB call_len_seq hg hm hvb (pa_cons (pe_dget (by have := m.units; omega) (pe_var hN hv hd hcd) pe_str hs) pa_nil he) hn hdb he hpl) fun σ H Q ⟨S, B0, ρ, fp, s, d, s', R, e, q⟩ => by
    unfold eSlen at e
    split at e <;> cases e
    rename_i h
    obtain ⟨a, c, eS, h1, hn, h2, h3⟩ := R.srcAt h
    refine ⟨.ref a, h1, a, _, rfl, by have := DGet.k (k := .inr "cells") h2; rw [src_cells] at this; exact this, c, _, rfl, .inl (.inl (.inl h3)), ?_⟩
    rw [List.length_map]
    exact q _ H .refl R.src (.int _)
theorem s_sput (i : Nat) (sk : SK) {ps : Pos} (m : Rm k X) (he : PE X e (tV X.prog X.w f)) (hk : key = sk.name := by rfl) (hN : X.N[i]? = some x := by rfl) (hv : Vis X.env.scope x := by first | exact Or.inl rfl | exact Or.inr (Or.inl rfl) | exact Or.inr (Or.inr rfl)) (hd : (x == ("__debug__" : Str)) = false := by decide)
    (hcd : (x == ("__classdict__" : Str)) = false := by decide) (hsw : swapsWith e (some (.Subscript (.Name x px) (.Constant (.str key) jj pk) ps)) pos.line X.env = pure false := by rfl) :
    PS X (.Assign [.Subscript (.Name x px) (.Constant (.str key) jj pk) ps] e pos) (tS X.prog X.w (sSput i sk f)) :=
  PS.imp (ps_dput (by have := m.units; omega) (pe_var hN hv hd hcd) pe_str he hsw) fun D σ H ⟨S, B0, ρ, fp, s, o, ρ', s', R, e, q⟩ => by
    obtain ⟨⟨d, s1⟩, e1, e⟩ := bind_some' e
    dsimp only at e
    split at e <;> cases e
    rename_i j h
    refine ⟨S, B0, ρ, fp, s, _, s1, R, e1, fun v H1 k1 o1 r1 => ?_⟩
    cases r1
    have R1 := R.keep k1 o1
    obtain ⟨a, c, eS, h1, hn, h2, h3⟩ := R1.srcAt h
    subst hk
    have hp : DPut H1 a (.str sk.name) (.int j) (upd H1 a (.dK (srcL c (sk.put s1 j)))) := by
      have := DPut.k (k := .inr sk.name) (v := .int j) h2 (by show 4 < sizeLine; decide)
      rw [src_put] at this
      exact this
    have hkk := keep_src (H := H1) (u := .dK (srcL c (sk.put s1 j))) eS
    refine ⟨.ref a, h1, a, _, rfl, hp, q _ _ _ (R1.keep hkk fun p ep => ?_) (Fr.trans (.keep k1) (.keep hkk))⟩
    rw [eS] at ep
    cases ep
    refine ⟨hn, upd_same, ?_⟩
    rw [upd_ne (Ne.symm hn), h3]
    cases sk <;> rfl
/-- source["left"] = source["cells"].pop() -/
theorem s_spop (i : Nat) {ps pa pc p1 p2 p3 : Pos} {j2 : Nat} (m : Rm k X) (hN : X.N[i]? = some x := by rfl) (hv : Vis X.env.scope x := by first | exact Or.inl rfl | exact Or.inr (Or.inl rfl) | exact Or.inr (Or.inr rfl)) (hd : (x == ("__debug__" : Str)) = false := by decide)
    (hcd : (x == ("__classdict__" : Str)) = false := by decide) (hs : NoSl (.Constant (.str "cells") j2 p2) := by intro _ _; rfl)
    (hbase : attributeBase (.Subscript (.Name x p1) (.Constant (.str "cells") j2 p2) p3) "pop" X.env (eval (.Subscript (.Name x p1) (.Constant (.str "cells") j2 p2) p3) X.env) = eval (.Subscript (.Name x p1) (.Constant (.str "cells") j2 p2) p3) X.env := by rfl) (hline : (pa.endLine == pc.line) = true := by rfl)
    (hsw : swapsWith (.Call (.Attribute (.Subscript (.Name x p1) (.Constant (.str "cells") j2 p2) p3) "pop" pa) [] [] pc) (some (.Subscript (.Name x px) (.Constant (.str "left") jj pk) ps)) pos.line X.env = pure false := by rfl) :
    PS X (.Assign [.Subscript (.Name x px) (.Constant (.str "left") jj pk) ps] (.Call (.Attribute (.Subscript (.Name x p1) (.Constant (.str "cells") j2 p2) p3) "pop" pa) [] [] pc) pos) (tS X.prog X.w (sSpop i)) :=
  PS.imp (ps_dput (by have := m.units; omega) (pe_var hN hv hd hcd) pe_str (pe_bm0 PySem.F.plainAttrs_list PySem.F.slot_list_pop PySem.F.type_list_pop mt_pop (pe_dget (by have := m.units; omega) (pe_var hN hv hd hcd) pe_str hs) hbase hline) hsw) fun D σ H ⟨S, B0, ρ, fp, s, o, ρ', s', R, e, q⟩ => by
    unfold sSpop at e
    split at e
    · rename_i h
      obtain ⟨cl, e1, e⟩ := map_some' e
      cases e
      obtain ⟨a, c, eS, h1, hn, h2, h3⟩ := R.srcAt h
      refine ⟨.ref a, h1, a, .ref c, rfl, by have := DGet.k (k := .inr "cells") h2; rw [src_cells] at this; exact this, Or.inl ⟨rfl, _, .inl (.inl h3)⟩, c, _, .int cl, rfl, rfl, h3, ?_, ?_⟩
      · rw [List.length_map, List.getElem?_map, ← List.getLast?_eq_getElem?, e1]; rfl
      · have e2 : (s.cells.map V.int).dropLast = s.cells.dropLast.map V.int := by rw [List.map_dropLast]
        rw [e2]
        have h4 : (upd H c (.lst (s.cells.dropLast.map V.int))) a = some (.dK (srcL c s)) := by rw [upd_ne hn]; exact h2
        have hp := DPut.k (k := .inr "left") (v := .int cl) h4 (by show 4 < sizeLine; decide)
        have e3 : putK (srcL c s) (.inr "left") (.int cl) = srcL c { s with cells := s.cells.dropLast, left := cl } := rfl
        rw [e3] at hp
        have k1 := keep_srcC (H := H) (u := .lst (s.cells.dropLast.map V.int)) eS
        have k2 := keep_src (H := upd H c (.lst (s.cells.dropLast.map V.int))) (u := .dK (srcL c { s with cells := s.cells.dropLast, left := cl })) eS
        refine ⟨.ref a, h1, a, _, rfl, hp, q _ _ _ (R.keep (k1.trans k2) fun p ep => ?_) (.keep (k1.trans k2))⟩
        rw [eS] at ep
        cases ep
        exact ⟨hn, upd_same, by rw [upd_ne (Ne.symm hn), upd_same]⟩
    · cases e
end
end Pv

set_option Elab.async false
set_option linter.all false
set_option maxRecDepth 100000
set_option maxHeartbeats 1000000
namespace Pv
open PySem PySem.Spec L2
open PyProof.Rows hiding St

/-! ### [rest.pop(..) for .. in ..], rest a list of the def's own -/
def mixL (us : List Nat) (p : Pt) (f : EE) (i : Nat) (ρ : Env) : List Itm → List D → Src → Option (List D × Src)
  | [], _, s => some ([], s)
  | x :: r, rest, s => (p x ((wipeE ρ us).set i (some (.ol rest)))).bind fun ρ1 => (f ρ1 s).bind fun z => match z.1 with
    | .int k => if smI k = true then (seqIndex? k rest.length).bind fun n => (rest[n]?).bind fun d => (mixL us p f i ρ r (rest.eraseIdx n) z.2).map fun t => (d :: t.1, t.2) else none
    | _ => none
def sMix (i : Nat) (fi : EI) (us : List Nat) (p : Pt) (f : EE) : SS := fun ρ s => match ρ[i]? with
  | some (some (.ol ds)) => (fi ρ s).bind fun z => if z.1.length ≤ LIM then (mixL us p f i ρ z.1 ds z.2).map fun t => (.ret (.lst t.1), ρ, t.2) else none
  | _ => none
theorem Reps.eraseIdx {P : Program} {w : World} {S : SA} {B : Addr → Prop} {H : Hp} : ∀ {vs : List V} {ds : List D} (n : Nat), Reps P w S B H vs ds → Reps P w S B H (vs.eraseIdx n) (ds.eraseIdx n)
  | _, _, _, .nil => .nil
  | _, _, 0, .cons _ l => l
  | _, _, n + 1, .cons r l => .cons r (Reps.eraseIdx n l)
theorem upd_ext {B : Addr → Prop} {H : Hp} {a : Addr} {o : HO} (h : B a) : Ext B B H (upd H a o) := fun b v n r => ⟨n, r.same fun ob e => by rw [upd_ne fun z => n (by rw [z]; exact h)]; exact e⟩
theorem wipeE_get {ρ : Env} {i : Nat} : ∀ {vs : List Nat}, i ∉ vs → (wipeE ρ vs)[i]? = ρ[i]?
  | [], _ => rfl
  | v :: vs, h => by
    unfold wipeE
    simp only [List.mem_cons, not_or] at h
    rw [List.getElem?_set_ne (fun e => h.1 e.symm)]
    exact wipeE_get h.2
theorem go_mix {P : Program} {w : World} {K : PySem.W.Frag} {fi : EI} {us vs : List Nat} {i : Nat} {p : Pt} {f : EE} {wi : TI} {te : TE} {D : Ends} (hu : ∀ j ∈ us, j ∈ vs) (hiu : i ∉ vs) (hwi : ∀ σ H R, tJ P w K fi σ H R → wi σ H R) (he : ∀ σ H Q, tV P w f σ H Q → te σ H Q)
    {σ : L2.St} {H : Hp} (h : tS P w (sMix i fi vs p f) D σ H) : tLc wi (tG P w K us p) tYes (tBM K "list" rPopAt (tVar i) (tCons te tNil)) vs σ H D.rt := by
  obtain ⟨S, B0, ρ, fp, s, o, ρ', s', R, e, q⟩ := h
  unfold sMix at e
  split at e
  · rename_i ds0 h0
    obtain ⟨⟨its, s1⟩, e1, e⟩ := bind_some' e
    by_cases hl : its.length ≤ LIM
    · have e : (if its.length ≤ LIM then (mixL vs p f i ρ its ds0 s1).map fun t => (Out.ret (.lst t.1), ρ, t.2) else none) = some (o, ρ', s') := e
      rw [if_pos hl] at e
      obtain ⟨⟨ds, s9⟩, eM, e9⟩ := map_some' e
      cases e9
      refine hwi _ _ _ ⟨S, B0, ρ, fp, s, its, s1, R, e1, fun J H1 G k1 o1 F hG Dd hD => ?_⟩
      have R1 := R.keep k1 o1
      have hDs : ¬ Sb S Dd := fun z => R1.dom Dd (R1.sBk Dd z) hD
      have hDH : H Dd = none := by
        cases z : H Dd with
        | none => rfl
        | some ob => rw [k1 Dd ob hDs z] at hD; cases hD
      obtain ⟨a, vs0, ha0, hf0, ha1, l0, nS⟩ := R1.atL h0
      have hDa : Dd ≠ a := fun z => by rw [z, ha1] at hD; cases hD
      -- the block's state at its entry
      have R0 := R1.park (Dd := Dd) (H' := upd H1 Dd (.lst [])) (.ofSame (same_new hD)) (o1.same (same_new hD)) hD (by rw [upd_same]; simp) vs
      have hw0 : (wipeE ρ vs)[i]? = some (some (.ol ds0)) := by rw [wipeE_get hiu]; exact h0
      have hfi : parkF (wipeE ρ vs) fp i = [a] := by unfold parkF; rw [if_pos ⟨_, hw0⟩]; exact hf0
      have hset0 : (wipeE ρ vs).set i (some (.ol ds0)) = wipeE ρ vs := by
        apply List.ext_getElem?
        intro j
        by_cases hj : i = j
        · subst hj; rw [List.getElem?_set_self (List.getElem?_eq_some_iff.mp hw0).1, hw0]
        · rw [List.getElem?_set_ne hj]
      have hG0 : G (Blk (parkB B0 (wipeE ρ vs) fp Dd) (parkF (wipeE ρ vs) fp)) (upd H1 Dd (.lst [])) := F.ext hG fun b u n r => by
        have hb : b ≠ Dd := fun z => by subst z; exact Rd.tracked r.rd hD
        exact ⟨fun z => ((park_iff b).mp z).elim n hb, r.same fun ob z => by rw [upd_ne hb]; exact z⟩
      have hi : i < (wipeE ρ vs).length := (List.getElem?_eq_some_iff.mp hw0).1
      have dB : ∀ b, B0 b → parkB B0 (wipeE ρ vs) fp Dd b := fun b z => .inl z
      have bD : Blk (parkB B0 (wipeE ρ vs) fp Dd) (parkF (wipeE ρ vs) fp) Dd := .inl (.inr (.inl rfl))
      have bA : Blk (parkB B0 (wipeE ρ vs) fp Dd) (parkF (wipeE ρ vs) fp) a := .inr ⟨i, by rw [hfi]; simp⟩
      refine ⟨fun t m H2 => m = its.length - t ∧ t ≤ its.length ∧ ∃ s2 acc vs2 rest, Rl P w S (parkB B0 (wipeE ρ vs) fp Dd) ((wipeE ρ vs).set i (some (.ol rest))) (L2.wipe σ vs) (parkF (wipeE ρ vs) fp) s2 H2 ∧ (∀ b ob, H b = some ob → ¬ Sb S b → b ≠ a → H2 b = some ob) ∧
        G (Blk (parkB B0 (wipeE ρ vs) fp Dd) (parkF (wipeE ρ vs) fp)) H2 ∧ H2 Dd = some (.lst vs2) ∧ Reps P w S (Blk (parkB B0 (wipeE ρ vs) fp Dd) (parkF (wipeE ρ vs) fp)) H2 vs2 acc ∧ acc.length ≤ t ∧
        ∃ rst, mixL vs p f i ρ (its.drop t) rest s2 = some (rst, s9) ∧ ds = acc ++ rst, ⟨its.length, by simp, Nat.zero_le _, s1, [], [], ds0, by rw [hset0]; exact R0, fun b ob z n _ => ?_, hG0, upd_same, .nil, Nat.zero_le _, ds, eM, rfl⟩, ?_⟩
      · have hb : b ≠ Dd := fun z' => by rw [z', hDH] at z; cases z
        rw [upd_ne hb]; exact k1 b ob n z
      rintro t m H2 ⟨rfl, ht, s2, acc, vs2, rest, R2, kp2, G2, e2, l2, hacc, rst, e, ed⟩
      by_cases hlt : t < its.length
      · refine .inr ⟨F.go G2 hlt, fun H3 => t + 1 ≤ its.length ∧ ∃ s2 acc vs2 rest, Rl P w S (parkB B0 (wipeE ρ vs) fp Dd) ((wipeE ρ vs).set i (some (.ol rest))) (L2.wipe σ vs) (parkF (wipeE ρ vs) fp) s2 H3 ∧ (∀ b ob, H b = some ob → ¬ Sb S b → b ≠ a → H3 b = some ob) ∧
          G (Blk (parkB B0 (wipeE ρ vs) fp Dd) (parkF (wipeE ρ vs) fp)) H3 ∧ H3 Dd = some (.lst vs2) ∧ Reps P w S (Blk (parkB B0 (wipeE ρ vs) fp Dd) (parkF (wipeE ρ vs) fp)) H3 vs2 acc ∧ acc.length ≤ t + 1 ∧
          ∃ rst, mixL vs p f i ρ (its.drop (t + 1)) rest s2 = some (rst, s9) ∧ ds = acc ++ rst, fun H3 h => ⟨its.length - (t + 1), by omega, rfl, h⟩, fun x H3 hy => ?_⟩
        rw [List.drop_eq_getElem_cons hlt] at e
        obtain ⟨ρ3, e3, e⟩ := bind_some' e
        obtain ⟨sm, ri⟩ := F.yld G2 R2.dom hy (List.getElem?_eq_getElem hlt)
        have R3 := R2.keep (.ofSame sm) (R2.src.same sm)
        refine ⟨S, _, _, _, s2, its[t], ρ3, R3, ri, e3, fun σ4 fp4 R4 fr4 b4 on4 of4 => ⟨by rw [wipe_only on4 hu, wipe_wipe], ?_⟩⟩
        unfold tYes
        refine iteT ?_
        obtain ⟨⟨d, s5⟩, e5, e⟩ := bind_some' e
        dsimp only at e
        split at e
        · rename_i k
          by_cases hk : smI k = true
          · rw [if_pos hk] at e
            obtain ⟨n, e6, e⟩ := bind_some' e
            obtain ⟨dd, e7, e⟩ := bind_some' e
            obtain ⟨⟨rst', s8⟩, e8, e9⟩ := map_some' e
            cases e9
            have hsz := smI_le hk
            have hiu' : i ∉ us := fun z => hiu (hu i z)
            have hg : ((wipeE ρ vs).set i (some (.ol rest)))[i]? = some (some (.ol rest)) := List.getElem?_set_self hi
            obtain ⟨a', vs3, hs3, hf3, ha3, l3, nS3⟩ := R3.atL hg
            have haa : a' = a := by rw [hfi] at hf3; exact (List.cons.inj hf3).1.symm
            subst haa
            refine ⟨.ref a', by rw [on4.2 i hiu']; exact hs3, Or.inl ⟨rfl, _, .inl (.inl ha3)⟩, he _ _ _ ⟨S, _, ρ3, fp4, s2, _, s5, R4, e5, fun v H5 k5 o5 r5 => ?_⟩⟩
            cases r5
            have R5 := R3.keep k5 o5
            have ha5 := k5 a' _ nS3 ha3
            have l5 := l3.ext (k5.ext R3.sBk)
            have lim := lim_line
            obtain ⟨v, hv, rv⟩ := l5.get e7
            refine ⟨a', vs3, k, n, v, rfl, rfl, ha5, by omega, by omega, by rw [l5.length]; exact e6, hv, ?_⟩
            obtain ⟨R6, fr6⟩ := R5.mutL (vs := vs3) hg hs3 hf3 (l5.eraseIdx n)
            have e5D : H5 Dd = some (.lst vs2) := k5 _ _ hDs (sm _ _ e2)
            have l5' : Reps P w S (Blk (parkB B0 (wipeE ρ vs) fp Dd) (parkF (wipeE ρ vs) fp)) H5 vs2 acc := (l2.ext (Same.ext sm)).ext (k5.ext R3.sBk)
            have xA : Ext (Blk (parkB B0 (wipeE ρ vs) fp Dd) (parkF (wipeE ρ vs) fp)) (Blk (parkB B0 (wipeE ρ vs) fp Dd) (parkF (wipeE ρ vs) fp)) H5 (upd H5 a' (.lst (vs3.eraseIdx n))) := upd_ext bA
            have e6D : (upd H5 a' (.lst (vs3.eraseIdx n))) Dd = some (.lst vs2) := by rw [upd_ne hDa]; exact e5D
            have xD : Ext (Blk (parkB B0 (wipeE ρ vs) fp Dd) (parkF (wipeE ρ vs) fp)) (Blk (parkB B0 (wipeE ρ vs) fp Dd) (parkF (wipeE ρ vs) fp)) (upd H5 a' (.lst (vs3.eraseIdx n))) (upd (upd H5 a' (.lst (vs3.eraseIdx n))) Dd (.lst (vs2 ++ [v]))) := upd_ext bD
            have hset : ((wipeE ρ vs).set i (some (.ol rest))).set i (some (.ol (rest.eraseIdx n))) = (wipeE ρ vs).set i (some (.ol (rest.eraseIdx n))) := by rw [List.set_set]
            rw [hset] at R6
            refine ⟨vs2, e6D, ?_, hlt, s5, acc ++ [dd], vs2 ++ [v], rest.eraseIdx n, ?_, fun b ob z n' hb => ?_, ?_, upd_same, ?_, by rw [List.length_append]; simp; omega, rst', e8, by simp [ed]⟩
            · rw [l5'.length]; omega
            · -- the state with the new list longer
              refine ⟨R6.len, fun j sv ej => ?_, fun j b z => ?_, R6.dis, R6.nod, R6.base, fun b z => ?_, R6.sB, fun pr ep => ?_⟩
              · obtain ⟨u, g1, g2⟩ := R6.slot j sv ej
                refine ⟨u, g1, g2.ext xD fun b hb => upd_ne fun z => ?_⟩
                exact R6.base j b hb (by rw [z]; exact .inr (.inl rfl))
              · by_cases hb : b = Dd
                · rw [hb, upd_same]; simp
                · rw [upd_ne hb]; exact R6.own j b z
              · by_cases hb : b = Dd
                · rw [hb, upd_same]; simp
                · rw [upd_ne hb]; exact R6.dom0 b z
              · obtain ⟨g1, g2, g3⟩ := R6.src pr ep
                exact ⟨g1, by rw [upd_ne fun z => hDs ⟨pr, ep, .inl z.symm⟩]; exact g2, by rw [upd_ne fun z => hDs ⟨pr, ep, .inr z.symm⟩]; exact g3⟩
            · have hbD : b ≠ Dd := fun z' => by rw [z', hDH] at z; cases z
              rw [upd_ne hbD, upd_ne hb]
              exact k5 b ob n' (sm _ _ (kp2 b ob z n' hb))
            · exact F.ext (F.ext (F.ext (F.ext G2 (Same.ext sm)) (k5.ext R3.sBk)) xA) xD
            · exact ((l5'.ext xA).append (.cons (rv.ext xA) .nil)).ext xD
          · rw [if_neg hk] at e; cases e
        · cases e
      · have et : t = its.length := by omega
        subst et
        rw [List.drop_length] at e
        cases e
        rw [List.append_nil] at ed
        subst ed
        refine .inl ⟨F.stop G2, q _ _ (.lst (fun z => ?_) e2 (l2.ext (.less fun b z => .inl (dB b z)))) R2.src fun b ob z n u => kp2 b ob z n fun hb => u ⟨i, _, h0, rfl, by rw [hb, hf0]; simp⟩⟩
        exact R.dom0 Dd z hDH
    · have e : (if its.length ≤ LIM then (mixL vs p f i ρ its ds0 s1).map fun t => (Out.ret (.lst t.1), ρ, t.2) else none) = some (o, ρ', s') := e
      rw [if_neg hl] at e; cases e
  · cases e
section
variable {X : Cx} {tg iter e : Expr} {scope : Scope} {pos : Pos} {fi : EI} {us : List Nat} {p : Pt} {f : EE}
/-- return [rest.pop(e) for tg in iter] -/
theorem s_mix (i : Nat) (own : List (Str × Nat)) {x : Str} {px pa pc rpos : Pos} (hc : X.calm = true) (hN : X.N.Nodup) (hi : PI X tg iter (tJ X.prog X.w X.K fi)) (ok : BlkOk X.N X.env.scope scope own)
    (hg : ∀ (s : Shared) (H : Hp) (C : Addr) (cl : List (Str × Addr)) (fp : List Addr), PG (X.blk s H scope (compEnvC scope cl C X.env) fp) tg (tG X.prog X.w X.K us p))
    (he : ∀ (s : Shared) (H : Hp) (C : Addr) (cl : List (Str × Addr)) (fp : List Addr), PE (X.blk s H scope (compEnvC scope cl C X.env) fp) e (tV X.prog X.w f)) (hu : ∀ i ∈ us, i ∈ own.map (·.2) := by decide) (hiu : i ∉ own.map (·.2) := by decide)
    (hx : X.N[i]? = some x := by rfl)
    (hv : ∀ (s : Shared) (H : Hp) (C : Addr) (cl : List (Str × Addr)) (fp : List Addr), Vis (X.blk s H scope (compEnvC scope cl C X.env) fp).env.scope x := by first | exact fun _ _ _ _ _ => Or.inl rfl | exact fun _ _ _ _ _ => Or.inr (Or.inl rfl) | exact fun _ _ _ _ _ => Or.inr (Or.inr rfl))
    (hd : (x == ("__debug__" : Str)) = false := by decide) (hcd : (x == ("__classdict__" : Str)) = false := by decide)
    (hbase : ∀ (s : Shared) (H : Hp) (C : Addr) (cl : List (Str × Addr)) (fp : List Addr), attributeBase (.Name x px) "pop" (X.blk s H scope (compEnvC scope cl C X.env) fp).env (eval (.Name x px) (X.blk s H scope (compEnvC scope cl C X.env) fp).env) = eval (.Name x px) (X.blk s H scope (compEnvC scope cl C X.env) fp).env := by intro _ _ _ _ _; rfl)
    (hfew : ∀ (s : Shared) (H : Hp) (C : Addr) (cl : List (Str × Addr)) (fp : List Addr), ((backTo pc (starEach [e] (X.blk s H scope (compEnvC scope cl C X.env) fp).env)).all (fun x => !x.1) && (backToKw pc (keywordEach [] (X.blk s H scope (compEnvC scope cl C X.env) fp).env)).all (fun x => x.1.isSome)
      && decide ([e].length + ([] : List Keyword).length + (if ([] : List Keyword).isEmpty then 0 else 1) < 30)) = true := by intro _ _ _ _ _; rfl)
    (hline : (pa.endLine == pc.line) = true := by rfl) (hs1 : ∀ (s : Shared) (H : Hp) (C : Addr) (cl : List (Str × Addr)) (fp : List Addr), starEach [e] (X.blk s H scope (compEnvC scope cl C X.env) fp).env = (false, eval e (X.blk s H scope (compEnvC scope cl C X.env) fp).env) :: starEach [] (X.blk s H scope (compEnvC scope cl C X.env) fp).env := by intro _ _ _ _ _; rfl)
    (hplain : ∀ (s : Shared) (H : Hp) (C : Addr) (cl : List (Str × Addr)) (fp : List Addr), (backTo pc (starEach [] (X.blk s H scope (compEnvC scope cl C X.env) fp).env)).any (·.1) = false := by intro _ _ _ _ _; rfl) (hs : ∀ x, foldedSetIterable iter X.env x = pure x := by intro _; rfl) :
    PS X (.Return (some (.ListComp (.Call (.Attribute (.Name x px) "pop" pa) [e] [] pc) [⟨tg, iter, [], 0⟩] scope pos)) rpos) (tS X.prog X.w (sMix i fi (own.map (·.2)) p f)) :=
  PS.imp (ps_ret (pe_lc hc hN hi ok hg (fun s H C cl fp => pts_nil) (fun s H C cl fp => pe_bm (X := X.blk s H scope (compEnvC scope cl C X.env) fp) PySem.F.plainAttrs_list PySem.F.slot_list_pop PySem.F.type_list_pop mt_popAt (pe_var hx (hv s H C cl fp) hd hcd) (pa_cons (he s H C cl fp) pa_nil (hs1 s H C cl fp)) (hbase s H C cl fp) (hfew s H C cl fp) hline (hs1 s H C cl fp) (hplain s H C cl fp)) hs))
    fun D σ H q => go_mix hu hiu (fun _ _ _ h => h) (fun _ _ _ h => h) q
end
end Pv

set_option Elab.async false
set_option linter.all false
set_option maxRecDepth 100000
set_option maxHeartbeats 1000000
namespace Pv
open PySem PySem.Spec L2
open PyProof.Rows hiding St

/-! ### a def that keeps a plain reading, by its name -/
def Has (P : Program) (w : World) (K : PySem.W.Frag) (mg : Str → Option Value) (base : Heap) (k : Nat) (x : Str) (sem : Sem1) : Prop :=
  ∃ f fd ps, FnG P w K mg base CX0 k f fd ps (spD P w sem) ∧ mg x = some (.ref f) ∧ PySem.W.keepIn K (.ref f) = true ∧ Binds K fd ps []
theorem Rm.mono {j k : Nat} {X : Cx} (m : Rm k X) (h : j ≤ k) : Rm j X := ⟨m.r.mono h, m.g, m.c⟩
section
variable {X : Cx} {k j : Nat} {sem : Sem1} {x : Str} {p pos : Pos} {e : Expr} {es : List Expr} {fa : EA}
theorem v_call (h : Has X.prog X.w X.K X.mg X.base j x sem) (m : Rm k X) (hg : Gl X x) (ha : PA X (e :: es) (tA X.prog X.w fa)) (hjk : j ≤ k := by decide) (hdb : (x == ("__debug__" : Str)) = false := by decide) (he : starEach (e :: es) X.env = (false, eval e X.env) :: starEach es X.env := by rfl) (hpl : (backTo pos (starEach es X.env)).any (·.1) = false := by rfl) :
    PE X (.Call (.Name x p) (e :: es) [] pos) (tV X.prog X.w (eFn sem fa)) := by
  obtain ⟨f, fd, ps, F, hm, hk, hb⟩ := h
  exact v_fn (F.mono hjk) m hg hm hk hb ha hdb he hpl
end

/-! ### a, b = e1, e2 -/
def two : List D → Option (D × D)
  | [a, b] => some (a, b)
  | _ => none
theorem two_eq {l : List D} {a b : D} (h : two l = some (a, b)) : l = [a, b] := by
  unfold two at h
  split at h <;> cases h
  rfl
def sPar (i j : Nat) (f : EA) : SS := fun ρ s => (f ρ s).bind fun z => (two z.1).map fun ab => (.nx, (ρ.set i (some (.p ab.1))).set j (some (.p ab.2)), z.2)
section
variable {X : Cx} {i j : Nat} {x y : Str} {a b : Expr} {px py pt pos : Pos} {kt k2 : Nat} {pt2 : Pos} {fa : EA}
theorem s_par (hc : X.calm = true) (hN : X.N.Nodup) (ha : PA X [a, b] (tA X.prog X.w fa)) (hi : X.N[i]? = some x := by rfl) (hj : X.N[j]? = some y := by rfl) (hij : i ≠ j := by decide)
    (hx : X.env.scope.names.lookup x = some .local := by rfl) (hy : X.env.scope.names.lookup y = some .local := by rfl)
    (hw : swappedStores [.Tuple [.Name x px, .Name y py] kt pt] (.Tuple [a, b] k2 pt2) X.env = pure (some [x, y]) := by rfl)
    (hs : swapsWithSole [.Tuple [.Name x px, .Name y py] kt pt] (.Tuple [a, b] k2 pt2) pos.line X.env = pure false := by rfl) :
    PS X (.Assign [.Tuple [.Name x px, .Name y py] kt pt] (.Tuple [a, b] k2 pt2) pos) (tS X.prog X.w (sPar i j fa)) :=
  PS.imp (ps_par hc hN hi hj hij hx hy ha hw hs) fun D σ H ⟨S, B0, ρ, fp, s, o, ρ', s', R, e, q⟩ => by
    obtain ⟨⟨ds, s1⟩, e1, e⟩ := bind_some' e
    obtain ⟨⟨d1, d2⟩, e2, e⟩ := map_some' e
    cases e
    obtain rfl := two_eq e2
    refine ⟨S, B0, ρ, fp, s, _, s1, R, e1, fun vs H1 k o l => ?_⟩
    obtain ⟨v, u, rfl, r1, r2⟩ := l.two
    have less : ∀ (t : Nat) (fp : Fp) (a : Addr), Blk B0 (fun l => if l = t then [] else fp l) a → Blk B0 fp a := fun t fp a z => by
      rcases z with z | ⟨l, z⟩
      · exact .inl z
      · by_cases hl : l = t
        · simp only [hl, if_true] at z; cases z
        · simp only [hl, if_false] at z; exact .inr ⟨l, z⟩
    have R1 := R.set (i := i) k o .nil (fun a h => absurd h List.not_mem_nil) (.p (r1.ext (.less fun a z => z.elim id fun z => absurd z List.not_mem_nil)))
    have R2 := R1.set (i := j) .refl R1.src .nil (fun a h => absurd h List.not_mem_nil) (.p (r2.ext (.less fun a z => less i fp a (z.elim id fun z => absurd z List.not_mem_nil))))
    refine ⟨v, u, rfl, q _ _ _ R2 (Fr.trans (.set k rfl fun a h => absurd h List.not_mem_nil) (.set .refl rfl fun a h => absurd h List.not_mem_nil))⟩
end

/-! ### len(set(..)) of numbers -/
def gLenSet : D → Option D
  | .lst l => match intsD l with
    | some ns => if ns.length ≤ 4000 then some (.int ((firstMet (fun i => ns.getD i 0) ns.length).length : Nat)) else none
    | none => none
  | _ => none
theorem v_lenSet {X : Cx} {a : Expr} {f : EE} {p p2 q pos : Pos} {x y : Str} (hg : Gl X x) (hm : X.mg x = none) (hg2 : Gl X y) (hm2 : X.mg y = none) (ha : PE X a (tI X.prog X.w f)) (hc : X.calm = true) (hb : bootBuiltins x = some (.builtin "len") := by rfl) (hb2 : bootBuiltins y = some (.type "set") := by rfl)
    (hn : x ≠ "__name__" := by decide) (hd : (x == ("__debug__" : Str)) = false := by decide) (hn2 : y ≠ "__name__" := by decide) (hd2 : (y == ("__debug__" : Str)) = false := by decide)
    (na : starEach [a] X.env = (false, eval a X.env) :: starEach [] X.env := by rfl) (na2 : ∀ z, starEach [z] X.env = (false, eval z X.env) :: starEach [] X.env → True := by intro _ _; trivial) (hs : starEach [.Call (.Name y p2) [a] [] q] X.env = (false, eval (.Call (.Name y p2) [a] [] q) X.env) :: starEach [] X.env := by rfl) :
    PE X (.Call (.Name x p) [.Call (.Name y p2) [a] [] q] [] pos) (tV X.prog X.w (e1 gLenSet f)) := by
  refine ⟨fun pins s σ H Q I ⟨S, B0, ρ, fp, s0, d, s', R, e, hQ⟩ => ?_⟩
  obtain ⟨⟨z, s1⟩, e1, e⟩ := bind_some' e
  obtain ⟨z2, e2, e⟩ := map_some' e
  cases e
  unfold gLenSet at e2
  split at e2
  · rename_i l e3
    have e3 : z = .lst l := e3
    subst e3
    split at e2
    · rename_i ns e4
      split at e2
      · rename_i hl
        cases e2
        refine Call_ (ld_blt I hg hm hb ?_ hn hd)
        refine PyProof.Rows.callWith_builtin1 (PyProof.Rows.args_cons ?_ rfl) hs rfl
        refine Call_ (ld_blt I hg2 hm2 hb2 ?_ hn2 hd2)
        refine PyProof.Rows.callWith_type1 (PyProof.Rows.args_cons (thn (ha.run pins s σ H (fun v H1 => Keep S H H1 ∧ SrcOk S s1 H1 ∧ RepI X.prog X.w S (Blk B0 fp) H1 v (.lst l)) I ⟨S, B0, ρ, fp, s0, _, s1, R, e1, fun v H1 a b c => ⟨a, b, c⟩⟩) ?_) na) na rfl
        rintro v st1 ⟨u, H1, I1, r1, k1, o1, q1⟩
        refine PyProof.Rows.args_nil ?_
        obtain ⟨ad, rfl, hq⟩ := q1.ints (K := X.K) e4
        cases r1
        obtain ⟨us, r, pl, hz⟩ := I1.list hq
        have hlen : us.toArray.size = ns.length := by rw [List.size_toArray, ← r.length, List.length_map]
        refine call_set_list (I1.ok.hd hc) pl.isList (by simpa using intsAre_of r) (by rw [hlen]; unfold scanBound; omega) fun h' tk hS hk => PyProof.Rows.args_nil ?_
        rw [hlen] at hS
        obtain ⟨o, es, ep, t, ho, hex, hdat, _, _, _, hf, hn⟩ := hS
        have I2 : Inv X pins σ H1 { st1 with heap := h', toks := tk } := I1.kept fun b o e => hk b o (Heap.lt_size e) e
        have hle := firstMet_length_le (fun i => ns.getD i 0) ns.length
        refine call_len_set ho hex hdat hf (by rw [hn]; omega) ⟨.int (firstMet (fun i => ns.getD i 0) ns.length).length, H1, I2.tok _, ⟨_, by rw [hn]⟩, hQ _ H1 k1 o1 (.int _)⟩
      · cases e2
    · cases e2
  · cases e2

/-! ### dict(..) of pairs, len of a dict, {} -/
def keyS : D → Option Key
  | .int i => some (.inl i)
  | .str x => some (.inr x)
  | _ => none
def pairsD : List D → Option (List (Key × D))
  | [] => some []
  | .tup [k, d] :: r => (keyS k).bind fun k => (pairsD r).map ((k, d) :: ·)
  | _ :: _ => none
def putKD (l : List (Key × D)) (k : Key) (d : D) : List (Key × D) := if (l.any fun p => decide (p.1 = k)) = true then l.map fun p => if p.1 = k then (p.1, d) else p else l ++ [(k, d)]
def mergeKD (l more : List (Key × D)) : List (Key × D) := more.foldl (fun acc p => putKD acc p.1 p.2) l
def dctK (l : List (Key × D)) : D := .dct (l.map fun p => (keyN p.1, p.2))
inductive KR (P : Program) (w : World) (S : SA) (B : Addr → Prop) (H : Hp) : List (Key × V) → List (Key × D) → Prop
  | nil : KR P w S B H [] []
  | cons {k : Key} {v : V} {vs : List (Key × V)} {d : D} {ds : List (Key × D)} : Rep P w S B H v d → KR P w S B H vs ds → KR P w S B H ((k, v) :: vs) ((k, d) :: ds)
section
variable {P : Program} {w : World} {S : SA} {B B' : Addr → Prop} {H H' : Hp}
theorem KR.any {k : Key} : ∀ {vs : List (Key × V)} {ds : List (Key × D)}, KR P w S B H vs ds → (vs.any fun p => decide (p.1 = k)) = ds.any fun p => decide (p.1 = k)
  | _, _, .nil => rfl
  | _, _, .cons _ l => by rw [List.any_cons, List.any_cons, KR.any l]
theorem KR.app {vs' : List (Key × V)} {ds' : List (Key × D)} (m : KR P w S B H vs' ds') : ∀ {vs : List (Key × V)} {ds : List (Key × D)}, KR P w S B H vs ds → KR P w S B H (vs ++ vs') (ds ++ ds')
  | _, _, .nil => m
  | _, _, .cons r l => .cons r (KR.app m l)
theorem KR.repl {k : Key} {v : V} {d : D} (r : Rep P w S B H v d) : ∀ {vs : List (Key × V)} {ds : List (Key × D)}, KR P w S B H vs ds → KR P w S B H (vs.map fun p => if p.1 = k then (p.1, v) else p) (ds.map fun p => if p.1 = k then (p.1, d) else p)
  | _, _, .nil => .nil
  | _, _, .cons (k := j) q l => by
    rw [List.map_cons, List.map_cons]
    by_cases h : j = k
    · simp only [h, if_true]; exact .cons r (KR.repl r l)
    · simp only [h, if_false]; exact .cons q (KR.repl r l)
theorem KR.put {k : Key} {v : V} {d : D} (r : Rep P w S B H v d) {vs : List (Key × V)} {ds : List (Key × D)} (l : KR P w S B H vs ds) : KR P w S B H (putK vs k v) (putKD ds k d) := by
  unfold putK putKD
  rw [l.any]
  split
  · exact l.repl r
  · exact KR.app (.cons r .nil) l
theorem KR.merge : ∀ {ws : List (Key × V)} {es : List (Key × D)}, KR P w S B H ws es → ∀ {vs : List (Key × V)} {ds : List (Key × D)}, KR P w S B H vs ds → KR P w S B H (mergeK vs ws) (mergeKD ds es)
  | _, _, .nil, _, _, l => l
  | _, _, .cons r m, _, _, l => KR.merge m (l.put r)
theorem KR.ext (x : Ext B B' H H') : ∀ {vs : List (Key × V)} {ds : List (Key × D)}, KR P w S B H vs ds → KR P w S B' H' vs ds
  | _, _, .nil => .nil
  | _, _, .cons r l => .cons (r.ext x) (KR.ext x l)
theorem KR.parts : ∀ {vs : List (Key × V)} {ds : List (Key × D)}, KR P w S B H vs ds → vs = (ds.map (·.1)).zip (vs.map (·.2)) ∧ (ds.map (·.1)).length = (vs.map (·.2)).length ∧ Reps P w S B H (vs.map (·.2)) (ds.map (·.2))
  | _, _, .nil => ⟨rfl, rfl, .nil⟩
  | _, _, .cons r l => by
    obtain ⟨h1, h2, h3⟩ := KR.parts l
    refine ⟨?_, ?_, .cons r h3⟩
    · simp only [List.map_cons, List.zip_cons_cons]; rw [← h1]
    · simp only [List.map_cons, List.length_cons]; rw [h2]
theorem dctK_eq (l : List (Key × D)) : dctK l = .dct (((l.map (·.1)).map keyN).zip (l.map (·.2))) := by
  unfold dctK
  congr 1
  induction l with
  | nil => rfl
  | cons p l ih => rw [List.map_cons, ih]; rfl
theorem KR.rep {a : Addr} {vs : List (Key × V)} {ds : List (Key × D)} (n : ¬ B a) (h : At H a (.dK vs)) (l : KR P w S B H vs ds) : Rep P w S B H (.ref a) (dctK ds) := by
  obtain ⟨h1, h2, h3⟩ := l.parts
  rw [dctK_eq]
  exact .dk n (by rw [← h1]; exact h) h2 h3
theorem keyS_kV {v : V} {d : D} {k : Key} (r : Rep P w S B H v d) (e : keyS d = some k) : v = kV k := by
  cases d <;> cases e <;> cases r <;> rfl
theorem Reps.pairs {K : PySem.W.Frag} : ∀ {l : List D} {vs : List V} {kds : List (Key × D)}, Reps P w S B H vs l → pairsD l = some kds → ∃ (ps : List Addr) (kvs : List (Key × V)), vs = ps.map V.ref ∧ Paired (fun p kv => SqT K H p [kV kv.1, kv.2]) ps kvs ∧ KR P w S B H kvs kds
  | [], _, _, .nil, e => by cases e; exact ⟨[], [], rfl, .nil, .nil⟩
  | d :: l, _, _, .cons r rs, e => by
    unfold pairsD at e
    split at e
    · rename_i h; cases h
    · rename_i k d2 r2 h
      cases h
      obtain ⟨kk, e1, e⟩ := bind_some' e
      obtain ⟨kds, e2, e3⟩ := map_some' e
      subst e3
      obtain ⟨ps, kvs, h1, h2, h3⟩ := Reps.pairs rs e2
      cases r with
      | tup n ha lt =>
        obtain ⟨x, y, rfl, rx, ry⟩ := lt.two
        rw [keyS_kV rx e1] at ha
        exact ⟨_ :: ps, (kk, y) :: kvs, by rw [h1]; rfl, .cons (.inl ha.rd) h2, .cons ry h3⟩
    · cases e
end
def gDict : List D → Option D
  | [.lst l] => (pairsD l).bind fun kds => if kds.length ≤ LIM then some (dctK (mergeKD [] kds)) else none
  | _ => none
theorem rc_dict {P : Program} {w : World} {K : PySem.W.Frag} : RCV P w (fun xs H Q => ∃ (a : Addr) (ps : List Addr) (kvs : List (Key × V)), xs = [.ref a] ∧ SqL K H a (ps.map V.ref) ∧ Paired (fun p kv => SqT K H p [kV kv.1, kv.2]) ps kvs ∧ ∀ p, H p = none → Q (.ref p) (upd H p (.dK (mergeK [] kvs)))) gDict := ⟨by
  intro S B H xs ds z Q dom rx e q
  unfold gDict at e
  split at e
  · obtain ⟨kds, e1, e⟩ := bind_some' e
    split at e <;> cases e
    obtain ⟨x, rfl, r⟩ := rx.one
    obtain ⟨a, vs, rfl, ha, l⟩ := r.lst_inv
    obtain ⟨ps, kvs, rfl, h2, h3⟩ := l.pairs (K := K) e1
    refine ⟨a, ps, kvs, rfl, .inl (.inl ha), h2, fun p n => q _ _ (same_new n) ?_⟩
    have x := Same.ext (B := B) (same_new (o := .dK (mergeK [] kvs)) n)
    exact KR.rep (fun z => dom p z n) (.inl upd_same) ((h3.merge .nil).ext x)
  · cases e⟩
/-- len(dict(..)) -/
def gLenDict : D → Option D
  | .lst l => (pairsD l).bind fun kds => if kds.length ≤ LIM then some (.int (mergeKD [] kds).length) else none
  | _ => none
theorem KR.length {P : Program} {w : World} {S : SA} {B : Addr → Prop} {H : Hp} : ∀ {vs : List (Key × V)} {ds : List (Key × D)}, KR P w S B H vs ds → vs.length = ds.length
  | _, _, .nil => rfl
  | _, _, .cons _ l => congrArg Nat.succ (KR.length l)
section
variable {X : Cx}
def rLenDK : List V → Hp → VK → Prop := fun xs H Q => ∃ (a : Addr) (kvs : List (Key × V)), xs = [.ref a] ∧ Rd H a (.dK kvs) ∧ Q (.int kvs.length) H
theorem call_lenDK : CallR X (.builtin "len") rLenDK := by
  rintro pins s σ H xs us Q I r ⟨a, kvs, rfl, h, q⟩
  obtain ⟨u, rfl, rx⟩ := vals1 r
  cases rx
  exact d_len I h fun t s' I' => ⟨.int _, H, I', ⟨t, rfl⟩, q⟩
theorem v_lenDict {a : Expr} {f : EE} {p p2 q pos : Pos} {x y : Str} (hc : X.calm = true) (hg : Gl X x) (hm : X.mg x = none) (hg2 : Gl X y) (hm2 : X.mg y = none) (ha : PE X a (tI X.prog X.w f)) (hb : bootBuiltins x = some (.builtin "len") := by rfl) (hb2 : bootBuiltins y = some (.type "dict") := by rfl)
    (hn : x ≠ "__name__" := by decide) (hd : (x == ("__debug__" : Str)) = false := by decide) (hn2 : y ≠ "__name__" := by decide) (hd2 : (y == ("__debug__" : Str)) = false := by decide)
    (na : starEach [a] X.env = (false, eval a X.env) :: starEach [] X.env := by rfl) (np : (backTo q (starEach [] X.env)).any (·.1) = false := by rfl) (hs : starEach [.Call (.Name y p2) [a] [] q] X.env = (false, eval (.Call (.Name y p2) [a] [] q) X.env) :: starEach [] X.env := by rfl) (np2 : (backTo pos (starEach [] X.env)).any (·.1) = false := by rfl) :
    PE X (.Call (.Name x p) [.Call (.Name y p2) [a] [] q] [] pos) (tV X.prog X.w (e1 gLenDict f)) :=
  PE.imp (pe_callB call_lenDK hg hm hb (pa_cons (pe_callTy (call_dictP hc) hg2 hm2 hb2 (pa_cons ha pa_nil na) hn2 hd2 na np) pa_nil hs) hn hd hs np2) fun σ H Q ⟨S, B0, ρ, fp, s, d, s', R, e, hQ⟩ => by
    obtain ⟨⟨z, s1⟩, e1, e⟩ := bind_some' e
    obtain ⟨z2, e2, e⟩ := map_some' e
    cases e
    refine ⟨S, B0, ρ, fp, s, z, s1, R, e1, fun v H1 k o r => ?_⟩
    unfold gLenDict at e2
    split at e2
    · rename_i l e3
      have e3 : z = .lst l := e3
      subst e3
      obtain ⟨kds, e4, e2⟩ := bind_some' e2
      split at e2 <;> cases e2
      obtain ⟨a, vs, rfl, ha, l⟩ := r.lst_inv
      obtain ⟨ps, kvs, rfl, h2, h3⟩ := l.pairs (K := X.K) e4
      refine ⟨a, ps, kvs, rfl, .inl (.inl ha), h2, fun p n => ⟨p, _, rfl, .inl upd_same, ?_⟩⟩
      rw [(h3.merge .nil).length]
      exact hQ _ _ (k.same (same_new n)) (o.same (same_new n)) (.int _)
    · cases e2
end
section
variable {X : Cx}
theorem v_dict0 {pos : Pos} : PE X (.Dict [] [] pos) (tV X.prog X.w (eC (.dct []))) := PE.imp pe_dnewK fun σ H Q ⟨S, B0, ρ, fp, s, d, s', R, e, q⟩ => by
  cases e
  intro p n
  exact q _ _ (.ofSame (same_new n)) (R.src.same (same_new n)) (KR.rep (ds := []) (fun z => R.dom p z n) (.inl upd_same) .nil)
end
end Pv

set_option Elab.async false
set_option linter.all false
set_option maxRecDepth 100000
set_option maxHeartbeats 1000000
namespace Pv
open PySem PySem.Spec L2
open PyProof.Rows hiding St

section
variable {X : Cx} {a b : Expr} {pos : Pos} {fa fb : EE}
theorem cMul_ok {i j : Int} (h : cMul i j = true) : CMul i j := by
  simp only [cMul, Bool.or_eq_true, decide_eq_true_eq] at h
  unfold CMul
  rcases h with h | h
  · left; omega
  · right; omega
theorem v_mul (ha : PE X a (tI X.prog X.w fa)) (hb : PE X b (tI X.prog X.w fb)) : PE X (.BinOp a .Mult b pos) (tV X.prog X.w (e2 gMulI fa fb)) := v_op op_mul (r_I (f := fun i j => i * j) fun i j h => cMul_ok h) ha hb
end

/-! ### _law_source -/
def mixOf (m : Int) (ns : List Int) : Int := ns.foldl (fun m c => (m * 69069 + c * 31 + 5).fmod 2147483629) m
def srcOf (ns : List Int) : Src := ⟨(ns.map fun c => if c < 0 then -c else c).reverse, 1, mixOf 11 ns, 0⟩
def spSrc (K : PySem.W.Frag) : Sp := fun vs H Q _ => ∃ (a : Addr) (ns : List Int), vs = [.ref a] ∧ SqL K H a (ns.map V.int) ∧ ns.length ≤ 63 ∧
  ∀ p c H', Same H H' → H p = none → H c = none → p ≠ c → H' p = some (.dK (srcL c (srcOf ns))) → H' c = some (.lst ((srcOf ns).cells.map V.int)) → Q (.ref p) H'
theorem SqL.same {K : PySem.W.Frag} {H H' : Hp} {a : Addr} {xs : List V} (h : SqL K H a xs) (m : Same H H') : SqL K H' a xs := by
  rcases h with h | h
  · rcases h with h | ⟨o, h⟩
    · exact .inl (.inl (m _ _ h))
    · exact .inl (.inr ⟨o, m _ _ h⟩)
  · exact .inr h
abbrev rMulI : R2 := rI CMul fun i j => .int (i * j)
abbrev rAddI : R2 := rI0 fun i j => .int (i + j)
abbrev rModI : R2 := rI (fun _ j => j ≠ 0) fun i j => .int (i.fmod j)
abbrev rInt1 : List V → Hp → VK → Prop := fun xs H Q => (∃ i, xs = [.int i] ∧ Q (.int i) H) ∨ ∃ k, xs = [.bl k] ∧ Q (.int (if k then 1 else 0)) H
abbrev rAbs1 : List V → Hp → VK → Prop := fun xs H Q => ∃ i, xs = [.int i] ∧ Q (.int (if i < 0 then -i else i)) H
/-- the body of _law_source -/
def tSrcB (K : PySem.W.Frag) : TS := tSeq (tAsg (tC (.int 11)) (gName 1))
  (tSeq (tFor (iList K (tVar 0)) (gName 2) (tAsg (tOp rModI (tCB rInt1 (tCons (tOp rAddI (tOp rAddI (tOp rMulI (tVar 1) (tC (.int 69069))) (tOp rMulI (tVar 2) (tC (.int 31)))) (tC (.int 5))) tNil)) (tC (.int 2147483629))) (gName 1)))
    (tRet (tDisp [(tC (.str "cells"), tRevL K (tLc (iList K (tVar 0)) (gName 2) tYes (tCB rAbs1 (tCons (tVar 2) tNil)) [2])), (tC (.str "left"), tC (.int 1)), (tC (.str "mixed"), tVar 1), (tC (.str "turn"), tC (.int 0))])))
theorem mixOf_take {ns : List Int} {i : Nat} (h : i < ns.length) : mixOf 11 (ns.take (i + 1)) = (mixOf 11 (ns.take i) * 69069 + ns[i] * 31 + 5).fmod 2147483629 := by
  unfold mixOf
  rw [List.take_succ_eq_append_getElem h, List.foldl_append]
  rfl
theorem pure_src {K : PySem.W.Frag} (vs : List V) (H : Hp) (Q : VK) (E : XK) (h : spSrc K vs H Q E) : tSrcB K { nx := fun _ H' => Q .non H', rt := Q } (L2.start ["script", "mixed", "cell"] vs) H := by
  obtain ⟨a, ns, rfl, hS, hl, q⟩ := h
  show tAsg (tC (.int 11)) (gName 1) { nx := _, rt := Q } (L2.start ["script", "mixed", "cell"] [.ref a]) H
  refine ⟨.ref a, rfl, a, rfl, ⟨_, hS⟩, ?_⟩
  refine for_it walk_list (fun i σ H' => H' = H ∧ σ[0]? = some (some (.ref a)) ∧ σ[1]? = some (some (.int (mixOf 11 (ns.take i)))) ∧ σ.length = 3) ⟨rfl, rfl, rfl, rfl⟩ (fun i σ H' _ p => p.1 ▸ hS) ?_ ?_
  · rintro i x σ H1 H' hi ⟨rfl, h0, h1, h3⟩ ⟨rfl, hx⟩
    rw [List.length_map] at hi
    have ex : x = .int ns[i] := by
      rw [List.getElem?_map, List.getElem?_eq_getElem hi] at hx
      exact (Option.some.inj hx).symm
    subst ex
    show tAsg _ _ _ (σ.set 2 (some (.int ns[i]))) _
    have g1 : (σ.set 2 (some (V.int ns[i])))[1]? = some (some (.int (mixOf 11 (ns.take i)))) := by rw [List.getElem?_set_ne (by decide)]; exact h1
    have g2 : (σ.set 2 (some (V.int ns[i])))[2]? = some (some (.int ns[i])) := List.getElem?_set_self (by omega)
    refine ⟨_, g1, _, _, rfl, rfl, .inr (by decide), _, g2, _, _, rfl, rfl, .inr (by decide), _, _, rfl, rfl, _, _, rfl, rfl, Or.inl ⟨_, rfl, _, _, rfl, rfl, (by decide : (2147483629 : Int) ≠ 0), ?_⟩⟩
    refine ⟨rfl, ?_, ?_, ?_⟩
    · rw [List.getElem?_set_ne (by decide), List.getElem?_set_ne (by decide)]; exact h0
    · rw [List.getElem?_set_self (by rw [List.length_set]; omega), mixOf_take hi]
    · rw [List.length_set, List.length_set]; exact h3
  · rintro σ H' ⟨rfl, h0, h1, h3⟩
    intro p hp
    rw [List.length_map, List.take_length] at h1
    have hS2 : SqL K (upd H' p (.dK [])) a (ns.map V.int) := Pv.SqL.same hS (same_new hp)
    unfold tPairs
    unfold tC
    dsimp only
    refine ⟨.ref a, h0, a, rfl, ⟨_, hS2⟩, fun D hD => ?_⟩
    have hDp : D ≠ p := fun z => by rw [z, upd_same] at hD; cases hD
    have hDn : H' D = none := by rw [upd_ne hDp] at hD; exact hD
    refine lc_it (walk_list (xs := ns.map V.int)) (fun i H2 => ∃ acc, acc.length = i ∧ acc = ((ns.take i).map fun c => V.int (if c < 0 then -c else c)) ∧ H2 = upd (upd H' p (.dK [])) D (.lst acc)) ⟨[], rfl, rfl, rfl⟩ ?_ ?_ ?_
    · rintro i H2 _ ⟨acc, _, _, rfl⟩
      exact Pv.SqL.same hS2 (same_new hD)
    · rintro i x H2 H3 hi ⟨acc, ha, e, rfl⟩ ⟨rfl, hx⟩
      rw [List.length_map] at hi
      have ex : x = .int ns[i] := by
        rw [List.getElem?_map, List.getElem?_eq_getElem hi] at hx
        exact (Option.some.inj hx).symm
      subst ex
      refine ⟨wipe_only ⟨by rw [List.length_set], fun j hj => List.getElem?_set_ne fun z => hj (by simp [z])⟩ (us := [2]) (by simp) |>.trans (wipe_wipe _ _), ?_⟩
      unfold tYes
      refine iteT ?_
      refine ⟨_, List.getElem?_set_self (by rw [wipe_length]; omega), _, rfl, acc, upd_same, ?_, acc ++ [V.int (if ns[i] < 0 then -ns[i] else ns[i])], ?_, ?_, ?_⟩
      · have := lim_line; have : LIM = 1000000 := rfl; omega
      · rw [List.length_append, ha]; rfl
      · rw [List.take_succ_eq_append_getElem hi, e, List.map_append]; rfl
      · funext b
        by_cases hb : b = D
        · rw [hb, upd_same, upd_same]
        · rw [upd_ne hb, upd_ne hb, upd_ne hb]
    · rintro H2 ⟨acc, _, e, rfl⟩
      rw [List.length_map, List.take_length] at e
      refine ⟨D, acc, rfl, .inl (.inl upd_same), fun c hc => ?_⟩
      have hcD : c ≠ D := fun z => by rw [z, upd_same] at hc; cases hc
      have hcp : c ≠ p := fun z => by rw [z, upd_ne (Ne.symm hDp), upd_same] at hc; cases hc
      have hcn : H' c = none := by rw [upd_ne hcD, upd_ne hcp] at hc; exact hc
      refine ⟨_, h1, by rw [upd_ne (Ne.symm hcp), upd_ne (Ne.symm hDp), upd_same], [(.inr "cells", .ref c), (.inr "left", .int 1), (.inr "mixed", .int (mixOf 11 ns)), (.inr "turn", .int 0)], rfl, (show 4 ≤ 15 by decide), ?_⟩
      refine q p c _ ?_ hp hcn (Ne.symm hcp) ?_ ?_
      · intro b o e2
        have e3 : b ≠ p := fun z => by rw [z, hp] at e2; cases e2
        have e4 : b ≠ c := fun z => by rw [z, hcn] at e2; cases e2
        have e5 : b ≠ D := fun z => by rw [z, hDn] at e2; cases e2
        rw [upd_ne e3, upd_ne e4, upd_ne e5, upd_ne e3]; exact e2
      · rw [upd_same]; rfl
      · rw [upd_ne hcp, upd_same, e]
        simp [srcOf, Function.comp_def]
end Pv

set_option Elab.async false
set_option linter.all false
set_option maxRecDepth 100000
set_option maxHeartbeats 1000000
namespace Pv
open PySem PySem.Spec L2
open PyProof.Rows hiding St

theorem PE.or {X : Cx} {e : Expr} {t t' : TE} (h : PE X e t) (h' : PE X e t') : PE X e (fun σ H Q => t σ H Q ∨ t' σ H Q) := ⟨fun pins s σ H Q I q => q.elim (h.run pins s σ H Q I) (h'.run pins s σ H Q I)⟩
theorem Rm.blk {k : Nat} {X : Cx} (m : Rm k X) {s : Shared} {H : Hp} {scope : Scope} {env : PySem.Env} {fp : List Addr} : Rm k (X.blk s H scope env fp) := ⟨m.r, m.g, m.c⟩
/-! ### slices of lists and tuples, reversal of both -/
def cutD : D → Option Int → Option Int → Option D
  | .tup l, a, b => some (.tup (cutG l a b))
  | .lst l, a, b => some (.lst (cutG l a b))
  | _, _, _ => none
def eSl (f : EE) (pl ph : EPt) : EE := fun ρ s => (f ρ s).bind fun x => (pl ρ x.2).bind fun l => (ph ρ l.2).bind fun h => (cutD x.1 l.1 h.1).map fun d => (d, h.2)
def gRev : D → Option D
  | .tup l => some (.tup l.reverse)
  | .lst l => some (.lst l.reverse)
  | _ => none
section
variable {X : Cx} {a : Expr} {lo hi : Option Expr} {p2 pos : Pos} {f : EE} {pl ph : EPt}
theorem v_sl (ha : PE X a (tI X.prog X.w f)) (hl : PO X lo (tP X.prog X.w pl)) (hh : PO X hi (tP X.prog X.w ph)) : PE X (.Subscript a (.Slice lo hi none p2) pos) (tV X.prog X.w (eSl f pl ph)) :=
  PE.imp (PE.or (v_slT ha hl hh) (PE.vf (v_slL ha hl hh))) fun σ H Q ⟨S, B0, ρ, fp, s, d, s', R, e, q⟩ => by
    obtain ⟨⟨x, s1⟩, e1, e⟩ := bind_some' e
    obtain ⟨⟨l, s2⟩, e2, e⟩ := bind_some' e
    obtain ⟨⟨h, s3⟩, e3, e⟩ := bind_some' e
    obtain ⟨z, e4, e⟩ := map_some' e
    cases e
    cases x <;> cases e4
    · refine .inl ⟨S, B0, ρ, fp, s, _, s3, R, ?_, q⟩
      unfold eSlT
      rw [e1]; simp only [Option.bind_some]; rw [e2]; simp only [Option.bind_some]; rw [e3]; rfl
    · refine .inr ⟨S, B0, ρ, fp, s, _, s3, R, ?_, q⟩
      unfold eF fSlL
      rw [e1]; simp only [Option.bind_some]; rw [e2]; simp only [Option.bind_some]; rw [e3]; rfl
theorem v_rev {k : Nat} {p1 p3 p4 : Pos} (ha : PE X a (tI X.prog X.w f)) : PE X (.Subscript a (.Slice none none (some (.UnaryOp .USub (.Constant (.int 1) k p1) p3)) p4) pos) (tV X.prog X.w (e1 gRev f)) :=
  PE.imp (PE.or (v_revT ha) (PE.vf (v_revL ha))) fun σ H Q ⟨S, B0, ρ, fp, s, d, s', R, e, q⟩ => by
    obtain ⟨⟨x, s1⟩, e1', e⟩ := bind_some' e
    obtain ⟨z, e4, e⟩ := map_some' e
    cases e
    cases x <;> cases e4
    · exact .inl ⟨S, B0, ρ, fp, s, _, s1, R, by unfold Pv.e1; rw [e1']; rfl, q⟩
    · exact .inr ⟨S, B0, ρ, fp, s, _, s1, R, by unfold eF f1; rw [e1']; rfl, q⟩
end

/-! ### the built-ins by name -/
section
variable {X : Cx} {k : Nat} {e e' : Expr} {p p2 pos : Pos} {fa : EA} {f : EE}
theorem c_len (m : Rm k X) (b : X.mg "len" = none) (ha : PA X [e] (tAI X.prog X.w fa)) (hg : Gl X "len" := by rfl) (he : starEach [e] X.env = (false, eval e X.env) :: starEach [] X.env := by rfl) (hpl : (backTo pos (starEach [] X.env)).any (·.1) = false := by rfl) :
    PE X (.Call (.Name "len" p) [e] [] pos) (tV X.prog X.w (eCl gLen fa)) := v_callB (CallR.or call_len_seq call_len_str) rc_len hg b boot_len ha (by decide) (by decide) he hpl
theorem c_int (m : Rm k X) (b : X.mg "int" = none) (ha : PA X [e] (tAI X.prog X.w fa)) (hg : Gl X "int" := by rfl) (he : starEach [e] X.env = (false, eval e X.env) :: starEach [] X.env := by rfl) (hpl : (backTo pos (starEach [] X.env)).any (·.1) = false := by rfl) :
    PE X (.Call (.Name "int" p) [e] [] pos) (tV X.prog X.w (eCl gInt fa)) := v_callT call_int1 rc_int hg b PyProof.Rows.boot_int ha (by decide) (by decide) he hpl
theorem c_abs (m : Rm k X) (b : X.mg "abs" = none) (ha : PA X [e] (tAI X.prog X.w fa)) (hg : Gl X "abs" := by rfl) (he : starEach [e] X.env = (false, eval e X.env) :: starEach [] X.env := by rfl) (hpl : (backTo pos (starEach [] X.env)).any (·.1) = false := by rfl) :
    PE X (.Call (.Name "abs" p) [e] [] pos) (tV X.prog X.w (eCl gAbs fa)) := v_callB call_abs rc_abs hg b PyProof.Rows.boot_abs ha (by decide) (by decide) he hpl
theorem c_max2 (m : Rm k X) (b : X.mg "max" = none) (ha : PA X [e, e'] (tAI X.prog X.w fa)) (hg : Gl X "max" := by rfl) (he : starEach [e, e'] X.env = (false, eval e X.env) :: starEach [e'] X.env := by rfl) (hpl : (backTo pos (starEach [e'] X.env)).any (·.1) = false := by rfl) :
    PE X (.Call (.Name "max" p) [e, e'] [] pos) (tV X.prog X.w (eCl gMax2 fa)) := v_callB (call_max2 m.c) rc_max2 hg b PyProof.Rows.boot_max ha (by decide) (by decide) he hpl
theorem c_min2 (m : Rm k X) (b : X.mg "min" = none) (ha : PA X [e, e'] (tAI X.prog X.w fa)) (hg : Gl X "min" := by rfl) (he : starEach [e, e'] X.env = (false, eval e X.env) :: starEach [e'] X.env := by rfl) (hpl : (backTo pos (starEach [e'] X.env)).any (·.1) = false := by rfl) :
    PE X (.Call (.Name "min" p) [e, e'] [] pos) (tV X.prog X.w (eCl gMin2 fa)) := v_callB (call_min2 m.c) rc_min2 hg b PyProof.Rows.boot_min ha (by decide) (by decide) he hpl
theorem c_maxL (m : Rm k X) (b : X.mg "max" = none) (ha : PA X [e] (tAI X.prog X.w fa)) (hg : Gl X "max" := by rfl) (he : starEach [e] X.env = (false, eval e X.env) :: starEach [] X.env := by rfl) (hpl : (backTo pos (starEach [] X.env)).any (·.1) = false := by rfl) :
    PE X (.Call (.Name "max" p) [e] [] pos) (tV X.prog X.w (eCl gMaxL fa)) := v_callB (cr_max m.c) rc_max hg b PyProof.Rows.boot_max ha (by decide) (by decide) he hpl
theorem c_minL (m : Rm k X) (b : X.mg "min" = none) (ha : PA X [e] (tAI X.prog X.w fa)) (hg : Gl X "min" := by rfl) (he : starEach [e] X.env = (false, eval e X.env) :: starEach [] X.env := by rfl) (hpl : (backTo pos (starEach [] X.env)).any (·.1) = false := by rfl) :
    PE X (.Call (.Name "min" p) [e] [] pos) (tV X.prog X.w (eCl gMinL fa)) := v_callB (cr_min m.c) rc_min hg b PyProof.Rows.boot_min ha (by decide) (by decide) he hpl
theorem c_sum (m : Rm k X) (b : X.mg "sum" = none) (ha : PA X [e] (tAI X.prog X.w fa)) (hg : Gl X "sum" := by rfl) (he : starEach [e] X.env = (false, eval e X.env) :: starEach [] X.env := by rfl) (hpl : (backTo pos (starEach [] X.env)).any (·.1) = false := by rfl) :
    PE X (.Call (.Name "sum" p) [e] [] pos) (tV X.prog X.w (eCl gSum fa)) := v_callB (cr_sum m.c) rc_sum hg b PyProof.Rows.boot_sum ha (by decide) (by decide) he hpl
theorem c_all (m : Rm k X) (b : X.mg "all" = none) (ha : PA X [e] (tAI X.prog X.w fa)) (hg : Gl X "all" := by rfl) (he : starEach [e] X.env = (false, eval e X.env) :: starEach [] X.env := by rfl) (hpl : (backTo pos (starEach [] X.env)).any (·.1) = false := by rfl) :
    PE X (.Call (.Name "all" p) [e] [] pos) (tV X.prog X.w (eCl gAll fa)) := v_callB (cr_all m.c) rc_all hg b PyProof.Rows.boot_all ha (by decide) (by decide) he hpl
theorem c_any (m : Rm k X) (b : X.mg "any" = none) (ha : PA X [e] (tAI X.prog X.w fa)) (hg : Gl X "any" := by rfl) (he : starEach [e] X.env = (false, eval e X.env) :: starEach [] X.env := by rfl) (hpl : (backTo pos (starEach [] X.env)).any (·.1) = false := by rfl) :
    PE X (.Call (.Name "any" p) [e] [] pos) (tV X.prog X.w (eCl gAny fa)) := v_callB (cr_any m.c) rc_any hg b PyProof.Rows.boot_any ha (by decide) (by decide) he hpl
theorem c_repr (m : Rm k X) (b : X.mg "repr" = none) (ha : PA X [e] (tAI X.prog X.w fa)) (hg : Gl X "repr" := by rfl) (he : starEach [e] X.env = (false, eval e X.env) :: starEach [] X.env := by rfl) (hpl : (backTo pos (starEach [] X.env)).any (·.1) = false := by rfl) :
    PE X (.Call (.Name "repr" p) [e] [] pos) (tV X.prog X.w (eCl gRepr fa)) := v_callB (call_reprD m) rc_repr hg b PyProof.Rows.boot_repr ha (by decide) (by decide) he hpl
theorem c_tuple (m : Rm k X) (b : X.mg "tuple" = none) (ha : PA X [e] (tAI X.prog X.w fa)) (hg : Gl X "tuple" := by rfl) (he : starEach [e] X.env = (false, eval e X.env) :: starEach [] X.env := by rfl) (hpl : (backTo pos (starEach [] X.env)).any (·.1) = false := by rfl) :
    PE X (.Call (.Name "tuple" p) [e] [] pos) (tV X.prog X.w (eCl gTup fa)) := v_callT call_tupZ rc_tup hg b PyProof.Rows.boot_tuple ha (by decide) (by decide) he hpl
theorem c_list (m : Rm k X) (b : X.mg "list" = none) (ha : PA X [e] (tAI X.prog X.w fa)) (hg : Gl X "list" := by rfl) (he : starEach [e] X.env = (false, eval e X.env) :: starEach [] X.env := by rfl) (hpl : (backTo pos (starEach [] X.env)).any (·.1) = false := by rfl) :
    PE X (.Call (.Name "list" p) [e] [] pos) (tF X.prog X.w (fCl gLst fa)) := f_callT call_list_of rc_lst hg b PyProof.Rows.boot_list ha (by decide) (by decide) he hpl
theorem c_sorted (m : Rm k X) (b : X.mg "sorted" = none) (ha : PA X [e] (tAI X.prog X.w fa)) (hg : Gl X "sorted" := by rfl) (he : starEach [e] X.env = (false, eval e X.env) :: starEach [] X.env := by rfl) (hpl : (backTo pos (starEach [] X.env)).any (·.1) = false := by rfl) :
    PE X (.Call (.Name "sorted" p) [e] [] pos) (tF X.prog X.w (fCl (gSrt false) fa)) := f_callB (cr_srt m) rc_srt hg b PyProof.Rows.boot_sorted ha (by decide) (by decide) he hpl
theorem c_sortedR {j : Nat} {kp cp : Pos} (m : Rm k X) (b : X.mg "sorted" = none) (ha : PA X [e] (tAI X.prog X.w fa)) (hg : Gl X "sorted" := by rfl)
    (he : backTo pos (starEach [e] X.env) = (false, eval e X.env) :: backTo pos (starEach [] X.env) := by rfl) (hpl : (backTo pos (starEach [e] X.env)).any (·.1) = false := by rfl)
    (hall : (backToKw pos (keywordEach [⟨some "reverse", .Constant (.bool true) j cp, kp⟩] X.env)).all (·.1.isSome) = true := by rfl) (hnone : (backToKw pos (keywordEach [⟨some "reverse", .Constant (.bool true) j cp, kp⟩] X.env)).any (·.1.isNone) = false := by rfl) (hks : (backToKw pos (keywordEach [⟨some "reverse", .Constant (.bool true) j cp, kp⟩] X.env)).filterMap (·.1) = [Str.ofString "reverse"] := by rfl) :
    PE X (.Call (.Name "sorted" p) [e] [⟨some "reverse", .Constant (.bool true) j cp, kp⟩] pos) (tF X.prog X.w (fCl (gSrt true) fa)) := f_srtR (j := j) (cp := cp) (kp := kp) m rfl hg b ha (by decide) (by decide) PyProof.Rows.boot_sorted he hpl _ rfl hall hnone hks
theorem c_isInt (m : Rm k X) (b : X.mg "isinstance" = none) (b2 : X.mg "int" = none) (ha : PE X e (tI X.prog X.w f)) (hg : Gl X "isinstance" := by rfl) (hg2 : Gl X "int" := by rfl) (hs : starEach [e, .Name "int" p2] X.env = (false, eval e X.env) :: starEach [.Name "int" p2] X.env := by rfl) (hs2 : starEach [.Name "int" p2] X.env = (false, eval (.Name "int" p2) X.env) :: starEach [] X.env := by rfl) (hpl : (backTo pos (starEach [.Name "int" p2] X.env)).any (·.1) = false := by rfl) :
    PE X (.Call (.Name "isinstance" p) [e, .Name "int" p2] [] pos) (tV X.prog X.w (e1 (gIsi fInt) f)) := v_isi is_int hg b hg2 b2 PyProof.Rows.boot_int ha (by decide) (by decide) PyProof.Rows.boot_isinstance (by decide) (by decide) hs hs2 hpl
theorem c_isBool (m : Rm k X) (b : X.mg "isinstance" = none) (b2 : X.mg "bool" = none) (ha : PE X e (tI X.prog X.w f)) (hg : Gl X "isinstance" := by rfl) (hg2 : Gl X "bool" := by rfl) (hs : starEach [e, .Name "bool" p2] X.env = (false, eval e X.env) :: starEach [.Name "bool" p2] X.env := by rfl) (hs2 : starEach [.Name "bool" p2] X.env = (false, eval (.Name "bool" p2) X.env) :: starEach [] X.env := by rfl) (hpl : (backTo pos (starEach [.Name "bool" p2] X.env)).any (·.1) = false := by rfl) :
    PE X (.Call (.Name "isinstance" p) [e, .Name "bool" p2] [] pos) (tV X.prog X.w (e1 (gIsi (· == "bool")) f)) := v_isi is_bool hg b hg2 b2 PyProof.Rows.boot_bool ha (by decide) (by decide) PyProof.Rows.boot_isinstance (by decide) (by decide) hs hs2 hpl
theorem c_isTup (m : Rm k X) (b : X.mg "isinstance" = none) (b2 : X.mg "tuple" = none) (ha : PE X e (tI X.prog X.w f)) (hg : Gl X "isinstance" := by rfl) (hg2 : Gl X "tuple" := by rfl) (hs : starEach [e, .Name "tuple" p2] X.env = (false, eval e X.env) :: starEach [.Name "tuple" p2] X.env := by rfl) (hs2 : starEach [.Name "tuple" p2] X.env = (false, eval (.Name "tuple" p2) X.env) :: starEach [] X.env := by rfl) (hpl : (backTo pos (starEach [.Name "tuple" p2] X.env)).any (·.1) = false := by rfl) :
    PE X (.Call (.Name "isinstance" p) [e, .Name "tuple" p2] [] pos) (tV X.prog X.w (e1 (gIsi (· == "tuple")) f)) := v_isi is_tup hg b hg2 b2 PyProof.Rows.boot_tuple ha (by decide) (by decide) PyProof.Rows.boot_isinstance (by decide) (by decide) hs hs2 hpl
theorem c_isLst (m : Rm k X) (b : X.mg "isinstance" = none) (b2 : X.mg "list" = none) (ha : PE X e (tI X.prog X.w f)) (hg : Gl X "isinstance" := by rfl) (hg2 : Gl X "list" := by rfl) (hs : starEach [e, .Name "list" p2] X.env = (false, eval e X.env) :: starEach [.Name "list" p2] X.env := by rfl) (hs2 : starEach [.Name "list" p2] X.env = (false, eval (.Name "list" p2) X.env) :: starEach [] X.env := by rfl) (hpl : (backTo pos (starEach [.Name "list" p2] X.env)).any (·.1) = false := by rfl) :
    PE X (.Call (.Name "isinstance" p) [e, .Name "list" p2] [] pos) (tV X.prog X.w (e1 (gIsi (· == "list")) f)) := v_isi is_lst hg b hg2 b2 PyProof.Rows.boot_list ha (by decide) (by decide) PyProof.Rows.boot_isinstance (by decide) (by decide) hs hs2 hpl
theorem c_lenSet {q : Pos} (m : Rm k X) (b : X.mg "len" = none) (b2 : X.mg "set" = none) (ha : PE X e (tI X.prog X.w f)) (hg : Gl X "len" := by rfl) (hg2 : Gl X "set" := by rfl) (na : starEach [e] X.env = (false, eval e X.env) :: starEach [] X.env := by rfl) (hs : starEach [.Call (.Name "set" p2) [e] [] q] X.env = (false, eval (.Call (.Name "set" p2) [e] [] q) X.env) :: starEach [] X.env := by rfl) :
    PE X (.Call (.Name "len" p) [.Call (.Name "set" p2) [e] [] q] [] pos) (tV X.prog X.w (e1 gLenSet f)) := v_lenSet hg b hg2 b2 ha m.c boot_len PyProof.Rows.boot_set (by decide) (by decide) (by decide) (by decide) na (fun _ _ => trivial) hs
theorem c_lenDict {q : Pos} (m : Rm k X) (b : X.mg "len" = none) (b2 : X.mg "dict" = none) (ha : PE X e (tI X.prog X.w f)) (hg : Gl X "len" := by rfl) (hg2 : Gl X "dict" := by rfl) (na : starEach [e] X.env = (false, eval e X.env) :: starEach [] X.env := by rfl) (np : (backTo q (starEach [] X.env)).any (·.1) = false := by rfl) (hs : starEach [.Call (.Name "dict" p2) [e] [] q] X.env = (false, eval (.Call (.Name "dict" p2) [e] [] q) X.env) :: starEach [] X.env := by rfl) (np2 : (backTo pos (starEach [] X.env)).any (·.1) = false := by rfl) :
    PE X (.Call (.Name "len" p) [.Call (.Name "dict" p2) [e] [] q] [] pos) (tV X.prog X.w (e1 gLenDict f)) := v_lenDict m.c hg b hg2 b2 ha boot_len PyProof.Rows.boot_dict (by decide) (by decide) (by decide) (by decide) na np hs np2
theorem c_slen {x : Str} {px pk p3 : Pos} {jj : Nat} (i : Nat) (m : Rm k X) (b : X.mg "len" = none) (hN : X.N[i]? = some x := by rfl) (hv : Vis X.env.scope x := by first | exact Or.inl rfl | exact Or.inr (Or.inl rfl) | exact Or.inr (Or.inr rfl)) (hd : (x == ("__debug__" : Str)) = false := by decide) (hcd : (x == ("__classdict__" : Str)) = false := by decide) (hg : Gl X "len" := by rfl)
    (hs : NoSl (.Constant (.str "cells") jj pk) := by intro _ _; rfl) (he : starEach [.Subscript (.Name x px) (.Constant (.str "cells") jj pk) p3] X.env = (false, eval (.Subscript (.Name x px) (.Constant (.str "cells") jj pk) p3) X.env) :: starEach [] X.env := by rfl) (hpl : (backTo pos (starEach [] X.env)).any (·.1) = false := by rfl) :
    PE X (.Call (.Name "len" p) [.Subscript (.Name x px) (.Constant (.str "cells") jj pk) p3] [] pos) (tV X.prog X.w (eSlen i)) := v_slen i m hg b boot_len hN hv hd hcd hs (by decide) (by decide) he hpl
end

/-! ### a def's facts -/
def Df (K : PySem.W.Frag) (mg : Str → Option Value) (x : Str) (st : Stmt) : Prop := ∃ f fd, FunD K x x (defArgs st) (defBody st) (defScope st) [] [] f fd ∧ mg x = some (.ref f)
theorem has_of {P : Program} {w : World} {K : PySem.W.Frag} {mg : Str → Option Value} {base : Heap} {k : Nat} {x : Str} {st : Stmt} {ps N : List Str} {n m : Nat} {g : SS} (d : Df K mg x st) (S : FnScope N ps (defScope st)) (hn : ps.length = n) (hm : N.length = m)
    (hb : ∀ (kV doc pm : Value) (an : Option Addr) (cdv ct : Value) (us : List Value), us.length = ps.length → bindArgs (PySem.W.fnOf x x (defArgs st) (defBody st) (defScope st) .none kV doc pm an cdv ct) ⟨us, []⟩ = pure (ps.zip us))
    (hbody : ∀ (f : Addr) (cdv : Value) (A : Around) (outer : List PySem.Env) (s : Shared) (H : Hp) (E : XK), Rm k (cxOf CX0 P w K mg base N x (defScope st) f cdv A outer s H E).nox → PSs (cxOf CX0 P w K mg base N x (defScope st) f cdv A outer s H E).nox (defBody st) (tS P w g)) :
    Has P w K mg base (k + 1) x (runDef n m g) := by
  obtain ⟨f, fd, F, hg⟩ := d
  exact ⟨f, fd, ps, okD_def F S hn hm fun cdv A outer s H E m => PSs.nox (hbody f cdv A outer s H E ⟨m.r, m.g, m.c⟩), hg, F.kp, F.bindsN hb⟩
end Pv

set_option Elab.async false
set_option linter.all false
set_option maxRecDepth 100000
set_option maxHeartbeats 1000000
namespace Pv
open PySem PySem.Spec L2
open PyProof.Rows hiding St

/-- _law_source, by its name -/
def HasS (P : Program) (w : World) (K : PySem.W.Frag) (mg : Str → Option Value) (base : Heap) (k : Nat) (x : Str) : Prop :=
  ∃ f fd ps, FnG P w K mg base CX0 k f fd ps (spSrc K) ∧ mg x = some (.ref f) ∧ PySem.W.keepIn K (.ref f) = true ∧ Binds K fd ps []
theorem hasS_of {P : Program} {w : World} {K : PySem.W.Frag} {mg : Str → Option Value} {base : Heap} {k : Nat} {x : Str} {st : Stmt} (d : Df K mg x st) (S : FnScope ["script", "mixed", "cell"] ["script"] (defScope st))
    (hb : ∀ (kV doc pm : Value) (an : Option Addr) (cdv ct : Value) (us : List Value), us.length = ["script"].length → bindArgs (PySem.W.fnOf x x (defArgs st) (defBody st) (defScope st) .none kV doc pm an cdv ct) ⟨us, []⟩ = pure ((["script"] : List Str).zip us))
    (hbody : ∀ (f : Addr) (cdv : Value) (A : Around) (outer : List PySem.Env) (s : Shared) (H : Hp) (E : XK), PSs (cxOf CX0 P w K mg base ["script", "mixed", "cell"] x (defScope st) f cdv A outer s H E).nox (defBody st) (tSrcB K)) :
    HasS P w K mg base (k + 1) x := by
  obtain ⟨f, fd, F, hg⟩ := d
  refine ⟨f, fd, ["script"], okG F S (fun vs H Q E h => ?_) fun cdv A outer s H vs Q E hR h => ⟨_, PSs.nox (hbody f cdv A outer s H E), pure_src vs H Q E h⟩, hg, F.kp, F.bindsN hb⟩
  obtain ⟨a, ns, rfl, _⟩ := h
  rfl
/-- what the law's own def starts from, behind its first statement -/
def start0 (N : Nat) : Env := none :: some (.p .src) :: List.replicate (N - 2) none
def spLaw (K : PySem.W.Frag) : Sp := fun vs H Q _ => ∃ (a : Addr) (ns : List Int), vs = [.ref a] ∧ SqL K H a (ns.map V.int) ∧ ns.length ≤ 63 ∧ ∀ H', Q (.bl true) H'
def Good (N : Nat) (g : SS) : Prop := ∀ ns : List Int, ns.length ≤ 63 → ∃ ρ' s', g (start0 N) (srcOf ns) = some (.ret (.bl true), ρ', s')
section
variable {X : Cx} {k j : Nat} {x : Str} {p pos : Pos} {e : Expr} {t : TA}
theorem pe_src (h : HasS X.prog X.w X.K X.mg X.base j x) (m : Rm k X) (hg : Gl X x) (ha : PA X [e] t) (hjk : j ≤ k := by decide) (hdb : (x == ("__debug__" : Str)) = false := by decide) (he : starEach [e] X.env = (false, eval e X.env) :: starEach [] X.env := by rfl) (hpl : (backTo pos (starEach [] X.env)).any (·.1) = false := by rfl) :
    PE X (.Call (.Name x p) [e] [] pos) (fun σ H Q => t σ H fun vs H1 => spSrc X.K vs H1 Q E0) := by
  obtain ⟨f, fd, ps, F, hm, hk, hb⟩ := h
  refine ⟨fun pins s σ H Q I q => wpAny_Call_Name_kw (ld_glob I hg hm ?_ hdb)⟩
  refine PySem.W.callWith_K (h₀ := X.base) I.ok.mod.kin hk (thn (ha.run pos pins s σ H _ I q) ?_) he hpl
  rintro us s1 ⟨vs, H1, I1, r, h⟩
  exact ⟨I1.kIn, run_fnG (F.mono hjk) m hb (fun _ _ _ _ _ _ _ h => h.elim) I1 r h⟩
end
/-- the law's def -/
theorem law_of {P : Program} {w : World} {K : PySem.W.Frag} {mg : Str → Option Value} {base : Heap} {k : Nat} {st : Stmt} {N : List Str} {g : SS} {first : Stmt} {rest : List Stmt} {f : Addr} {fd : FuncData} (F : FunD K "law" "law" (defArgs st) (defBody st) (defScope st) [] [] f fd) (S : FnScope N ["script"] (defScope st)) (hN : 2 ≤ N.length) (hbd : defBody st = first :: rest)
    (h1 : ∀ (f : Addr) (cdv : Value) (A : Around) (outer : List PySem.Env) (s : Shared) (H : Hp) (E : XK), Rm k (cxOf CX0 P w K mg base N "law" (defScope st) f cdv A outer s H E).nox → PS (cxOf CX0 P w K mg base N "law" (defScope st) f cdv A outer s H E).nox first (tAsg (fun σ H Q => tCons (tVar 0) tNil σ H fun vs H1 => spSrc K vs H1 Q E0) (gName 1)))
    (h2 : ∀ (f : Addr) (cdv : Value) (A : Around) (outer : List PySem.Env) (s : Shared) (H : Hp) (E : XK), Rm k (cxOf CX0 P w K mg base N "law" (defScope st) f cdv A outer s H E).nox → PSs (cxOf CX0 P w K mg base N "law" (defScope st) f cdv A outer s H E).nox rest (tS P w g)) (hg : Good N.length g) :
    FnG P w K mg base CX0 (k + 1) f fd ["script"] (spLaw K) := by
  refine okG F S (fun vs H Q E h => ?_) fun cdv A outer s H vs Q E hR h => ⟨tSeq (tAsg (fun σ H Q => tCons (tVar 0) tNil σ H fun vs H1 => spSrc K vs H1 Q E0) (gName 1)) (tS P w g), PSs.nox ?_, ?_⟩
  · obtain ⟨a, ns, rfl, _⟩ := h
    rfl
  · rw [hbd]
    exact pss_cons (h1 f cdv A outer s H E ⟨hR.r, hR.g, hR.c⟩) (h2 f cdv A outer s H E ⟨hR.r, hR.g, hR.c⟩)
  · obtain ⟨a, ns, rfl, hS, hl, hQ⟩ := h
    refine ⟨.ref a, rfl, a, ns, rfl, hS, hl, fun p c H' sm hp hc hpc e1 e2 => ?_⟩
    obtain ⟨ρ', s', hgood⟩ := hg ns hl
    have hlen : ((L2.start N [V.ref a]).set 1 (some (.ref p))).length = N.length := by
      unfold L2.start
      simp; omega
    have l0 : (start0 N.length).length = N.length := by unfold start0; simp; omega
    have Rl0 : Rl P w (some (p, c)) (fun b => b = p ∨ b = c) (start0 N.length) ((L2.start N [V.ref a]).set 1 (some (.ref p))) (fun _ => []) (srcOf ns) H' := by
      refine ⟨by rw [hlen, l0], fun i sv e => ?_, fun i a h => absurd h List.not_mem_nil, fun i j a h _ => absurd h List.not_mem_nil, fun i => .nil, fun i a h => absurd h List.not_mem_nil, fun b h => ?_, fun b h => ?_, fun pr ep => ?_⟩
      · unfold start0 at e
        match i, e with
        | 0, e => simp at e
        | 1, e =>
          have e : some (SV.p .src) = some sv := by simpa using e
          cases e
          refine ⟨.ref p, List.getElem?_set_self (by unfold L2.start; simp; omega), .p (.src rfl)⟩
        | i + 2, e =>
          have e : (List.replicate (N.length - 2) (none : Option SV))[i]? = some (some sv) := by simpa using e
          rw [List.getElem?_replicate] at e
          split at e <;> cases e
      · rcases h with rfl | rfl
        · rw [e1]; simp
        · rw [e2]; simp
      · obtain ⟨pr, ep, h⟩ := h
        cases ep
        exact h
      · cases ep
        exact ⟨hpc, e1, e2⟩
    refine ⟨_, _, _, _, _, _, ρ', s', Rl0, hgood, fun v H2 r _ _ => ?_⟩
    cases r
    exact hQ H2
end Pv

set_option Elab.async false
set_option linter.all false
set_option maxRecDepth 100000
set_option maxHeartbeats 4000000
namespace Pv.K41
open PySem PySem.Spec L2 Pv
open PyProof.Rows hiding St
def g_sum_of : SS := (sRet (eCl gTup (aCons (eF (fLc (iRng gEn (aCons (eVar 0) aNil)) [2, 3] (ptT (ptCons (ptN 2) (ptCons (ptN 3) ptNil))) bYes (eCl gInt (aCons (e2 gNe (eVar 3) (e2 gIx (eVar 1) (eVar 2))) aNil)))) aNil)))
def sem_sum_of : Sem1 := runDef 2 4 g_sum_of
def g_first_one : SS := (sRet (e2 gIdx (eVar 0) (eC (.int 1))))
def sem_first_one : Sem1 := runDef 1 1 g_first_one
def g_told_rows : SS := (sSeq (sSet 1 (oV (eF (fLst aNil)))) (sSeq (sFor (iSeq (eVar 0)) (ptN 2) (sSeq (sSet 3 (oV (eVar 2))) (sSeq (sFor (iSeq (eVar 1)) (ptN 4) (sSet 3 (oV (eIf (bE (e2 gEq (e2 gIx (eVar 3) (eFn sem_first_one (aCons (eVar 4) aNil))) (eC (.int 1)))) (eFn sem_sum_of (aCons (eVar 3) (aCons (eVar 4) aNil))) (eVar 3)))) [4]) (sIf (bE (e2 gIn (eC (.int 1)) (eVar 3))) (sSeq (sSet 5 (oV (eFn sem_first_one (aCons (eVar 3) aNil)))) (sSet 1 (oV (e2 gAdd (eF (fLc (iSeq (eVar 1)) [4] (ptN 4) bYes (eIf (bE (e2 gEq (e2 gIx (eVar 4) (eVar 5)) (eC (.int 1)))) (eFn sem_sum_of (aCons (eVar 4) (aCons (eVar 3) aNil))) (eVar 4)))) (eF (fLst (aCons (eVar 3) aNil))))))) sNil))) [2, 3, 4, 5]) (sRet (eCl gTup (aCons (eF (fCl (gSrt true) (aCons (eVar 1) aNil))) aNil)))))
def sem_told_rows : Sem1 := runDef 1 6 g_told_rows
def g_told_code : SS := (sRet (eTup (aCons (e2 gIx (eVar 0) (eC (.int 0))) (aCons (eFn sem_told_rows (aCons (e2 gIx (eVar 0) (eC (.int 1))) aNil)) aNil))))
def sem_told_code : Sem1 := runDef 1 1 g_told_code
def g_lies_within : SS := (sRet (eAnd (e2 gLt (e2 gIx (eVar 1) (eC (.int 0))) (e2 gIx (eVar 0) (eC (.int 0)))) (e2 gLt (e2 gIx (eVar 0) (eC (.int 1))) (e2 gIx (eVar 1) (eC (.int 1))))))
def sem_lies_within : Sem1 := runDef 2 2 g_lies_within
def g_are_unlike : SS := (sRet (e2 gEq (e1 gLenDict (eF (fLc (iSeq (eVar 0)) [1] (ptN 1) bYes (eTup (aCons (eVar 1) (aCons (eC (.bl true)) aNil)))))) (eCl gLen (aCons (eVar 0) aNil))))
def sem_are_unlike : Sem1 := runDef 1 2 g_are_unlike
def g_is_place : SS := (sRet (eAnd (e1 (gIsi fInt) (eVar 1)) (eAnd (e1 eNot (e1 (gIsi (· == "bool")) (eVar 1))) (chain gLe gLt (eC (.int 0)) (eVar 1) (eVar 0)))))
def sem_is_place : Sem1 := runDef 2 2 g_is_place
def g_is_span_lot : SS := (sSeq (sIf (bNot (bE (e1 (gIsi (· == "tuple")) (eVar 1)))) (sRet (eC (.bl false))) sNil) (sSeq (sFor (iSeq (eVar 1)) (ptN 2) (sSeq (sIf (bOr (bNot (bE (e1 (gIsi (· == "tuple")) (eVar 2)))) (bOr (bE (e2 gNe (eCl gLen (aCons (eVar 2) aNil)) (eC (.int 2)))) (bOr (bNot (bE (eFn sem_is_place (aCons (eVar 0) (aCons (e2 gIx (eVar 2) (eC (.int 0))) aNil))))) (bNot (bE (eFn sem_is_place (aCons (eVar 0) (aCons (e2 gIx (eVar 2) (eC (.int 1))) aNil)))))))) (sRet (eC (.bl false))) sNil) (sIf (bE (e2 gGt (e2 gIx (eVar 2) (eC (.int 0))) (e2 gIx (eVar 2) (eC (.int 1))))) (sRet (eC (.bl false))) sNil)) [2]) (sSeq (sPar 3 4 (aCons (eF (fLc (iSeq (eVar 1)) [2] (ptN 2) bYes (e2 gIx (eVar 2) (eC (.int 0))))) (aCons (eF (fLc (iSeq (eVar 1)) [2] (ptN 2) bYes (e2 gIx (eVar 2) (eC (.int 1))))) aNil))) (sRet (eAnd (e2 gEq (eVar 3) (eF (fCl (gSrt false) (aCons (eVar 3) aNil)))) (eAnd (eFn sem_are_unlike (aCons (eVar 3) aNil)) (eFn sem_are_unlike (aCons (eVar 4) aNil))))))))
def sem_is_span_lot : Sem1 := runDef 2 5 g_is_span_lot
def g_plain_row : SS := (sRet (eCl gTup (aCons (eF (fLc (iRng r1 (aCons (eVar 0) aNil)) [2] (ptN 2) bYes (eCl gInt (aCons (e2 gIn (eVar 2) (eVar 1)) aNil)))) aNil)))
def sem_plain_row : Sem1 := runDef 2 3 g_plain_row
def g_plain_code : SS := (sRet (eFn sem_told_code (aCons (eTup (aCons (eVar 0) (aCons (eCl gTup (aCons (eF (fLc (iSeq (eVar 1)) [2] (ptN 2) bYes (eFn sem_plain_row (aCons (eVar 0) (aCons (eVar 2) aNil))))) aNil)) aNil))) aNil)))
def sem_plain_code : Sem1 := runDef 2 3 g_plain_code
def g_free_places : SS := (sSeq (sSet 2 (oV (eF (fLc (iSeq (eVar 0)) [3] (ptN 3) (bE (eFn sem_lies_within (aCons (eVar 3) (aCons (eVar 1) aNil)))) (e2 gIx (eVar 3) (eC (.int 0))))))) (sRet (eF (fLc (iRng r2 (aCons (e2 gAdd (e2 gIx (eVar 1) (eC (.int 0))) (eC (.int 1))) (aCons (e2 gIx (eVar 1) (eC (.int 1))) aNil))) [4] (ptN 4) (bE (e2 gNotIn (eVar 4) (eVar 2))) (eVar 4)))))
def sem_free_places : Sem1 := runDef 2 5 g_free_places
def g_free_number : SS := (sRet (eCl gSum (aCons (eF (fLc (iSeq (eVar 1)) [2] (ptN 2) bYes (eCl gLen (aCons (eFn sem_free_places (aCons (eVar 1) (aCons (eVar 2) aNil))) aNil)))) aNil)))
def sem_free_number : Sem1 := runDef 2 3 g_free_number
def g_Llaw_pick : SS := (sSeq (sWhile (bAnd (bE (e2 gGt (eVar 1) (eC (.int 1)))) (bAnd (bE (e2 gLt (eSg 0 .left) (eC (.int 2)))) (bE (e2 gGt (eSlen 0) (eC (.int 0)))))) (sSpop 0)) (sSeq (sSet 2 (oV (eSg 0 .left))) (sSeq (sIf (bOr (bE (e2 gLt (eVar 1) (eC (.int 2)))) (bE (e2 gGt (eVar 2) (eC (.int 1))))) (sSeq (sSput 0 .left (e2 gFdiv (eVar 2) (eCl gMax2 (aCons (eC (.int 1)) (aCons (eVar 1) aNil))))) (sRet (e2 gMod (eCl gInt (aCons (eVar 2) aNil)) (eCl gMax2 (aCons (eC (.int 1)) (aCons (eVar 1) aNil)))))) sNil) (sSeq (sSput 0 .turn (e2 gAdd (eSg 0 .turn) (eC (.int 1)))) (sSeq (sSet 3 (oV (e2 gMod (eCl gInt (aCons (e2 gAdd (eSg 0 .mixed) (e2 gMulI (eSg 0 .turn) (eC (.int 104729)))) aNil)) (eC (.int 998244353))))) (sSeq (sSet 3 (oV (e2 gMod (eCl gInt (aCons (e2 gAdd (e2 gMulI (eVar 3) (eVar 3)) (e2 gMulI (eSg 0 .turn) (eC (.int 17)))) aNil)) (eC (.int 2147483647))))) (sSeq (sSput 0 .mixed (eVar 3)) (sRet (e2 gMod (eCl gInt (aCons (e2 gFdiv (eVar 3) (eC (.int 16))) aNil)) (eVar 1))))))))))
def sem_Llaw_pick : Sem1 := runDef 2 4 g_Llaw_pick
def g_Llaw_of : SS := (sRet (e2 gIx (eVar 1) (eFn sem_Llaw_pick (aCons (eVar 0) (aCons (eCl gLen (aCons (eVar 1) aNil)) aNil)))))
def sem_Llaw_of : Sem1 := runDef 2 2 g_Llaw_of
def g_Llaw_mixed : SS := (sSeq (sSet 2 (oF (fCl gLst (aCons (eVar 1) aNil)))) (sMix 2 (iRng r1 (aCons (eCl gLen (aCons (eBor 2) aNil)) aNil)) [3] (ptN 3) (eFn sem_Llaw_pick (aCons (eVar 0) (aCons (eCl gLen (aCons (eBor 2) aNil)) aNil)))))
def sem_Llaw_mixed : Sem1 := runDef 2 4 g_Llaw_mixed
def g_Llaw_sum : SS := (sRet (eCl gTup (aCons (eF (fLc (iRng gZip (aCons (eVar 0) (aCons (eVar 1) aNil))) [2, 3] (ptT (ptCons (ptN 2) (ptCons (ptN 3) ptNil))) bYes (eCl gInt (aCons (e2 gNe (eVar 2) (eVar 3)) aNil)))) aNil)))
def sem_Llaw_sum : Sem1 := runDef 2 4 g_Llaw_sum
def g_Llaw_odd : SS := (sRet (eFn sem_Llaw_of (aCons (eVar 0) (aCons (eF (fLst (aCons (eC .non) (aCons (eC (.bl true)) (aCons (e1 gNeg (eC (.int 1))) (aCons (eC (.int 0)) (aCons (eC (.int 2)) (aCons (eC (.str "0")) (aCons (eTup aNil) (aCons (eF (fLst aNil)) (aCons (eC (.dct [])) (aCons (eTup (aCons (eC (.int 0)) aNil)) (aCons (eTup (aCons (eC (.int 1)) aNil)) (aCons (eTup (aCons (eTup (aCons (eC (.int 0)) aNil)) aNil)) (aCons (eTup (aCons (eTup (aCons (eC (.int 1)) aNil)) aNil)) (aCons (e2 gPow (eC (.int 10)) (eC (.int 30))) (aCons (eC (.str "base")) (aCons (eTup (aCons (eC (.int 0)) (aCons (eC (.int 0)) aNil))) aNil)))))))))))))))))) aNil))))
def sem_Llaw_odd : Sem1 := runDef 1 1 g_Llaw_odd
def g_Llaw_is_int : SS := (sRet (eAnd (e1 (gIsi fInt) (eVar 0)) (eAnd (e1 eNot (e1 (gIsi (· == "bool")) (eVar 0))) (chain gLe gLt (eC (.int 0)) (eVar 0) (eVar 1)))))
def sem_Llaw_is_int : Sem1 := runDef 2 2 g_Llaw_is_int
def g_Llaw_is_lot : SS := (sSeq (sIf (bNot (bE (e1 (gIsi (· == "tuple")) (eVar 1)))) (sRet (eC (.bl false))) sNil) (sSeq (sFor (iSeq (eVar 1)) (ptN 2) (sSeq (sIf (bOr (bNot (bE (e1 (gIsi (· == "tuple")) (eVar 2)))) (bOr (bE (e2 gNe (eCl gLen (aCons (eVar 2) aNil)) (eC (.int 2)))) (bOr (bNot (bE (eFn sem_Llaw_is_int (aCons (e2 gIx (eVar 2) (eC (.int 0))) (aCons (eVar 0) aNil))))) (bNot (bE (eFn sem_Llaw_is_int (aCons (e2 gIx (eVar 2) (eC (.int 1))) (aCons (eVar 0) aNil)))))))) (sRet (eC (.bl false))) sNil) (sIf (bE (e2 gGt (e2 gIx (eVar 2) (eC (.int 0))) (e2 gIx (eVar 2) (eC (.int 1))))) (sRet (eC (.bl false))) sNil)) [2]) (sSeq (sIf (bOr (bE (e2 gNe (eF (fCl gLst (aCons (eVar 1) aNil))) (eF (fCl (gSrt false) (aCons (eVar 1) aNil))))) (bE (e2 gNe (e1 gLenSet (eF (fLc (iSeq (eVar 1)) [3, 4] (ptT (ptCons (ptN 3) (ptCons (ptN 4) ptNil))) bYes (eVar 3)))) (eCl gLen (aCons (eVar 1) aNil))))) (sRet (eC (.bl false))) sNil) (sRet (e2 gEq (e1 gLenSet (eF (fLc (iSeq (eVar 1)) [3, 4] (ptT (ptCons (ptN 3) (ptCons (ptN 4) ptNil))) bYes (eVar 4)))) (eCl gLen (aCons (eVar 1) aNil)))))))
def sem_Llaw_is_lot : Sem1 := runDef 2 5 g_Llaw_is_lot
def g_Llaw_pairs : SS := (sSeq (sSet 1 (oV (eF (fLst aNil)))) (sSeq (sFor (iRng r1 (aCons (eVar 0) aNil)) (ptN 2) (sSet 1 (oV (e2 gAdd (eVar 1) (eF (fLc (iRng r2 (aCons (eVar 2) (aCons (eVar 0) aNil))) [3] (ptN 3) bYes (eTup (aCons (eVar 2) (aCons (eVar 3) aNil)))))))) [2]) (sRet (eVar 1))))
def sem_Llaw_pairs : Sem1 := runDef 1 4 g_Llaw_pairs
def g_Llaw_lot : SS := (sSeq (sSet 2 (oF (fLst aNil))) (sSeq (sFor (iSeq (eSl (eFn sem_Llaw_mixed (aCons (eVar 0) (aCons (eFn sem_Llaw_pairs (aCons (eVar 1) aNil)) aNil))) pNo (pSo (eFn sem_Llaw_pick (aCons (eVar 0) (aCons (e2 gMulI (eC (.int 3)) (eVar 1)) aNil)))))) (ptN 3) (sIf (bE (e2 gEq (eF (fLc (iSeq (eBor 2)) [4, 5] (ptT (ptCons (ptN 4) (ptCons (ptN 5) ptNil))) (bOr (bE (e2 gEq (eVar 4) (e2 gIx (eVar 3) (eC (.int 0))))) (bE (e2 gEq (eVar 5) (e2 gIx (eVar 3) (eC (.int 1)))))) (eC (.int 1)))) (eF (fLst aNil)))) (sApp 2 (eVar 3)) sNil) [3]) (sRet (eCl gTup (aCons (eF (fCl (gSrt false) (aCons (eBor 2) aNil))) aNil)))))
def sem_Llaw_lot : Sem1 := runDef 2 6 g_Llaw_lot
def g_Llaw_free : SS := (sRet (eCl gSum (aCons (eF (fLc (iSeq (eVar 0)) [1, 2] (ptT (ptCons (ptN 1) (ptCons (ptN 2) ptNil))) (bE (e2 gGt (eVar 2) (eVar 1))) (e2 gSub (e2 gSub (e2 gSub (eVar 2) (eVar 1)) (eC (.int 1))) (eCl gLen (aCons (eF (fLc (iSeq (eVar 0)) [3, 4] (ptT (ptCons (ptN 3) (ptCons (ptN 4) ptNil))) (bAnd (bE (e2 gLt (eVar 1) (eVar 3))) (bE (e2 gLt (eVar 4) (eVar 2)))) (eC (.int 1)))) aNil))))) aNil)))
def sem_Llaw_free : Sem1 := runDef 1 5 g_Llaw_free
def g_Llaw_leads : SS := (sSeq (sSet 2 (oV (eF (fLst aNil)))) (sSeq (sFor (iSeq (eVar 1)) (ptN 3) (sSeq (sFor (iSeq (eVar 2)) (ptT (ptCons (ptN 4) (ptCons (ptN 5) ptNil))) (sSet 3 (oV (eIf (bE (e2 gEq (e2 gIx (eVar 3) (eVar 4)) (eC (.int 1)))) (eFn sem_Llaw_sum (aCons (eVar 3) (aCons (eVar 5) aNil))) (eVar 3)))) [4, 5]) (sIf (bE (e2 gIn (eC (.int 1)) (eVar 3))) (sSeq (sSet 4 (oV (e2 gIdx (eVar 3) (eC (.int 1))))) (sSet 2 (oV (e2 gAdd (eF (fLc (iSeq (eVar 2)) [5, 6] (ptT (ptCons (ptN 6) (ptCons (ptN 5) ptNil))) bYes (eTup (aCons (eVar 6) (aCons (eIf (bE (e2 gEq (e2 gIx (eVar 5) (eVar 4)) (eC (.int 1)))) (eFn sem_Llaw_sum (aCons (eVar 5) (aCons (eVar 3) aNil))) (eVar 5)) aNil))))) (eF (fLst (aCons (eTup (aCons (eVar 4) (aCons (eVar 3) aNil))) aNil))))))) sNil)) [3, 4, 5]) (sRet (eCl gTup (aCons (eF (fLc (iSeq (eF (fCl (gSrt false) (aCons (eVar 2) aNil)))) [4, 5] (ptT (ptCons (ptN 4) (ptCons (ptN 5) ptNil))) bYes (eVar 5))) aNil)))))
def sem_Llaw_leads : Sem1 := runDef 2 7 g_Llaw_leads
def g_law : SS := (sSeq (sFor (iRng r1 (aCons (eC (.int 5)) aNil)) (ptN 2) (sSeq (sSet 3 (oV (e2 gAdd (eC (.int 1)) (eFn sem_Llaw_pick (aCons (eVar 1) (aCons (eC (.int 12)) aNil)))))) (sSeq (sSet 4 (oV (eFn sem_Llaw_lot (aCons (eVar 1) (aCons (eVar 3) aNil))))) (sSeq (sSet 5 (oV (eF (fLc (iSeq (eVar 4)) [10] (ptN 10) bYes (eCl gTup (aCons (eF (fLc (iRng r1 (aCons (eVar 3) aNil)) [6] (ptN 6) bYes (eCl gInt (aCons (e2 gIn (eVar 6) (eVar 10)) aNil)))) aNil)))))) (sSeq (sIf (bE (e2 gNe (eCl gRepr (aCons (eF (fLst (aCons (eFn sem_plain_code (aCons (eVar 3) (aCons (eVar 4) aNil))) (aCons (eFn sem_free_number (aCons (eVar 3) (aCons (eVar 4) aNil))) aNil)))) aNil)) (eCl gRepr (aCons (eF (fLst (aCons (eTup (aCons (eVar 3) (aCons (eFn sem_Llaw_leads (aCons (eVar 3) (aCons (eVar 5) aNil))) aNil))) (aCons (eFn sem_Llaw_free (aCons (eVar 4) aNil)) aNil)))) aNil)))) (sRet (eC (.bl false))) sNil) (sSeq (sSet 6 (oV (eFn sem_Llaw_pick (aCons (eVar 1) (aCons (e2 gAdd (eCl gLen (aCons (eVar 4) aNil)) (eC (.int 1))) aNil))))) (sSeq (sSet 7 (oV (eFn sem_Llaw_of (aCons (eVar 1) (aCons (eF (fLst (aCons (eTup (aCons (eC (.int 0)) (aCons (eVar 3) aNil))) (aCons (eTup (aCons (eC (.int 1)) (aCons (eC (.int 0)) aNil))) (aCons (eTup (aCons (e2 gSub (eVar 3) (eC (.int 1))) (aCons (e2 gSub (eVar 3) (eC (.int 1))) aNil))) (aCons (eTup (aCons (eC (.int 0)) (aCons (eC (.bl true)) aNil))) (aCons (eF (fLst (aCons (eC (.int 0)) (aCons (eC (.int 0)) aNil)))) (aCons (eC .non) (aCons (eTup (aCons (eC (.int 0)) aNil)) (aCons (eTup (aCons (eC (.int 0)) (aCons (eC (.int 0)) (aCons (eC (.int 0)) aNil)))) (aCons (eC (.str "00")) (aCons (eTup (aCons (e1 gNeg (eC (.int 1))) (aCons (eC (.int 0)) aNil))) (aCons (eTup (aCons (eC (.int 0)) (aCons (e2 gSub (eVar 3) (eC (.int 1))) aNil))) aNil))))))))))))) aNil))))) (sSeq (sSet 8 (oV (eF (fLst (aCons (eVar 4) (aCons (e1 gRev (eVar 4)) (aCons (e2 gAdd (eVar 4) (eSl (eVar 4) pNo (pSo (eC (.int 1))))) (aCons (eF (fCl gLst (aCons (eVar 4) aNil))) (aCons (e2 gAdd (e2 gAdd (eSl (eVar 4) pNo (pSo (eVar 6))) (eTup (aCons (eVar 7) aNil))) (eSl (eVar 4) (pSo (eVar 6)) pNo)) (aCons (e2 gAdd (eSl (eVar 4) pNo (pSo (eVar 6))) (eSl (eVar 4) (pSo (e2 gAdd (eVar 6) (eC (.int 1)))) pNo)) (aCons (eFn sem_Llaw_odd (aCons (eVar 1) aNil)) aNil))))))))))) (sFor (iSeq (e2 gAdd (eVar 8) (eF (fLst (aCons (eCl gTup (aCons (eF (fCl (gSrt false) (aCons (e2 gAdd (eVar 4) (eTup (aCons (eFn sem_Llaw_of (aCons (eVar 1) (aCons (eFn sem_Llaw_pairs (aCons (eVar 3) aNil)) aNil))) aNil))) aNil))) aNil)) aNil))))) (ptN 9) (sIf (bE (e2 gNe (eCl gRepr (aCons (eFn sem_is_span_lot (aCons (eVar 3) (aCons (eVar 9) aNil))) aNil)) (eCl gRepr (aCons (eFn sem_Llaw_is_lot (aCons (eVar 3) (aCons (eVar 9) aNil))) aNil)))) (sRet (eC (.bl false))) sNil) [9])))))))) [2, 3, 4, 5, 6, 7, 8, 9]) (sRet (e2 gEq (eF (fLst (aCons (eFn sem_free_number (aCons (eC (.int 4)) (aCons (eTup (aCons (eTup (aCons (eC (.int 0)) (aCons (eC (.int 3)) aNil))) (aCons (eTup (aCons (eC (.int 1)) (aCons (eC (.int 2)) aNil))) aNil))) aNil))) (aCons (eFn sem_free_number (aCons (eC (.int 4)) (aCons (eTup (aCons (eTup (aCons (eC (.int 0)) (aCons (eC (.int 2)) aNil))) (aCons (eTup (aCons (eC (.int 1)) (aCons (eC (.int 3)) aNil))) aNil))) aNil))) (aCons (eFn sem_plain_code (aCons (eC (.int 2)) (aCons (eTup aNil) aNil))) aNil))))) (eF (fLst (aCons (eC (.int 1)) (aCons (eC (.int 2)) (aCons (eTup (aCons (eC (.int 2)) (aCons (eTup aNil) aNil))) aNil))))))))
end Pv.K41

set_option Elab.async false
set_option linter.all false
set_option maxRecDepth 100000
set_option maxHeartbeats 4000000
namespace Pv.K41
open PySem PySem.Spec L2 Pv
open PyProof.Rows hiding St
def top (i : Nat) : Stmt := PySem.Challenge.pw_spancodes_k41_span_lots.main.body.getD i (.Pass ⟨0, 0, 0, 0⟩)
/-- the built-ins that no name of the text hides -/
structure Bn (mg : Str → Option Value) : Prop where
  len_ : mg "len" = none
  int_ : mg "int" = none
  abs_ : mg "abs" = none
  max_ : mg "max" = none
  sum_ : mg "sum" = none
  tuple_ : mg "tuple" = none
  list_ : mg "list" = none
  sorted_ : mg "sorted" = none
  repr_ : mg "repr" = none
  isinstance_ : mg "isinstance" = none
  range_ : mg "range" = none
  enumerate_ : mg "enumerate" = none
  zip_ : mg "zip" = none
  set_ : mg "set" = none
  dict_ : mg "dict" = none
  bool_ : mg "bool" = none
section
variable {P : Program} {w : World} {K : PySem.W.Frag} {mg : Str → Option Value} {base : Heap}
/-! ### sum_of -/
abbrev st_sum_of : Stmt := top 1
abbrev N_sum_of : List Str := ["one", "other", "k", "mark"]
theorem sc_sum_of : FnScope N_sum_of ["one", "other"] (defScope st_sum_of) := ⟨rfl, rfl, rfl, by decide +kernel, rfl, by decide +kernel, by decide +kernel⟩
theorem ok_sum_of (D : Df K mg "sum_of" st_sum_of) (b : Bn mg)  : Has P w K mg base 1 "sum_of" sem_sum_of :=
  has_of D sc_sum_of rfl rfl (fun _ _ _ _ _ _ us hl => match us, hl with | [_, _], _ => rfl) fun f cdv A outer s H E m => by
  have nd := sc_sum_of.nd
  exact (s_one (s_ret (c_tuple m b.tuple_ (a_consI (PE.i (PE.vf (v_lc [("k", 2), ("mark", 3)] m.c nd (PI.i (i_en rfl b.enumerate_ (a_cons (v_var 0) a_nil))) (blkOk_by (by kernel_rfl)) (fun _ _ _ _ _ => (g_tup rfl (gs_cons (g_name (i := 2) nd rfl (by first | exact Or.inl rfl | exact Or.inr rfl)) (gs_cons (g_name (i := 3) nd rfl (by first | exact Or.inl rfl | exact Or.inr rfl)) gs_nil)) (fun _ _ _ => ptCons_len (fun _ _ _ => ptCons_len (fun _ _ _ => ptNil_len))))) (fun _ _ _ _ _ => c_nil) (fun _ _ _ _ _ => (c_int m.blk b.int_ (a_consI (PE.i (vc (Cmp.ne m.blk) (PE.i (v_var 3)) (PE.i (v_ix (PE.i (v_var 1)) (PE.i (v_var 2)))))) a_nilI)))))) a_nilI))))
/-! ### first_one -/
abbrev st_first_one : Stmt := top 3
abbrev N_first_one : List Str := ["row"]
theorem sc_first_one : FnScope N_first_one ["row"] (defScope st_first_one) := ⟨rfl, rfl, rfl, by decide +kernel, rfl, by decide +kernel, by decide +kernel⟩
theorem ok_first_one (D : Df K mg "first_one" st_first_one) (b : Bn mg)  : Has P w K mg base 1 "first_one" sem_first_one :=
  has_of D sc_first_one rfl rfl (fun _ _ _ _ _ _ us hl => match us, hl with | [_], _ => rfl) fun f cdv A outer s H E m => by
  have nd := sc_first_one.nd
  exact (s_one (s_ret (v_idx (PE.i (v_var 0)) (PE.i v_int))))
/-! ### told_rows -/
abbrev st_told_rows : Stmt := top 4
abbrev N_told_rows : List Str := ["rows", "found", "row", "here", "one", "place"]
theorem sc_told_rows : FnScope N_told_rows ["rows"] (defScope st_told_rows) := ⟨rfl, rfl, rfl, by decide +kernel, rfl, by decide +kernel, by decide +kernel⟩
theorem ok_told_rows (D : Df K mg "told_rows" st_told_rows) (b : Bn mg) (h_sum_of : Has P w K mg base 1 "sum_of" sem_sum_of) (h_first_one : Has P w K mg base 1 "first_one" sem_first_one) : Has P w K mg base 2 "told_rows" sem_told_rows :=
  has_of D sc_told_rows rfl rfl (fun _ _ _ _ _ _ us hl => match us, hl with | [_], _ => rfl) fun f cdv A outer s H E m => by
  have nd := sc_told_rows.nd
  exact (s_cons (s_set (i := 1) nd rfl (by first | exact Or.inl rfl | exact Or.inr rfl) (PE.o (PE.vf (v_lst a_nil)))) (s_cons (s_for [2, 3, 4, 5] m.c (i_seq (v_var 0)) (g_name (i := 2) nd rfl (by first | exact Or.inl rfl | exact Or.inr rfl)) (s_cons (s_set (i := 3) nd rfl (by first | exact Or.inl rfl | exact Or.inr rfl) (PE.o (v_var 2))) (s_cons (s_for [4] m.c (i_seq (v_var 1)) (g_name (i := 4) nd rfl (by first | exact Or.inl rfl | exact Or.inr rfl)) (s_one (s_set (i := 3) nd rfl (by first | exact Or.inl rfl | exact Or.inr rfl) (PE.o (v_if (tc (Cmp.eq m) (PE.i (v_ix (PE.i (v_var 3)) (PE.i (v_call h_first_one m rfl (a_cons (v_var 4) a_nil))))) (PE.i v_int)) (v_call h_sum_of m rfl (a_cons (v_var 3) (a_cons (v_var 4) a_nil))) (v_var 3)))))) (s_one (s_if (tc (Cmp.in_ m) (PE.i v_int) (PE.i (v_var 3))) (s_cons (s_set (i := 5) nd rfl (by first | exact Or.inl rfl | exact Or.inr rfl) (PE.o (v_call h_first_one m rfl (a_cons (v_var 3) a_nil)))) (s_one (s_set (i := 1) nd rfl (by first | exact Or.inl rfl | exact Or.inr rfl) (PE.o (v_add (PE.i (PE.vf (v_lc [("one", 4)] m.c nd (PI.i (i_seq (v_var 1))) (blkOk_by (by kernel_rfl)) (fun _ _ _ _ _ => (g_name (i := 4) nd rfl (by first | exact Or.inl rfl | exact Or.inr rfl))) (fun _ _ _ _ _ => c_nil) (fun _ _ _ _ _ => (v_if (tc (Cmp.eq m.blk) (PE.i (v_ix (PE.i (v_var 4)) (PE.i (v_var 5)))) (PE.i v_int)) (v_call h_sum_of m.blk rfl (a_cons (v_var 4) (a_cons (v_var 3) a_nil))) (v_var 4)))))) (PE.i (PE.vf (v_lst (a_cons (v_var 3) a_nil))))))))) s_nil))))) (s_one (s_ret (c_tuple m b.tuple_ (a_consI (PE.i (PE.vf (c_sortedR m b.sorted_ (a_consI (PE.i (v_var 1)) a_nilI)))) a_nilI))))))
/-! ### told_code -/
abbrev st_told_code : Stmt := top 5
abbrev N_told_code : List Str := ["code"]
theorem sc_told_code : FnScope N_told_code ["code"] (defScope st_told_code) := ⟨rfl, rfl, rfl, by decide +kernel, rfl, by decide +kernel, by decide +kernel⟩
theorem ok_told_code (D : Df K mg "told_code" st_told_code) (b : Bn mg) (h_told_rows : Has P w K mg base 2 "told_rows" sem_told_rows) : Has P w K mg base 3 "told_code" sem_told_code :=
  has_of D sc_told_code rfl rfl (fun _ _ _ _ _ _ us hl => match us, hl with | [_], _ => rfl) fun f cdv A outer s H E m => by
  have nd := sc_told_code.nd
  exact (s_one (s_ret (v_tup (a_cons (v_ix (PE.i (v_var 0)) (PE.i v_int)) (a_cons (v_call h_told_rows m rfl (a_cons (v_ix (PE.i (v_var 0)) (PE.i v_int)) a_nil)) a_nil)))))
/-! ### lies_within -/
abbrev st_lies_within : Stmt := top 7
abbrev N_lies_within : List Str := ["span", "other"]
theorem sc_lies_within : FnScope N_lies_within ["span", "other"] (defScope st_lies_within) := ⟨rfl, rfl, rfl, by decide +kernel, rfl, by decide +kernel, by decide +kernel⟩
theorem ok_lies_within (D : Df K mg "lies_within" st_lies_within) (b : Bn mg)  : Has P w K mg base 1 "lies_within" sem_lies_within :=
  has_of D sc_lies_within rfl rfl (fun _ _ _ _ _ _ us hl => match us, hl with | [_, _], _ => rfl) fun f cdv A outer s H E m => by
  have nd := sc_lies_within.nd
  exact (s_one (s_ret (v_and (vc Cmp.lt (PE.i (v_ix (PE.i (v_var 1)) (PE.i v_int))) (PE.i (v_ix (PE.i (v_var 0)) (PE.i v_int)))) (pe_one (vc Cmp.lt (PE.i (v_ix (PE.i (v_var 0)) (PE.i v_int))) (PE.i (v_ix (PE.i (v_var 1)) (PE.i v_int))))))))
/-! ### are_unlike -/
abbrev st_are_unlike : Stmt := top 8
abbrev N_are_unlike : List Str := ["things", "thing"]
theorem sc_are_unlike : FnScope N_are_unlike ["things"] (defScope st_are_unlike) := ⟨rfl, rfl, rfl, by decide +kernel, rfl, by decide +kernel, by decide +kernel⟩
theorem ok_are_unlike (D : Df K mg "are_unlike" st_are_unlike) (b : Bn mg)  : Has P w K mg base 1 "are_unlike" sem_are_unlike :=
  has_of D sc_are_unlike rfl rfl (fun _ _ _ _ _ _ us hl => match us, hl with | [_], _ => rfl) fun f cdv A outer s H E m => by
  have nd := sc_are_unlike.nd
  exact (s_one (s_ret (vc (Cmp.eq m) (PE.i (c_lenDict m b.len_ b.dict_ (PE.i (PE.vf (v_lc [("thing", 1)] m.c nd (PI.i (i_seq (v_var 0))) (blkOk_by (by kernel_rfl)) (fun _ _ _ _ _ => (g_name (i := 1) nd rfl (by first | exact Or.inl rfl | exact Or.inr rfl))) (fun _ _ _ _ _ => c_nil) (fun _ _ _ _ _ => (v_tup (a_cons (v_var 1) (a_cons v_bl a_nil))))))))) (PE.i (c_len m b.len_ (a_consI (PE.i (v_var 0)) a_nilI))))))
/-! ### is_place -/
abbrev st_is_place : Stmt := top 10
abbrev N_is_place : List Str := ["n", "value"]
theorem sc_is_place : FnScope N_is_place ["n", "value"] (defScope st_is_place) := ⟨rfl, rfl, rfl, by decide +kernel, rfl, by decide +kernel, by decide +kernel⟩
theorem ok_is_place (D : Df K mg "is_place" st_is_place) (b : Bn mg)  : Has P w K mg base 1 "is_place" sem_is_place :=
  has_of D sc_is_place rfl rfl (fun _ _ _ _ _ _ us hl => match us, hl with | [_, _], _ => rfl) fun f cdv A outer s H E m => by
  have nd := sc_is_place.nd
  exact (s_one (s_ret (v_and (c_isInt m b.isinstance_ b.int_ (PE.i (v_var 1))) (v_and (v_not (c_isBool m b.isinstance_ b.bool_ (PE.i (v_var 1)))) (pe_one (vcc Cmp.le Cmp.lt (PE.i v_int) (PE.i (v_var 1)) (PE.i (v_var 0))))))))
/-! ### is_span_lot -/
abbrev st_is_span_lot : Stmt := top 11
abbrev N_is_span_lot : List Str := ["n", "value", "pair", "firsts", "lasts"]
theorem sc_is_span_lot : FnScope N_is_span_lot ["n", "value"] (defScope st_is_span_lot) := ⟨rfl, rfl, rfl, by decide +kernel, rfl, by decide +kernel, by decide +kernel⟩
theorem ok_is_span_lot (D : Df K mg "is_span_lot" st_is_span_lot) (b : Bn mg) (h_are_unlike : Has P w K mg base 1 "are_unlike" sem_are_unlike) (h_is_place : Has P w K mg base 1 "is_place" sem_is_place) : Has P w K mg base 2 "is_span_lot" sem_is_span_lot :=
  has_of D sc_is_span_lot rfl rfl (fun _ _ _ _ _ _ us hl => match us, hl with | [_, _], _ => rfl) fun f cdv A outer s H E m => by
  have nd := sc_is_span_lot.nd
  exact (s_cons (s_if (t_not (t_of (c_isTup m b.isinstance_ b.tuple_ (PE.i (v_var 1))))) (s_one (s_ret v_bl)) s_nil) (s_cons (s_for [2] m.c (i_seq (v_var 1)) (g_name (i := 2) nd rfl (by first | exact Or.inl rfl | exact Or.inr rfl)) (s_cons (s_if (PW.pt (w_or (t_not (t_of (c_isTup m b.isinstance_ b.tuple_ (PE.i (v_var 2))))) (w_or (tc (Cmp.ne m) (PE.i (c_len m b.len_ (a_consI (PE.i (v_var 2)) a_nilI))) (PE.i v_int)) (w_or (t_not (t_of (v_call h_is_place m rfl (a_cons (v_var 0) (a_cons (v_ix (PE.i (v_var 2)) (PE.i v_int)) a_nil))))) (w_or1 (t_not (t_of (v_call h_is_place m rfl (a_cons (v_var 0) (a_cons (v_ix (PE.i (v_var 2)) (PE.i v_int)) a_nil)))))))))) (s_one (s_ret v_bl)) s_nil) (s_one (s_if (tc Cmp.gt (PE.i (v_ix (PE.i (v_var 2)) (PE.i v_int))) (PE.i (v_ix (PE.i (v_var 2)) (PE.i v_int)))) (s_one (s_ret v_bl)) s_nil)))) (s_cons (s_par (i := 3) (j := 4) m.c nd (a_cons (PE.vf (v_lc [("pair", 2)] m.c nd (PI.i (i_seq (v_var 1))) (blkOk_by (by kernel_rfl)) (fun _ _ _ _ _ => (g_name (i := 2) nd rfl (by first | exact Or.inl rfl | exact Or.inr rfl))) (fun _ _ _ _ _ => c_nil) (fun _ _ _ _ _ => (v_ix (PE.i (v_var 2)) (PE.i v_int))))) (a_cons (PE.vf (v_lc [("pair", 2)] m.c nd (PI.i (i_seq (v_var 1))) (blkOk_by (by kernel_rfl)) (fun _ _ _ _ _ => (g_name (i := 2) nd rfl (by first | exact Or.inl rfl | exact Or.inr rfl))) (fun _ _ _ _ _ => c_nil) (fun _ _ _ _ _ => (v_ix (PE.i (v_var 2)) (PE.i v_int))))) a_nil))) (s_one (s_ret (v_and (vc (Cmp.eq m) (PE.i (v_var 3)) (PE.i (PE.vf (c_sorted m b.sorted_ (a_consI (PE.i (v_var 3)) a_nilI))))) (v_and (v_call h_are_unlike m rfl (a_cons (v_var 3) a_nil)) (pe_one (v_call h_are_unlike m rfl (a_cons (v_var 4) a_nil))))))))))
/-! ### plain_row -/
abbrev st_plain_row : Stmt := top 12
abbrev N_plain_row : List Str := ["n", "span", "place"]
theorem sc_plain_row : FnScope N_plain_row ["n", "span"] (defScope st_plain_row) := ⟨rfl, rfl, rfl, by decide +kernel, rfl, by decide +kernel, by decide +kernel⟩
theorem ok_plain_row (D : Df K mg "plain_row" st_plain_row) (b : Bn mg)  : Has P w K mg base 1 "plain_row" sem_plain_row :=
  has_of D sc_plain_row rfl rfl (fun _ _ _ _ _ _ us hl => match us, hl with | [_, _], _ => rfl) fun f cdv A outer s H E m => by
  have nd := sc_plain_row.nd
  exact (s_one (s_ret (c_tuple m b.tuple_ (a_consI (PE.i (PE.vf (v_lc [("place", 2)] m.c nd (PI.i (i_rng1 rfl b.range_ (a_cons (v_var 0) a_nil))) (blkOk_by (by kernel_rfl)) (fun _ _ _ _ _ => (g_name (i := 2) nd rfl (by first | exact Or.inl rfl | exact Or.inr rfl))) (fun _ _ _ _ _ => c_nil) (fun _ _ _ _ _ => (c_int m.blk b.int_ (a_consI (PE.i (vc (Cmp.in_ m.blk) (PE.i (v_var 2)) (PE.i (v_var 1)))) a_nilI)))))) a_nilI))))
/-! ### plain_code -/
abbrev st_plain_code : Stmt := top 13
abbrev N_plain_code : List Str := ["n", "lot", "span"]
theorem sc_plain_code : FnScope N_plain_code ["n", "lot"] (defScope st_plain_code) := ⟨rfl, rfl, rfl, by decide +kernel, rfl, by decide +kernel, by decide +kernel⟩
theorem ok_plain_code (D : Df K mg "plain_code" st_plain_code) (b : Bn mg) (h_told_code : Has P w K mg base 3 "told_code" sem_told_code) (h_plain_row : Has P w K mg base 1 "plain_row" sem_plain_row) : Has P w K mg base 4 "plain_code" sem_plain_code :=
  has_of D sc_plain_code rfl rfl (fun _ _ _ _ _ _ us hl => match us, hl with | [_, _], _ => rfl) fun f cdv A outer s H E m => by
  have nd := sc_plain_code.nd
  exact (s_one (s_ret (v_call h_told_code m rfl (a_cons (v_tup (a_cons (v_var 0) (a_cons (c_tuple m b.tuple_ (a_consI (PE.i (PE.vf (v_lc [("span", 2)] m.c nd (PI.i (i_seq (v_var 1))) (blkOk_by (by kernel_rfl)) (fun _ _ _ _ _ => (g_name (i := 2) nd rfl (by first | exact Or.inl rfl | exact Or.inr rfl))) (fun _ _ _ _ _ => c_nil) (fun _ _ _ _ _ => (v_call h_plain_row m.blk rfl (a_cons (v_var 0) (a_cons (v_var 2) a_nil))))))) a_nilI)) a_nil))) a_nil))))
/-! ### free_places -/
abbrev st_free_places : Stmt := top 14
abbrev N_free_places : List Str := ["lot", "span", "firsts", "other", "place"]
theorem sc_free_places : FnScope N_free_places ["lot", "span"] (defScope st_free_places) := ⟨rfl, rfl, rfl, by decide +kernel, rfl, by decide +kernel, by decide +kernel⟩
theorem ok_free_places (D : Df K mg "free_places" st_free_places) (b : Bn mg) (h_lies_within : Has P w K mg base 1 "lies_within" sem_lies_within) : Has P w K mg base 2 "free_places" sem_free_places :=
  has_of D sc_free_places rfl rfl (fun _ _ _ _ _ _ us hl => match us, hl with | [_, _], _ => rfl) fun f cdv A outer s H E m => by
  have nd := sc_free_places.nd
  exact (s_cons (by first | exact s_lc (i := 2) [("other", 3)] m.c nd rfl rfl (sw_true rfl rfl rfl (by kernel_rfl)) (PI.i (i_seq (v_var 0))) (blkOk_by (by kernel_rfl)) (fun _ _ _ _ _ => (g_name (i := 3) nd rfl (by first | exact Or.inl rfl | exact Or.inr rfl))) (fun _ _ _ _ _ => (c_one (t_of (v_call h_lies_within m.blk rfl (a_cons (v_var 3) (a_cons (v_var 1) a_nil)))))) (fun _ _ _ _ _ => (v_ix (PE.i (v_var 3)) (PE.i v_int))) | exact s_set (i := 2) nd rfl (by first | exact Or.inl rfl | exact Or.inr rfl) (PE.o (PE.vf (v_lc [("other", 3)] m.c nd (PI.i (i_seq (v_var 0))) (blkOk_by (by kernel_rfl)) (fun _ _ _ _ _ => (g_name (i := 3) nd rfl (by first | exact Or.inl rfl | exact Or.inr rfl))) (fun _ _ _ _ _ => (c_one (t_of (v_call h_lies_within m.blk rfl (a_cons (v_var 3) (a_cons (v_var 1) a_nil)))))) (fun _ _ _ _ _ => (v_ix (PE.i (v_var 3)) (PE.i v_int))))))) (s_one (s_ret (PE.vf (v_lc [("place", 4)] m.c nd (PI.i (i_rng2 rfl b.range_ (a_cons (v_add (PE.i (v_ix (PE.i (v_var 1)) (PE.i v_int))) (PE.i v_int)) (a_cons (v_ix (PE.i (v_var 1)) (PE.i v_int)) a_nil)))) (blkOk_by (by kernel_rfl)) (fun _ _ _ _ _ => (g_name (i := 4) nd rfl (by first | exact Or.inl rfl | exact Or.inr rfl))) (fun _ _ _ _ _ => (c_one (tc (Cmp.notIn m.blk) (PE.i (v_var 4)) (PE.i (v_var 2))))) (fun _ _ _ _ _ => (v_var 4)))))))
/-! ### free_number -/
abbrev st_free_number : Stmt := top 15
abbrev N_free_number : List Str := ["n", "lot", "span"]
theorem sc_free_number : FnScope N_free_number ["n", "lot"] (defScope st_free_number) := ⟨rfl, rfl, rfl, by decide +kernel, rfl, by decide +kernel, by decide +kernel⟩
theorem ok_free_number (D : Df K mg "free_number" st_free_number) (b : Bn mg) (h_free_places : Has P w K mg base 2 "free_places" sem_free_places) : Has P w K mg base 3 "free_number" sem_free_number :=
  has_of D sc_free_number rfl rfl (fun _ _ _ _ _ _ us hl => match us, hl with | [_, _], _ => rfl) fun f cdv A outer s H E m => by
  have nd := sc_free_number.nd
  exact (s_one (s_ret (c_sum m b.sum_ (a_consI (PE.i (PE.vf (v_lc [("span", 2)] m.c nd (PI.i (i_seq (v_var 1))) (blkOk_by (by kernel_rfl)) (fun _ _ _ _ _ => (g_name (i := 2) nd rfl (by first | exact Or.inl rfl | exact Or.inr rfl))) (fun _ _ _ _ _ => c_nil) (fun _ _ _ _ _ => (c_len m.blk b.len_ (a_consI (PE.i (v_call h_free_places m.blk rfl (a_cons (v_var 1) (a_cons (v_var 2) a_nil)))) a_nilI)))))) a_nilI))))
/-! ### _law_pick -/
abbrev st_Llaw_pick : Stmt := top 18
abbrev N_Llaw_pick : List Str := ["source", "many", "left", "mixed"]
theorem sc_Llaw_pick : FnScope N_Llaw_pick ["source", "many"] (defScope st_Llaw_pick) := ⟨rfl, rfl, rfl, by decide +kernel, rfl, by decide +kernel, by decide +kernel⟩
theorem ok_Llaw_pick (D : Df K mg "_law_pick" st_Llaw_pick) (b : Bn mg)  : Has P w K mg base 1 "_law_pick" sem_Llaw_pick :=
  has_of D sc_Llaw_pick rfl rfl (fun _ _ _ _ _ _ us hl => match us, hl with | [_, _], _ => rfl) fun f cdv A outer s H E m => by
  have nd := sc_Llaw_pick.nd
  exact (s_cons (s_while (PW.pt (w_and (tc Cmp.gt (PE.i (v_var 1)) (PE.i v_int)) (w_and (tc Cmp.lt (PE.i (v_sg 0 .left m)) (PE.i v_int)) (w_and1 (tc Cmp.gt (PE.i (c_slen 0 m b.len_)) (PE.i v_int)))))) (s_one (s_spop 0 m))) (s_cons (s_set (i := 2) nd rfl (by first | exact Or.inl rfl | exact Or.inr rfl) (PE.o (v_sg 0 .left m))) (s_cons (s_if (PW.pt (w_or (tc Cmp.lt (PE.i (v_var 1)) (PE.i v_int)) (w_or1 (tc Cmp.gt (PE.i (v_var 2)) (PE.i v_int))))) (s_cons (s_sput 0 .left m (v_fdiv (PE.i (v_var 2)) (PE.i (c_max2 m b.max_ (a_consI (PE.i v_int) (a_consI (PE.i (v_var 1)) a_nilI)))))) (s_one (s_ret (v_mod (PE.i (c_int m b.int_ (a_consI (PE.i (v_var 2)) a_nilI))) (PE.i (c_max2 m b.max_ (a_consI (PE.i v_int) (a_consI (PE.i (v_var 1)) a_nilI)))))))) s_nil) (s_cons (s_sput 0 .turn m (v_add (PE.i (v_sg 0 .turn m)) (PE.i v_int))) (s_cons (s_set (i := 3) nd rfl (by first | exact Or.inl rfl | exact Or.inr rfl) (PE.o (v_mod (PE.i (c_int m b.int_ (a_consI (PE.i (v_add (PE.i (v_sg 0 .mixed m)) (PE.i (v_mul (PE.i (v_sg 0 .turn m)) (PE.i v_int))))) a_nilI))) (PE.i v_int)))) (s_cons (s_set (i := 3) nd rfl (by first | exact Or.inl rfl | exact Or.inr rfl) (PE.o (v_mod (PE.i (c_int m b.int_ (a_consI (PE.i (v_add (PE.i (v_mul (PE.i (v_var 3)) (PE.i (v_var 3)))) (PE.i (v_mul (PE.i (v_sg 0 .turn m)) (PE.i v_int))))) a_nilI))) (PE.i v_int)))) (s_cons (s_sput 0 .mixed m (v_var 3)) (s_one (s_ret (v_mod (PE.i (c_int m b.int_ (a_consI (PE.i (v_fdiv (PE.i (v_var 3)) (PE.i v_int))) a_nilI))) (PE.i (v_var 1))))))))))))
/-! ### _law_of -/
abbrev st_Llaw_of : Stmt := top 19
abbrev N_Llaw_of : List Str := ["source", "some"]
theorem sc_Llaw_of : FnScope N_Llaw_of ["source", "some"] (defScope st_Llaw_of) := ⟨rfl, rfl, rfl, by decide +kernel, rfl, by decide +kernel, by decide +kernel⟩
theorem ok_Llaw_of (D : Df K mg "_law_of" st_Llaw_of) (b : Bn mg) (h_Llaw_pick : Has P w K mg base 1 "_law_pick" sem_Llaw_pick) : Has P w K mg base 2 "_law_of" sem_Llaw_of :=
  has_of D sc_Llaw_of rfl rfl (fun _ _ _ _ _ _ us hl => match us, hl with | [_, _], _ => rfl) fun f cdv A outer s H E m => by
  have nd := sc_Llaw_of.nd
  exact (s_one (s_ret (v_ix (PE.i (v_var 1)) (PE.i (v_call h_Llaw_pick m rfl (a_cons (v_var 0) (a_cons (c_len m b.len_ (a_consI (PE.i (v_var 1)) a_nilI)) a_nil)))))))
/-! ### _law_mixed -/
abbrev st_Llaw_mixed : Stmt := top 20
abbrev N_Llaw_mixed : List Str := ["source", "things", "rest", "lap"]
theorem sc_Llaw_mixed : FnScope N_Llaw_mixed ["source", "things"] (defScope st_Llaw_mixed) := ⟨rfl, rfl, rfl, by decide +kernel, rfl, by decide +kernel, by decide +kernel⟩
theorem ok_Llaw_mixed (D : Df K mg "_law_mixed" st_Llaw_mixed) (b : Bn mg) (h_Llaw_pick : Has P w K mg base 1 "_law_pick" sem_Llaw_pick) : Has P w K mg base 2 "_law_mixed" sem_Llaw_mixed :=
  has_of D sc_Llaw_mixed rfl rfl (fun _ _ _ _ _ _ us hl => match us, hl with | [_, _], _ => rfl) fun f cdv A outer s H E m => by
  have nd := sc_Llaw_mixed.nd
  exact (s_cons (s_set (i := 2) nd rfl (by first | exact Or.inl rfl | exact Or.inr rfl) (PE.of (c_list m b.list_ (a_consI (PE.i (v_var 1)) a_nilI)))) (s_one (s_mix 2 [("lap", 3)] m.c nd (i_rng1 rfl b.range_ (a_cons (c_len m b.len_ (a_consI (v_bor 2) a_nilI)) a_nil)) (blkOk_by (by kernel_rfl)) (fun _ _ _ _ _ => (g_name (i := 3) nd rfl (by first | exact Or.inl rfl | exact Or.inr rfl))) (fun _ _ _ _ _ => (v_call h_Llaw_pick m.blk rfl (a_cons (v_var 0) (a_cons (c_len m.blk b.len_ (a_consI (v_bor 2) a_nilI)) a_nil)))))))
/-! ### _law_sum -/
abbrev st_Llaw_sum : Stmt := top 21
abbrev N_Llaw_sum : List Str := ["one", "other", "a", "b"]
theorem sc_Llaw_sum : FnScope N_Llaw_sum ["one", "other"] (defScope st_Llaw_sum) := ⟨rfl, rfl, rfl, by decide +kernel, rfl, by decide +kernel, by decide +kernel⟩
theorem ok_Llaw_sum (D : Df K mg "_law_sum" st_Llaw_sum) (b : Bn mg)  : Has P w K mg base 1 "_law_sum" sem_Llaw_sum :=
  has_of D sc_Llaw_sum rfl rfl (fun _ _ _ _ _ _ us hl => match us, hl with | [_, _], _ => rfl) fun f cdv A outer s H E m => by
  have nd := sc_Llaw_sum.nd
  exact (s_one (s_ret (c_tuple m b.tuple_ (a_consI (PE.i (PE.vf (v_lc [("a", 2), ("b", 3)] m.c nd (PI.i (i_zip rfl b.zip_ (a_cons (v_var 0) (a_cons (v_var 1) a_nil)))) (blkOk_by (by kernel_rfl)) (fun _ _ _ _ _ => (g_tup rfl (gs_cons (g_name (i := 2) nd rfl (by first | exact Or.inl rfl | exact Or.inr rfl)) (gs_cons (g_name (i := 3) nd rfl (by first | exact Or.inl rfl | exact Or.inr rfl)) gs_nil)) (fun _ _ _ => ptCons_len (fun _ _ _ => ptCons_len (fun _ _ _ => ptNil_len))))) (fun _ _ _ _ _ => c_nil) (fun _ _ _ _ _ => (c_int m.blk b.int_ (a_consI (PE.i (vc (Cmp.ne m.blk) (PE.i (v_var 2)) (PE.i (v_var 3)))) a_nilI)))))) a_nilI))))
/-! ### _law_odd -/
abbrev st_Llaw_odd : Stmt := top 22
abbrev N_Llaw_odd : List Str := ["source"]
theorem sc_Llaw_odd : FnScope N_Llaw_odd ["source"] (defScope st_Llaw_odd) := ⟨rfl, rfl, rfl, by decide +kernel, rfl, by decide +kernel, by decide +kernel⟩
theorem ok_Llaw_odd (D : Df K mg "_law_odd" st_Llaw_odd) (b : Bn mg) (h_Llaw_of : Has P w K mg base 2 "_law_of" sem_Llaw_of) : Has P w K mg base 3 "_law_odd" sem_Llaw_odd :=
  has_of D sc_Llaw_odd rfl rfl (fun _ _ _ _ _ _ us hl => match us, hl with | [_], _ => rfl) fun f cdv A outer s H E m => by
  have nd := sc_Llaw_odd.nd
  exact (s_one (s_ret (v_call h_Llaw_of m rfl (a_cons (v_var 0) (a_cons (PE.vf (v_lst (a_cons v_non (a_cons v_bl (a_cons (v_neg (PE.i v_int)) (a_cons v_int (a_cons v_int (a_cons v_str (a_cons (v_tup a_nil) (a_cons (PE.vf (v_lst a_nil)) (a_cons v_dict0 (a_cons (v_tup (a_cons v_int a_nil)) (a_cons (v_tup (a_cons v_int a_nil)) (a_cons (v_tup (a_cons (v_tup (a_cons v_int a_nil)) a_nil)) (a_cons (v_tup (a_cons (v_tup (a_cons v_int a_nil)) a_nil)) (a_cons (v_pow (PE.i v_int) (PE.i v_int)) (a_cons v_str (a_cons (v_tup (a_cons v_int (a_cons v_int a_nil))) a_nil)))))))))))))))))) a_nil)))))
/-! ### _law_is_int -/
abbrev st_Llaw_is_int : Stmt := top 23
abbrev N_Llaw_is_int : List Str := ["value", "many"]
theorem sc_Llaw_is_int : FnScope N_Llaw_is_int ["value", "many"] (defScope st_Llaw_is_int) := ⟨rfl, rfl, rfl, by decide +kernel, rfl, by decide +kernel, by decide +kernel⟩
theorem ok_Llaw_is_int (D : Df K mg "_law_is_int" st_Llaw_is_int) (b : Bn mg)  : Has P w K mg base 1 "_law_is_int" sem_Llaw_is_int :=
  has_of D sc_Llaw_is_int rfl rfl (fun _ _ _ _ _ _ us hl => match us, hl with | [_, _], _ => rfl) fun f cdv A outer s H E m => by
  have nd := sc_Llaw_is_int.nd
  exact (s_one (s_ret (v_and (c_isInt m b.isinstance_ b.int_ (PE.i (v_var 0))) (v_and (v_not (c_isBool m b.isinstance_ b.bool_ (PE.i (v_var 0)))) (pe_one (vcc Cmp.le Cmp.lt (PE.i v_int) (PE.i (v_var 0)) (PE.i (v_var 1))))))))
/-! ### _law_is_lot -/
abbrev st_Llaw_is_lot : Stmt := top 24
abbrev N_Llaw_is_lot : List Str := ["n", "value", "one", "x", "y"]
theorem sc_Llaw_is_lot : FnScope N_Llaw_is_lot ["n", "value"] (defScope st_Llaw_is_lot) := ⟨rfl, rfl, rfl, by decide +kernel, rfl, by decide +kernel, by decide +kernel⟩
theorem ok_Llaw_is_lot (D : Df K mg "_law_is_lot" st_Llaw_is_lot) (b : Bn mg) (h_Llaw_is_int : Has P w K mg base 1 "_law_is_int" sem_Llaw_is_int) : Has P w K mg base 2 "_law_is_lot" sem_Llaw_is_lot :=
  has_of D sc_Llaw_is_lot rfl rfl (fun _ _ _ _ _ _ us hl => match us, hl with | [_, _], _ => rfl) fun f cdv A outer s H E m => by
  have nd := sc_Llaw_is_lot.nd
  exact (s_cons (s_if (t_not (t_of (c_isTup m b.isinstance_ b.tuple_ (PE.i (v_var 1))))) (s_one (s_ret v_bl)) s_nil) (s_cons (s_for [2] m.c (i_seq (v_var 1)) (g_name (i := 2) nd rfl (by first | exact Or.inl rfl | exact Or.inr rfl)) (s_cons (s_if (PW.pt (w_or (t_not (t_of (c_isTup m b.isinstance_ b.tuple_ (PE.i (v_var 2))))) (w_or (tc (Cmp.ne m) (PE.i (c_len m b.len_ (a_consI (PE.i (v_var 2)) a_nilI))) (PE.i v_int)) (w_or (t_not (t_of (v_call h_Llaw_is_int m rfl (a_cons (v_ix (PE.i (v_var 2)) (PE.i v_int)) (a_cons (v_var 0) a_nil))))) (w_or1 (t_not (t_of (v_call h_Llaw_is_int m rfl (a_cons (v_ix (PE.i (v_var 2)) (PE.i v_int)) (a_cons (v_var 0) a_nil)))))))))) (s_one (s_ret v_bl)) s_nil) (s_one (s_if (tc Cmp.gt (PE.i (v_ix (PE.i (v_var 2)) (PE.i v_int))) (PE.i (v_ix (PE.i (v_var 2)) (PE.i v_int)))) (s_one (s_ret v_bl)) s_nil)))) (s_cons (s_if (PW.pt (w_or (tc (Cmp.ne m) (PE.i (PE.vf (c_list m b.list_ (a_consI (PE.i (v_var 1)) a_nilI)))) (PE.i (PE.vf (c_sorted m b.sorted_ (a_consI (PE.i (v_var 1)) a_nilI))))) (w_or1 (tc (Cmp.ne m) (PE.i (c_lenSet m b.len_ b.set_ (PE.i (PE.vf (v_lc [("x", 3), ("y", 4)] m.c nd (PI.i (i_seq (v_var 1))) (blkOk_by (by kernel_rfl)) (fun _ _ _ _ _ => (g_tup rfl (gs_cons (g_name (i := 3) nd rfl (by first | exact Or.inl rfl | exact Or.inr rfl)) (gs_cons (g_name (i := 4) nd rfl (by first | exact Or.inl rfl | exact Or.inr rfl)) gs_nil)) (fun _ _ _ => ptCons_len (fun _ _ _ => ptCons_len (fun _ _ _ => ptNil_len))))) (fun _ _ _ _ _ => c_nil) (fun _ _ _ _ _ => (v_var 3))))))) (PE.i (c_len m b.len_ (a_consI (PE.i (v_var 1)) a_nilI))))))) (s_one (s_ret v_bl)) s_nil) (s_one (s_ret (vc (Cmp.eq m) (PE.i (c_lenSet m b.len_ b.set_ (PE.i (PE.vf (v_lc [("x", 3), ("y", 4)] m.c nd (PI.i (i_seq (v_var 1))) (blkOk_by (by kernel_rfl)) (fun _ _ _ _ _ => (g_tup rfl (gs_cons (g_name (i := 3) nd rfl (by first | exact Or.inl rfl | exact Or.inr rfl)) (gs_cons (g_name (i := 4) nd rfl (by first | exact Or.inl rfl | exact Or.inr rfl)) gs_nil)) (fun _ _ _ => ptCons_len (fun _ _ _ => ptCons_len (fun _ _ _ => ptNil_len))))) (fun _ _ _ _ _ => c_nil) (fun _ _ _ _ _ => (v_var 4))))))) (PE.i (c_len m b.len_ (a_consI (PE.i (v_var 1)) a_nilI)))))))))
/-! ### _law_pairs -/
abbrev st_Llaw_pairs : Stmt := top 26
abbrev N_Llaw_pairs : List Str := ["n", "found", "x", "y"]
theorem sc_Llaw_pairs : FnScope N_Llaw_pairs ["n"] (defScope st_Llaw_pairs) := ⟨rfl, rfl, rfl, by decide +kernel, rfl, by decide +kernel, by decide +kernel⟩
theorem ok_Llaw_pairs (D : Df K mg "_law_pairs" st_Llaw_pairs) (b : Bn mg)  : Has P w K mg base 1 "_law_pairs" sem_Llaw_pairs :=
  has_of D sc_Llaw_pairs rfl rfl (fun _ _ _ _ _ _ us hl => match us, hl with | [_], _ => rfl) fun f cdv A outer s H E m => by
  have nd := sc_Llaw_pairs.nd
  exact (s_cons (s_set (i := 1) nd rfl (by first | exact Or.inl rfl | exact Or.inr rfl) (PE.o (PE.vf (v_lst a_nil)))) (s_cons (s_for [2] m.c (i_rng1 rfl b.range_ (a_cons (v_var 0) a_nil)) (g_name (i := 2) nd rfl (by first | exact Or.inl rfl | exact Or.inr rfl)) (s_one (s_set (i := 1) nd rfl (by first | exact Or.inl rfl | exact Or.inr rfl) (PE.o (v_add (PE.i (v_var 1)) (PE.i (PE.vf (v_lc [("y", 3)] m.c nd (PI.i (i_rng2 rfl b.range_ (a_cons (v_var 2) (a_cons (v_var 0) a_nil)))) (blkOk_by (by kernel_rfl)) (fun _ _ _ _ _ => (g_name (i := 3) nd rfl (by first | exact Or.inl rfl | exact Or.inr rfl))) (fun _ _ _ _ _ => c_nil) (fun _ _ _ _ _ => (v_tup (a_cons (v_var 2) (a_cons (v_var 3) a_nil)))))))))))) (s_one (s_ret (v_var 1)))))
/-! ### _law_lot -/
abbrev st_Llaw_lot : Stmt := top 25
abbrev N_Llaw_lot : List Str := ["source", "n", "found", "pair", "x", "y"]
theorem sc_Llaw_lot : FnScope N_Llaw_lot ["source", "n"] (defScope st_Llaw_lot) := ⟨rfl, rfl, rfl, by decide +kernel, rfl, by decide +kernel, by decide +kernel⟩
theorem ok_Llaw_lot (D : Df K mg "_law_lot" st_Llaw_lot) (b : Bn mg) (h_Llaw_mixed : Has P w K mg base 2 "_law_mixed" sem_Llaw_mixed) (h_Llaw_pairs : Has P w K mg base 1 "_law_pairs" sem_Llaw_pairs) (h_Llaw_pick : Has P w K mg base 1 "_law_pick" sem_Llaw_pick) : Has P w K mg base 3 "_law_lot" sem_Llaw_lot :=
  has_of D sc_Llaw_lot rfl rfl (fun _ _ _ _ _ _ us hl => match us, hl with | [_, _], _ => rfl) fun f cdv A outer s H E m => by
  have nd := sc_Llaw_lot.nd
  exact (s_cons (s_set (i := 2) nd rfl (by first | exact Or.inl rfl | exact Or.inr rfl) (PE.of (v_lst a_nil))) (s_cons (s_for [3] m.c (i_seq (v_sl (PE.i (v_call h_Llaw_mixed m rfl (a_cons (v_var 0) (a_cons (v_call h_Llaw_pairs m rfl (a_cons (v_var 1) a_nil)) a_nil)))) p_no (p_so (PE.i (v_call h_Llaw_pick m rfl (a_cons (v_var 0) (a_cons (v_mul (PE.i v_int) (PE.i (v_var 1))) a_nil))))))) (g_name (i := 3) nd rfl (by first | exact Or.inl rfl | exact Or.inr rfl)) (s_one (s_if (tc (Cmp.eq m) (PE.i (PE.vf (v_lc [("x", 4), ("y", 5)] m.c nd (i_bor (v_bor 2)) (blkOk_by (by kernel_rfl)) (fun _ _ _ _ _ => (g_tup rfl (gs_cons (g_name (i := 4) nd rfl (by first | exact Or.inl rfl | exact Or.inr rfl)) (gs_cons (g_name (i := 5) nd rfl (by first | exact Or.inl rfl | exact Or.inr rfl)) gs_nil)) (fun _ _ _ => ptCons_len (fun _ _ _ => ptCons_len (fun _ _ _ => ptNil_len))))) (fun _ _ _ _ _ => (c_one (PW.pt (w_or (tc (Cmp.eq m.blk) (PE.i (v_var 4)) (PE.i (v_ix (PE.i (v_var 3)) (PE.i v_int)))) (w_or1 (tc (Cmp.eq m.blk) (PE.i (v_var 5)) (PE.i (v_ix (PE.i (v_var 3)) (PE.i v_int))))))))) (fun _ _ _ _ _ => v_int)))) (PE.i (PE.vf (v_lst a_nil)))) (s_one (s_app 2 (he := (v_var 3)))) s_nil))) (s_one (s_ret (c_tuple m b.tuple_ (a_consI (PE.i (PE.vf (c_sorted m b.sorted_ (a_consI (v_bor 2) a_nilI)))) a_nilI))))))
/-! ### _law_free -/
abbrev st_Llaw_free : Stmt := top 27
abbrev N_Llaw_free : List Str := ["lot", "x", "y", "a", "b"]
theorem sc_Llaw_free : FnScope N_Llaw_free ["lot"] (defScope st_Llaw_free) := ⟨rfl, rfl, rfl, by decide +kernel, rfl, by decide +kernel, by decide +kernel⟩
theorem ok_Llaw_free (D : Df K mg "_law_free" st_Llaw_free) (b : Bn mg)  : Has P w K mg base 1 "_law_free" sem_Llaw_free :=
  has_of D sc_Llaw_free rfl rfl (fun _ _ _ _ _ _ us hl => match us, hl with | [_], _ => rfl) fun f cdv A outer s H E m => by
  have nd := sc_Llaw_free.nd
  exact (s_one (s_ret (c_sum m b.sum_ (a_consI (PE.i (PE.vf (v_lc [("x", 1), ("y", 2)] m.c nd (PI.i (i_seq (v_var 0))) (blkOk_by (by kernel_rfl)) (fun _ _ _ _ _ => (g_tup rfl (gs_cons (g_name (i := 1) nd rfl (by first | exact Or.inl rfl | exact Or.inr rfl)) (gs_cons (g_name (i := 2) nd rfl (by first | exact Or.inl rfl | exact Or.inr rfl)) gs_nil)) (fun _ _ _ => ptCons_len (fun _ _ _ => ptCons_len (fun _ _ _ => ptNil_len))))) (fun _ _ _ _ _ => (c_one (tc Cmp.gt (PE.i (v_var 2)) (PE.i (v_var 1))))) (fun _ _ _ _ _ => (v_sub (PE.i (v_sub (PE.i (v_sub (PE.i (v_var 2)) (PE.i (v_var 1)))) (PE.i v_int))) (PE.i (c_len m.blk b.len_ (a_consI (PE.i (PE.vf (v_lc [("a", 3), ("b", 4)] m.blk.c nd (PI.i (i_seq (v_var 0))) (blkOk_by (by kernel_rfl)) (fun _ _ _ _ _ => (g_tup rfl (gs_cons (g_name (i := 3) nd rfl (by first | exact Or.inl rfl | exact Or.inr rfl)) (gs_cons (g_name (i := 4) nd rfl (by first | exact Or.inl rfl | exact Or.inr rfl)) gs_nil)) (fun _ _ _ => ptCons_len (fun _ _ _ => ptCons_len (fun _ _ _ => ptNil_len))))) (fun _ _ _ _ _ => (c_one (PW.pt (w_and (tc Cmp.lt (PE.i (v_var 1)) (PE.i (v_var 3))) (w_and1 (tc Cmp.lt (PE.i (v_var 4)) (PE.i (v_var 2)))))))) (fun _ _ _ _ _ => v_int)))) a_nilI)))))))) a_nilI))))
/-! ### _law_leads -/
abbrev st_Llaw_leads : Stmt := top 28
abbrev N_Llaw_leads : List Str := ["n", "rows", "found", "row", "head", "one", "at"]
theorem sc_Llaw_leads : FnScope N_Llaw_leads ["n", "rows"] (defScope st_Llaw_leads) := ⟨rfl, rfl, rfl, by decide +kernel, rfl, by decide +kernel, by decide +kernel⟩
theorem ok_Llaw_leads (D : Df K mg "_law_leads" st_Llaw_leads) (b : Bn mg) (h_Llaw_sum : Has P w K mg base 1 "_law_sum" sem_Llaw_sum) : Has P w K mg base 2 "_law_leads" sem_Llaw_leads :=
  has_of D sc_Llaw_leads rfl rfl (fun _ _ _ _ _ _ us hl => match us, hl with | [_, _], _ => rfl) fun f cdv A outer s H E m => by
  have nd := sc_Llaw_leads.nd
  exact (s_cons (s_set (i := 2) nd rfl (by first | exact Or.inl rfl | exact Or.inr rfl) (PE.o (PE.vf (v_lst a_nil)))) (s_cons (s_for [3, 4, 5] m.c (i_seq (v_var 1)) (g_name (i := 3) nd rfl (by first | exact Or.inl rfl | exact Or.inr rfl)) (s_cons (s_for [4, 5] m.c (i_seq (v_var 2)) (g_tup rfl (gs_cons (g_name (i := 4) nd rfl (by first | exact Or.inl rfl | exact Or.inr rfl)) (gs_cons (g_name (i := 5) nd rfl (by first | exact Or.inl rfl | exact Or.inr rfl)) gs_nil)) (fun _ _ _ => ptCons_len (fun _ _ _ => ptCons_len (fun _ _ _ => ptNil_len)))) (s_one (s_set (i := 3) nd rfl (by first | exact Or.inl rfl | exact Or.inr rfl) (PE.o (v_if (tc (Cmp.eq m) (PE.i (v_ix (PE.i (v_var 3)) (PE.i (v_var 4)))) (PE.i v_int)) (v_call h_Llaw_sum m rfl (a_cons (v_var 3) (a_cons (v_var 5) a_nil))) (v_var 3)))))) (s_one (s_if (tc (Cmp.in_ m) (PE.i v_int) (PE.i (v_var 3))) (s_cons (s_set (i := 4) nd rfl (by first | exact Or.inl rfl | exact Or.inr rfl) (PE.o (v_idx (PE.i (v_var 3)) (PE.i v_int)))) (s_one (s_set (i := 2) nd rfl (by first | exact Or.inl rfl | exact Or.inr rfl) (PE.o (v_add (PE.i (PE.vf (v_lc [("one", 5), ("at", 6)] m.c nd (PI.i (i_seq (v_var 2))) (blkOk_by (by kernel_rfl)) (fun _ _ _ _ _ => (g_tup rfl (gs_cons (g_name (i := 6) nd rfl (by first | exact Or.inl rfl | exact Or.inr rfl)) (gs_cons (g_name (i := 5) nd rfl (by first | exact Or.inl rfl | exact Or.inr rfl)) gs_nil)) (fun _ _ _ => ptCons_len (fun _ _ _ => ptCons_len (fun _ _ _ => ptNil_len))))) (fun _ _ _ _ _ => c_nil) (fun _ _ _ _ _ => (v_tup (a_cons (v_var 6) (a_cons (v_if (tc (Cmp.eq m.blk) (PE.i (v_ix (PE.i (v_var 5)) (PE.i (v_var 4)))) (PE.i v_int)) (v_call h_Llaw_sum m.blk rfl (a_cons (v_var 5) (a_cons (v_var 3) a_nil))) (v_var 5)) a_nil))))))) (PE.i (PE.vf (v_lst (a_cons (v_tup (a_cons (v_var 4) (a_cons (v_var 3) a_nil))) a_nil))))))))) s_nil)))) (s_one (s_ret (c_tuple m b.tuple_ (a_consI (PE.i (PE.vf (v_lc [("head", 4), ("one", 5)] m.c nd (PI.i (i_seq (PE.vf (c_sorted m b.sorted_ (a_consI (PE.i (v_var 2)) a_nilI))))) (blkOk_by (by kernel_rfl)) (fun _ _ _ _ _ => (g_tup rfl (gs_cons (g_name (i := 4) nd rfl (by first | exact Or.inl rfl | exact Or.inr rfl)) (gs_cons (g_name (i := 5) nd rfl (by first | exact Or.inl rfl | exact Or.inr rfl)) gs_nil)) (fun _ _ _ => ptCons_len (fun _ _ _ => ptCons_len (fun _ _ _ => ptNil_len))))) (fun _ _ _ _ _ => c_nil) (fun _ _ _ _ _ => (v_var 5))))) a_nilI))))))
/-! ### law -/
abbrev st_law : Stmt := top 29
abbrev N_law : List Str := ["script", "source", "lap", "n", "lot", "plain", "k", "odd", "some", "value", "span"]
theorem sc_law : FnScope N_law ["script"] (defScope st_law) := ⟨rfl, rfl, rfl, by decide +kernel, rfl, by decide +kernel, by decide +kernel⟩
theorem ok_law {f : Addr} {cdv : Value} {A : Around} {outer : List PySem.Env} {s : Shared} {H : Hp} {E : XK} (b : Bn mg) (h_plain_code : Has P w K mg base 4 "plain_code" sem_plain_code) (h_free_number : Has P w K mg base 3 "free_number" sem_free_number) (h_Llaw_of : Has P w K mg base 2 "_law_of" sem_Llaw_of) (h_Llaw_pairs : Has P w K mg base 1 "_law_pairs" sem_Llaw_pairs) (h_is_span_lot : Has P w K mg base 2 "is_span_lot" sem_is_span_lot) (h_Llaw_is_lot : Has P w K mg base 2 "_law_is_lot" sem_Llaw_is_lot) (h_Llaw_odd : Has P w K mg base 3 "_law_odd" sem_Llaw_odd) (h_Llaw_pick : Has P w K mg base 1 "_law_pick" sem_Llaw_pick) (h_Llaw_free : Has P w K mg base 1 "_law_free" sem_Llaw_free) (h_Llaw_leads : Has P w K mg base 2 "_law_leads" sem_Llaw_leads) (h_Llaw_lot : Has P w K mg base 3 "_law_lot" sem_Llaw_lot) (m : Rm 4 (cxOf CX0 P w K mg base N_law "law" (defScope st_law) f cdv A outer s H E).nox) : PSs (cxOf CX0 P w K mg base N_law "law" (defScope st_law) f cdv A outer s H E).nox (defBody st_law).tail (tS P w g_law) := by
  have nd := sc_law.nd
  exact (s_cons (s_for [2, 3, 4, 5, 6, 7, 8, 9] m.c (i_rng1 rfl b.range_ (a_cons v_int a_nil)) (g_name (i := 2) nd rfl (by first | exact Or.inl rfl | exact Or.inr rfl)) (s_cons (s_set (i := 3) nd rfl (by first | exact Or.inl rfl | exact Or.inr rfl) (PE.o (v_add (PE.i v_int) (PE.i (v_call h_Llaw_pick m rfl (a_cons (v_var 1) (a_cons v_int a_nil))))))) (s_cons (s_set (i := 4) nd rfl (by first | exact Or.inl rfl | exact Or.inr rfl) (PE.o (v_call h_Llaw_lot m rfl (a_cons (v_var 1) (a_cons (v_var 3) a_nil))))) (s_cons (by first | exact s_lc (i := 5) [("span", 10)] m.c nd rfl rfl (sw_true rfl rfl rfl (by kernel_rfl)) (PI.i (i_seq (v_var 4))) (blkOk_by (by kernel_rfl)) (fun _ _ _ _ _ => (g_name (i := 10) nd rfl (by first | exact Or.inl rfl | exact Or.inr rfl))) (fun _ _ _ _ _ => c_nil) (fun _ _ _ _ _ => (c_tuple m.blk b.tuple_ (a_consI (PE.i (PE.vf (v_lc [("k", 6)] m.blk.c nd (PI.i (i_rng1 rfl b.range_ (a_cons (v_var 3) a_nil))) (blkOk_by (by kernel_rfl)) (fun _ _ _ _ _ => (g_name (i := 6) nd rfl (by first | exact Or.inl rfl | exact Or.inr rfl))) (fun _ _ _ _ _ => c_nil) (fun _ _ _ _ _ => (c_int m.blk.blk b.int_ (a_consI (PE.i (vc (Cmp.in_ m.blk.blk) (PE.i (v_var 6)) (PE.i (v_var 10)))) a_nilI)))))) a_nilI))) | exact s_set (i := 5) nd rfl (by first | exact Or.inl rfl | exact Or.inr rfl) (PE.o (PE.vf (v_lc [("span", 10)] m.c nd (PI.i (i_seq (v_var 4))) (blkOk_by (by kernel_rfl)) (fun _ _ _ _ _ => (g_name (i := 10) nd rfl (by first | exact Or.inl rfl | exact Or.inr rfl))) (fun _ _ _ _ _ => c_nil) (fun _ _ _ _ _ => (c_tuple m.blk b.tuple_ (a_consI (PE.i (PE.vf (v_lc [("k", 6)] m.blk.c nd (PI.i (i_rng1 rfl b.range_ (a_cons (v_var 3) a_nil))) (blkOk_by (by kernel_rfl)) (fun _ _ _ _ _ => (g_name (i := 6) nd rfl (by first | exact Or.inl rfl | exact Or.inr rfl))) (fun _ _ _ _ _ => c_nil) (fun _ _ _ _ _ => (c_int m.blk.blk b.int_ (a_consI (PE.i (vc (Cmp.in_ m.blk.blk) (PE.i (v_var 6)) (PE.i (v_var 10)))) a_nilI)))))) a_nilI))))))) (s_cons (s_if (tc (Cmp.ne m) (PE.i (c_repr m b.repr_ (a_consI (PE.i (PE.vf (v_lst (a_cons (v_call h_plain_code m rfl (a_cons (v_var 3) (a_cons (v_var 4) a_nil))) (a_cons (v_call h_free_number m rfl (a_cons (v_var 3) (a_cons (v_var 4) a_nil))) a_nil))))) a_nilI))) (PE.i (c_repr m b.repr_ (a_consI (PE.i (PE.vf (v_lst (a_cons (v_tup (a_cons (v_var 3) (a_cons (v_call h_Llaw_leads m rfl (a_cons (v_var 3) (a_cons (v_var 5) a_nil))) a_nil))) (a_cons (v_call h_Llaw_free m rfl (a_cons (v_var 4) a_nil)) a_nil))))) a_nilI)))) (s_one (s_ret v_bl)) s_nil) (s_cons (s_set (i := 6) nd rfl (by first | exact Or.inl rfl | exact Or.inr rfl) (PE.o (v_call h_Llaw_pick m rfl (a_cons (v_var 1) (a_cons (v_add (PE.i (c_len m b.len_ (a_consI (PE.i (v_var 4)) a_nilI))) (PE.i v_int)) a_nil))))) (s_cons (s_set (i := 7) nd rfl (by first | exact Or.inl rfl | exact Or.inr rfl) (PE.o (v_call h_Llaw_of m rfl (a_cons (v_var 1) (a_cons (PE.vf (v_lst (a_cons (v_tup (a_cons v_int (a_cons (v_var 3) a_nil))) (a_cons (v_tup (a_cons v_int (a_cons v_int a_nil))) (a_cons (v_tup (a_cons (v_sub (PE.i (v_var 3)) (PE.i v_int)) (a_cons (v_sub (PE.i (v_var 3)) (PE.i v_int)) a_nil))) (a_cons (v_tup (a_cons v_int (a_cons v_bl a_nil))) (a_cons (PE.vf (v_lst (a_cons v_int (a_cons v_int a_nil)))) (a_cons v_non (a_cons (v_tup (a_cons v_int a_nil)) (a_cons (v_tup (a_cons v_int (a_cons v_int (a_cons v_int a_nil)))) (a_cons v_str (a_cons (v_tup (a_cons (v_neg (PE.i v_int)) (a_cons v_int a_nil))) (a_cons (v_tup (a_cons v_int (a_cons (v_sub (PE.i (v_var 3)) (PE.i v_int)) a_nil))) a_nil))))))))))))) a_nil))))) (s_cons (s_set (i := 8) nd rfl (by first | exact Or.inl rfl | exact Or.inr rfl) (PE.o (PE.vf (v_lst (a_cons (v_var 4) (a_cons (v_rev (PE.i (v_var 4))) (a_cons (v_add (PE.i (v_var 4)) (PE.i (v_sl (PE.i (v_var 4)) p_no (p_so (PE.i v_int))))) (a_cons (PE.vf (c_list m b.list_ (a_consI (PE.i (v_var 4)) a_nilI))) (a_cons (v_add (PE.i (v_add (PE.i (v_sl (PE.i (v_var 4)) p_no (p_so (PE.i (v_var 6))))) (PE.i (v_tup (a_cons (v_var 7) a_nil))))) (PE.i (v_sl (PE.i (v_var 4)) (p_so (PE.i (v_var 6))) p_no))) (a_cons (v_add (PE.i (v_sl (PE.i (v_var 4)) p_no (p_so (PE.i (v_var 6))))) (PE.i (v_sl (PE.i (v_var 4)) (p_so (PE.i (v_add (PE.i (v_var 6)) (PE.i v_int)))) p_no))) (a_cons (v_call h_Llaw_odd m rfl (a_cons (v_var 1) a_nil)) a_nil))))))))))) (s_one (s_for [9] m.c (i_seq (v_add (PE.i (v_var 8)) (PE.i (PE.vf (v_lst (a_cons (c_tuple m b.tuple_ (a_consI (PE.i (PE.vf (c_sorted m b.sorted_ (a_consI (PE.i (v_add (PE.i (v_var 4)) (PE.i (v_tup (a_cons (v_call h_Llaw_of m rfl (a_cons (v_var 1) (a_cons (v_call h_Llaw_pairs m rfl (a_cons (v_var 3) a_nil)) a_nil))) a_nil))))) a_nilI)))) a_nilI)) a_nil)))))) (g_name (i := 9) nd rfl (by first | exact Or.inl rfl | exact Or.inr rfl)) (s_one (s_if (tc (Cmp.ne m) (PE.i (c_repr m b.repr_ (a_consI (PE.i (v_call h_is_span_lot m rfl (a_cons (v_var 3) (a_cons (v_var 9) a_nil)))) a_nilI))) (PE.i (c_repr m b.repr_ (a_consI (PE.i (v_call h_Llaw_is_lot m rfl (a_cons (v_var 3) (a_cons (v_var 9) a_nil)))) a_nilI)))) (s_one (s_ret v_bl)) s_nil)))))))))))) (s_one (s_ret (vc (Cmp.eq m) (PE.i (PE.vf (v_lst (a_cons (v_call h_free_number m rfl (a_cons v_int (a_cons (v_tup (a_cons (v_tup (a_cons v_int (a_cons v_int a_nil))) (a_cons (v_tup (a_cons v_int (a_cons v_int a_nil))) a_nil))) a_nil))) (a_cons (v_call h_free_number m rfl (a_cons v_int (a_cons (v_tup (a_cons (v_tup (a_cons v_int (a_cons v_int a_nil))) (a_cons (v_tup (a_cons v_int (a_cons v_int a_nil))) a_nil))) a_nil))) (a_cons (v_call h_plain_code m rfl (a_cons v_int (a_cons (v_tup a_nil) a_nil))) a_nil)))))) (PE.i (PE.vf (v_lst (a_cons v_int (a_cons v_int (a_cons (v_tup (a_cons v_int (a_cons (v_tup a_nil) a_nil))) a_nil))))))))))
-- law: level 4, calls ['plain_code', 'free_number', '_law_of', '_law_pairs', 'is_span_lot', '_law_is_lot', '_law_odd', '_law_pick', '_law_free', '_law_leads', '_law_lot']
/-! ### _law_source -/
abbrev st_Llaw_source : Stmt := top 17
theorem sc_Llaw_source : FnScope ["script", "mixed", "cell"] ["script"] (defScope st_Llaw_source) := ⟨rfl, rfl, rfl, by decide +kernel, rfl, by decide +kernel, by decide +kernel⟩
theorem ok_Llaw_source (D : Df K mg "_law_source" st_Llaw_source) (b : Bn mg) : HasS P w K mg base 1 "_law_source" :=
  hasS_of D sc_Llaw_source (fun _ _ _ _ _ _ us hl => match us, hl with | [_], _ => rfl) fun f cdv A outer s H E => by
  have nd := sc_Llaw_source.nd
  exact pss_cons (ps_set (i := 1) nd rfl (by first | exact Or.inl rfl | exact Or.inr rfl) pe_int) (pss_cons (ps_for PassesOwn.never rfl (pi_list (pv 0)) (pg_name (i := 2) nd rfl (by first | exact Or.inl rfl | exact Or.inr rfl)) (pss_one (ps_set (i := 1) nd rfl (by first | exact Or.inl rfl | exact Or.inr rfl)
    (pe_op op_modN (pe_callTy call_int1 rfl b.int_ PyProof.Rows.boot_int (pa_cons (pe_op op_add (pe_op op_add (pe_op op_mul (pv 1) pe_int) (pe_op op_mul (pv 2) pe_int)) pe_int) pa_nil)) pe_int)))) (pss_one (ps_ret (pe_disp
    (pps_cons pe_str (pe_revL (pe_lc (own := [("cell", 2)]) rfl nd (pi_list (pv 0)) (blkOk_by (by kernel_rfl)) (fun _ _ _ _ _ => pg_name (i := 2) nd rfl (by first | exact Or.inl rfl | exact Or.inr rfl)) (fun _ _ _ _ _ => pts_nil) (fun _ _ _ _ _ => pe_callB call_abs rfl b.abs_ PyProof.Rows.boot_abs (pa_cons (pv 2) pa_nil)) (by intro _; rfl))) (pps_cons pe_str pe_int (pps_cons pe_str (pv 1) (pps_cons pe_str pe_int pps_nil)))) rfl rfl (by intro h; cases h) (by decide)))))
end
/-! ### the head -/
def dd_sum_of : He.DefD := ⟨("sum_of", none), "sum_of", "sum_of", defArgs st_sum_of, defBody st_sum_of, defScope st_sum_of, [], []⟩
def dd_first_one : He.DefD := ⟨("first_one", none), "first_one", "first_one", defArgs st_first_one, defBody st_first_one, defScope st_first_one, [], []⟩
def dd_told_rows : He.DefD := ⟨("told_rows", none), "told_rows", "told_rows", defArgs st_told_rows, defBody st_told_rows, defScope st_told_rows, [], []⟩
def dd_told_code : He.DefD := ⟨("told_code", none), "told_code", "told_code", defArgs st_told_code, defBody st_told_code, defScope st_told_code, [], []⟩
def dd_lies_within : He.DefD := ⟨("lies_within", none), "lies_within", "lies_within", defArgs st_lies_within, defBody st_lies_within, defScope st_lies_within, [], []⟩
def dd_are_unlike : He.DefD := ⟨("are_unlike", none), "are_unlike", "are_unlike", defArgs st_are_unlike, defBody st_are_unlike, defScope st_are_unlike, [], []⟩
def dd_is_place : He.DefD := ⟨("is_place", none), "is_place", "is_place", defArgs st_is_place, defBody st_is_place, defScope st_is_place, [], []⟩
def dd_is_span_lot : He.DefD := ⟨("is_span_lot", none), "is_span_lot", "is_span_lot", defArgs st_is_span_lot, defBody st_is_span_lot, defScope st_is_span_lot, [], []⟩
def dd_plain_row : He.DefD := ⟨("plain_row", none), "plain_row", "plain_row", defArgs st_plain_row, defBody st_plain_row, defScope st_plain_row, [], []⟩
def dd_plain_code : He.DefD := ⟨("plain_code", none), "plain_code", "plain_code", defArgs st_plain_code, defBody st_plain_code, defScope st_plain_code, [], []⟩
def dd_free_places : He.DefD := ⟨("free_places", none), "free_places", "free_places", defArgs st_free_places, defBody st_free_places, defScope st_free_places, [], []⟩
def dd_free_number : He.DefD := ⟨("free_number", none), "free_number", "free_number", defArgs st_free_number, defBody st_free_number, defScope st_free_number, [], []⟩
def dd_Llaw_source : He.DefD := ⟨("_law_source", none), "_law_source", "_law_source", defArgs st_Llaw_source, defBody st_Llaw_source, defScope st_Llaw_source, [], []⟩
def dd_Llaw_pick : He.DefD := ⟨("_law_pick", none), "_law_pick", "_law_pick", defArgs st_Llaw_pick, defBody st_Llaw_pick, defScope st_Llaw_pick, [], []⟩
def dd_Llaw_of : He.DefD := ⟨("_law_of", none), "_law_of", "_law_of", defArgs st_Llaw_of, defBody st_Llaw_of, defScope st_Llaw_of, [], []⟩
def dd_Llaw_mixed : He.DefD := ⟨("_law_mixed", none), "_law_mixed", "_law_mixed", defArgs st_Llaw_mixed, defBody st_Llaw_mixed, defScope st_Llaw_mixed, [], []⟩
def dd_Llaw_sum : He.DefD := ⟨("_law_sum", none), "_law_sum", "_law_sum", defArgs st_Llaw_sum, defBody st_Llaw_sum, defScope st_Llaw_sum, [], []⟩
def dd_Llaw_odd : He.DefD := ⟨("_law_odd", none), "_law_odd", "_law_odd", defArgs st_Llaw_odd, defBody st_Llaw_odd, defScope st_Llaw_odd, [], []⟩
def dd_Llaw_is_int : He.DefD := ⟨("_law_is_int", none), "_law_is_int", "_law_is_int", defArgs st_Llaw_is_int, defBody st_Llaw_is_int, defScope st_Llaw_is_int, [], []⟩
def dd_Llaw_is_lot : He.DefD := ⟨("_law_is_lot", none), "_law_is_lot", "_law_is_lot", defArgs st_Llaw_is_lot, defBody st_Llaw_is_lot, defScope st_Llaw_is_lot, [], []⟩
def dd_Llaw_lot : He.DefD := ⟨("_law_lot", none), "_law_lot", "_law_lot", defArgs st_Llaw_lot, defBody st_Llaw_lot, defScope st_Llaw_lot, [], []⟩
def dd_Llaw_pairs : He.DefD := ⟨("_law_pairs", none), "_law_pairs", "_law_pairs", defArgs st_Llaw_pairs, defBody st_Llaw_pairs, defScope st_Llaw_pairs, [], []⟩
def dd_Llaw_free : He.DefD := ⟨("_law_free", none), "_law_free", "_law_free", defArgs st_Llaw_free, defBody st_Llaw_free, defScope st_Llaw_free, [], []⟩
def dd_Llaw_leads : He.DefD := ⟨("_law_leads", none), "_law_leads", "_law_leads", defArgs st_Llaw_leads, defBody st_Llaw_leads, defScope st_Llaw_leads, [], []⟩
def dd_law : He.DefD := ⟨("law", none), "law", "law", defArgs st_law, defBody st_law, defScope st_law, [], []⟩
def fn : List He.DefD := [dd_sum_of, dd_first_one, dd_told_rows, dd_told_code, dd_lies_within, dd_are_unlike, dd_is_place, dd_is_span_lot, dd_plain_row, dd_plain_code, dd_free_places, dd_free_number, dd_Llaw_source, dd_Llaw_pick, dd_Llaw_of, dd_Llaw_mixed, dd_Llaw_sum, dd_Llaw_odd, dd_Llaw_is_int, dd_Llaw_is_lot, dd_Llaw_lot, dd_Llaw_pairs, dd_Llaw_free, dd_Llaw_leads, dd_law]
def fa : List He.Fa := [.glo "sum_of", .glo "first_one", .glo "told_rows", .glo "told_code", .glo "lies_within", .glo "are_unlike", .glo "is_place", .glo "is_span_lot", .glo "plain_row", .glo "plain_code", .glo "free_places", .glo "free_number", .glo "_law_source", .glo "_law_pick", .glo "_law_of", .glo "_law_mixed", .glo "_law_sum", .glo "_law_odd", .glo "_law_is_int", .glo "_law_is_lot", .glo "_law_lot", .glo "_law_pairs", .glo "_law_free", .glo "_law_leads", .glo "law", .free "len", .free "int", .free "abs", .free "max", .free "sum", .free "tuple", .free "list", .free "sorted", .free "repr", .free "isinstance", .free "range", .free "enumerate", .free "zip", .free "set", .free "dict", .free "bool"]
abbrev R : PySem.W.OpenRow := PySem.W.OpenLaw.row PySem.Challenge.rw_spancodes_k41_span_lots
abbrev hk : PySem.W.Hook := He.hookD 4 fa fn
def ob (s : PySem.W.SharedT) : He.AlD := He.obsDG 4 fa fn (HandSHeadRun.getT s)
theorem ob_eq (s : PySem.W.SharedT) : ob s = hk.obs s.abs := He.obsDG_eq (HandSHeadRun.getT_eq s)
abbrev loose : List Str := ["sum_of", "first_one", "told_rows", "told_code", "lies_within", "are_unlike", "is_place", "is_span_lot", "plain_row", "plain_code", "free_places", "free_number", "_law_source", "_law_pick", "_law_of", "_law_mixed", "_law_sum", "_law_odd", "_law_is_int", "_law_is_lot", "_law_lot", "_law_pairs", "_law_free", "_law_leads"]
theorem run (w : World) : HandSHeadRun.RunEq R (PySem.W.view R.prog [29]) hk ob 3000 loose w := by
  intro os
  kernel_rfl
section
variable {P : Program} {w : World} {K : PySem.W.Frag} {h : Heap} {mg : Str → Option Value}
theorem df_sum_of (X : K.In h) (G : h.Ns mainGlobals mg) (c : He.SaysD fa fn K) : Df K mg "sum_of" st_sum_of := by
  obtain ⟨fd, F⟩ := c.def_ 0 (d := dd_sum_of) rfl
  exact ⟨_, fd, F, He.glo_ok X G (c.fact 0 (f := .glo "sum_of") rfl)⟩
theorem df_first_one (X : K.In h) (G : h.Ns mainGlobals mg) (c : He.SaysD fa fn K) : Df K mg "first_one" st_first_one := by
  obtain ⟨fd, F⟩ := c.def_ 1 (d := dd_first_one) rfl
  exact ⟨_, fd, F, He.glo_ok X G (c.fact 1 (f := .glo "first_one") rfl)⟩
theorem df_told_rows (X : K.In h) (G : h.Ns mainGlobals mg) (c : He.SaysD fa fn K) : Df K mg "told_rows" st_told_rows := by
  obtain ⟨fd, F⟩ := c.def_ 2 (d := dd_told_rows) rfl
  exact ⟨_, fd, F, He.glo_ok X G (c.fact 2 (f := .glo "told_rows") rfl)⟩
theorem df_told_code (X : K.In h) (G : h.Ns mainGlobals mg) (c : He.SaysD fa fn K) : Df K mg "told_code" st_told_code := by
  obtain ⟨fd, F⟩ := c.def_ 3 (d := dd_told_code) rfl
  exact ⟨_, fd, F, He.glo_ok X G (c.fact 3 (f := .glo "told_code") rfl)⟩
theorem df_lies_within (X : K.In h) (G : h.Ns mainGlobals mg) (c : He.SaysD fa fn K) : Df K mg "lies_within" st_lies_within := by
  obtain ⟨fd, F⟩ := c.def_ 4 (d := dd_lies_within) rfl
  exact ⟨_, fd, F, He.glo_ok X G (c.fact 4 (f := .glo "lies_within") rfl)⟩
theorem df_are_unlike (X : K.In h) (G : h.Ns mainGlobals mg) (c : He.SaysD fa fn K) : Df K mg "are_unlike" st_are_unlike := by
  obtain ⟨fd, F⟩ := c.def_ 5 (d := dd_are_unlike) rfl
  exact ⟨_, fd, F, He.glo_ok X G (c.fact 5 (f := .glo "are_unlike") rfl)⟩
theorem df_is_place (X : K.In h) (G : h.Ns mainGlobals mg) (c : He.SaysD fa fn K) : Df K mg "is_place" st_is_place := by
  obtain ⟨fd, F⟩ := c.def_ 6 (d := dd_is_place) rfl
  exact ⟨_, fd, F, He.glo_ok X G (c.fact 6 (f := .glo "is_place") rfl)⟩
theorem df_is_span_lot (X : K.In h) (G : h.Ns mainGlobals mg) (c : He.SaysD fa fn K) : Df K mg "is_span_lot" st_is_span_lot := by
  obtain ⟨fd, F⟩ := c.def_ 7 (d := dd_is_span_lot) rfl
  exact ⟨_, fd, F, He.glo_ok X G (c.fact 7 (f := .glo "is_span_lot") rfl)⟩
theorem df_plain_row (X : K.In h) (G : h.Ns mainGlobals mg) (c : He.SaysD fa fn K) : Df K mg "plain_row" st_plain_row := by
  obtain ⟨fd, F⟩ := c.def_ 8 (d := dd_plain_row) rfl
  exact ⟨_, fd, F, He.glo_ok X G (c.fact 8 (f := .glo "plain_row") rfl)⟩
theorem df_plain_code (X : K.In h) (G : h.Ns mainGlobals mg) (c : He.SaysD fa fn K) : Df K mg "plain_code" st_plain_code := by
  obtain ⟨fd, F⟩ := c.def_ 9 (d := dd_plain_code) rfl
  exact ⟨_, fd, F, He.glo_ok X G (c.fact 9 (f := .glo "plain_code") rfl)⟩
theorem df_free_places (X : K.In h) (G : h.Ns mainGlobals mg) (c : He.SaysD fa fn K) : Df K mg "free_places" st_free_places := by
  obtain ⟨fd, F⟩ := c.def_ 10 (d := dd_free_places) rfl
  exact ⟨_, fd, F, He.glo_ok X G (c.fact 10 (f := .glo "free_places") rfl)⟩
theorem df_free_number (X : K.In h) (G : h.Ns mainGlobals mg) (c : He.SaysD fa fn K) : Df K mg "free_number" st_free_number := by
  obtain ⟨fd, F⟩ := c.def_ 11 (d := dd_free_number) rfl
  exact ⟨_, fd, F, He.glo_ok X G (c.fact 11 (f := .glo "free_number") rfl)⟩
theorem df_Llaw_source (X : K.In h) (G : h.Ns mainGlobals mg) (c : He.SaysD fa fn K) : Df K mg "_law_source" st_Llaw_source := by
  obtain ⟨fd, F⟩ := c.def_ 12 (d := dd_Llaw_source) rfl
  exact ⟨_, fd, F, He.glo_ok X G (c.fact 12 (f := .glo "_law_source") rfl)⟩
theorem df_Llaw_pick (X : K.In h) (G : h.Ns mainGlobals mg) (c : He.SaysD fa fn K) : Df K mg "_law_pick" st_Llaw_pick := by
  obtain ⟨fd, F⟩ := c.def_ 13 (d := dd_Llaw_pick) rfl
  exact ⟨_, fd, F, He.glo_ok X G (c.fact 13 (f := .glo "_law_pick") rfl)⟩
theorem df_Llaw_of (X : K.In h) (G : h.Ns mainGlobals mg) (c : He.SaysD fa fn K) : Df K mg "_law_of" st_Llaw_of := by
  obtain ⟨fd, F⟩ := c.def_ 14 (d := dd_Llaw_of) rfl
  exact ⟨_, fd, F, He.glo_ok X G (c.fact 14 (f := .glo "_law_of") rfl)⟩
theorem df_Llaw_mixed (X : K.In h) (G : h.Ns mainGlobals mg) (c : He.SaysD fa fn K) : Df K mg "_law_mixed" st_Llaw_mixed := by
  obtain ⟨fd, F⟩ := c.def_ 15 (d := dd_Llaw_mixed) rfl
  exact ⟨_, fd, F, He.glo_ok X G (c.fact 15 (f := .glo "_law_mixed") rfl)⟩
theorem df_Llaw_sum (X : K.In h) (G : h.Ns mainGlobals mg) (c : He.SaysD fa fn K) : Df K mg "_law_sum" st_Llaw_sum := by
  obtain ⟨fd, F⟩ := c.def_ 16 (d := dd_Llaw_sum) rfl
  exact ⟨_, fd, F, He.glo_ok X G (c.fact 16 (f := .glo "_law_sum") rfl)⟩
theorem df_Llaw_odd (X : K.In h) (G : h.Ns mainGlobals mg) (c : He.SaysD fa fn K) : Df K mg "_law_odd" st_Llaw_odd := by
  obtain ⟨fd, F⟩ := c.def_ 17 (d := dd_Llaw_odd) rfl
  exact ⟨_, fd, F, He.glo_ok X G (c.fact 17 (f := .glo "_law_odd") rfl)⟩
theorem df_Llaw_is_int (X : K.In h) (G : h.Ns mainGlobals mg) (c : He.SaysD fa fn K) : Df K mg "_law_is_int" st_Llaw_is_int := by
  obtain ⟨fd, F⟩ := c.def_ 18 (d := dd_Llaw_is_int) rfl
  exact ⟨_, fd, F, He.glo_ok X G (c.fact 18 (f := .glo "_law_is_int") rfl)⟩
theorem df_Llaw_is_lot (X : K.In h) (G : h.Ns mainGlobals mg) (c : He.SaysD fa fn K) : Df K mg "_law_is_lot" st_Llaw_is_lot := by
  obtain ⟨fd, F⟩ := c.def_ 19 (d := dd_Llaw_is_lot) rfl
  exact ⟨_, fd, F, He.glo_ok X G (c.fact 19 (f := .glo "_law_is_lot") rfl)⟩
theorem df_Llaw_lot (X : K.In h) (G : h.Ns mainGlobals mg) (c : He.SaysD fa fn K) : Df K mg "_law_lot" st_Llaw_lot := by
  obtain ⟨fd, F⟩ := c.def_ 20 (d := dd_Llaw_lot) rfl
  exact ⟨_, fd, F, He.glo_ok X G (c.fact 20 (f := .glo "_law_lot") rfl)⟩
theorem df_Llaw_pairs (X : K.In h) (G : h.Ns mainGlobals mg) (c : He.SaysD fa fn K) : Df K mg "_law_pairs" st_Llaw_pairs := by
  obtain ⟨fd, F⟩ := c.def_ 21 (d := dd_Llaw_pairs) rfl
  exact ⟨_, fd, F, He.glo_ok X G (c.fact 21 (f := .glo "_law_pairs") rfl)⟩
theorem df_Llaw_free (X : K.In h) (G : h.Ns mainGlobals mg) (c : He.SaysD fa fn K) : Df K mg "_law_free" st_Llaw_free := by
  obtain ⟨fd, F⟩ := c.def_ 22 (d := dd_Llaw_free) rfl
  exact ⟨_, fd, F, He.glo_ok X G (c.fact 22 (f := .glo "_law_free") rfl)⟩
theorem df_Llaw_leads (X : K.In h) (G : h.Ns mainGlobals mg) (c : He.SaysD fa fn K) : Df K mg "_law_leads" st_Llaw_leads := by
  obtain ⟨fd, F⟩ := c.def_ 23 (d := dd_Llaw_leads) rfl
  exact ⟨_, fd, F, He.glo_ok X G (c.fact 23 (f := .glo "_law_leads") rfl)⟩
theorem df_law (X : K.In h) (G : h.Ns mainGlobals mg) (c : He.SaysD fa fn K) : Df K mg "law" st_law := by
  obtain ⟨fd, F⟩ := c.def_ 24 (d := dd_law) rfl
  exact ⟨_, fd, F, He.glo_ok X G (c.fact 24 (f := .glo "law") rfl)⟩
theorem bn (X : K.In h) (G : h.Ns mainGlobals mg) (c : He.SaysD fa fn K) : Bn mg := ⟨He.free_ok X G (c.fact 25 (f := .free "len") rfl), He.free_ok X G (c.fact 26 (f := .free "int") rfl), He.free_ok X G (c.fact 27 (f := .free "abs") rfl), He.free_ok X G (c.fact 28 (f := .free "max") rfl), He.free_ok X G (c.fact 29 (f := .free "sum") rfl), He.free_ok X G (c.fact 30 (f := .free "tuple") rfl), He.free_ok X G (c.fact 31 (f := .free "list") rfl), He.free_ok X G (c.fact 32 (f := .free "sorted") rfl), He.free_ok X G (c.fact 33 (f := .free "repr") rfl), He.free_ok X G (c.fact 34 (f := .free "isinstance") rfl), He.free_ok X G (c.fact 35 (f := .free "range") rfl), He.free_ok X G (c.fact 36 (f := .free "enumerate") rfl), He.free_ok X G (c.fact 37 (f := .free "zip") rfl), He.free_ok X G (c.fact 38 (f := .free "set") rfl), He.free_ok X G (c.fact 39 (f := .free "dict") rfl), He.free_ok X G (c.fact 40 (f := .free "bool") rfl)⟩
end
theorem facts (hgood : Good N_law.length g_law) {P : Program} {w : World} {K : PySem.W.Frag} {h : Heap} {mg : Str → Option Value} {f : Addr} (X : K.In h) (G : h.Ns mainGlobals mg) (hfa : mg ("law" : Str) = some (.ref f)) (c : He.SaysD fa fn K) :
    ∃ fd : FuncData, (∀ (s : Shared) (v : Value), BindsTo s fd ⟨[v], []⟩ [("script", v)]) ∧ ∀ base : Heap, K.In base → base.Ns mainGlobals mg → FnG P w K mg base CX0 5 f fd ["script"] (spLaw K) := by
  obtain ⟨fd, F⟩ := c.def_ 24 (d := dd_law) rfl
  have e := hfa.symm.trans (He.glo_ok X G (c.fact 24 (f := .glo "law") rfl))
  cases e
  have bb := bn X G c
  have b := FunD.bindsA (ps := ["script"]) F fun _ _ _ _ _ _ us hl => match us, hl with | [_], _ => rfl
  refine ⟨fd, fun s v => b s [v] rfl, fun base _ _ => ?_⟩
  have hS : HasS P w K mg base 1 "_law_source" := ok_Llaw_source (df_Llaw_source X G c) bb
  have h_sum_of : Has P w K mg base 1 "sum_of" sem_sum_of := ok_sum_of (df_sum_of X G c) bb 
  have h_first_one : Has P w K mg base 1 "first_one" sem_first_one := ok_first_one (df_first_one X G c) bb 
  have h_told_rows : Has P w K mg base 2 "told_rows" sem_told_rows := ok_told_rows (df_told_rows X G c) bb h_sum_of h_first_one
  have h_told_code : Has P w K mg base 3 "told_code" sem_told_code := ok_told_code (df_told_code X G c) bb h_told_rows
  have h_lies_within : Has P w K mg base 1 "lies_within" sem_lies_within := ok_lies_within (df_lies_within X G c) bb 
  have h_are_unlike : Has P w K mg base 1 "are_unlike" sem_are_unlike := ok_are_unlike (df_are_unlike X G c) bb 
  have h_is_place : Has P w K mg base 1 "is_place" sem_is_place := ok_is_place (df_is_place X G c) bb 
  have h_is_span_lot : Has P w K mg base 2 "is_span_lot" sem_is_span_lot := ok_is_span_lot (df_is_span_lot X G c) bb h_are_unlike h_is_place
  have h_plain_row : Has P w K mg base 1 "plain_row" sem_plain_row := ok_plain_row (df_plain_row X G c) bb 
  have h_plain_code : Has P w K mg base 4 "plain_code" sem_plain_code := ok_plain_code (df_plain_code X G c) bb h_told_code h_plain_row
  have h_free_places : Has P w K mg base 2 "free_places" sem_free_places := ok_free_places (df_free_places X G c) bb h_lies_within
  have h_free_number : Has P w K mg base 3 "free_number" sem_free_number := ok_free_number (df_free_number X G c) bb h_free_places
  have h_Llaw_pick : Has P w K mg base 1 "_law_pick" sem_Llaw_pick := ok_Llaw_pick (df_Llaw_pick X G c) bb 
  have h_Llaw_of : Has P w K mg base 2 "_law_of" sem_Llaw_of := ok_Llaw_of (df_Llaw_of X G c) bb h_Llaw_pick
  have h_Llaw_mixed : Has P w K mg base 2 "_law_mixed" sem_Llaw_mixed := ok_Llaw_mixed (df_Llaw_mixed X G c) bb h_Llaw_pick
  have h_Llaw_sum : Has P w K mg base 1 "_law_sum" sem_Llaw_sum := ok_Llaw_sum (df_Llaw_sum X G c) bb 
  have h_Llaw_odd : Has P w K mg base 3 "_law_odd" sem_Llaw_odd := ok_Llaw_odd (df_Llaw_odd X G c) bb h_Llaw_of
  have h_Llaw_is_int : Has P w K mg base 1 "_law_is_int" sem_Llaw_is_int := ok_Llaw_is_int (df_Llaw_is_int X G c) bb 
  have h_Llaw_is_lot : Has P w K mg base 2 "_law_is_lot" sem_Llaw_is_lot := ok_Llaw_is_lot (df_Llaw_is_lot X G c) bb h_Llaw_is_int
  have h_Llaw_pairs : Has P w K mg base 1 "_law_pairs" sem_Llaw_pairs := ok_Llaw_pairs (df_Llaw_pairs X G c) bb 
  have h_Llaw_lot : Has P w K mg base 3 "_law_lot" sem_Llaw_lot := ok_Llaw_lot (df_Llaw_lot X G c) bb h_Llaw_mixed h_Llaw_pairs h_Llaw_pick
  have h_Llaw_free : Has P w K mg base 1 "_law_free" sem_Llaw_free := ok_Llaw_free (df_Llaw_free X G c) bb 
  have h_Llaw_leads : Has P w K mg base 2 "_law_leads" sem_Llaw_leads := ok_Llaw_leads (df_Llaw_leads X G c) bb h_Llaw_sum
  refine law_of (k := 4) (st := st_law) (rest := (defBody st_law).tail) F sc_law (by decide) rfl (fun f cdv A outer s H E m => ?_) (fun f cdv A outer s H E m => ok_law bb h_plain_code h_free_number h_Llaw_of h_Llaw_pairs h_is_span_lot h_Llaw_is_lot h_Llaw_odd h_Llaw_pick h_Llaw_free h_Llaw_leads h_Llaw_lot m) hgood
  have nd := sc_law.nd
  exact ps_set (i := 1) nd rfl (by first | exact Or.inl rfl | exact Or.inr rfl) (pe_src hS m rfl (pa_cons (pv 0) pa_nil))
end Pv.K41

set_option Elab.async false
set_option linter.all false
set_option maxRecDepth 100000
set_option maxHeartbeats 1000000
namespace Pv
open PySem PySem.Spec L2
open PyProof.Rows hiding St

/-! ### how readings are reckoned out -/
section
variable {ρ ρ' : Env} {s s' : Src}
@[simp] theorem eC_ap (d : D) : eC d ρ s = some (d, s) := rfl
@[simp] theorem eVar_ap (i : Nat) : eVar i ρ s = (match ρ[i]? with | some (some (.p d)) => some (d, s) | _ => none) := rfl
@[simp] theorem eBor_ap (i : Nat) : eBor i ρ s = (match ρ[i]? with
  | some (some (.p d)) => some (d, s)
  | some (some (.ol ds)) => some (.lst ds, s)
  | some (some (.lk ds)) => some (.lst ds, s)
  | some (some (.od l)) => some (.dct l, s)
  | _ => none) := rfl
@[simp] theorem e1_ap (g : D → Option D) (f : EE) : e1 g f ρ s = (f ρ s).bind fun x => (g x.1).map fun d => (d, x.2) := rfl
@[simp] theorem e2_ap (g : D → D → Option D) (fa fb : EE) : e2 g fa fb ρ s = (fa ρ s).bind fun x => (fb ρ x.2).bind fun y => (g x.1 y.1).map fun d => (d, y.2) := rfl
@[simp] theorem f1_ap (g : D → Option (List D)) (f : EE) : f1 g f ρ s = (f ρ s).bind fun x => (g x.1).map fun d => (d, x.2) := rfl
@[simp] theorem f2_ap (g : D → D → Option (List D)) (fa fb : EE) : f2 g fa fb ρ s = (fa ρ s).bind fun x => (fb ρ x.2).bind fun y => (g x.1 y.1).map fun d => (d, y.2) := rfl
@[simp] theorem bB_bl (b : Bool) : bB (.bl b) = some b := rfl
@[simp] theorem bE_ap (f : EE) : bE f ρ s = (f ρ s).bind fun x => (bB x.1).map fun b => (b, x.2) := rfl
@[simp] theorem eAnd_ap (fa fb : EE) : eAnd fa fb ρ s = (fa ρ s).bind fun x => match x.1 with
  | .bl true => fb ρ x.2
  | .bl false => some (.bl false, x.2)
  | _ => none := rfl
@[simp] theorem eOr_ap (fa fb : EE) : eOr fa fb ρ s = (fa ρ s).bind fun x => match x.1 with
  | .bl true => some (.bl true, x.2)
  | .bl false => fb ρ x.2
  | _ => none := rfl
@[simp] theorem eNot_bl (b : Bool) : eNot (.bl b) = some (.bl !b) := rfl
@[simp] theorem eIf_ap (c : EB) (fa fb : EE) : eIf c fa fb ρ s = (c ρ s).bind fun b => if b.1 = true then fa ρ b.2 else fb ρ b.2 := rfl
@[simp] theorem bAnd_ap (fa fb : EB) : bAnd fa fb ρ s = (fa ρ s).bind fun x => if x.1 = true then fb ρ x.2 else some (false, x.2) := rfl
@[simp] theorem bOr_ap (fa fb : EB) : bOr fa fb ρ s = (fa ρ s).bind fun x => if x.1 = true then some (true, x.2) else fb ρ x.2 := rfl
@[simp] theorem bNot_ap (f : EB) : bNot f ρ s = (f ρ s).map fun x => (!x.1, x.2) := rfl
@[simp] theorem bYes_ap : bYes ρ s = some (true, s) := rfl
@[simp] theorem aNil_ap : aNil ρ s = some ([], s) := rfl
@[simp] theorem aCons_ap (f : EE) (r : EA) : aCons f r ρ s = (f ρ s).bind fun x => (r ρ x.2).map fun y => (x.1 :: y.1, y.2) := rfl
@[simp] theorem chain_ap (g g' : D → D → Option D) (fa fb fc : EE) : chain g g' fa fb fc ρ s = (fa ρ s).bind fun x => (fb ρ x.2).bind fun y => (g x.1 y.1).bind fun k => match k with
  | .bl true => (fc ρ y.2).bind fun z => (g' y.1 z.1).map fun d => (d, z.2)
  | .bl false => some (.bl false, y.2)
  | _ => none := rfl
@[simp] theorem eTup_ap (f : EA) : eTup f ρ s = (f ρ s).bind fun z => (lenOk z.1).map fun ds => (.tup ds, z.2) := rfl
@[simp] theorem fLst_ap (f : EA) : fLst f ρ s = (f ρ s).bind fun z => (lenOk z.1).map fun ds => (ds, z.2) := rfl
@[simp] theorem eF_ap (f : EL) : eF f ρ s = (f ρ s).map fun z => (.lst z.1, z.2) := rfl
@[simp] theorem oV_ap (f : EE) : oV f ρ s = (f ρ s).map fun z => (.p z.1, z.2) := rfl
@[simp] theorem oF_ap (f : EL) : oF f ρ s = (f ρ s).map fun z => (.ol z.1, z.2) := rfl
@[simp] theorem eCl_ap (g : List D → Option D) (f : EA) : eCl g f ρ s = (f ρ s).bind fun x => (g x.1).map fun d => (d, x.2) := rfl
@[simp] theorem fCl_ap (g : List D → Option (List D)) (f : EA) : fCl g f ρ s = (f ρ s).bind fun x => (g x.1).map fun d => (d, x.2) := rfl
@[simp] theorem eFn_ap (sem : Sem1) (f : EA) : eFn sem f ρ s = (f ρ s).bind fun z => sem z.1 z.2 := rfl
@[simp] theorem eSl_ap (f : EE) (pl ph : EPt) : eSl f pl ph ρ s = (f ρ s).bind fun x => (pl ρ x.2).bind fun l => (ph ρ l.2).bind fun h => (cutD x.1 l.1 h.1).map fun d => (d, h.2) := rfl
@[simp] theorem pNo_ap : pNo ρ s = some (none, s) := rfl
@[simp] theorem pSo_ap (f : EE) : pSo f ρ s = (f ρ s).bind fun z => match z.1 with
  | .int i => some (some i, z.2)
  | _ => none := rfl
@[simp] theorem iSeq_ap (f : EE) : iSeq f ρ s = (f ρ s).bind fun z => (seqD z.1).map fun l => (l.map .v, z.2) := rfl
@[simp] theorem iRng_ap (g : List D → Option (List Itm)) (f : EA) : iRng g f ρ s = (f ρ s).bind fun z => (g z.1).map fun l => (l, z.2) := rfl
@[simp] theorem seqD_lst (l : List D) : seqD (.lst l) = some l := rfl
@[simp] theorem seqD_tup (l : List D) : seqD (.tup l) = some l := rfl
@[simp] theorem eSg_ap (i : Nat) (k : SK) : eSg i k ρ s = (match ρ[i]? with
  | some (some (.p .src)) => some (.int (k.get s), s)
  | _ => none) := rfl
@[simp] theorem eSlen_ap (i : Nat) : eSlen i ρ s = (match ρ[i]? with
  | some (some (.p .src)) => some (.int s.cells.length, s)
  | _ => none) := rfl
@[simp] theorem sNil_ap : sNil ρ s = some (.nx, ρ, s) := rfl
@[simp] theorem sSeq_ap (g1 g2 : SS) : sSeq g1 g2 ρ s = (g1 ρ s).bind fun z => match z.1 with
  | .nx => g2 z.2.1 z.2.2
  | _ => some z := rfl
@[simp] theorem sSet_ap (i : Nat) (f : EO) : sSet i f ρ s = (f ρ s).bind fun z => if z.1.un = true then some (.nx, ρ.set i (some z.1), z.2) else none := rfl
@[simp] theorem un_p (d : D) : (SV.p d).un = true := rfl
@[simp] theorem un_ol (d : List D) : (SV.ol d).un = true := rfl
@[simp] theorem sRet_ap (f : EE) : sRet f ρ s = (f ρ s).map fun z => (.ret z.1, ρ, z.2) := rfl
@[simp] theorem sIf_ap (c : EB) (g1 g2 : SS) : sIf c g1 g2 ρ s = (c ρ s).bind fun b => if b.1 = true then g1 ρ b.2 else g2 ρ b.2 := rfl
@[simp] theorem sFor_ap (it : EI) (p : Pt) (b : SS) (ws : List Nat) : sFor it p b ws ρ s = (it ρ s).bind fun z => loopF p b ws z.1 ρ z.2 := rfl
@[simp] theorem sApp_ap (i : Nat) (f : EE) : sApp i f ρ s = (f ρ s).bind fun z => match ρ[i]? with
  | some (some (.ol ds)) => if ds.length < LIM then some (.nx, ρ.set i (some (.ol (ds ++ [z.1]))), z.2) else none
  | _ => none := rfl
@[simp] theorem sSput_ap (i : Nat) (k : SK) (f : EE) : sSput i k f ρ s = (f ρ s).bind fun z => match z.1, ρ[i]? with
  | .int j, some (some (.p .src)) => some (.nx, ρ, k.put z.2 j)
  | _, _ => none := rfl
@[simp] theorem sPar_ap (i j : Nat) (f : EA) : sPar i j f ρ s = (f ρ s).bind fun z => (two z.1).map fun ab => (.nx, (ρ.set i (some (.p ab.1))).set j (some (.p ab.2)), z.2) := rfl
@[simp] theorem two_ap (a b : D) : two [a, b] = some (a, b) := rfl
@[simp] theorem fLc_ap (it : EI) (us : List Nat) (p : Pt) (c : EB) (f : EE) : fLc it us p c f ρ s = (it ρ s).bind fun z => if z.1.length ≤ LIM then loopC us p c f ρ z.1 z.2 else none := rfl
theorem lenOk_le {l : List D} (h : l.length ≤ LIM) : lenOk l = some l := by unfold lenOk; rw [if_pos h]
@[simp] theorem ptN_v (i : Nat) (d : D) : ptN i (.v d) ρ = some (ρ.set i (some (.p d))) := rfl
@[simp] theorem ptT_v (q : Pts) (l : List D) : ptT q (.v (.tup l)) ρ = q l ρ := rfl
@[simp] theorem ptT_pr (q : Pts) (l : List D) : ptT q (.pr l) ρ = q l ρ := rfl
@[simp] theorem ptCons_c (p : Pt) (q : Pts) (d : D) (r : List D) : ptCons p q (d :: r) ρ = (p (.v d) ρ).bind fun ρ1 => q r ρ1 := rfl
@[simp] theorem ptNil_n : ptNil [] ρ = some ρ := rfl
@[simp] theorem wipeE_nil : wipeE ρ [] = ρ := rfl
@[simp] theorem wipeE_cons (v : Nat) (vs : List Nat) : wipeE ρ (v :: vs) = (wipeE ρ vs).set v none := rfl
end
theorem lenOk_nil : lenOk [] = some [] := rfl
theorem LIM_eq : LIM = 1000000 := rfl
@[simp] theorem gInt_int (i : Int) : gInt [.int i] = some (.int i) := rfl
@[simp] theorem gInt_bl (b : Bool) : gInt [.bl b] = some (.int (if b then 1 else 0)) := rfl
@[simp] theorem gLen_lst (l : List D) : gLen [.lst l] = some (.int l.length) := rfl
@[simp] theorem gLen_tup (l : List D) : gLen [.tup l] = some (.int l.length) := rfl
@[simp] theorem gMax2_i (i j : Int) : gMax2 [.int i, .int j] = some (.int (if j > i then j else i)) := rfl
@[simp] theorem gMin2_i (i j : Int) : gMin2 [.int i, .int j] = some (.int (if j < i then j else i)) := rfl
@[simp] theorem gTup_tup (l : List D) : gTup [.tup l] = some (.tup l) := rfl
theorem gTup_lst {l : List D} (h : l.length ≤ LIM) : gTup [.lst l] = some (.tup l) := by unfold gTup; simp [h]
@[simp] theorem gLst_lst (l : List D) : gLst [.lst l] = some l := rfl
@[simp] theorem gLst_tup (l : List D) : gLst [.tup l] = some l := rfl
@[simp] theorem gSub_i (i j : Int) : gSub (.int i) (.int j) = some (.int (i - j)) := rfl
@[simp] theorem gAdd_i (i j : Int) : gAdd (.int i) (.int j) = some (.int (i + j)) := rfl
theorem gAdd_l {l m : List D} (h : l.length + m.length ≤ LIM) : gAdd (.lst l) (.lst m) = some (.lst (l ++ m)) := by
  show (if l.length + m.length ≤ LIM then some (D.lst (l ++ m)) else none) = _
  rw [if_pos h]
theorem gAdd_t {l m : List D} (h : l.length + m.length ≤ LIM) : gAdd (.tup l) (.tup m) = some (.tup (l ++ m)) := by
  show (if l.length + m.length ≤ LIM then some (D.tup (l ++ m)) else none) = _
  rw [if_pos h]
@[simp] theorem gLt_i (i j : Int) : gLt (.int i) (.int j) = some (.bl (decide (i < j))) := rfl
@[simp] theorem gLe_i (i j : Int) : gLe (.int i) (.int j) = some (.bl (decide (i ≤ j))) := rfl
@[simp] theorem gGt_i (i j : Int) : gGt (.int i) (.int j) = some (.bl (decide (j < i))) := rfl
@[simp] theorem gGe_i (i j : Int) : gGe (.int i) (.int j) = some (.bl (decide (j ≤ i))) := rfl
@[simp] theorem gNeg_i (i : Int) : gNeg (.int i) = some (.int (-i)) := rfl
theorem gMulI_i {i j : Int} (h : cMul i j = true) : gMulI (.int i) (.int j) = some (.int (i * j)) := by
  show (if cMul i j = true then some (D.int (i * j)) else none) = _
  rw [if_pos h]
theorem gFdiv_i {i j : Int} (h : cDiv i j = true) : gFdiv (.int i) (.int j) = some (.int (i.fdiv j)) := by
  show (if cDiv i j = true then some (D.int (i.fdiv j)) else none) = _
  rw [if_pos h]
theorem gMod_i {i j : Int} (h : j ≠ 0) : gMod (.int i) (.int j) = some (.int (i.fmod j)) := by
  show (if cMod i j = true then some (D.int (i.fmod j)) else none) = _
  rw [if_pos (by unfold cMod; exact decide_eq_true h)]
/-- a whole number compared -/
theorem okD_int (i : Int) : okD (.int i) = true := by unfold okD; simp [flat, py, SeqAt.shaped, PyData.canLay0, PyData.depth]
theorem gEq_i (i j : Int) : gEq (.int i) (.int j) = some (.bl (decide (i = j))) := by
  show gEqD _ _ = _
  unfold gEqD
  rw [if_pos ⟨okD_int i, okD_int j⟩]
  simp [py, PyData.eqv]
  rfl
theorem gNe_i (i j : Int) : gNe (.int i) (.int j) = some (.bl (!decide (i = j))) := by
  show gNeD _ _ = _
  unfold gNeD
  rw [if_pos ⟨okD_int i, okD_int j⟩]
  simp [py, PyData.eqv]
  rfl
end Pv

set_option Elab.async false
set_option linter.all false
set_option maxRecDepth 100000
set_option maxHeartbeats 1000000
namespace Pv
open PySem PySem.Spec L2
open PyProof.Rows hiding St

/-! ### the drawing defs -/
def gPickW : SS := sWhile (bAnd (bE (e2 gGt (eVar 1) (eC (.int 1)))) (bAnd (bE (e2 gLt (eSg 0 .left) (eC (.int 2)))) (bE (e2 gGt (eSlen 0) (eC (.int 0)))))) (sSpop 0)
def gPick : SS := (sSeq gPickW (sSeq (sSet 2 (oV (eSg 0 .left))) (sSeq (sIf (bOr (bE (e2 gLt (eVar 1) (eC (.int 2)))) (bE (e2 gGt (eVar 2) (eC (.int 1))))) (sSeq (sSput 0 .left (e2 gFdiv (eVar 2) (eCl gMax2 (aCons (eC (.int 1)) (aCons (eVar 1) aNil))))) (sRet (e2 gMod (eCl gInt (aCons (eVar 2) aNil)) (eCl gMax2 (aCons (eC (.int 1)) (aCons (eVar 1) aNil)))))) sNil) (sSeq (sSput 0 .turn (e2 gAdd (eSg 0 .turn) (eC (.int 1)))) (sSeq (sSet 3 (oV (e2 gMod (eCl gInt (aCons (e2 gAdd (eSg 0 .mixed) (e2 gMulI (eSg 0 .turn) (eC (.int 104729)))) aNil)) (eC (.int 998244353))))) (sSeq (sSet 3 (oV (e2 gMod (eCl gInt (aCons (e2 gAdd (e2 gMulI (eVar 3) (eVar 3)) (e2 gMulI (eSg 0 .turn) (eC (.int 17)))) aNil)) (eC (.int 2147483647))))) (sSeq (sSput 0 .mixed (eVar 3)) (sRet (e2 gMod (eCl gInt (aCons (e2 gFdiv (eVar 3) (eC (.int 16))) aNil)) (eVar 1))))))))))
def semPick : Sem1 := runDef 2 4 gPick
abbrev Cok (s : Src) : Prop := s.cells.length ≤ 63
theorem pickW (m : Int) : ∀ (n k : Nat) (s : Src), s.cells.length ≤ n → n < k → ∃ s1, loopW (bAnd (bE (e2 gGt (eVar 1) (eC (.int 1)))) (bAnd (bE (e2 gLt (eSg 0 .left) (eC (.int 2)))) (bE (e2 gGt (eSlen 0) (eC (.int 0)))))) (sSpop 0) k [some (.p .src), some (.p (.int m)), none, none] s = some (.nx, [some (.p .src), some (.p (.int m)), none, none], s1) ∧ s1.cells.length ≤ s.cells.length := by
  intro n
  induction n with
  | zero =>
    intro k s h hk
    obtain ⟨k, rfl⟩ : ∃ j, k = j + 1 := ⟨k - 1, by omega⟩
    have h0 : s.cells = [] := List.length_eq_zero_iff.mp (by omega)
    refine ⟨s, ?_, Nat.le_refl _⟩
    unfold loopW
    simp [h0]
  | succ n ih =>
    intro k s h hk
    obtain ⟨k, rfl⟩ : ∃ j, k = j + 1 := ⟨k - 1, by omega⟩
    unfold loopW
    by_cases h1 : 1 < m
    · by_cases h2 : SK.get s .left < 2
      · rcases hc : s.cells with _ | ⟨c, r⟩
        · exact ⟨s, by simp [h1, h2, hc], by rw [hc]; exact Nat.le_refl _⟩
        · obtain ⟨s1, e1, e2⟩ := ih k ⟨s.cells.dropLast, s.cells.getLast (by rw [hc]; simp), s.mixed, s.turn⟩ (by simp only [List.length_dropLast]; omega) (by omega)
          refine ⟨s1, ?_, by rw [← hc]; simp only [List.length_dropLast] at e2; omega⟩
          have hl : s.cells.getLast? = some (s.cells.getLast (by rw [hc]; simp)) := List.getLast?_eq_some_getLast _
          simp [h1, h2, hc]
          simp [sSpop]
          rw [hl]
          simp
          exact e1
      · exact ⟨s, by simp [h1, h2], Nat.le_refl _⟩
    · exact ⟨s, by simp [h1], Nat.le_refl _⟩
theorem pick_spec {s : Src} {m : Int} (hs : Cok s) (hm : m.natAbs < 1073741824) : ∃ r s', semPick [.src, .int m] s = some (.int r, s') ∧ Cok s' ∧ 0 ≤ r ∧ (r < m ∨ m < 2 ∧ r = 0) := by
  obtain ⟨s1, e1, e2⟩ := pickW m s.cells.length FUEL s (Nat.le_refl _) (by unfold FUEL; have : s.cells.length ≤ 63 := hs; omega)
  have c1 : Cok s1 := Nat.le_trans e2 hs
  have e1' : gPickW [some (.p .src), some (.p (.int m)), none, none] s = some (.nx, [some (.p .src), some (.p (.int m)), none, none], s1) := e1
  unfold semPick runDef gPick
  simp only [List.length_cons, List.length_nil, start1, List.map_cons, List.map_nil, List.replicate, Nat.reduceSub, Nat.zero_add, List.cons_append, List.nil_append, if_true, Nat.reduceAdd, sSeq_ap, e1', Option.bind_some]
  by_cases h : m < 2 ∨ 1 < SK.get s1 .left
  · have hb : (if (1 : Int) < m then m else 1) ≠ 0 := by split <;> omega
    have hb2 : cDiv (SK.get s1 .left) (if (1 : Int) < m then m else 1) = true := by
      unfold cDiv
      simp only [Bool.and_eq_true, decide_eq_true_eq]
      constructor
      · split <;> omega
      · split <;> omega
    have h' : (if decide (m < 2) = true then (true, s1) else (decide (1 < SK.get s1 .left), s1)) = (true, s1) := by
      rcases h with h | h
      · simp [h]
      · split <;> simp [h]
    refine ⟨(SK.get s1 .left).fmod (if (1 : Int) < m then m else 1), SK.left.put s1 ((SK.get s1 .left).fdiv (if (1 : Int) < m then m else 1)), ?_, c1, ?_, ?_⟩
    · by_cases hm2 : m < 2
      · simp [hm2, gFdiv_i hb2, gMod_i hb]
      · have hl : 1 < SK.get s1 .left := h.resolve_left hm2
        simp [hm2, hl, gFdiv_i hb2, gMod_i hb]
    · exact Int.fmod_nonneg_of_pos _ (by split <;> omega)
    · by_cases h3 : (1 : Int) < m
      · rw [if_pos h3]; exact .inl (Int.fmod_lt_of_pos _ (by omega))
      · rw [if_neg h3]; exact .inr ⟨by omega, by rw [Int.fmod_one]⟩
  · have hm2 : ¬ m < 2 := fun z => h (.inl z)
    have hl : ¬ 1 < SK.get s1 .left := fun z => h (.inr z)
    have q1 : ∀ x : Int, cMul x 104729 = true := fun x => by unfold cMul; simp
    have q2 : ∀ x : Int, cMul x 17 = true := fun x => by unfold cMul; simp
    have q3 : ∀ x : Int, cMul (x.fmod 998244353) (x.fmod 998244353) = true := fun x => by
      have h1 : 0 ≤ x.fmod 998244353 := Int.fmod_nonneg_of_pos _ (by decide)
      have h2 : x.fmod 998244353 < 998244353 := Int.fmod_lt_of_pos _ (by decide)
      unfold cMul
      simp only [Bool.or_eq_true, decide_eq_true_eq]
      left; omega
    have q4 : ∀ x : Int, cDiv x 16 = true := fun x => by unfold cDiv; simp
    let t1 : Src := SK.turn.put s1 (SK.turn.get s1 + 1)
    let x : Int := (SK.mixed.get t1 + SK.turn.get t1 * 104729).fmod 998244353
    let y : Int := (x * x + SK.turn.get t1 * 17).fmod 2147483647
    refine ⟨(y.fdiv 16).fmod m, SK.mixed.put t1 y, ?_, c1, ?_, ?_⟩
    · simp [hm2, hl, gMulI_i (q1 _), gMulI_i (q2 _), gMulI_i (q3 _), gFdiv_i (q4 _), gMod_i (show (998244353 : Int) ≠ 0 by decide), gMod_i (show (2147483647 : Int) ≠ 0 by decide), gMod_i (show m ≠ 0 by omega), t1, x, y]
    · exact Int.fmod_nonneg_of_pos _ (by omega)
    · exact .inl (Int.fmod_lt_of_pos _ (by omega))
end Pv

set_option Elab.async false
set_option linter.all false
set_option maxRecDepth 100000
set_option maxHeartbeats 1000000
namespace Pv
open PySem PySem.Spec L2
open PyProof.Rows hiding St

def gOf : SS := (sRet (e2 gIx (eVar 1) (eFn semPick (aCons (eVar 0) (aCons (eCl gLen (aCons (eVar 1) aNil)) aNil)))))
def semOf : Sem1 := runDef 2 2 gOf
theorem atI_get {l : List D} {r : Int} (h0 : 0 ≤ r) (h1 : r < l.length) : ∃ d, atI l r = some d ∧ l[r.toNat]? = some d ∧ d ∈ l := by
  have hlt : r.toNat < l.length := by omega
  refine ⟨l[r.toNat], ?_, List.getElem?_eq_getElem hlt, List.getElem_mem hlt⟩
  unfold atI ixN
  rw [if_pos h0, if_pos h1]
  exact List.getElem?_eq_getElem hlt
@[simp] theorem gIx_lst (l : List D) (i : Int) : gIx (.lst l) (.int i) = atI l i := rfl
@[simp] theorem gIx_tup (l : List D) (i : Int) : gIx (.tup l) (.int i) = atI l i := rfl
theorem of_spec {s : Src} {l : List D} (hs : Cok s) (h0 : l ≠ []) (hl : l.length ≤ LIM) : ∃ d s', semOf [.src, .lst l] s = some (d, s') ∧ Cok s' ∧ d ∈ l := by
  have hp : 0 < l.length := List.length_pos_iff.mpr h0
  have := LIM_eq
  obtain ⟨r, s', e, c, r0, r1⟩ := pick_spec (s := s) (m := (l.length : Int)) hs (by omega)
  obtain ⟨d, e2, _, hd⟩ := atI_get (l := l) r0 (by omega)
  refine ⟨d, s', ?_, c, hd⟩
  unfold semOf runDef gOf
  simp [start1, e, e2]

def gMixed : SS := (sSeq (sSet 2 (oF (fCl gLst (aCons (eVar 1) aNil)))) (sMix 2 (iRng r1 (aCons (eCl gLen (aCons (eBor 2) aNil)) aNil)) [3] (ptN 3) (eFn semPick (aCons (eVar 0) (aCons (eCl gLen (aCons (eBor 2) aNil)) aNil)))))
def semMixed : Sem1 := runDef 2 4 gMixed
theorem mix_spec (d1 : D) (ρ : Env) (hρ : ρ = [some (.p .src), some (.p d1)] ++ [none, none] ∨ ∃ l, ρ = [some (.p .src), some (.p d1), some (.ol l), none]) : ∀ (its : List Itm) (rest : List D) (s : Src), Cok s → (∀ it ∈ its, ∃ i : Int, it = .v (.int i)) → its.length = rest.length → rest.length ≤ LIM →
    ∃ out s', mixL [3] (ptN 3) (eFn semPick (aCons (eVar 0) (aCons (eCl gLen (aCons (eBor 2) aNil)) aNil))) 2 ρ its rest s = some (out, s') ∧ Cok s' ∧ out.Perm rest := by
  intro its
  induction its with
  | nil =>
    intro rest s hs _ hl _
    have : rest = [] := List.length_eq_zero_iff.mp hl.symm
    subst this
    exact ⟨[], s, rfl, hs, .nil⟩
  | cons it its ih =>
    intro rest s hs hi hl hL
    have := LIM_eq
    have hlen : its.length + 1 = rest.length := hl
    obtain ⟨i, rfl⟩ := hi it (by simp)
    obtain ⟨r, s1, e, c, r0, r1⟩ := pick_spec (s := s) (m := (rest.length : Int)) hs (by omega)
    have hr : r < rest.length := by omega
    have hlt : r.toNat < rest.length := by omega
    obtain ⟨out, s', e2, c2, pm⟩ := ih (rest.eraseIdx r.toNat) s1 c (fun it h => hi it (by simp [h])) (by rw [List.length_eraseIdx_of_lt hlt]; omega) (by rw [List.length_eraseIdx_of_lt hlt]; omega)
    refine ⟨rest[r.toNat] :: out, s', ?_, c2, ?_⟩
    · have hsm : smI r = true := by unfold smI; exact decide_eq_true (by omega)
      have hsx : seqIndex? r rest.length = some r.toNat := by
        unfold seqIndex?
        simp only [if_neg (show ¬ r < 0 by omega)]
        rw [if_pos (by simp; omega)]
      unfold mixL
      have hd := List.getElem?_eq_getElem hlt
      rcases hρ with rfl | ⟨l, rfl⟩
      · simp [e, hsm, hsx, hd]
        exact e2
      · simp [e, hsm, hsx, hd]
        exact e2
    · have p1 : (rest[r.toNat] :: rest.eraseIdx r.toNat).Perm rest := by
        rw [List.eraseIdx_eq_take_drop_succ]
        have e9 : rest.take r.toNat ++ rest[r.toNat] :: rest.drop (r.toNat + 1) = rest := by rw [← List.drop_eq_getElem_cons hlt, List.take_append_drop]
        exact (List.perm_middle.symm).trans (by rw [e9])
      exact (List.Perm.cons _ pm).trans p1
theorem rngD_ints (lo c : Int) (n : Nat) : ∀ it ∈ rngD lo c n, ∃ i : Int, it = .v (.int i) := by
  intro it h
  unfold rngD at h
  obtain ⟨k, _, rfl⟩ := List.mem_map.mp h
  exact ⟨_, rfl⟩
theorem r1_int {j : Int} (h : j.natAbs ≤ LIM) : r1 [.int j] = some (rngD 0 1 j.toNat) := by
  show (if smI j = true then some (rngD 0 1 j.toNat) else none) = _
  rw [if_pos (show smI j = true from decide_eq_true h)]
theorem r2_int {i j : Int} (h : i.natAbs ≤ LIM) (h' : j.natAbs ≤ LIM) : r2 [.int i, .int j] = some (rngD i 1 (j - i).toNat) := by
  show (if smI i = true ∧ smI j = true then some (rngD i 1 (j - i).toNat) else none) = _
  rw [if_pos (show smI i = true ∧ smI j = true from ⟨decide_eq_true h, decide_eq_true h'⟩)]
theorem mixed_spec {s : Src} {l : List D} (hs : Cok s) (hl : l.length ≤ LIM) : ∃ out s', semMixed [.src, .lst l] s = some (.lst out, s') ∧ Cok s' ∧ out.Perm l := by
  obtain ⟨out, s', e, c, pm⟩ := mix_spec (.lst l) [some (.p .src), some (.p (.lst l)), some (.ol l), none] (.inr ⟨l, rfl⟩) (rngD 0 1 l.length) l s hs (rngD_ints _ _ _) rngD_length hl
  refine ⟨out, s', ?_, c, pm⟩
  unfold semMixed runDef gMixed
  have hr : r1 [.int (l.length : Int)] = some (rngD 0 1 l.length) := by
    have := r1_int (j := (l.length : Int)) (by omega)
    simpa using this
  simp [start1, sMix, hr, rngD_length, hl]
  rw [e]
  rfl
end Pv

set_option Elab.async false
set_option linter.all false
set_option maxRecDepth 100000
set_option maxHeartbeats 1000000
namespace Pv
open PySem PySem.Spec L2
open PyProof.Rows hiding St

/-! ### loops reckoned out -/
theorem loopC_map {α : Type} {us : List Nat} {p : Pt} {c : EB} {f : EE} {ρ : Env} {s : Src} (enc : α → Itm) (keep : α → Bool) (val : α → D) : ∀ (l : List α), (∀ x ∈ l, ∃ ρ1, p (enc x) (wipeE ρ us) = some ρ1 ∧ c ρ1 s = some (keep x, s) ∧ (keep x = true → f ρ1 s = some (val x, s))) →
    loopC us p c f ρ (l.map enc) s = some ((l.filter keep).map val, s) := by
  intro l
  induction l with
  | nil => intro _; rfl
  | cons x l ih =>
    intro h
    obtain ⟨ρ1, e1, e2, e3⟩ := h x (by simp)
    have e4 := ih fun y hy => h y (by simp [hy])
    rw [List.map_cons]
    unfold loopC
    rw [e1]
    simp only [Option.bind_some, e2]
    by_cases hk : keep x = true
    · rw [if_pos hk, e3 hk]
      simp only [Option.bind_some, e4]
      simp [hk]
    · rw [if_neg hk, e4]
      simp [hk]
/-- without a test -/
theorem loopC_all {α : Type} {us : List Nat} {p : Pt} {f : EE} {ρ : Env} {s : Src} (enc : α → Itm) (val : α → D) (l : List α) (h : ∀ x ∈ l, ∃ ρ1, p (enc x) (wipeE ρ us) = some ρ1 ∧ f ρ1 s = some (val x, s)) :
    loopC us p bYes f ρ (l.map enc) s = some (l.map val, s) := by
  rw [loopC_map enc (fun _ => true) val l fun x hx => by obtain ⟨ρ1, e1, e2⟩ := h x hx; exact ⟨ρ1, e1, rfl, fun _ => e2⟩]
  rw [List.filter_eq_self.mpr fun _ _ => rfl]
theorem loopF_fold {α β : Type} {p : Pt} {b : SS} {ws : List Nat} {s : Src} (item : β → Itm) (form : α → Env) (step : α → β → α) (I : α → Prop) : ∀ (l : List β), (∀ a x, x ∈ l → I a → I (step a x) ∧ ∃ ρ1 ρ2, p (item x) (form a) = some ρ1 ∧ b ρ1 s = some (.nx, ρ2, s) ∧ wipeE ρ2 ws = form (step a x)) →
    ∀ a, I a → loopF p b ws (l.map item) (form a) s = some (.nx, form (l.foldl step a), s) ∧ I (l.foldl step a) := by
  intro l
  induction l with
  | nil => intro _ a ha; exact ⟨rfl, ha⟩
  | cons x l ih =>
    intro h a ha
    obtain ⟨h1, ρ1, ρ2, e1, e2, e3⟩ := h a x (by simp) ha
    obtain ⟨h2, h3⟩ := ih (fun a y hy => h a y (by simp [hy])) (step a x) h1
    refine ⟨?_, h3⟩
    rw [List.map_cons]
    unfold loopF
    rw [e1]
    simp only [Option.bind_some, e2, e3]
    rw [h2]; rfl

/-! ### whole numbers in rows -/
theorem intsD_map : ∀ r : List Int, intsD (r.map .int) = some r
  | [] => rfl
  | i :: r => by
    show (intsD (r.map .int)).map (i :: ·) = _
    rw [intsD_map r]; rfl
theorem atI_nat {α : Type} {l : List α} {i : Nat} (h : i < l.length) : atI l (i : Int) = some l[i] := by
  unfold atI ixN
  rw [if_pos (Int.natCast_nonneg i), if_pos (by omega)]
  simp [h]
theorem atI_map {r : List Int} {i : Nat} (h : i < r.length) : atI (r.map D.int) (i : Int) = some (.int r[i]) := by
  rw [atI_nat (by simpa using h)]; simp
theorem flats_ints : ∀ r : List Int, flats (r.map .int) = true
  | [] => rfl
  | i :: r => by show (flat (.int i) && flats (r.map .int)) = true; rw [flats_ints r]; rfl
theorem pys_ints : ∀ r : List Int, pys (r.map .int) = r.map .int
  | [] => by simp [pys]
  | i :: r => by simp [pys, py, pys_ints r]
-- no text, no dict: can be compared by value if it is not too deep
mutual
def nostr : D → Bool
  | .non => true
  | .bl _ => true
  | .int _ => true
  | .str _ => false
  | .tup l => nostrs l
  | .lst l => nostrs l
  | .dct _ => false
  | .src => false
def nostrs : List D → Bool
  | [] => true
  | d :: r => nostr d && nostrs r
end
mutual
theorem nostr_ok : ∀ {d : D}, nostr d = true → flat d = true ∧ (py d).canLay0 = true
  | .non, _ => ⟨rfl, by simp [py, PyData.canLay0]⟩
  | .bl _, _ => ⟨rfl, by simp [py, PyData.canLay0]⟩
  | .int _, _ => ⟨rfl, by simp [py, PyData.canLay0]⟩
  | .str _, h => by cases h
  | .tup l, h => ⟨(nostrs_ok h).1, by simp only [py, PyData.canLay0]; exact (nostrs_ok h).2⟩
  | .lst l, h => ⟨(nostrs_ok h).1, by simp only [py, PyData.canLay0]; exact (nostrs_ok h).2⟩
  | .dct _, h => by cases h
  | .src, h => by cases h
theorem nostrs_ok : ∀ {l : List D}, nostrs l = true → flats l = true ∧ PyData.canLayAll0 (pys l) = true
  | [], _ => ⟨rfl, by simp [pys, PyData.canLayAll0]⟩
  | d :: l, h => by
    have h : (nostr d && nostrs l) = true := h
    rw [Bool.and_eq_true] at h
    obtain ⟨a1, a2⟩ := nostr_ok h.1
    obtain ⟨b1, b2⟩ := nostrs_ok h.2
    exact ⟨by show (flat d && flats l) = true; rw [a1, b1]; rfl, by simp only [pys, PyData.canLayAll0, a2, b2]; rfl⟩
end
theorem nostrs_all : ∀ {l : List D}, (∀ d ∈ l, nostr d = true) → nostrs l = true
  | [], _ => rfl
  | d :: l, h => by
    show (nostr d && nostrs l) = true
    rw [h d (by simp), nostrs_all fun e he => h e (by simp [he])]; rfl
theorem depths_all {n : Nat} : ∀ {l : List D}, (∀ d ∈ l, (py d).depth ≤ n) → PyData.depthAll (pys l) ≤ n
  | [], _ => by simp [pys, PyData.depthAll]
  | d :: l, h => by
    simp only [pys, PyData.depthAll]
    exact Nat.max_le.mpr ⟨h d (by simp), depths_all fun e he => h e (by simp [he])⟩
theorem okD_of {d : D} (h : nostr d = true) (h2 : (py d).depth ≤ 64) : okD d = true := by
  obtain ⟨a, b⟩ := nostr_ok h
  unfold okD SeqAt.shaped
  rw [a, b]
  simpa using h2
theorem dep_tup {n : Nat} {l : List D} (h : ∀ d ∈ l, (py d).depth ≤ n) : (py (.tup l)).depth ≤ n + 1 := by
  simp only [py, PyData.depth]
  exact Nat.succ_le_succ (depths_all h)
theorem dep_lst {n : Nat} {l : List D} (h : ∀ d ∈ l, (py d).depth ≤ n) : (py (.lst l)).depth ≤ n + 1 := by
  simp only [py, PyData.depth]
  exact Nat.succ_le_succ (depths_all h)
theorem dep_int (i : Int) : (py (.int i)).depth = 0 := by simp [py, PyData.depth]
theorem dep_bl (i : Bool) : (py (.bl i)).depth = 0 := by simp [py, PyData.depth]

/-! ### rows -/
/-- a row of numbers as a tuple -/
def enc (r : List Int) : D := .tup (r.map .int)
theorem enc_nostr (r : List Int) : nostr (enc r) = true := nostrs_all fun d h => by obtain ⟨i, _, rfl⟩ := List.mem_map.mp h; rfl
theorem enc_dep (r : List Int) : (py (enc r)).depth ≤ 1 := dep_tup fun d h => by obtain ⟨i, _, rfl⟩ := List.mem_map.mp h; rw [dep_int]; exact Nat.le_refl _
theorem enc_ok (r : List Int) : okD (enc r) = true := okD_of (enc_nostr r) (Nat.le_trans (enc_dep r) (by decide))
theorem py_enc (r : List Int) : py (enc r) = .tuple (r.map .int) := by unfold enc; rw [py, pys_ints]
theorem eqv_ints : ∀ a b : List Int, PyData.eqvAll (a.map .int) (b.map .int) = decide (a = b)
  | [], [] => by simp [PyData.eqvAll]
  | [], b :: m => by simp [PyData.eqvAll]
  | a :: l, [] => by simp [PyData.eqvAll]
  | a :: l, b :: m => by
    simp only [List.map_cons, PyData.eqvAll, PyData.eqv, eqv_ints l m]
    by_cases h1 : a = b <;> by_cases h2 : l = m <;> simp [h1, h2]
theorem any_ints (k : Int) (r : List Int) : ((r.map PyData.int).any fun z => PyData.eqv z (.int k)) = decide (k ∈ r) := by
  induction r with
  | nil => simp
  | cons a l ih =>
    rw [List.map_cons, List.any_cons, ih]
    have e : PyData.eqv (.int a) (.int k) = decide (a = k) := by simp only [PyData.eqv]; rfl
    rw [e]
    by_cases h : a = k
    · simp [h]
    · have h' : ¬ k = a := fun z => h z.symm
      simp [h, h']
theorem inAny_ints (k : Int) (r : List Int) : inAny (.int k) (r.map .int) = decide (k ∈ r) := by
  unfold inAny
  rw [pys_ints, show py (D.int k) = .int k by simp [py]]
  exact any_ints k r
theorem gIn_enc (k : Int) (r : List Int) : gIn (.int k) (enc r) = some (.bl (decide (k ∈ r))) := by
  unfold gIn
  rw [if_pos ⟨okD_int k, enc_ok r⟩]
  show some (D.bl (inAny (.int k) (r.map .int))) = _
  rw [inAny_ints]
theorem lst_ok (r : List Int) : okD (.lst (r.map .int)) = true := okD_of (nostrs_all fun d h => by obtain ⟨i, _, rfl⟩ := List.mem_map.mp h; rfl) (Nat.le_trans (dep_lst (n := 0) fun d h => by obtain ⟨i, _, rfl⟩ := List.mem_map.mp h; rw [dep_int]; exact Nat.le_refl _) (by decide))
theorem gNotIn_lst (k : Int) (r : List Int) : gNotIn (.int k) (.lst (r.map .int)) = some (.bl (!decide (k ∈ r))) := by
  unfold gNotIn
  rw [if_pos ⟨okD_int k, lst_ok r⟩]
  show some (D.bl (!inAny (.int k) (r.map .int))) = _
  rw [inAny_ints]
theorem gIdx_enc {k : Int} {r : List Int} (h : k ∈ r) : gIdx (enc r) (.int k) = some (.int (r.idxOf k : Nat)) := by
  unfold gIdx enc
  simp only [intsD_map]
  rw [if_pos h]
theorem enD_zip : ∀ (a : List Int) (k : Nat), enD (a.map .int) k = (a.zipIdx k).map fun p => .pr [.int (p.2 : Nat), .int p.1]
  | [], _ => rfl
  | i :: a, k => by
    rw [List.map_cons, List.zipIdx_cons, List.map_cons]
    show _ :: enD (a.map .int) (k + 1) = _
    rw [enD_zip a (k + 1)]
theorem zpD_zip : ∀ (a b : List Int), zpD (a.map .int) (b.map .int) = (a.zip b).map fun p => .pr [.int p.1, .int p.2]
  | [], b => by simp [zpD]
  | i :: a, [] => by simp [zpD]
  | i :: a, j :: b => by simp [zpD, zpD_zip a b]
@[simp] theorem gEn_tup (l : List D) : gEn [.tup l] = some (enD l 0) := rfl
@[simp] theorem gEn_lst (l : List D) : gEn [.lst l] = some (enD l 0) := rfl
@[simp] theorem gZip_tup (l m : List D) : gZip [.tup l, .tup m] = some (zpD l m) := rfl
@[simp] theorem gZip_lst (l m : List D) : gZip [.lst l, .lst m] = some (zpD l m) := rfl
/-- the sum of two rows of marks -/
def xr (a b : List Int) : List Int := List.zipWith (fun x y => if x = y then 0 else 1) a b
theorem xr_length (a b : List Int) : (xr a b).length = min a.length b.length := by unfold xr; simp
end Pv

set_option Elab.async false
set_option linter.all false
set_option maxRecDepth 100000
set_option maxHeartbeats 1000000
namespace Pv
open PySem PySem.Spec L2
open PyProof.Rows hiding St

/-! ### how long data's text is at most -/
mutual
def small : D → Bool
  | .non => true
  | .bl _ => true
  | .int i => decide (i.natAbs < 1152921504606846976)
  | .str _ => false
  | .tup l => smalls l
  | .lst l => smalls l
  | .dct _ => false
  | .src => false
def smalls : List D → Bool
  | [] => true
  | d :: r => small d && smalls r
end
mutual
def wide : D → Nat
  | .int _ => 21
  | .tup l => 6 + wides l
  | .lst l => 6 + wides l
  | _ => 6
def wides : List D → Nat
  | [] => 0
  | d :: r => 2 + wide d + wides r
end
theorem listText_le (ts : List Str) : (listText ts).length ≤ 2 + piled ts := by
  cases ts with
  | nil => exact Nat.le_refl 2
  | cons t r =>
    have h := textFrom_length_pos r 1 (("[" : Str) ++ (if (0 : Nat) > 0 then ", " else "" : String) ++ t) (Nat.succ_pos 0)
    have e : ((("[" : Str) ++ (if (0 : Nat) > 0 then ", " else "" : String) ++ t)).length = 1 + t.length := by
      rw [strLen_append, strLen_append]; rfl
    have hX : (listText (t :: r)).length = (textFrom 1 (("[" : Str) ++ (if (0 : Nat) > 0 then ", " else "" : String) ++ t) r).length + 1 := by
      show (textFrom 0 "[" (t :: r) ++ "]").length = _
      rw [strLen_append]; rfl
    rw [hX, h, e, piled_cons]; omega
theorem tupleText_le (ts : List Str) : (tupleText ts).length ≤ 3 + piled ts := by
  unfold tupleText
  rw [strLen_append, strLen_append]
  have e1 : ((("(" : String) : Str)).length = 1 := rfl
  have e3 : (((if ts.length == 1 then ",)" else ")" : String) : Str)).length ≤ 2 := by split <;> decide
  rw [e1]
  by_cases h : ts = []
  · subst h
    show 1 + 0 + 1 ≤ _
    omega
  · have := join_length_add ts h
    omega
mutual
theorem small_shown : ∀ {d : D}, small d = true → flat d = true ∧ (py d).showable = true ∧ (py d).shown.length ≤ wide d
  | .non, _ => ⟨rfl, by simp [py, PyData.showable], by simp only [py, PyData.shown]; decide⟩
  | .bl b, _ => ⟨rfl, by simp [py, PyData.showable], by cases b <;> simp only [py, PyData.shown] <;> decide⟩
  | .int i, h => by
    have h : i.natAbs < 1152921504606846976 := of_decide_eq_true h
    refine ⟨rfl, ?_, ?_⟩
    · simp only [py, PyData.showable]
      refine decide_eq_true ?_
      by_cases z : i.natAbs = 0
      · rw [z]; decide
      · exact Nat.lt_of_lt_of_le ((Nat.log2_lt z).mpr (show i.natAbs < 2 ^ 60 from h)) (by decide)
    · simp only [py, PyData.shown]
      have := int_text_length_le10 (a := i) (k := 20) (by decide) (by omega)
      show (Str.ofString (toString i)).length ≤ 21
      rw [PySem.ofString_length]; exact this
  | .str _, h => by cases h
  | .tup l, h => by
    obtain ⟨a, b, c⟩ := smalls_shown (l := l) h
    refine ⟨a, by simp only [py, PyData.showable]; exact b, ?_⟩
    simp only [py, PyData.shown]
    have := tupleText_le (PyData.shownAll (pys l))
    show _ ≤ 6 + wides l
    omega
  | .lst l, h => by
    obtain ⟨a, b, c⟩ := smalls_shown (l := l) h
    refine ⟨a, by simp only [py, PyData.showable]; exact b, ?_⟩
    simp only [py, PyData.shown]
    have := listText_le (PyData.shownAll (pys l))
    show _ ≤ 6 + wides l
    omega
  | .dct _, h => by cases h
  | .src, h => by cases h
theorem smalls_shown : ∀ {l : List D}, smalls l = true → flats l = true ∧ PyData.showableAll (pys l) = true ∧ piled (PyData.shownAll (pys l)) ≤ wides l
  | [], _ => ⟨rfl, by simp [pys, PyData.showableAll], by simp only [pys, PyData.shownAll]; exact Nat.le_refl 0⟩
  | d :: l, h => by
    have h : (small d && smalls l) = true := h
    rw [Bool.and_eq_true] at h
    obtain ⟨a1, a2, a3⟩ := small_shown h.1
    obtain ⟨b1, b2, b3⟩ := smalls_shown h.2
    refine ⟨by show (flat d && flats l) = true; rw [a1, b1]; rfl, by simp only [pys, PyData.showableAll, a2, b2]; rfl, ?_⟩
    simp only [pys, PyData.shownAll]
    rw [piled_cons]
    show _ ≤ 2 + wide d + wides l
    omega
end
theorem smalls_all : ∀ {l : List D}, (∀ d ∈ l, small d = true) → smalls l = true
  | [], _ => rfl
  | d :: l, h => by
    show (small d && smalls l) = true
    rw [h d (by simp), smalls_all fun e he => h e (by simp [he])]; rfl
theorem wides_all {n : Nat} : ∀ {l : List D}, (∀ d ∈ l, wide d ≤ n) → wides l ≤ l.length * (2 + n)
  | [], _ => Nat.zero_le _
  | d :: l, h => by
    have a := h d (by simp)
    have b := wides_all fun e he => h e (List.mem_cons_of_mem d he)
    show 2 + wide d + wides l ≤ (l.length + 1) * (2 + n)
    rw [Nat.add_mul]; omega
theorem gRepr_ok {d : D} (h1 : small d = true) (h2 : wide d ≤ LIM) (h3 : (py d).depth ≤ 60) : gRepr [d] = some (.str (py d).shown) := by
  obtain ⟨a, b, c⟩ := small_shown h1
  exact if_pos ⟨a, b, Nat.le_trans c h2, h3⟩
@[simp] theorem gRepr_bl (b : Bool) : gRepr [.bl b] = some (.str (py (.bl b)).shown) := gRepr_ok rfl (by have := LIM_eq; show 6 ≤ LIM; omega) (by simp [py, PyData.depth])
@[simp] theorem gNe_strs (a : Str) : gNe (.str a) (.str a) = some (.bl false) := by simp [gNe]
theorem enc_small {r : List Int} (h : ∀ x ∈ r, x.natAbs < 1152921504606846976) : small (enc r) = true := smalls_all fun d hd => by
  obtain ⟨i, hi, rfl⟩ := List.mem_map.mp hd
  exact decide_eq_true (h i hi)
theorem enc_wide (r : List Int) : wide (enc r) ≤ 6 + r.length * 23 := by
  have := wides_all (n := 21) (l := r.map .int) fun d hd => by
    obtain ⟨i, hi, rfl⟩ := List.mem_map.mp hd
    exact Nat.le_refl _
  rw [List.length_map] at this
  show 6 + wides _ ≤ _
  omega
/-! ### a loop that draws -/
theorem loopF_src {p : Pt} {b : SS} {ws : List Nat} {ρ : Env} (I : Src → Prop) : ∀ l : List Itm, (∀ x ∈ l, ∀ s, I s → ∃ ρ1 ρ2 s2, p x ρ = some ρ1 ∧ b ρ1 s = some (.nx, ρ2, s2) ∧ wipeE ρ2 ws = ρ ∧ I s2) → ∀ s, I s → ∃ s', loopF p b ws l ρ s = some (.nx, ρ, s') ∧ I s' := by
  intro l
  induction l with
  | nil => intro _ s hs; exact ⟨s, rfl, hs⟩
  | cons x l ih =>
    intro h s hs
    obtain ⟨ρ1, ρ2, s2, e1, e2, e3, h2⟩ := h x (by simp) s hs
    obtain ⟨s', e4, h4⟩ := ih (fun y hy => h y (by simp [hy])) s2 h2
    refine ⟨s', ?_, h4⟩
    unfold loopF
    rw [e1]
    simp only [Option.bind_some, e2, e3]
    exact e4
theorem cok_src {ns : List Int} (h : ns.length ≤ 63) : Cok (srcOf ns) := by
  show (srcOf ns).cells.length ≤ 63
  unfold srcOf
  simpa using h
end Pv

set_option Elab.async false
set_option linter.all false
set_option maxRecDepth 100000
set_option maxHeartbeats 1000000
namespace Pv.K41
open PySem PySem.Spec L2 Pv
open PyProof.Rows hiding St

@[simp] theorem gEn_enc (a : List Int) : gEn [enc a] = some (enD (a.map .int) 0) := rfl
@[simp] theorem gZip_enc (a b : List Int) : gZip [enc a, enc b] = some (zpD (a.map .int) (b.map .int)) := rfl
@[simp] theorem seqD_enc (a : List Int) : seqD (enc a) = some (a.map .int) := rfl
@[simp] theorem gLen_enc (a : List Int) : gLen [enc a] = some (.int a.length) := by unfold enc; simp
theorem gIx_enc {r : List Int} {i : Nat} (h : i < r.length) : gIx (enc r) (.int (i : Nat)) = some (.int r[i]) := by
  unfold enc
  rw [gIx_tup, atI_map h]
/-! ### sums of rows -/
theorem sum_of_spec {a b : List Int} {s : Src} (h : a.length = b.length) (hL : a.length ≤ LIM) : sem_sum_of [enc a, enc b] s = some (enc (xr a b), s) := by
  have e : loopC [2, 3] (ptT (ptCons (ptN 2) (ptCons (ptN 3) ptNil))) bYes (eCl gInt (aCons (Pv.e2 gNe (eVar 3) (Pv.e2 gIx (eVar 1) (eVar 2))) aNil)) [some (.p (enc a)), some (.p (enc b)), none, none] (enD (a.map .int) 0) s = some ((a.zipIdx 0).map (fun p => D.int (if p.1 = b.getD p.2 0 then 0 else 1)), s) := by
    rw [enD_zip]
    refine loopC_all (fun p : Int × Nat => Itm.pr [.int (p.2 : Nat), .int p.1]) (fun p => D.int (if p.1 = b.getD p.2 0 then 0 else 1)) _ fun p hp => ⟨[some (.p (enc a)), some (.p (enc b)), some (.p (.int (p.2 : Nat))), some (.p (.int p.1))], by simp, ?_⟩
    obtain ⟨x, i⟩ := p
    have hi : i < b.length := by
      have := List.snd_lt_of_mem_zipIdx hp
      simp at this; omega
    simp [gIx_enc hi, gNe_i, List.getD, hi]
  have e2 : (a.zipIdx 0).map (fun p => D.int (if p.1 = b.getD p.2 0 then 0 else 1)) = (xr a b).map .int := by
    apply List.ext_getElem
    · simp [xr_length, h]
    · intro i h1 h2
      simp at h1
      have hb : i < b.length := by omega
      simp [xr, List.getD, hb]
  unfold sem_sum_of runDef g_sum_of
  have hx : (xr a b).length ≤ LIM := by rw [xr_length]; omega
  rw [e2] at e
  simp [start1, enD_length, hL, e, gTup_lst, hx]
  rfl
theorem zip_map_xr : ∀ a b : List Int, (a.zip b).map (fun p => D.int (if p.1 = p.2 then 0 else 1)) = (xr a b).map .int
  | [], b => by simp [xr]
  | x :: a, [] => by simp [xr]
  | x :: a, y :: b => by
    have := zip_map_xr a b
    simp only [xr] at this
    simp [xr, this]
theorem Llaw_sum_spec {a b : List Int} {s : Src} (hL : a.length ≤ LIM) : sem_Llaw_sum [enc a, enc b] s = some (enc (xr a b), s) := by
  have e : loopC [2, 3] (ptT (ptCons (ptN 2) (ptCons (ptN 3) ptNil))) bYes (eCl gInt (aCons (Pv.e2 gNe (eVar 2) (eVar 3)) aNil)) [some (.p (enc a)), some (.p (enc b)), none, none] (zpD (a.map .int) (b.map .int)) s = some ((a.zip b).map (fun p => D.int (if p.1 = p.2 then 0 else 1)), s) := by
    rw [zpD_zip]
    refine loopC_all (fun p : Int × Int => Itm.pr [.int p.1, .int p.2]) (fun p => D.int (if p.1 = p.2 then 0 else 1)) _ fun p hp => ⟨[some (.p (enc a)), some (.p (enc b)), some (.p (.int p.1)), some (.p (.int p.2))], by simp, ?_⟩
    simp [gNe_i]
  rw [zip_map_xr] at e
  unfold sem_Llaw_sum runDef g_Llaw_sum
  have hx : (xr a b).length ≤ LIM := by rw [xr_length]; omega
  have hz : (zpD (a.map .int) (b.map .int)).length ≤ LIM := by rw [zpD_length]; simp; omega
  simp [start1, hz, e, gTup_lst, hx]
  rfl
theorem first_one_spec {r : List Int} {s : Src} (h : (1 : Int) ∈ r) : sem_first_one [enc r] s = some (.int (r.idxOf 1 : Nat), s) := by
  unfold sem_first_one runDef g_first_one
  simp [start1, gIdx_enc h]

/-! ### the told base, as plain lists -/
theorem gD_lt {l : List Int} {i : Nat} {d : Int} (h : i < l.length) : l.getD i d = l[i] := by simp [List.getD, h]
theorem gD_ge {l : List Int} {i : Nat} {d : Int} (h : l.length ≤ i) : l.getD i d = d := by
  have : l[i]? = none := List.getElem?_eq_none h
  simp [List.getD, this]
def bits (r : List Int) : Prop := ∀ x ∈ r, x = 0 ∨ x = 1
/-- row taken down by those of found -/
def red (found : List (List Int)) (row : List Int) : List Int := found.foldl (fun here one => if here.getD (one.idxOf 1) 0 = 1 then xr here one else here) row
def nxt (found : List (List Int)) (row : List Int) : List (List Int) :=
  if (1 : Int) ∈ red found row then (found.map fun one => if one.getD ((red found row).idxOf 1) 0 = 1 then xr one (red found row) else one) ++ [red found row] else found
/-- found rows: of one length n, of marks 0 and 1, each with a one, zero at the others' first ones -/
structure FOk (n : Nat) (found : List (List Int)) : Prop where
  len : ∀ r ∈ found, r.length = n
  bit : ∀ r ∈ found, bits r
  one : ∀ r ∈ found, (1 : Int) ∈ r
  pw : found.Pairwise fun a b => a.getD (b.idxOf 1) 0 = 0 ∧ b.getD (a.idxOf 1) 0 = 0
theorem xr_bits (a b : List Int) : bits (xr a b) := by
  intro x hx
  unfold xr at hx
  obtain ⟨i, h, rfl⟩ := List.mem_iff_getElem.mp hx
  rw [List.getElem_zipWith]
  split <;> simp
theorem xr_getD {a b : List Int} {n i : Nat} (ha : a.length = n) (hb : b.length = n) (hi : i < n) : (xr a b).getD i 0 = if a.getD i 0 = b.getD i 0 then 0 else 1 := by
  have h1 : i < a.length := by omega
  have h2 : i < b.length := by omega
  have h3 : i < (xr a b).length := by rw [xr_length]; omega
  rw [gD_lt h1, gD_lt h2, gD_lt h3]
  simp [xr]
theorem bit_getD {r : List Int} (h : bits r) (i : Nat) : r.getD i 0 = 0 ∨ r.getD i 0 = 1 := by
  by_cases hi : i < r.length
  · rw [gD_lt hi]; exact h _ (List.getElem_mem hi)
  · rw [gD_ge (by omega)]; exact .inl rfl
theorem idx_one {r : List Int} (h : (1 : Int) ∈ r) : r.idxOf 1 < r.length ∧ r.getD (r.idxOf 1) 0 = 1 := by
  have h1 := List.idxOf_lt_length_of_mem h
  refine ⟨h1, ?_⟩
  rw [gD_lt h1]
  exact List.getElem_idxOf h1
/-- a first one is told by a one with none ahead -/
theorem idx_of_first {r : List Int} {i : Nat} (h1 : r.getD i 0 = 1) (h2 : ∀ j, j < i → r.getD j 0 ≠ 1) : (1 : Int) ∈ r ∧ r.idxOf 1 = i := by
  have hi : i < r.length := by
    by_cases hi : i < r.length
    · exact hi
    · rw [gD_ge (by omega)] at h1; cases h1
  have hm : (1 : Int) ∈ r := by
    rw [gD_lt hi] at h1
    rw [← h1]; exact List.getElem_mem hi
  obtain ⟨a, b⟩ := idx_one hm
  refine ⟨hm, ?_⟩
  rcases Nat.lt_trichotomy (r.idxOf 1) i with h | h | h
  · exact absurd b (h2 _ h)
  · exact h
  · exfalso
    have := List.not_of_lt_findIdx (p := fun x => x == (1 : Int)) (xs := r) (i := i) (by unfold List.idxOf at h; exact h)
    rw [gD_lt hi] at h1
    simp [h1] at this
theorem no_one_ahead {r : List Int} {j : Nat} (h : j < r.idxOf 1) : r.getD j 0 ≠ 1 := by
  have hl : r.idxOf 1 ≤ r.length := List.idxOf_le_length
  have hj : j < r.length := by omega
  have := List.not_of_lt_findIdx (p := fun x => x == (1 : Int)) (xs := r) (i := j) (by unfold List.idxOf at h; exact h)
  rw [gD_lt hj]
  intro z
  simp [z] at this
theorem FOk.idx {n : Nat} {found : List (List Int)} (F : FOk n found) {r : List Int} (h : r ∈ found) : r.idxOf 1 < n ∧ r.getD (r.idxOf 1) 0 = 1 := by
  have := idx_one (F.one r h)
  rw [F.len r h] at this
  exact this
theorem red_aux {n : Nat} : ∀ (l done : List (List Int)) (here : List Int), FOk n (done ++ l) → here.length = n → bits here → (∀ r ∈ done, here.getD (r.idxOf 1) 0 = 0) →
    (red l here).length = n ∧ bits (red l here) ∧ ∀ r ∈ done ++ l, (red l here).getD (r.idxOf 1) 0 = 0 := by
  intro l
  induction l with
  | nil => intro done here F hl hb hz; exact ⟨hl, hb, fun r h => hz r (by simpa using h)⟩
  | cons r l ih =>
    intro done here F hl hb hz
    have hr : r ∈ done ++ r :: l := by simp
    obtain ⟨i1, i2⟩ := F.idx hr
    have e : red (r :: l) here = red l (if here.getD (r.idxOf 1) 0 = 1 then xr here r else here) := rfl
    rw [e]
    have F' : FOk n ((done ++ [r]) ++ l) := by simpa using F
    have key : ∀ q ∈ done, r.getD (q.idxOf 1) 0 = 0 := fun q hq => ((List.pairwise_append.mp F.pw).2.2 q hq r (by simp)).2
    have res := ih (done ++ [r]) (if here.getD (r.idxOf 1) 0 = 1 then xr here r else here) F' (by split; rw [xr_length, hl, F.len r hr]; simp; exact hl) (by split; exact xr_bits _ _; exact hb) (fun q hq => by
      rcases List.mem_append.mp hq with hq | hq
      · split
        · rw [xr_getD hl (F.len r hr) (F.idx (by simp [hq])).1, hz q hq, key q hq]; simp
        · exact hz q hq
      · obtain rfl : q = r := by simpa using hq
        split
        · rename_i h
          rw [xr_getD hl (F.len q hr) i1, h, i2]; simp
        · rename_i h
          exact (bit_getD hb _).resolve_right h)
    refine ⟨res.1, res.2.1, fun q hq => res.2.2 q ?_⟩
    simpa using hq
theorem red_ok {n : Nat} {found : List (List Int)} {row : List Int} (F : FOk n found) (hl : row.length = n) (hb : bits row) : (red found row).length = n ∧ bits (red found row) ∧ ∀ r ∈ found, (red found row).getD (r.idxOf 1) 0 = 0 :=
  red_aux found [] row F hl hb fun _ h => absurd h List.not_mem_nil
/-- one row of found, behind a new row -/
def upd1 (here one : List Int) : List Int := if one.getD (here.idxOf 1) 0 = 1 then xr one here else one
theorem upd1_ok {n : Nat} {here one : List Int} (hl : one.length = n) (h1 : (1 : Int) ∈ one) (hb : bits one) (hh : here.length = n) (hb2 : bits here) (h2 : (1 : Int) ∈ here) (hz : here.getD (one.idxOf 1) 0 = 0) :
    (upd1 here one).length = n ∧ bits (upd1 here one) ∧ (1 : Int) ∈ upd1 here one ∧ (upd1 here one).idxOf 1 = one.idxOf 1 ∧ (upd1 here one).getD (here.idxOf 1) 0 = 0 := by
  obtain ⟨i1, i2⟩ := idx_one h1
  obtain ⟨p1, p2⟩ := idx_one h2
  unfold upd1
  split
  · rename_i h
    have hle : one.idxOf 1 ≤ here.idxOf 1 := by
      rcases Nat.lt_or_ge (here.idxOf 1) (one.idxOf 1) with z | z
      · exact absurd h (no_one_ahead z)
      · exact z
    have hne : one.idxOf 1 ≠ here.idxOf 1 := fun z => by rw [z, p2] at hz; cases hz
    have key := idx_of_first (r := xr one here) (i := one.idxOf 1) (by rw [xr_getD hl hh (by omega), i2, hz]; simp) (fun j hj => by
      have z1 := (bit_getD hb j).resolve_right (no_one_ahead hj)
      have z2 := (bit_getD hb2 j).resolve_right (no_one_ahead (r := here) (by omega))
      rw [xr_getD hl hh (by omega), z1, z2]; simp)
    refine ⟨by rw [xr_length, hl, hh]; simp, xr_bits _ _, key.1, key.2, ?_⟩
    rw [xr_getD hl hh (by omega), h, p2]; simp
  · rename_i h
    exact ⟨hl, hb, h1, rfl, (bit_getD hb _).resolve_right h⟩
theorem nxt_eq (found : List (List Int)) (row : List Int) : nxt found row = if (1 : Int) ∈ red found row then found.map (upd1 (red found row)) ++ [red found row] else found := rfl
theorem upd1_zero {n : Nat} {here a b : List Int} (ha : a.length = n) (hh : here.length = n) (hi : b.idxOf 1 < n) (h1 : a.getD (b.idxOf 1) 0 = 0) (h2 : here.getD (b.idxOf 1) 0 = 0) : (upd1 here a).getD (b.idxOf 1) 0 = 0 := by
  unfold upd1
  split
  · rw [xr_getD ha hh hi, h1, h2]; simp
  · exact h1
theorem nxt_ok {n : Nat} {found : List (List Int)} {row : List Int} (F : FOk n found) (hl : row.length = n) (hb : bits row) : FOk n (nxt found row) := by
  obtain ⟨r1, r2, r3⟩ := red_ok F hl hb
  rw [nxt_eq]
  split
  · rename_i h1
    have u : ∀ a ∈ found, _ := fun a ha => upd1_ok (F.len a ha) (F.one a ha) (F.bit a ha) r1 r2 h1 (r3 a ha)
    refine ⟨fun r h => ?_, fun r h => ?_, fun r h => ?_, ?_⟩
    · rcases List.mem_append.mp h with h | h
      · obtain ⟨a, ha, rfl⟩ := List.mem_map.mp h; exact (u a ha).1
      · obtain rfl : r = _ := by simpa using h
        exact r1
    · rcases List.mem_append.mp h with h | h
      · obtain ⟨a, ha, rfl⟩ := List.mem_map.mp h; exact (u a ha).2.1
      · obtain rfl : r = _ := by simpa using h
        exact r2
    · rcases List.mem_append.mp h with h | h
      · obtain ⟨a, ha, rfl⟩ := List.mem_map.mp h; exact (u a ha).2.2.1
      · obtain rfl : r = _ := by simpa using h
        exact h1
    · rw [List.pairwise_append]
      refine ⟨?_, by simp, fun a ha b hb => ?_⟩
      · rw [List.pairwise_map]
        refine F.pw.imp_of_mem fun {a b} ha hb hab => ?_
        rw [(u b hb).2.2.2.1, (u a ha).2.2.2.1]
        exact ⟨upd1_zero (F.len a ha) r1 (F.idx hb).1 hab.1 (r3 b hb), upd1_zero (F.len b hb) r1 (F.idx ha).1 hab.2 (r3 a ha)⟩
      · obtain ⟨c, hc, rfl⟩ := List.mem_map.mp ha
        obtain rfl : b = _ := by simpa using hb
        rw [(u c hc).2.2.2.1]
        exact ⟨(u c hc).2.2.2.2, r3 c hc⟩
  · exact F
theorem nxt_length (found : List (List Int)) (row : List Int) : (nxt found row).length ≤ found.length + 1 := by
  rw [nxt_eq]; split <;> simp
/-- a loop whose body knows how many turns there were -/
theorem loopF_n {α β : Type} {p : Pt} {b : SS} {ws : List Nat} {s : Src} (item : β → Itm) (form : α → Env) (step : α → β → α) (I : Nat → α → Prop) (N : Nat) : ∀ (l : List β), (∀ k a x, x ∈ l → k < N → I k a → I (k + 1) (step a x) ∧ ∃ ρ1 ρ2, p (item x) (form a) = some ρ1 ∧ b ρ1 s = some (.nx, ρ2, s) ∧ wipeE ρ2 ws = form (step a x)) →
    ∀ k a, k + l.length ≤ N → I k a → loopF p b ws (l.map item) (form a) s = some (.nx, form (l.foldl step a), s) ∧ I (k + l.length) (l.foldl step a) := by
  intro l
  induction l with
  | nil => intro _ k a _ ha; exact ⟨rfl, ha⟩
  | cons x l ih =>
    intro h k a hk ha
    have hk2 : k + 1 + l.length ≤ N := by simp at hk; omega
    obtain ⟨h1, ρ1, ρ2, e1, e2, e3⟩ := h k a x (by simp) (by omega) ha
    obtain ⟨h2, h3⟩ := ih (fun k a y hy => h k a y (by simp [hy])) (k + 1) (step a x) hk2 h1
    have e9 : k + 1 + l.length = k + (x :: l).length := by simp; omega
    rw [e9] at h3
    refine ⟨?_, h3⟩
    rw [List.map_cons]
    unfold loopF
    rw [e1]
    simp only [Option.bind_some, e2, e3]
    rw [h2]; rfl
theorem FOk.nil (n : Nat) : FOk n [] := ⟨fun _ h => absurd h List.not_mem_nil, fun _ h => absurd h List.not_mem_nil, fun _ h => absurd h List.not_mem_nil, .nil⟩

/-! ### told_rows -/
def foE (rows found : List (List Int)) : Env := [some (.p (.tup (rows.map enc))), some (.p (.lst (found.map enc))), none, none, none, none]
def foH (rows found : List (List Int)) (row here : List Int) : Env := [some (.p (.tup (rows.map enc))), some (.p (.lst (found.map enc))), some (.p (enc row)), some (.p (enc here)), none, none]
theorem red_sem {n : Nat} {rows found : List (List Int)} {row : List Int} {s : Src} (hn : n ≤ 1000) : ∀ (l : List (List Int)) (here : List Int), (∀ r ∈ l, r.length = n ∧ (1 : Int) ∈ r) → here.length = n →
    loopF (ptN 4) (sSet 3 (oV (eIf (bE (Pv.e2 gEq (Pv.e2 gIx (eVar 3) (eFn sem_first_one (aCons (eVar 4) aNil))) (eC (.int 1)))) (eFn sem_sum_of (aCons (eVar 3) (aCons (eVar 4) aNil))) (eVar 3)))) [4] (l.map fun r => Itm.v (enc r)) (foH rows found row here) s = some (.nx, foH rows found row (red l here), s) := by
  intro l here hl hh
  refine (loopF_fold (fun r => Itm.v (enc r)) (foH rows found row) (fun here one => if here.getD (one.idxOf 1) 0 = 1 then xr here one else here) (fun h => h.length = n) l (fun h r hr hlen => ?_) here hh).1
  obtain ⟨q1, q2⟩ := hl r hr
  obtain ⟨i1, i2⟩ := idx_one q2
  have i3 : r.idxOf 1 < h.length := by omega
  have hL := LIM_eq
  refine ⟨by split; rw [xr_length]; omega; exact hlen, [some (.p (.tup (rows.map enc))), some (.p (.lst (found.map enc))), some (.p (enc row)), some (.p (enc h)), some (.p (enc r)), none], [some (.p (.tup (rows.map enc))), some (.p (.lst (found.map enc))), some (.p (enc row)), some (.p (enc (if h.getD (r.idxOf 1) 0 = 1 then xr h r else h))), some (.p (enc r)), none], rfl, ?_, rfl⟩
  have e1 := first_one_spec (s := s) q2
  have e2 := sum_of_spec (a := h) (b := r) (s := s) (by omega) (by omega)
  have e3 := gIx_enc i3
  rw [gD_lt i3]
  by_cases h9 : h[r.idxOf 1] = 1
  · simp [e1, e2, e3, gEq_i, h9]
  · simp [e1, e2, e3, gEq_i, h9]
theorem told_rows_spec {n : Nat} {rows : List (List Int)} {s : Src} (hn : n ≤ 1000) (hN : rows.length ≤ 1000) (hr : ∀ r ∈ rows, r.length = n ∧ bits r) (hs : sortOk ((rows.foldl nxt []).map enc) = true) :
    sem_told_rows [.tup (rows.map enc)] s = some (.tup (sortD true ((rows.foldl nxt []).map enc)), s) ∧ FOk n (rows.foldl nxt []) ∧ (rows.foldl nxt []).length ≤ rows.length := by
  have hL := LIM_eq
  have key := loopF_n (p := ptN 2) (b := (sSeq (sSet 3 (oV (eVar 2))) (sSeq (sFor (iSeq (eVar 1)) (ptN 4) (sSet 3 (oV (eIf (bE (Pv.e2 gEq (Pv.e2 gIx (eVar 3) (eFn sem_first_one (aCons (eVar 4) aNil))) (eC (.int 1)))) (eFn sem_sum_of (aCons (eVar 3) (aCons (eVar 4) aNil))) (eVar 3)))) [4]) (sIf (bE (Pv.e2 gIn (eC (.int 1)) (eVar 3))) (sSeq (sSet 5 (oV (eFn sem_first_one (aCons (eVar 3) aNil)))) (sSet 1 (oV (Pv.e2 gAdd (eF (fLc (iSeq (eVar 1)) [4] (ptN 4) bYes (eIf (bE (Pv.e2 gEq (Pv.e2 gIx (eVar 4) (eVar 5)) (eC (.int 1)))) (eFn sem_sum_of (aCons (eVar 4) (aCons (eVar 3) aNil))) (eVar 4)))) (eF (fLst (aCons (eVar 3) aNil))))))) sNil))))
    (ws := [2, 3, 4, 5]) (s := s) (fun r : List Int => Itm.v (enc r)) (foE rows) nxt (fun k f => FOk n f ∧ f.length ≤ k) 1000 rows (fun k f r hx hk hI => ?_) 0 [] (by omega) ⟨FOk.nil n, by simp⟩
  · refine ⟨?_, key.2.1, by simpa using key.2.2⟩
    unfold sem_told_rows runDef g_told_rows
    have k1 := key.1
    unfold foE at k1
    simp only [List.map_nil] at k1
    have hz : (sortD true ((rows.foldl nxt []).map enc)).length ≤ LIM := by
      unfold sortD
      rw [List.length_mergeSort, List.length_map]
      have := key.2.2
      omega
    simp [start1, lenOk_nil, Function.comp_def, k1, gSrt, hs, gTup, hz]
  · obtain ⟨F, hf⟩ := hI
    obtain ⟨h1, h2⟩ := hr r hx
    obtain ⟨r1, r2, r3⟩ := red_ok F h1 h2
    refine ⟨⟨nxt_ok F h1 h2, Nat.le_trans (nxt_length f r) (by omega)⟩, [some (.p (.tup (rows.map enc))), some (.p (.lst (f.map enc))), some (.p (enc r)), none, none, none], ?_⟩
    have e1 := red_sem (rows := rows) (found := f) (row := r) (s := s) hn f r (fun q hq => ⟨F.len q hq, F.one q hq⟩) h1
    unfold foH at e1
    have hfl : (f.map enc).length ≤ LIM := by simp; omega
    by_cases h1' : (1 : Int) ∈ red f r
    · have e2 := first_one_spec (s := s) h1'
      have hm : nxt f r = f.map (upd1 (red f r)) ++ [red f r] := by rw [nxt_eq, if_pos h1']
      have e3 : loopC [4] (ptN 4) bYes (eIf (bE (Pv.e2 gEq (Pv.e2 gIx (eVar 4) (eVar 5)) (eC (.int 1)))) (eFn sem_sum_of (aCons (eVar 4) (aCons (eVar 3) aNil))) (eVar 4)) [some (.p (.tup (rows.map enc))), some (.p (.lst (f.map enc))), some (.p (enc r)), some (.p (enc (red f r))), none, some (.p (.int ((red f r).idxOf 1 : Nat)))] (f.map fun q => Itm.v (enc q)) s = some (f.map (fun q => enc (upd1 (red f r) q)), s) := by
        refine loopC_all (fun q => Itm.v (enc q)) _ f fun q hq => ⟨_, rfl, ?_⟩
        have i3 : (red f r).idxOf 1 < q.length := by rw [F.len q hq]; have := (idx_one h1').1; omega
        have e4 := gIx_enc i3
        have e5 := sum_of_spec (a := q) (b := red f r) (s := s) (by rw [F.len q hq, r1]) (by rw [F.len q hq]; omega)
        unfold upd1
        rw [gD_lt i3]
        by_cases h9 : q[(red f r).idxOf 1] = 1
        · simp [e4, e5, gEq_i, h9]
        · simp [e4, gEq_i, h9]
      refine ⟨[some (.p (.tup (rows.map enc))), some (.p (.lst ((nxt f r).map enc))), some (.p (enc r)), some (.p (enc (red f r))), none, some (.p (.int ((red f r).idxOf 1 : Nat)))], rfl, ?_, rfl⟩
      have hfl' : f.length ≤ LIM := by omega
      have hg : gAdd (.lst (f.map fun q => enc (upd1 (red f r) q))) (.lst [enc (red f r)]) = some (.lst ((nxt f r).map enc)) := by
        rw [gAdd_l (by simp; omega), hm]
        simp
      have h1L : lenOk [enc (red f r)] = some [enc (red f r)] := lenOk_le (by simp; omega)
      simp [Function.comp_def, e1, gIn_enc, h1', e2, hfl', e3, h1L, hg]
    · refine ⟨[some (.p (.tup (rows.map enc))), some (.p (.lst ((nxt f r).map enc))), some (.p (enc r)), some (.p (enc (red f r))), none, none], rfl, ?_, rfl⟩
      have hm : nxt f r = f := by rw [nxt_eq, if_neg h1']
      rw [hm]
      simp [Function.comp_def, e1, gIn_enc, h1']

/-! ### _law_leads -/
def enc2 (r : List Int) : D := .tup [.int (r.idxOf 1 : Nat), enc r]
def leE (n : Int) (rows found : List (List Int)) : Env := [some (.p (.int n)), some (.p (.lst (rows.map enc))), some (.p (.lst (found.map enc2))), none, none, none, none]
def leH (n : Int) (rows found : List (List Int)) (here : List Int) : Env := [some (.p (.int n)), some (.p (.lst (rows.map enc))), some (.p (.lst (found.map enc2))), some (.p (enc here)), none, none, none]
theorem red_sem2 {n : Nat} {n0 : Int} {rows found : List (List Int)} {s : Src} (hn : n ≤ 1000) : ∀ (l : List (List Int)) (here : List Int), (∀ r ∈ l, r.length = n ∧ (1 : Int) ∈ r) → here.length = n →
    loopF (ptT (ptCons (ptN 4) (ptCons (ptN 5) ptNil))) (sSet 3 (oV (eIf (bE (Pv.e2 gEq (Pv.e2 gIx (eVar 3) (eVar 4)) (eC (.int 1)))) (eFn sem_Llaw_sum (aCons (eVar 3) (aCons (eVar 5) aNil))) (eVar 3)))) [4, 5] (l.map fun r => Itm.v (enc2 r)) (leH n0 rows found here) s = some (.nx, leH n0 rows found (red l here), s) := by
  intro l here hl hh
  refine (loopF_fold (fun r => Itm.v (enc2 r)) (leH n0 rows found) (fun here one => if here.getD (one.idxOf 1) 0 = 1 then xr here one else here) (fun h => h.length = n) l (fun h r hr hlen => ?_) here hh).1
  obtain ⟨q1, q2⟩ := hl r hr
  obtain ⟨i1, i2⟩ := idx_one q2
  have i3 : r.idxOf 1 < h.length := by omega
  have hL := LIM_eq
  refine ⟨by split; rw [xr_length]; omega; exact hlen, [some (.p (.int n0)), some (.p (.lst (rows.map enc))), some (.p (.lst (found.map enc2))), some (.p (enc h)), some (.p (.int (r.idxOf 1 : Nat))), some (.p (enc r)), none], [some (.p (.int n0)), some (.p (.lst (rows.map enc))), some (.p (.lst (found.map enc2))), some (.p (enc (if h.getD (r.idxOf 1) 0 = 1 then xr h r else h))), some (.p (.int (r.idxOf 1 : Nat))), some (.p (enc r)), none], rfl, ?_, rfl⟩
  have e2 := Llaw_sum_spec (a := h) (b := r) (s := s) (by omega)
  have e3 := gIx_enc i3
  rw [gD_lt i3]
  by_cases h9 : h[r.idxOf 1] = 1
  · simp [e2, e3, gEq_i, h9]
  · simp [e2, e3, gEq_i, h9]
theorem leads_fold {n : Nat} {n0 : Int} {rows : List (List Int)} {s : Src} (hn : n ≤ 1000) (hN : rows.length ≤ 1000) (hr : ∀ r ∈ rows, r.length = n ∧ bits r) :
    loopF (ptN 3) (sSeq (sFor (iSeq (eVar 2)) (ptT (ptCons (ptN 4) (ptCons (ptN 5) ptNil))) (sSet 3 (oV (eIf (bE (Pv.e2 gEq (Pv.e2 gIx (eVar 3) (eVar 4)) (eC (.int 1)))) (eFn sem_Llaw_sum (aCons (eVar 3) (aCons (eVar 5) aNil))) (eVar 3)))) [4, 5]) (sIf (bE (Pv.e2 gIn (eC (.int 1)) (eVar 3))) (sSeq (sSet 4 (oV (Pv.e2 gIdx (eVar 3) (eC (.int 1))))) (sSet 2 (oV (Pv.e2 gAdd (eF (fLc (iSeq (eVar 2)) [5, 6] (ptT (ptCons (ptN 6) (ptCons (ptN 5) ptNil))) bYes (eTup (aCons (eVar 6) (aCons (eIf (bE (Pv.e2 gEq (Pv.e2 gIx (eVar 5) (eVar 4)) (eC (.int 1)))) (eFn sem_Llaw_sum (aCons (eVar 5) (aCons (eVar 3) aNil))) (eVar 5)) aNil))))) (eF (fLst (aCons (eTup (aCons (eVar 4) (aCons (eVar 3) aNil))) aNil))))))) sNil))
      [3, 4, 5] (rows.map fun r => Itm.v (enc r)) (leE n0 rows []) s = some (.nx, leE n0 rows (rows.foldl nxt []), s) := by
  have hL := LIM_eq
  refine (loopF_n (fun r : List Int => Itm.v (enc r)) (leE n0 rows) nxt (fun k f => FOk n f ∧ f.length ≤ k) 1000 rows (fun k f r hx hk hI => ?_) 0 [] (by omega) ⟨FOk.nil n, by simp⟩).1
  obtain ⟨F, hf⟩ := hI
  obtain ⟨h1, h2⟩ := hr r hx
  obtain ⟨r1, r2, r3⟩ := red_ok F h1 h2
  refine ⟨⟨nxt_ok F h1 h2, Nat.le_trans (nxt_length f r) (by omega)⟩, [some (.p (.int n0)), some (.p (.lst (rows.map enc))), some (.p (.lst (f.map enc2))), some (.p (enc r)), none, none, none], ?_⟩
  have e1 := red_sem2 (n0 := n0) (rows := rows) (found := f) (s := s) hn f r (fun q hq => ⟨F.len q hq, F.one q hq⟩) h1
  unfold leH at e1
  by_cases h1' : (1 : Int) ∈ red f r
  · have hm : nxt f r = f.map (upd1 (red f r)) ++ [red f r] := by rw [nxt_eq, if_pos h1']
    have e3 : loopC [5, 6] (ptT (ptCons (ptN 6) (ptCons (ptN 5) ptNil))) bYes (eTup (aCons (eVar 6) (aCons (eIf (bE (Pv.e2 gEq (Pv.e2 gIx (eVar 5) (eVar 4)) (eC (.int 1)))) (eFn sem_Llaw_sum (aCons (eVar 5) (aCons (eVar 3) aNil))) (eVar 5)) aNil))) [some (.p (.int n0)), some (.p (.lst (rows.map enc))), some (.p (.lst (f.map enc2))), some (.p (enc (red f r))), some (.p (.int ((red f r).idxOf 1 : Nat))), none, none] (f.map fun q => Itm.v (enc2 q)) s = some (f.map (fun q => enc2 (upd1 (red f r) q)), s) := by
      refine loopC_all (fun q => Itm.v (enc2 q)) _ f fun q hq => ⟨[some (.p (.int n0)), some (.p (.lst (rows.map enc))), some (.p (.lst (f.map enc2))), some (.p (enc (red f r))), some (.p (.int ((red f r).idxOf 1 : Nat))), some (.p (enc q)), some (.p (.int (q.idxOf 1 : Nat)))], rfl, ?_⟩
      have i3 : (red f r).idxOf 1 < q.length := by rw [F.len q hq]; have := (idx_one h1').1; omega
      have e4 := gIx_enc i3
      have e5 := Llaw_sum_spec (a := q) (b := red f r) (s := s) (by rw [F.len q hq]; omega)
      have u := (upd1_ok (F.len q hq) (F.one q hq) (F.bit q hq) r1 r2 h1' (r3 q hq)).2.2.2.1
      unfold enc2
      rw [u]
      unfold upd1
      rw [gD_lt i3]
      have h2L : ∀ a b : D, lenOk [a, b] = some [a, b] := fun a b => lenOk_le (by simp; omega)
      by_cases h9 : q[(red f r).idxOf 1] = 1
      · simp [e4, e5, gEq_i, h9, h2L]
      · simp [e4, gEq_i, h9, h2L]
    refine ⟨[some (.p (.int n0)), some (.p (.lst (rows.map enc))), some (.p (.lst ((nxt f r).map enc2))), some (.p (enc (red f r))), some (.p (.int ((red f r).idxOf 1 : Nat))), none, none], rfl, ?_, rfl⟩
    have hfl' : f.length ≤ LIM := by omega
    have hg : gAdd (.lst (f.map fun q => enc2 (upd1 (red f r) q))) (.lst [.tup [.int ((red f r).idxOf 1 : Nat), enc (red f r)]]) = some (.lst ((nxt f r).map enc2)) := by
      rw [gAdd_l (by simp; omega), hm]
      simp [enc2]
    have h1L : ∀ a : D, lenOk [a] = some [a] := fun a => lenOk_le (by simp; omega)
    have h2L : ∀ a b : D, lenOk [a, b] = some [a, b] := fun a b => lenOk_le (by simp; omega)
    simp [Function.comp_def, e1, gIn_enc, h1', gIdx_enc h1', hfl', e3, h1L, h2L, hg]
  · refine ⟨[some (.p (.int n0)), some (.p (.lst (rows.map enc))), some (.p (.lst ((nxt f r).map enc2))), some (.p (enc (red f r))), none, none, none], rfl, ?_, rfl⟩
    have hm : nxt f r = f := by rw [nxt_eq, if_neg h1']
    rw [hm]
    simp [Function.comp_def, e1, gIn_enc, h1']
/-! ### the rows in order -/
theorem first_lt : ∀ {a b : List Int}, a.length = b.length → bits a → bits b → (1 : Int) ∈ a → a.idxOf 1 < b.idxOf 1 → b < a
  | [], _, _, _, _, h, _ => absurd h List.not_mem_nil
  | x :: a, [], h, _, _, _, _ => by simp at h
  | x :: a, y :: b, hl, ha, hb, h1, hi => by
    rw [List.cons_lt_cons_iff]
    have hy : y ≠ 1 := fun z => by subst z; simp at hi
    have hy0 : y = 0 := (hb y (by simp)).resolve_right hy
    by_cases hx : x = 1
    · left; omega
    · have hx0 : x = 0 := (ha x (by simp)).resolve_right hx
      right
      refine ⟨by omega, first_lt (by simpa using hl) (fun z hz => ha z (by simp [hz])) (fun z hz => hb z (by simp [hz])) ?_ ?_⟩
      · rcases List.mem_cons.mp h1 with h | h
        · exact absurd h.symm hx
        · exact h
      · rw [List.idxOf_cons, List.idxOf_cons] at hi
        simp [hx0, hy0] at hi
        omega

def ord (L : List (List Int)) : List (List Int) := L.mergeSort fun a b => decide (b ≤ a)
theorem lt_enc (a b : List Int) : PySem.W.dataLt (py (enc a)) (py (enc b)) = decide (a < b) := by
  rw [py_enc, py_enc, PySem.W.dataLt_tuple]
  exact PySem.W.dataLt_ints a b
theorem alike_enc (a b : List Int) : PySem.W.alike (py (enc a)) (py (enc b)) = true := by
  rw [py_enc, py_enc, PySem.W.alike]
  exact PySem.W.alike_ints a b
theorem not_lt_le (a b : List Int) : (!decide (a < b)) = decide (b ≤ a) := by
  by_cases h : a < b
  · have h' : ¬ b ≤ a := fun r => List.not_lt.mpr r h
    simp [h, h']
  · have h' : b ≤ a := List.not_lt.mp h
    simp [h, h']
theorem sort_rows (L : List (List Int)) : sortD true (L.map enc) = (ord L).map enc := by
  unfold sortD ord
  refine (PySem.W.sort_maps enc fun a _ b _ => ?_).symm
  rw [PySem.W.dataLe_eq]
  show _ = (!PySem.W.dataLt (py (enc a)) (py (enc b)))
  rw [lt_enc, not_lt_le]
theorem FOk.apart {n : Nat} {L : List (List Int)} (F : FOk n L) {a b : List Int} (ha : a ∈ L) (hb : b ∈ L) (h : a ≠ b) : a.idxOf 1 ≠ b.idxOf 1 := by
  intro e
  have h0 : a.getD (b.idxOf 1) 0 = 0 := by
    obtain ⟨i, hi, rfl⟩ := List.mem_iff_getElem.mp ha
    obtain ⟨j, hj, rfl⟩ := List.mem_iff_getElem.mp hb
    have P := List.pairwise_iff_getElem.mp F.pw
    rcases Nat.lt_trichotomy i j with z | z | z
    · exact (P i j hi hj z).1
    · subst z; exact absurd rfl h
    · exact (P j i hj hi z).2
  rw [← e, (F.idx ha).2] at h0
  cases h0
theorem py_enc2 (r : List Int) : py (enc2 r) = .tuple [.int (r.idxOf 1 : Nat), py (enc r)] := by
  unfold enc2
  simp [py, pys]
theorem sort_pairs {n : Nat} {L : List (List Int)} (F : FOk n L) : sortD false (L.map enc2) = (ord L).map enc2 := by
  unfold sortD ord
  refine (PySem.W.sort_maps enc2 fun a ha b hb => ?_).symm
  rw [PySem.W.dataLe_eq]
  show _ = (!PySem.W.dataLt (py (enc2 b)) (py (enc2 a)))
  rw [py_enc2, py_enc2, PySem.W.dataLt_pair (by simp [PySem.W.alike]) (alike_enc b a), PySem.W.dataLt_int]
  by_cases h : a = b
  · subst h
    have e1 : PyData.eqv (.int (a.idxOf 1 : Nat)) (.int (a.idxOf 1 : Nat)) = true := by simp [PyData.eqv]
    have e2 : PyData.eqv (py (enc a)) (py (enc a)) = true := by rw [py_enc, PyData.eqv, eqv_ints]; simp
    rw [e1, e2]
    simp
  · have hne := F.apart ha hb h
    have e1 : PyData.eqv (.int (b.idxOf 1 : Nat)) (.int (a.idxOf 1 : Nat)) = false := by
      simp only [PyData.eqv]
      have : ¬ ((b.idxOf 1 : Nat) : Int) = (a.idxOf 1 : Nat) := by omega
      simpa using this
    rw [e1, if_neg Bool.false_ne_true]
    have hl : a.length = b.length := by rw [F.len a ha, F.len b hb]
    rcases Nat.lt_or_ge (a.idxOf 1) (b.idxOf 1) with z | z
    · have := first_lt hl (F.bit a ha) (F.bit b hb) (F.one a ha) z
      have z2 : ¬ ((b.idxOf 1 : Nat) : Int) < (a.idxOf 1 : Nat) := by omega
      have h3 : b ≤ a := List.not_lt.mp fun q => List.lt_asymm q this
      simp [z2, h3]
    · have z1 : b.idxOf 1 < a.idxOf 1 := by omega
      have := first_lt hl.symm (F.bit b hb) (F.bit a ha) (F.one b hb) z1
      have z2 : ((b.idxOf 1 : Nat) : Int) < (a.idxOf 1 : Nat) := by omega
      have h3 : ¬ b ≤ a := fun q => List.not_lt.mpr q this
      simp [z2, h3]
theorem sortOk_of {l : List D} (h1 : ∀ d ∈ l, nostr d = true) (h2 : l.length ≤ LIM) (h3 : ∀ a ∈ l, ∀ b ∈ l, PySem.W.alike (py a) (py b) = true) (h4 : ∀ a ∈ l, ∃ x r, a = .tup (x :: r)) (h5 : ∀ a ∈ l, (py a).depth ≤ 60) : sortOk l = true := by
  unfold sortOk
  simp only [Bool.and_eq_true, Bool.or_eq_true, decide_eq_true_eq, List.all_eq_true]
  refine ⟨⟨⟨⟨(nostrs_ok (nostrs_all h1)).1, h2⟩, h3⟩, .inl fun a ha => ?_⟩, h5⟩
  obtain ⟨x, r, rfl⟩ := h4 a ha
  rfl
theorem sortOk_enc {n : Nat} {L : List (List Int)} (F : FOk n L) (h : L.length ≤ LIM) : sortOk (L.map enc) = true := by
  refine sortOk_of (fun d hd => ?_) (by simpa using h) (fun a ha b hb => ?_) (fun a ha => ?_) fun a ha => ?_
  · obtain ⟨r, _, rfl⟩ := List.mem_map.mp hd; exact enc_nostr r
  · obtain ⟨r, _, rfl⟩ := List.mem_map.mp ha
    obtain ⟨q, _, rfl⟩ := List.mem_map.mp hb
    exact alike_enc r q
  · obtain ⟨r, hr, rfl⟩ := List.mem_map.mp ha
    have := F.one r hr
    cases r with
    | nil => exact absurd this List.not_mem_nil
    | cons x r => exact ⟨_, _, rfl⟩
  · obtain ⟨r, _, rfl⟩ := List.mem_map.mp ha
    exact Nat.le_trans (enc_dep r) (by decide)
theorem sortOk_enc2 {L : List (List Int)} (h : L.length ≤ LIM) : sortOk (L.map enc2) = true := by
  refine sortOk_of (fun d hd => ?_) (by simpa using h) (fun a ha b hb => ?_) (fun a ha => ?_) fun a ha => ?_
  · obtain ⟨r, _, rfl⟩ := List.mem_map.mp hd
    show (true && (nostr (enc r) && true)) = true
    rw [enc_nostr]; rfl
  · obtain ⟨r, _, rfl⟩ := List.mem_map.mp ha
    obtain ⟨q, _, rfl⟩ := List.mem_map.mp hb
    rw [py_enc2, py_enc2]
    simp [PySem.W.alike, PySem.W.alikeAll, alike_enc]
  · obtain ⟨r, hr, rfl⟩ := List.mem_map.mp ha
    exact ⟨_, _, rfl⟩
  · obtain ⟨r, _, rfl⟩ := List.mem_map.mp ha
    have := dep_tup (n := 1) (l := [D.int (r.idxOf 1 : Nat), enc r]) fun d hd => by
      rcases List.mem_cons.mp hd with rfl | hd
      · rw [dep_int]; omega
      · obtain rfl : d = enc r := by simpa using hd
        exact enc_dep r
    exact Nat.le_trans this (by decide)
/-- both tell the same base -/
theorem told_rows_ord {n : Nat} {rows : List (List Int)} {s : Src} (hn : n ≤ 1000) (hN : rows.length ≤ 1000) (hr : ∀ r ∈ rows, r.length = n ∧ bits r) (hF : FOk n (rows.foldl nxt [])) (hlen : (rows.foldl nxt []).length ≤ rows.length) :
    sem_told_rows [.tup (rows.map enc)] s = some (.tup ((ord (rows.foldl nxt [])).map enc), s) := by
  have hL := LIM_eq
  rw [← sort_rows]
  exact (told_rows_spec hn hN hr (sortOk_enc hF (by omega))).1
theorem fold_ok {n : Nat} : ∀ (rows found : List (List Int)), (∀ r ∈ rows, r.length = n ∧ bits r) → FOk n found → FOk n (rows.foldl nxt found) ∧ (rows.foldl nxt found).length ≤ found.length + rows.length := by
  intro rows
  induction rows with
  | nil => intro found _ F; exact ⟨F, by simp⟩
  | cons r rows ih =>
    intro found h F
    obtain ⟨h1, h2⟩ := h r (by simp)
    obtain ⟨a, b⟩ := ih (nxt found r) (fun q hq => h q (by simp [hq])) (nxt_ok F h1 h2)
    have := nxt_length found r
    refine ⟨a, ?_⟩
    simp only [List.foldl_cons, List.length_cons]
    omega
theorem leads_spec {n : Nat} {n0 : Int} {rows : List (List Int)} {s : Src} (hn : n ≤ 1000) (hN : rows.length ≤ 1000) (hr : ∀ r ∈ rows, r.length = n ∧ bits r) :
    sem_Llaw_leads [.int n0, .lst (rows.map enc)] s = some (.tup ((ord (rows.foldl nxt [])).map enc), s) := by
  have hL := LIM_eq
  obtain ⟨F, hlen⟩ := fold_ok rows [] hr (FOk.nil n)
  have hlen' : (rows.foldl nxt []).length ≤ LIM := by simp at hlen; omega
  have k1 := leads_fold (n0 := n0) (s := s) hn hN hr
  unfold leE at k1
  simp only [List.map_nil] at k1
  have ho : (ord (rows.foldl nxt [])).length ≤ LIM := by unfold ord; rw [List.length_mergeSort]; exact hlen'
  have e3 : loopC [4, 5] (ptT (ptCons (ptN 4) (ptCons (ptN 5) ptNil))) bYes (eVar 5) [some (.p (.int n0)), some (.p (.lst (rows.map enc))), some (.p (.lst ((rows.foldl nxt []).map enc2))), none, none, none, none] ((ord (rows.foldl nxt [])).map fun q => Itm.v (enc2 q)) s = some ((ord (rows.foldl nxt [])).map enc, s) := by
    refine loopC_all (fun q => Itm.v (enc2 q)) enc _ fun q hq => ⟨[some (.p (.int n0)), some (.p (.lst (rows.map enc))), some (.p (.lst ((rows.foldl nxt []).map enc2))), none, some (.p (.int (q.idxOf 1 : Nat))), some (.p (enc q)), none], rfl, rfl⟩
  unfold sem_Llaw_leads runDef g_Llaw_leads
  simp [start1, lenOk_nil, Function.comp_def, k1, gSrt, sortOk_enc2 hlen', sort_pairs F, ho, e3, gTup_lst]

/-! ### plain rows, plain codes -/
def encS (p : Int × Int) : D := enc [p.1, p.2]
def plainR (n : Nat) (p : Int × Int) : List Int := (List.range n).map fun k : Nat => if (k : Int) ∈ [p.1, p.2] then 1 else 0
theorem plainR_len (n : Nat) (p : Int × Int) : (plainR n p).length = n := by unfold plainR; simp
theorem plainR_bits (n : Nat) (p : Int × Int) : bits (plainR n p) := by
  intro x hx
  unfold plainR at hx
  obtain ⟨k, _, rfl⟩ := List.mem_map.mp hx
  split <;> simp
theorem rng_loop {us : List Nat} {i : Nat} {f : EE} {ρ : Env} {s : Src} (val : Int → D) (lo : Int) (n : Nat) (h : ∀ k : Nat, k < n → f ((wipeE ρ us).set i (some (.p (.int (lo + k))))) s = some (val (lo + k), s)) :
    loopC us (ptN i) bYes f ρ (rngD lo 1 n) s = some ((List.range n).map (fun k : Nat => val (lo + k)), s) := by
  have e : rngD lo 1 n = (List.range n).map fun k : Nat => Itm.v (.int (lo + k)) := by unfold rngD; simp
  rw [e]
  exact loopC_all (fun k : Nat => Itm.v (.int (lo + k))) (fun k : Nat => val (lo + k)) _ fun k hk => ⟨_, rfl, h k (List.mem_range.mp hk)⟩
theorem plain_row_spec {n : Nat} {p : Int × Int} {s : Src} (hn : n ≤ 1000) : sem_plain_row [.int n, encS p] s = some (enc (plainR n p), s) := by
  have hL := LIM_eq
  have e := rng_loop (us := [2]) (i := 2) (f := eCl gInt (aCons (Pv.e2 gIn (eVar 2) (eVar 1)) aNil)) (ρ := [some (.p (.int n)), some (.p (encS p)), none]) (s := s) (fun k => .int (if k ∈ [p.1, p.2] then 1 else 0)) 0 n fun k hk => by
    simp [encS, gIn_enc]
  have hr : r1 [.int (n : Int)] = some (rngD 0 1 n) := by
    have := r1_int (j := (n : Int)) (by omega)
    simpa using this
  have hl : (rngD 0 1 n).length ≤ LIM := by rw [rngD_length]; omega
  have e2 : (List.range n).map (fun k : Nat => D.int (if (0 + (k : Int)) ∈ [p.1, p.2] then 1 else 0)) = (plainR n p).map .int := by
    unfold plainR
    simp
  rw [e2] at e
  have h9 : (plainR n p).length ≤ LIM := by rw [plainR_len]; omega
  unfold sem_plain_row runDef g_plain_row
  simp [start1, hr, hl, e, gTup_lst, h9]
  rfl
theorem plain_fold (n : Nat) (L : List (Int × Int)) : ∀ r ∈ L.map (plainR n), r.length = n ∧ bits r := fun r hr => by
  obtain ⟨p, _, rfl⟩ := List.mem_map.mp hr
  exact ⟨plainR_len n p, plainR_bits n p⟩
def baseOf (n : Nat) (L : List (Int × Int)) : List (List Int) := ord ((L.map (plainR n)).foldl nxt [])
theorem plain_code_spec {n : Nat} {L : List (Int × Int)} {s : Src} (hn : n ≤ 1000) (hl : L.length ≤ 1000) : sem_plain_code [.int n, .tup (L.map encS)] s = some (.tup [.int n, .tup ((baseOf n L).map enc)], s) := by
  have hL := LIM_eq
  obtain ⟨F, hlen⟩ := fold_ok (L.map (plainR n)) [] (plain_fold n L) (FOk.nil n)
  have e : loopC [2] (ptN 2) bYes (eFn sem_plain_row (aCons (eVar 0) (aCons (eVar 2) aNil))) [some (.p (.int n)), some (.p (.tup (L.map encS))), none] (L.map fun p => Itm.v (encS p)) s = some (L.map (fun p => enc (plainR n p)), s) :=
    loopC_all (fun p => Itm.v (encS p)) (fun p => enc (plainR n p)) L fun p hp => ⟨_, rfl, by simp [plain_row_spec hn]⟩
  have e2 := told_rows_ord (s := s) hn (by simpa using hl) (plain_fold n L) F (by simpa using hlen)
  have e3 : (L.map (plainR n)).map enc = L.map fun p => enc (plainR n p) := by simp
  rw [e3] at e2
  have h2L : ∀ a b : D, lenOk [a, b] = some [a, b] := fun a b => lenOk_le (by simp; omega)
  have h9 : L.length ≤ LIM := by omega
  have e4 : sem_told_code [.tup [.int n, .tup (L.map fun p => enc (plainR n p))]] s = some (.tup [.int n, .tup ((baseOf n L).map enc)], s) := by
    have a0 : atI [D.int n, D.tup (L.map fun p => enc (plainR n p))] 0 = some (.int n) := rfl
    have a1 : atI [D.int n, D.tup (L.map fun p => enc (plainR n p))] 1 = some (D.tup (L.map fun p => enc (plainR n p))) := rfl
    unfold sem_told_code runDef g_told_code
    simp [start1, a0, a1, e2, h2L, baseOf]
  unfold sem_plain_code runDef g_plain_code
  simp [start1, Function.comp_def, h9, e, gTup_lst, h2L, e4]
/-! ### the free number -/
theorem ix0 (p : Int × Int) : gIx (encS p) (.int 0) = some (.int p.1) := rfl
theorem ix1 (p : Int × Int) : gIx (encS p) (.int 1) = some (.int p.2) := rfl
theorem lies_spec {p q : Int × Int} {s : Src} : sem_lies_within [encS p, encS q] s = some (.bl (decide (q.1 < p.1) && decide (p.2 < q.2)), s) := by
  unfold sem_lies_within runDef g_lies_within
  simp [start1, ix0, ix1]
  by_cases h : q.1 < p.1 <;> simp [h]
def inner (L : List (Int × Int)) (q : Int × Int) : List Int := (L.filter fun p => decide (q.1 < p.1) && decide (p.2 < q.2)).map (·.1)
def freeP (L : List (Int × Int)) (q : Int × Int) : List Int := ((List.range (q.2 - (q.1 + 1)).toNat).map fun k : Nat => q.1 + 1 + (k : Int)).filter fun x => !decide (x ∈ inner L q)
theorem free_places_spec {L : List (Int × Int)} {q : Int × Int} {s : Src} (hl : L.length ≤ 1000) (h1 : 0 ≤ q.1 ∧ q.1 ≤ 1000) (h2 : 0 ≤ q.2 ∧ q.2 ≤ 1000) : sem_free_places [.tup (L.map encS), encS q] s = some (.lst ((freeP L q).map .int), s) := by
  have hL := LIM_eq
  have e : loopC [3] (ptN 3) (bE (eFn sem_lies_within (aCons (eVar 3) (aCons (eVar 1) aNil)))) (Pv.e2 gIx (eVar 3) (eC (.int 0))) [some (.p (.tup (L.map encS))), some (.p (encS q)), none, none, none] (L.map fun p => Itm.v (encS p)) s = some ((inner L q).map .int, s) := by
    have := loopC_map (us := [3]) (p := ptN 3) (c := bE (eFn sem_lies_within (aCons (eVar 3) (aCons (eVar 1) aNil)))) (f := Pv.e2 gIx (eVar 3) (eC (.int 0))) (ρ := [some (.p (.tup (L.map encS))), some (.p (encS q)), none, none, none]) (s := s) (fun p => Itm.v (encS p)) (fun p => decide (q.1 < p.1) && decide (p.2 < q.2)) (fun p => .int p.1) L fun p hp => ⟨_, rfl, by simp [lies_spec], fun _ => by simp [ix0]⟩
    rw [this]
    simp [inner, Function.comp_def]
  have hr : r2 [.int (q.1 + 1), .int q.2] = some (rngD (q.1 + 1) 1 (q.2 - (q.1 + 1)).toNat) := r2_int (by omega) (by omega)
  have hlr : (rngD (q.1 + 1) 1 (q.2 - (q.1 + 1)).toNat).length ≤ LIM := by rw [rngD_length]; omega
  have e2 : loopC [4] (ptN 4) (bE (Pv.e2 gNotIn (eVar 4) (eVar 2))) (eVar 4) [some (.p (.tup (L.map encS))), some (.p (encS q)), some (.p (.lst ((inner L q).map .int))), none, none] (rngD (q.1 + 1) 1 (q.2 - (q.1 + 1)).toNat) s = some ((freeP L q).map .int, s) := by
    have e9 : rngD (q.1 + 1) 1 (q.2 - (q.1 + 1)).toNat = ((List.range (q.2 - (q.1 + 1)).toNat).map fun k : Nat => q.1 + 1 + (k : Int)).map fun x => Itm.v (.int x) := by unfold rngD; simp
    rw [e9]
    exact loopC_map (fun x : Int => Itm.v (.int x)) (fun x => !decide (x ∈ inner L q)) D.int _ fun x hx => ⟨_, rfl, by simp [gNotIn_lst], fun _ => by simp⟩
  unfold sem_free_places runDef g_free_places
  have h9 : L.length ≤ LIM := by omega
  simp [start1, Function.comp_def, h9, e, ix0, ix1, hr, hlr, e2]
theorem gSum_ints (r : List Int) : gSum [.lst (r.map .int)] = some (.int r.sum) := by
  show (intsD (r.map .int)).map (fun ns => D.int ns.sum) = _
  rw [intsD_map]; rfl
def freeN (L : List (Int × Int)) : Int := (L.map fun q => ((freeP L q).length : Int)).sum
theorem free_number_spec {n : Nat} {L : List (Int × Int)} {s : Src} (hl : L.length ≤ 1000) (h : ∀ q ∈ L, (0 ≤ q.1 ∧ q.1 ≤ 1000) ∧ 0 ≤ q.2 ∧ q.2 ≤ 1000) : sem_free_number [.int n, .tup (L.map encS)] s = some (.int (freeN L), s) := by
  have hL := LIM_eq
  have e : loopC [2] (ptN 2) bYes (eCl gLen (aCons (eFn sem_free_places (aCons (eVar 1) (aCons (eVar 2) aNil))) aNil)) [some (.p (.int n)), some (.p (.tup (L.map encS))), none] (L.map fun p => Itm.v (encS p)) s = some (L.map (fun q => D.int ((freeP L q).length : Int)), s) :=
    loopC_all (fun p => Itm.v (encS p)) (fun q => D.int ((freeP L q).length : Int)) L fun p hp => ⟨_, rfl, by
      have := free_places_spec (s := s) hl (h p hp).1 (h p hp).2
      simp [this]⟩
  have e2 : L.map (fun q => D.int ((freeP L q).length : Int)) = (L.map fun q => ((freeP L q).length : Int)).map .int := by simp
  have h9 : L.length ≤ LIM := by omega
  unfold sem_free_number runDef g_free_number
  have hs := gSum_ints (L.map fun q => ((freeP L q).length : Int))
  rw [← e2] at hs
  simp [start1, Function.comp_def, h9, e, hs, freeN]

/-! ### the law's free number -/
def lawTerm (L : List (Int × Int)) (q : Int × Int) : Int := q.2 - q.1 - 1 - ((L.filter fun p => decide (q.1 < p.1) && decide (p.2 < q.2)).length : Int)
theorem Llaw_free_spec {L : List (Int × Int)} {s : Src} (hl : L.length ≤ 1000) : sem_Llaw_free [.tup (L.map encS)] s = some (.int ((L.filter fun q => decide (q.1 < q.2)).map (lawTerm L)).sum, s) := by
  have hL := LIM_eq
  have h9 : L.length ≤ LIM := by omega
  have inn : ∀ q : Int × Int, loopC [3, 4] (ptT (ptCons (ptN 3) (ptCons (ptN 4) ptNil))) (bAnd (bE (Pv.e2 gLt (eVar 1) (eVar 3))) (bE (Pv.e2 gLt (eVar 4) (eVar 2)))) (eC (.int 1)) [some (.p (.tup (L.map encS))), some (.p (.int q.1)), some (.p (.int q.2)), none, none] (L.map fun p => Itm.v (encS p)) s = some ((L.filter fun p => decide (q.1 < p.1) && decide (p.2 < q.2)).map (fun _ => D.int 1), s) := fun q =>
    loopC_map (fun p => Itm.v (encS p)) (fun p => decide (q.1 < p.1) && decide (p.2 < q.2)) (fun _ => D.int 1) L fun p hp => ⟨[some (.p (.tup (L.map encS))), some (.p (.int q.1)), some (.p (.int q.2)), some (.p (.int p.1)), some (.p (.int p.2))], rfl, by by_cases z : q.1 < p.1 <;> simp [z], fun _ => rfl⟩
  have e : loopC [1, 2] (ptT (ptCons (ptN 1) (ptCons (ptN 2) ptNil))) (bE (Pv.e2 gGt (eVar 2) (eVar 1))) (Pv.e2 gSub (Pv.e2 gSub (Pv.e2 gSub (eVar 2) (eVar 1)) (eC (.int 1))) (eCl gLen (aCons (eF (fLc (iSeq (eVar 0)) [3, 4] (ptT (ptCons (ptN 3) (ptCons (ptN 4) ptNil))) (bAnd (bE (Pv.e2 gLt (eVar 1) (eVar 3))) (bE (Pv.e2 gLt (eVar 4) (eVar 2)))) (eC (.int 1)))) aNil))) [some (.p (.tup (L.map encS))), none, none, none, none] (L.map fun p => Itm.v (encS p)) s = some ((L.filter fun q => decide (q.1 < q.2)).map (fun q => D.int (lawTerm L q)), s) := by
    refine loopC_map (fun p => Itm.v (encS p)) (fun q => decide (q.1 < q.2)) (fun q => D.int (lawTerm L q)) L fun q hq => ⟨[some (.p (.tup (L.map encS))), some (.p (.int q.1)), some (.p (.int q.2)), none, none], rfl, by simp, fun _ => ?_⟩
    have := inn q
    simp [Function.comp_def, h9, this, lawTerm]
  have hs := gSum_ints ((L.filter fun q => decide (q.1 < q.2)).map (lawTerm L))
  have e2 : ((L.filter fun q => decide (q.1 < q.2)).map (lawTerm L)).map D.int = (L.filter fun q => decide (q.1 < q.2)).map (fun q => D.int (lawTerm L q)) := by simp
  rw [e2] at hs
  unfold sem_Llaw_free runDef g_Llaw_free
  simp [start1, Function.comp_def, h9, e, hs]
structure LotOk (n : Nat) (L : List (Int × Int)) : Prop where
  rng : ∀ p ∈ L, 0 ≤ p.1 ∧ p.1 ≤ p.2 ∧ p.2 < n
  nf : (L.map (·.1)).Nodup
  nl : (L.map (·.2)).Nodup
theorem filt_add (f : Int → Bool) : ∀ l : List Int, (l.filter f).length + (l.filter fun x => !f x).length = l.length
  | [] => rfl
  | x :: l => by
    have := filt_add f l
    by_cases h : f x = true
    · simp [h]; omega
    · simp [h]; omega
theorem count_out {l : List Int} {m : List Int} (hm : m.Nodup) (hl : l.Nodup) (h : ∀ x ∈ m, x ∈ l) : ((l.filter fun x => !decide (x ∈ m)).length : Int) = l.length - m.length := by
  have h1 : (l.filter fun x => decide (x ∈ m)).Perm m := by
    refine (List.perm_ext_iff_of_nodup (hl.filter _) hm).mpr fun x => ?_
    simp only [List.mem_filter, decide_eq_true_eq]
    exact ⟨fun z => z.2, fun z => ⟨h x z, z⟩⟩
  have h2 := h1.length_eq
  have h3 := filt_add (fun x => decide (x ∈ m)) l
  omega
theorem free_term {n : Nat} {L : List (Int × Int)} (O : LotOk n L) {q : Int × Int} (hq : q ∈ L) : ((freeP L q).length : Int) = if q.1 < q.2 then lawTerm L q else 0 := by
  obtain ⟨q1, q2, q3⟩ := O.rng q hq
  split
  · rename_i h
    have hn : ((List.range (q.2 - (q.1 + 1)).toNat).map fun k : Nat => q.1 + 1 + (k : Int)).Nodup := by
      refine List.Pairwise.map _ (R := fun a b => a ≠ b) (fun a b hab => ?_) List.nodup_range
      omega
    have hi : (inner L q).Nodup := by
      unfold inner
      exact O.nf.sublist ((List.filter_sublist).map _)
    have key := count_out hi hn fun x hx => by
      unfold inner at hx
      obtain ⟨p, hp, rfl⟩ := List.mem_map.mp hx
      obtain ⟨hp, hc⟩ := List.mem_filter.mp hp
      simp only [Bool.and_eq_true, decide_eq_true_eq] at hc
      obtain ⟨p1, p2, p3⟩ := O.rng p hp
      refine List.mem_map.mpr ⟨(p.1 - (q.1 + 1)).toNat, List.mem_range.mpr (by omega), by omega⟩
    unfold freeP
    rw [key]
    unfold lawTerm inner
    simp only [List.length_map, List.length_range]
    omega
  · rename_i h
    have e : (q.2 - (q.1 + 1)).toNat = 0 := by omega
    unfold freeP
    rw [e]
    simp
theorem free_eq {n : Nat} {L : List (Int × Int)} (O : LotOk n L) : freeN L = ((L.filter fun q => decide (q.1 < q.2)).map (lawTerm L)).sum := by
  unfold freeN
  have : ∀ M : List (Int × Int), (∀ q ∈ M, q ∈ L) → (M.map fun q => ((freeP L q).length : Int)).sum = ((M.filter fun q => decide (q.1 < q.2)).map (lawTerm L)).sum := by
    intro M
    induction M with
    | nil => intro _; rfl
    | cons q M ih =>
      intro h
      rw [List.map_cons, List.sum_cons, ih fun p hp => h p (by simp [hp]), free_term O (h q (by simp))]
      by_cases z : q.1 < q.2
      · simp [z]
      · simp [z]
  exact this L fun _ h => h

/-! ### drawn lots -/
def pOk (n : Nat) (p : Int × Int) : Prop := 0 ≤ p.1 ∧ p.1 ≤ p.2 ∧ p.2 < n
theorem pairs_spec {n : Nat} {s : Src} (hn : n ≤ 1000) : ∃ P : List (Int × Int), sem_Llaw_pairs [.int n] s = some (.lst (P.map encS), s) ∧ (∀ p ∈ P, pOk n p) ∧ P.length ≤ n * n ∧ (0 < n → P ≠ []) := by
  have hL := LIM_eq
  have h2L : ∀ a b : D, lenOk [a, b] = some [a, b] := fun a b => lenOk_le (by simp; omega)
  have hnn : n * n ≤ 1000 * 1000 := Nat.mul_le_mul hn hn
  obtain ⟨k1, k2⟩ := loopF_n (p := ptN 2) (b := (sSet 1 (oV (Pv.e2 gAdd (eVar 1) (eF (fLc (iRng r2 (aCons (eVar 2) (aCons (eVar 0) aNil))) [3] (ptN 3) bYes (eTup (aCons (eVar 2) (aCons (eVar 3) aNil))))))))) (ws := [2]) (s := s) (fun x : Nat => Itm.v (.int (x : Int)))
    (fun f : List (Int × Int) => [some (.p (.int n)), some (.p (.lst (f.map encS))), none, none]) (fun f x => f ++ (List.range (n - x)).map fun k : Nat => ((x : Int), (x : Int) + k)) (fun k f => (f.length ≤ k * n ∧ (0 < k → f ≠ [])) ∧ ∀ p ∈ f, pOk n p) n (List.range n) (fun k f x hx hk hI => by
      have hx := List.mem_range.mp hx
      obtain ⟨hf, hp⟩ := hI
      have hkn : (k + 1) * n ≤ n * n := Nat.mul_le_mul (by omega) (Nat.le_refl _)
      have hk1 : (k + 1) * n = k * n + n := by rw [Nat.succ_mul]
      have hf := hf.1
      refine ⟨⟨⟨by simp; omega, fun _ z => by have := congrArg List.length z; simp at this; omega⟩, fun p h => ?_⟩, [some (.p (.int n)), some (.p (.lst (f.map encS))), some (.p (.int x)), none], [some (.p (.int n)), some (.p (.lst ((f ++ (List.range (n - x)).map fun k : Nat => ((x : Int), (x : Int) + k)).map encS))), some (.p (.int x)), none], rfl, ?_, rfl⟩
      · rcases List.mem_append.mp h with h | h
        · exact hp p h
        · obtain ⟨j, hj, rfl⟩ := List.mem_map.mp h
          have := List.mem_range.mp hj
          exact ⟨by simp, (show (x : Int) ≤ x + j by omega), (show (x : Int) + j < n by omega)⟩
      · have hr : r2 [.int (x : Int), .int (n : Int)] = some (rngD x 1 (n - x)) := by
          have := r2_int (i := (x : Int)) (j := (n : Int)) (by omega) (by omega)
          rw [this]; congr 2; omega
        have hlr : (rngD (x : Int) 1 (n - x)).length ≤ LIM := by rw [rngD_length]; omega
        have e := rng_loop (us := [3]) (i := 3) (f := eTup (aCons (eVar 2) (aCons (eVar 3) aNil))) (ρ := [some (.p (.int n)), some (.p (.lst (f.map encS))), some (.p (.int x)), none]) (s := s) (fun y => encS (x, y)) x (n - x) fun k hk => by
          simp [h2L, encS, enc]
        have hg : gAdd (.lst (f.map encS)) (.lst ((List.range (n - x)).map fun k : Nat => encS ((x : Int), (x : Int) + k))) = some (.lst ((f ++ (List.range (n - x)).map fun k : Nat => ((x : Int), (x : Int) + k)).map encS)) := by
          rw [gAdd_l (by simp; omega)]
          simp [Function.comp_def]
        simp [hr, hlr, e, hg]) 0 [] (by simp) ⟨⟨by simp, fun z => absurd z (by omega)⟩, fun _ h => absurd h List.not_mem_nil⟩
  simp only [List.length_range, Nat.zero_add] at k2
  refine ⟨_, ?_, k2.2, k2.1⟩
  have hr : r1 [.int (n : Int)] = some ((List.range n).map fun x : Nat => Itm.v (.int (x : Int))) := by
    have := r1_int (j := (n : Int)) (by omega)
    rw [this]
    unfold rngD
    simp
  simp only [List.map_nil] at k1
  unfold sem_Llaw_pairs runDef g_Llaw_pairs
  simp [start1, lenOk_nil, hr, k1]
theorem lift_list {Q : Int × Int → Prop} : ∀ {l : List D}, (∀ d ∈ l, ∃ p, Q p ∧ d = encS p) → ∃ M : List (Int × Int), l = M.map encS ∧ ∀ p ∈ M, Q p
  | [], _ => ⟨[], rfl, fun _ h => absurd h List.not_mem_nil⟩
  | d :: l, h => by
    obtain ⟨p, hp, rfl⟩ := h d (by simp)
    obtain ⟨M, rfl, hM⟩ := lift_list (l := l) fun d hd => h d (by simp [hd])
    exact ⟨p :: M, rfl, fun q hq => by
      rcases List.mem_cons.mp hq with rfl | hq
      · exact hp
      · exact hM q hq⟩
theorem cutG_map {α β : Type} (f : α → β) (l : List α) (a b : Option Int) : cutG (l.map f) a b = (cutG l a b).map f := by
  unfold cutG
  simp
theorem cutG_mem {α : Type} {l : List α} {a b : Option Int} {x : α} (h : x ∈ cutG l a b) : x ∈ l := by
  unfold cutG at h
  exact List.mem_of_mem_drop (List.mem_of_mem_take h)
theorem cutG_length {α : Type} (l : List α) (a b : Option Int) : (cutG l a b).length ≤ l.length := by
  unfold cutG
  rw [List.length_take, List.length_drop]
  omega
/-- a pair taken if its places are free -/
def takeP (f : List (Int × Int)) (p : Int × Int) : List (Int × Int) := if (f.filter fun q => decide (q.1 = p.1) || decide (q.2 = p.2)) = [] then f ++ [p] else f
theorem takeP_length (f : List (Int × Int)) (p : Int × Int) : (takeP f p).length ≤ f.length + 1 := by
  unfold takeP
  split
  · simp
  · omega
theorem takeP_ok {n : Nat} {f : List (Int × Int)} {p : Int × Int} (O : LotOk n f) (h : pOk n p) : LotOk n (takeP f p) := by
  unfold takeP
  split
  · rename_i hf
    rw [List.filter_eq_nil_iff] at hf
    have hq : ∀ q ∈ f, q.1 ≠ p.1 ∧ q.2 ≠ p.2 := fun q hq => by
      have := hf q hq
      simp only [Bool.or_eq_true, decide_eq_true_eq, not_or] at this
      exact this
    refine ⟨fun q hq => ?_, ?_, ?_⟩
    · rcases List.mem_append.mp hq with hq | hq
      · exact O.rng q hq
      · obtain rfl : q = p := by simpa using hq
        exact h
    · rw [List.map_append, List.nodup_append]
      refine ⟨O.nf, by simp, fun a ha b hb => ?_⟩
      obtain ⟨q, hq', rfl⟩ := List.mem_map.mp ha
      obtain rfl : b = p.1 := by simpa using hb
      exact (hq q hq').1
    · rw [List.map_append, List.nodup_append]
      refine ⟨O.nl, by simp, fun a ha b hb => ?_⟩
      obtain ⟨q, hq', rfl⟩ := List.mem_map.mp ha
      obtain rfl : b = p.2 := by simpa using hb
      exact (hq q hq').2
  · exact O
theorem sortOk_encS {L : List (Int × Int)} (h : L.length ≤ LIM) : sortOk (L.map encS) = true := by
  refine sortOk_of (fun d hd => ?_) (by simpa using h) (fun a ha b hb => ?_) (fun a ha => ?_) fun a ha => ?_
  · obtain ⟨r, _, rfl⟩ := List.mem_map.mp hd; exact enc_nostr _
  · obtain ⟨r, _, rfl⟩ := List.mem_map.mp ha
    obtain ⟨q, _, rfl⟩ := List.mem_map.mp hb
    exact alike_enc _ _
  · obtain ⟨r, hr, rfl⟩ := List.mem_map.mp ha
    exact ⟨_, _, rfl⟩
  · obtain ⟨r, _, rfl⟩ := List.mem_map.mp ha
    exact Nat.le_trans (enc_dep _) (by decide)
def sortP (L : List (Int × Int)) : List (Int × Int) := L.mergeSort fun a b => PySem.W.dataLe false py (encS a) (encS b)
theorem sortP_eq (L : List (Int × Int)) : sortD false (L.map encS) = (sortP L).map encS := by
  unfold sortD sortP
  exact (PySem.W.sort_maps encS fun a _ b _ => rfl).symm
theorem sortP_perm (L : List (Int × Int)) : (sortP L).Perm L := List.mergeSort_perm _ _
theorem LotOk.perm {n : Nat} {L M : List (Int × Int)} (O : LotOk n L) (h : M.Perm L) : LotOk n M :=
  ⟨fun p hp => O.rng p (h.mem_iff.mp hp), (h.map _).nodup_iff.mpr O.nf, (h.map _).nodup_iff.mpr O.nl⟩
theorem gEq_ones {α : Type} (l : List α) : gEq (.lst (l.map fun _ => D.int 1)) (.lst []) = some (.bl (decide (l = []))) := by
  have e : (l.map fun _ => D.int 1) = (l.map fun _ => (1 : Int)).map .int := by simp
  rw [e]
  show gEqD _ (.lst (([] : List Int).map .int)) = _
  unfold gEqD
  rw [if_pos ⟨lst_ok _, lst_ok _⟩]
  simp only [py, pys_ints, PyData.eqv, eqv_ints]
  cases l <;> simp
theorem Llaw_lot_spec {n : Nat} {s : Src} (hs : Cok s) (hn : n ≤ 100) : ∃ L s', sem_Llaw_lot [.src, .int n] s = some (.tup (L.map encS), s') ∧ Cok s' ∧ LotOk n L ∧ L.length ≤ 10000 := by
  have hL := LIM_eq
  obtain ⟨P, eP, hP, lP, _⟩ := pairs_spec (n := n) (s := s) (by omega)
  have hnn : n * n ≤ 100 * 100 := Nat.mul_le_mul hn hn
  obtain ⟨out, s1, e1, c1, pm⟩ := mixed_spec (s := s) (l := P.map encS) hs (by simp; omega)
  obtain ⟨M, rfl, hM⟩ := lift_list (Q := pOk n) (l := out) fun d hd => by
    obtain ⟨p, hp, rfl⟩ := List.mem_map.mp (pm.mem_iff.mp hd)
    exact ⟨p, hP p hp, rfl⟩
  have lM : M.length ≤ 10000 := by have := pm.length_eq; simp at this; omega
  obtain ⟨r, s2, e2, c2, _, _⟩ := pick_spec (s := s1) (m := 3 * (n : Int)) c1 (by omega)
  have hmul : gMulI (.int 3) (.int n) = some (.int (3 * n)) := gMulI_i (by unfold cMul; simp)
  have lC := cutG_length M none (some r)
  obtain ⟨k1, k2⟩ := loopF_n (p := ptN 3) (b := (sIf (bE (Pv.e2 gEq (eF (fLc (iSeq (eBor 2)) [4, 5] (ptT (ptCons (ptN 4) (ptCons (ptN 5) ptNil))) (bOr (bE (Pv.e2 gEq (eVar 4) (Pv.e2 gIx (eVar 3) (eC (.int 0))))) (bE (Pv.e2 gEq (eVar 5) (Pv.e2 gIx (eVar 3) (eC (.int 1)))))) (eC (.int 1)))) (eF (fLst aNil)))) (sApp 2 (eVar 3)) sNil)) (ws := [3]) (s := s2) (fun p : Int × Int => Itm.v (encS p))
    (fun f : List (Int × Int) => [some (.p .src), some (.p (.int n)), some (.ol (f.map encS)), none, none, none]) takeP (fun k f => f.length ≤ k ∧ LotOk n f) 10000 (cutG M none (some r)) (fun k f p hp hk hI => by
      obtain ⟨hf, O⟩ := hI
      have hp' : pOk n p := hM p (cutG_mem hp)
      refine ⟨⟨by have := takeP_length f p; omega, takeP_ok O hp'⟩, [some (.p .src), some (.p (.int n)), some (.ol (f.map encS)), some (.p (encS p)), none, none], [some (.p .src), some (.p (.int n)), some (.ol ((takeP f p).map encS)), some (.p (encS p)), none, none], rfl, ?_, rfl⟩
      have e : loopC [4, 5] (ptT (ptCons (ptN 4) (ptCons (ptN 5) ptNil))) (bOr (bE (Pv.e2 gEq (eVar 4) (Pv.e2 gIx (eVar 3) (eC (.int 0))))) (bE (Pv.e2 gEq (eVar 5) (Pv.e2 gIx (eVar 3) (eC (.int 1)))))) (eC (.int 1)) [some (.p .src), some (.p (.int n)), some (.ol (f.map encS)), some (.p (encS p)), none, none] (f.map fun q => Itm.v (encS q)) s2 = some ((f.filter fun q => decide (q.1 = p.1) || decide (q.2 = p.2)).map (fun _ => D.int 1), s2) :=
        loopC_map (fun q => Itm.v (encS q)) (fun q => decide (q.1 = p.1) || decide (q.2 = p.2)) (fun _ => D.int 1) f fun q hq => ⟨[some (.p .src), some (.p (.int n)), some (.ol (f.map encS)), some (.p (encS p)), some (.p (.int q.1)), some (.p (.int q.2))], rfl, by by_cases z : q.1 = p.1 <;> simp [z, ix0, ix1, gEq_i], fun _ => rfl⟩
      have hfl : f.length ≤ LIM := by omega
      have hfl2 : f.length < LIM := by omega
      by_cases z : (f.filter fun q => decide (q.1 = p.1) || decide (q.2 = p.2)) = []
      · have ht : takeP f p = f ++ [p] := by unfold takeP; rw [if_pos z]
        rw [ht]
        have hg := gEq_ones (f.filter fun q => decide (q.1 = p.1) || decide (q.2 = p.2))
        rw [z] at hg e
        simp [Function.comp_def, hfl, e, lenOk_nil, hg, hfl2]
        simp at hg
        simp [hg, hfl2]
      · have ht : takeP f p = f := by unfold takeP; rw [if_neg z]
        rw [ht]
        have hg := gEq_ones (f.filter fun q => decide (q.1 = p.1) || decide (q.2 = p.2))
        rw [decide_eq_false z] at hg
        simp [Function.comp_def, hfl, e, lenOk_nil, hg]) 0 [] (by omega) ⟨by simp, ⟨fun _ h => absurd h List.not_mem_nil, by simp, by simp⟩⟩
  have hfin : ((cutG M none (some r)).foldl takeP []).length ≤ 10000 := by have := k2.1; omega
  refine ⟨sortP ((cutG M none (some r)).foldl takeP []), s2, ?_, c2, k2.2.perm (sortP_perm _), by rw [(sortP_perm _).length_eq]; exact hfin⟩
  have hso := sortOk_encS (L := (cutG M none (some r)).foldl takeP []) (by omega)
  have hl3 : (sortP ((cutG M none (some r)).foldl takeP [])).length ≤ LIM := by rw [(sortP_perm _).length_eq]; omega
  have e1' : sem_Llaw_mixed [.src, .lst (P.map encS)] s = some (.lst (M.map encS), s1) := e1
  have e2' : sem_Llaw_pick [.src, .int (3 * n)] s1 = some (.int r, s2) := e2
  simp only [List.map_nil] at k1
  unfold sem_Llaw_lot runDef g_Llaw_lot
  simp [start1, lenOk_nil, eP, e1', hmul, e2', cutD, cutG_map, Function.comp_def, k1, gSrt, hso, sortP_eq, gTup_lst, hl3]
end Pv.K41

set_option Elab.async false
set_option linter.all false
set_option maxRecDepth 100000
set_option maxHeartbeats 1000000
namespace Pv.K41
open PySem PySem.Spec L2 Pv
open PyProof.Rows hiding St

/-! ### places -/
def placeB (n : Int) : D → Bool
  | .int x => decide (0 ≤ x) && decide (x < n)
  | _ => false
def isSrc : D → Bool
  | .src => true
  | _ => false
theorem place_spec {n : Int} {d : D} {s : Src} (h : isSrc d = false) : sem_is_place [.int n, d] s = some (.bl (placeB n d), s) := by
  unfold sem_is_place runDef g_is_place
  cases d <;> first | (cases h; done) | simp [start1, gIsi, tyN, fInt, placeB]
  rename_i i
  by_cases h1 : 0 ≤ i <;> simp [h1]
theorem is_int_spec {n : Int} {d : D} {s : Src} (h : isSrc d = false) : sem_Llaw_is_int [d, .int n] s = some (.bl (placeB n d), s) := by
  unfold sem_Llaw_is_int runDef g_Llaw_is_int
  cases d <;> first | (cases h; done) | simp [start1, gIsi, tyN, fInt, placeB]
  rename_i i
  by_cases h1 : 0 ≤ i <;> simp [h1]
/-- whether an item is a span -/
def chk (n : Int) : D → Bool
  | .tup [.int x, .int y] => (decide (0 ≤ x) && decide (x < n)) && (decide (0 ≤ y) && decide (y < n)) && decide (x ≤ y)
  | _ => false
/-- no drawing dict within reach -/
def goodI : D → Bool
  | .src => false
  | .tup [a, b] => !isSrc a && !isSrc b
  | _ => true
theorem loop_check {p : Pt} {b : SS} {ws : List Nat} {ρ : Env} {s : Src} (chk good : D → Bool) : ∀ ds : List D, (∀ d ∈ ds, good d = true) →
    (∀ d, good d = true → ∃ ρ1, p (.v d) ρ = some ρ1 ∧ (chk d = true → ∃ ρ2, b ρ1 s = some (.nx, ρ2, s) ∧ wipeE ρ2 ws = ρ) ∧ (chk d = false → ∃ ρ2, b ρ1 s = some (.ret (.bl false), ρ2, s))) →
    (ds.all chk = true → loopF p b ws (ds.map .v) ρ s = some (.nx, ρ, s)) ∧ (ds.all chk = false → ∃ ρ', loopF p b ws (ds.map .v) ρ s = some (.ret (.bl false), ρ', s)) := by
  intro ds hg h
  induction ds with
  | nil => exact ⟨fun _ => rfl, fun z => by simp at z⟩
  | cons d ds ih =>
    obtain ⟨ρ1, e1, a, c⟩ := h d (hg d (by simp))
    obtain ⟨i1, i2⟩ := ih fun x hx => hg x (by simp [hx])
    cases hc : chk d with
    | true =>
      obtain ⟨ρ2, e2, e3⟩ := a hc
      constructor
      · intro z
        rw [List.map_cons]
        unfold loopF
        rw [e1]
        simp only [Option.bind_some, e2, e3]
        exact i1 (by simpa [hc] using z)
      · intro z
        rw [List.map_cons]
        unfold loopF
        rw [e1]
        simp only [Option.bind_some, e2, e3]
        exact i2 (by rw [List.all_cons, hc, Bool.true_and] at z; exact z)
    | false =>
      obtain ⟨ρ2, e2⟩ := c hc
      refine ⟨(fun z => by rw [List.all_cons, hc] at z; cases z), fun _ => ⟨ρ2, ?_⟩⟩
      rw [List.map_cons]
      unfold loopF
      rw [e1]
      simp only [Option.bind_some, e2]
theorem at2_0 (a b : D) : atI [a, b] 0 = some a := rfl
theorem at2_1 (a b : D) : atI [a, b] 1 = some b := rfl
theorem body1 {n : Int} {v d : D} {s : Src} (h : goodI d = true) : ∃ ρ1, ptN 2 (.v d) [some (.p (.int n)), some (.p v), none, none, none] = some ρ1 ∧
    (chk n d = true → ∃ ρ2, (sSeq (sIf (bOr (bNot (bE (Pv.e1 (gIsi (· == "tuple")) (eVar 2)))) (bOr (bE (Pv.e2 gNe (eCl gLen (aCons (eVar 2) aNil)) (eC (.int 2)))) (bOr (bNot (bE (eFn sem_is_place (aCons (eVar 0) (aCons (Pv.e2 gIx (eVar 2) (eC (.int 0))) aNil))))) (bNot (bE (eFn sem_is_place (aCons (eVar 0) (aCons (Pv.e2 gIx (eVar 2) (eC (.int 1))) aNil)))))))) (sRet (eC (.bl false))) sNil) (sIf (bE (Pv.e2 gGt (Pv.e2 gIx (eVar 2) (eC (.int 0))) (Pv.e2 gIx (eVar 2) (eC (.int 1))))) (sRet (eC (.bl false))) sNil)) ρ1 s = some (.nx, ρ2, s) ∧ wipeE ρ2 [2] = [some (.p (.int n)), some (.p v), none, none, none]) ∧
    (chk n d = false → ∃ ρ2, (sSeq (sIf (bOr (bNot (bE (Pv.e1 (gIsi (· == "tuple")) (eVar 2)))) (bOr (bE (Pv.e2 gNe (eCl gLen (aCons (eVar 2) aNil)) (eC (.int 2)))) (bOr (bNot (bE (eFn sem_is_place (aCons (eVar 0) (aCons (Pv.e2 gIx (eVar 2) (eC (.int 0))) aNil))))) (bNot (bE (eFn sem_is_place (aCons (eVar 0) (aCons (Pv.e2 gIx (eVar 2) (eC (.int 1))) aNil)))))))) (sRet (eC (.bl false))) sNil) (sIf (bE (Pv.e2 gGt (Pv.e2 gIx (eVar 2) (eC (.int 0))) (Pv.e2 gIx (eVar 2) (eC (.int 1))))) (sRet (eC (.bl false))) sNil)) ρ1 s = some (.ret (.bl false), ρ2, s)) := by
  refine ⟨_, rfl, ?_⟩
  cases d with
  | src => cases h
  | tup l =>
    rcases l with _ | ⟨a, _ | ⟨b, _ | ⟨c, r⟩⟩⟩
    · exact ⟨(fun z => by cases z), fun _ => ⟨_, by simp [gIsi, tyN, gNe_i]; rfl⟩⟩
    · exact ⟨(fun z => by simp [chk] at z), fun _ => ⟨_, by simp [gIsi, tyN, gNe_i]; rfl⟩⟩
    · have ha : isSrc a = false := by simp only [goodI, Bool.and_eq_true, Bool.not_eq_true'] at h; exact h.1
      have hb : isSrc b = false := by simp only [goodI, Bool.and_eq_true, Bool.not_eq_true'] at h; exact h.2
      have pa := place_spec (n := n) (s := s) ha
      have pb := place_spec (n := n) (s := s) hb
      cases h1 : placeB n a with
      | false =>
        rw [h1] at pa
        refine ⟨fun z => ?_, fun _ => ⟨_, by simp [gIsi, tyN, gNe_i, at2_0, at2_1, pa]; rfl⟩⟩
        cases a <;> cases b <;> simp [chk, placeB] at z h1
        omega
      | true =>
        cases h2 : placeB n b with
        | false =>
          rw [h1] at pa
          rw [h2] at pb
          refine ⟨fun z => ?_, fun _ => ⟨_, by simp [gIsi, tyN, gNe_i, at2_0, at2_1, pa, pb]; rfl⟩⟩
          cases a <;> cases b <;> simp [chk, placeB] at z h2
          omega
        | true =>
          cases a <;> simp [placeB] at h1
          cases b <;> simp [placeB] at h2
          rename_i x y
          rw [show placeB n (.int x) = true by simp [placeB, h1]] at pa
          rw [show placeB n (.int y) = true by simp [placeB, h2]] at pb
          by_cases hxy : x ≤ y
          · refine ⟨fun _ => ⟨_, by simp [gIsi, tyN, gNe_i, at2_0, at2_1, pa, pb, show ¬ y < x by omega]; rfl, rfl⟩, fun z => ?_⟩
            simp [chk, h1, h2, hxy] at z
          · refine ⟨fun z => ?_, fun _ => ⟨_, by simp [gIsi, tyN, gNe_i, at2_0, at2_1, pa, pb, show y < x by omega]; rfl⟩⟩
            simp [chk, h1, h2, hxy] at z
    · exact ⟨(fun z => by simp [chk] at z), fun _ => ⟨_, by simp [gIsi, tyN, gNe_i, show ¬ ((r.length : Int) + 1 + 1 + 1 = 2) by omega]; rfl⟩⟩
  | _ => exact ⟨(fun z => by cases z), fun _ => ⟨_, by simp [gIsi, tyN]; rfl⟩⟩
theorem body2 {n : Int} {v d : D} {s : Src} (h : goodI d = true) : ∃ ρ1, ptN 2 (.v d) [some (.p (.int n)), some (.p v), none, none, none] = some ρ1 ∧
    (chk n d = true → ∃ ρ2, (sSeq (sIf (bOr (bNot (bE (Pv.e1 (gIsi (· == "tuple")) (eVar 2)))) (bOr (bE (Pv.e2 gNe (eCl gLen (aCons (eVar 2) aNil)) (eC (.int 2)))) (bOr (bNot (bE (eFn sem_Llaw_is_int (aCons (Pv.e2 gIx (eVar 2) (eC (.int 0))) (aCons (eVar 0) aNil))))) (bNot (bE (eFn sem_Llaw_is_int (aCons (Pv.e2 gIx (eVar 2) (eC (.int 1))) (aCons (eVar 0) aNil)))))))) (sRet (eC (.bl false))) sNil) (sIf (bE (Pv.e2 gGt (Pv.e2 gIx (eVar 2) (eC (.int 0))) (Pv.e2 gIx (eVar 2) (eC (.int 1))))) (sRet (eC (.bl false))) sNil)) ρ1 s = some (.nx, ρ2, s) ∧ wipeE ρ2 [2] = [some (.p (.int n)), some (.p v), none, none, none]) ∧
    (chk n d = false → ∃ ρ2, (sSeq (sIf (bOr (bNot (bE (Pv.e1 (gIsi (· == "tuple")) (eVar 2)))) (bOr (bE (Pv.e2 gNe (eCl gLen (aCons (eVar 2) aNil)) (eC (.int 2)))) (bOr (bNot (bE (eFn sem_Llaw_is_int (aCons (Pv.e2 gIx (eVar 2) (eC (.int 0))) (aCons (eVar 0) aNil))))) (bNot (bE (eFn sem_Llaw_is_int (aCons (Pv.e2 gIx (eVar 2) (eC (.int 1))) (aCons (eVar 0) aNil)))))))) (sRet (eC (.bl false))) sNil) (sIf (bE (Pv.e2 gGt (Pv.e2 gIx (eVar 2) (eC (.int 0))) (Pv.e2 gIx (eVar 2) (eC (.int 1))))) (sRet (eC (.bl false))) sNil)) ρ1 s = some (.ret (.bl false), ρ2, s)) := by
  refine ⟨_, rfl, ?_⟩
  cases d with
  | src => cases h
  | tup l =>
    rcases l with _ | ⟨a, _ | ⟨b, _ | ⟨c, r⟩⟩⟩
    · exact ⟨(fun z => by cases z), fun _ => ⟨_, by simp [gIsi, tyN, gNe_i]; rfl⟩⟩
    · exact ⟨(fun z => by simp [chk] at z), fun _ => ⟨_, by simp [gIsi, tyN, gNe_i]; rfl⟩⟩
    · have ha : isSrc a = false := by simp only [goodI, Bool.and_eq_true, Bool.not_eq_true'] at h; exact h.1
      have hb : isSrc b = false := by simp only [goodI, Bool.and_eq_true, Bool.not_eq_true'] at h; exact h.2
      have pa := is_int_spec (n := n) (s := s) ha
      have pb := is_int_spec (n := n) (s := s) hb
      cases h1 : placeB n a with
      | false =>
        rw [h1] at pa
        refine ⟨fun z => ?_, fun _ => ⟨_, by simp [gIsi, tyN, gNe_i, at2_0, at2_1, pa]; rfl⟩⟩
        cases a <;> cases b <;> simp [chk, placeB] at z h1
        omega
      | true =>
        cases h2 : placeB n b with
        | false =>
          rw [h1] at pa
          rw [h2] at pb
          refine ⟨fun z => ?_, fun _ => ⟨_, by simp [gIsi, tyN, gNe_i, at2_0, at2_1, pa, pb]; rfl⟩⟩
          cases a <;> cases b <;> simp [chk, placeB] at z h2
          omega
        | true =>
          cases a <;> simp [placeB] at h1
          cases b <;> simp [placeB] at h2
          rename_i x y
          rw [show placeB n (.int x) = true by simp [placeB, h1]] at pa
          rw [show placeB n (.int y) = true by simp [placeB, h2]] at pb
          by_cases hxy : x ≤ y
          · refine ⟨fun _ => ⟨_, by simp [gIsi, tyN, gNe_i, at2_0, at2_1, pa, pb, show ¬ y < x by omega]; rfl, rfl⟩, fun z => ?_⟩
            simp [chk, h1, h2, hxy] at z
          · refine ⟨fun z => ?_, fun _ => ⟨_, by simp [gIsi, tyN, gNe_i, at2_0, at2_1, pa, pb, show y < x by omega]; rfl⟩⟩
            simp [chk, h1, h2, hxy] at z
    · exact ⟨(fun z => by simp [chk] at z), fun _ => ⟨_, by simp [gIsi, tyN, gNe_i, show ¬ ((r.length : Int) + 1 + 1 + 1 = 2) by omega]; rfl⟩⟩
  | _ => exact ⟨(fun z => by cases z), fun _ => ⟨_, by simp [gIsi, tyN]; rfl⟩⟩

/-! ### sorted lists, no number twice -/
def dd {α : Type} [DecidableEq α] (acc : List α) (x : α) : List α := if x ∈ acc then acc else acc ++ [x]
theorem dd_length {α : Type} [DecidableEq α] : ∀ (l acc : List α), acc.Nodup → (l.foldl dd acc).length ≤ acc.length + l.length ∧ ((l.foldl dd acc).length = acc.length + l.length ↔ (acc ++ l).Nodup) := by
  intro l
  induction l with
  | nil => intro acc h; simp [h]
  | cons x l ih =>
    intro acc h
    rw [List.foldl_cons]
    by_cases hx : x ∈ acc
    · have e : dd acc x = acc := if_pos hx
      rw [e]
      obtain ⟨a, b⟩ := ih acc h
      refine ⟨by simp; omega, ⟨fun z => by simp at z; omega, fun z => ?_⟩⟩
      have := (List.nodup_append.mp z).2.2 x hx x (by simp)
      exact absurd rfl this
    · have e : dd acc x = acc ++ [x] := if_neg hx
      rw [e]
      have hn : (acc ++ [x]).Nodup := by
        rw [List.nodup_append]
        exact ⟨h, by simp, fun a ha b hb => by
          obtain rfl : b = x := by simpa using hb
          exact fun z => hx (z ▸ ha)⟩
      obtain ⟨a, b⟩ := ih (acc ++ [x]) hn
      have e2 : acc ++ [x] ++ l = acc ++ x :: l := by simp
      rw [e2] at b
      have e3 : (acc ++ [x]).length + l.length = acc.length + (x :: l).length := by simp; omega
      rw [e3] at a b
      exact ⟨a, b⟩
theorem dd_nodup {α : Type} [DecidableEq α] (l : List α) : (l.foldl dd []).length = l.length ↔ l.Nodup := by
  have := (dd_length l [] (by simp)).2
  simpa using this
theorem met_eq (ns : List Int) : firstMet (fun i => ns.getD i 0) ns.length = ns.foldl dd [] := by
  have e : (List.range ns.length).map (fun i => ns.getD i 0) = ns := by
    apply List.ext_getElem
    · simp
    · intro i h1 h2
      simp [List.getD, h2]
  unfold firstMet
  rw [e]
  congr 1
  funext acc x
  show (if acc.any (· == x) = true then acc else acc ++ [x]) = dd acc x
  unfold dd
  by_cases h : x ∈ acc
  · rw [if_pos h, if_pos (by simpa using h)]
  · rw [if_neg h, if_neg (by simpa using h)]
theorem putKD_keys (l : List (Key × D)) (k : Key) (d : D) : (putKD l k d).map (·.1) = dd (l.map (·.1)) k := by
  unfold putKD dd
  by_cases h : k ∈ l.map (·.1)
  · have h' : (l.any fun p => decide (p.1 = k)) = true := by
      obtain ⟨p, hp, e⟩ := List.mem_map.mp h
      exact List.any_eq_true.mpr ⟨p, hp, decide_eq_true e⟩
    rw [if_pos h, if_pos h', List.map_map]
    apply List.map_congr_left
    intro p _
    show (if p.1 = k then (p.1, d) else p).1 = p.1
    split <;> rfl
  · have h' : ¬ (l.any fun p => decide (p.1 = k)) = true := by
      intro z
      obtain ⟨p, hp, e⟩ := List.any_eq_true.mp z
      exact h (List.mem_map.mpr ⟨p, hp, of_decide_eq_true e⟩)
    rw [if_neg h, if_neg h', List.map_append]; rfl
theorem mergeKD_keys : ∀ (m l : List (Key × D)), (mergeKD l m).map (·.1) = (m.map (·.1)).foldl dd (l.map (·.1))
  | [], l => rfl
  | p :: m, l => by
    show (mergeKD (putKD l p.1 p.2) m).map (·.1) = _
    rw [mergeKD_keys m, putKD_keys]; rfl
theorem sorted_iff {α : Type} {le : α → α → Bool} (h : PySem.W.TotalLe le) (l : List α) : l = l.mergeSort le ↔ l.Pairwise (fun a b => le a b = true) := by
  constructor
  · intro e
    rw [e]
    exact PySem.W.sort_pairwise h l
  · intro p
    exact (List.mergeSort_of_pairwise p).symm
end Pv.K41

set_option Elab.async false
set_option linter.all false
set_option maxRecDepth 100000
set_option maxHeartbeats 1000000
namespace Pv.K41
open PySem PySem.Spec L2 Pv
open PyProof.Rows hiding St

theorem unlike_spec {F : List Int} {s : Src} (h : F.length ≤ LIM) : sem_are_unlike [.lst (F.map .int)] s = some (.bl (decide F.Nodup), s) := by
  have hL := LIM_eq
  have h2L : ∀ a b : D, lenOk [a, b] = some [a, b] := fun a b => lenOk_le (by simp; omega)
  have e : loopC [1] (ptN 1) bYes (eTup (aCons (eVar 1) (aCons (eC (.bl true)) aNil))) [some (.p (.lst (F.map .int))), none] (F.map fun x => Itm.v (.int x)) s = some (F.map (fun x => .tup [.int x, .bl true]), s) :=
    loopC_all (fun x : Int => Itm.v (.int x)) (fun x => .tup [.int x, .bl true]) F fun x hx => ⟨_, rfl, by simp [h2L]⟩
  have e2 : ∀ G : List Int, pairsD (G.map fun x => .tup [.int x, .bl true]) = some (G.map fun x => (.inl x, .bl true)) := by
    intro G
    induction G with
    | nil => rfl
    | cons x G ih =>
      show (keyS (.int x)).bind (fun k => (pairsD (G.map fun x => D.tup [.int x, .bl true])).map ((k, .bl true) :: ·)) = _
      rw [ih]; rfl
  have e3 : gLenDict (.lst (F.map fun x => .tup [.int x, .bl true])) = some (.int ((mergeKD [] (F.map fun x => (.inl x, .bl true))).length : Nat)) := by
    unfold gLenDict
    simp only [e2, Option.bind_some, List.length_map]
    rw [if_pos h]
  have e4 : (mergeKD [] (F.map fun x => ((.inl x : Key), D.bl true))).length = ((F.map fun x => (.inl x : Key)).foldl dd []).length := by
    have := mergeKD_keys (F.map fun x => ((.inl x : Key), D.bl true)) []
    have h2 := congrArg List.length this
    rw [List.length_map, List.map_map] at h2
    exact h2
  have e5 := dd_nodup (F.map fun x => (.inl x : Key))
  have e6 : (F.map fun x => (.inl x : Key)).Nodup ↔ F.Nodup := by
    unfold List.Nodup
    rw [List.pairwise_map]
    simp
  unfold sem_are_unlike runDef g_are_unlike
  have e7 : decide (((mergeKD [] (F.map fun x => ((.inl x : Key), D.bl true))).length : Int) = (F.length : Int)) = decide F.Nodup := by
    rw [e4]
    rw [List.length_map] at e5
    rw [decide_eq_decide, Int.ofNat_inj, e5, e6]
  simp [start1, Function.comp_def, h, e, e3, gEq_i, e7]
theorem lenSet_spec {F : List Int} (h : F.length ≤ 4000) : gLenSet (.lst (F.map .int)) = some (.int ((F.foldl dd []).length : Nat)) := by
  unfold gLenSet
  simp only [intsD_map]
  rw [if_pos h, met_eq]
theorem card_eq (F : List Int) (k : Nat) (hk : k = F.length) : decide (((F.foldl dd []).length : Int) = (k : Int)) = decide F.Nodup := by
  subst hk
  rw [decide_eq_decide, Int.ofNat_inj, dd_nodup F]
/-! ### equal lists of spans -/
theorem eqv_spans : ∀ P Q : List (Int × Int), PyData.eqvAll (pys (P.map encS)) (pys (Q.map encS)) = decide (P = Q)
  | [], [] => by simp [pys, PyData.eqvAll]
  | [], q :: Q => by simp [pys, PyData.eqvAll]
  | p :: P, [] => by simp [pys, PyData.eqvAll]
  | p :: P, q :: Q => by
    have e : PyData.eqv (py (encS p)) (py (encS q)) = decide (p = q) := by
      unfold encS
      rw [py_enc, py_enc, PyData.eqv, eqv_ints]
      obtain ⟨a, b⟩ := p
      obtain ⟨c, d⟩ := q
      simp
    simp only [List.map_cons, pys, PyData.eqvAll, e, eqv_spans P Q]
    by_cases h1 : p = q <;> by_cases h2 : P = Q <;> simp [h1, h2]
theorem spans_ok (P : List (Int × Int)) : okD (.lst (P.map encS)) = true := okD_of (nostrs_all fun d h => by obtain ⟨i, _, rfl⟩ := List.mem_map.mp h; exact enc_nostr _) (Nat.le_trans (dep_lst (n := 1) fun d h => by obtain ⟨i, _, rfl⟩ := List.mem_map.mp h; exact enc_dep _) (by decide))
theorem gNe_spans (P Q : List (Int × Int)) : gNe (.lst (P.map encS)) (.lst (Q.map encS)) = some (.bl (!decide (P = Q))) := by
  show gNeD _ _ = _
  unfold gNeD
  rw [if_pos ⟨spans_ok P, spans_ok Q⟩]
  simp only [py, PyData.eqv, eqv_spans]
theorem gEq_lints (P Q : List Int) : gEq (.lst (P.map .int)) (.lst (Q.map .int)) = some (.bl (decide (P = Q))) := by
  show gEqD _ _ = _
  unfold gEqD
  rw [if_pos ⟨lst_ok P, lst_ok Q⟩]
  simp only [py, pys_ints, PyData.eqv, eqv_ints]
def sortI (F : List Int) : List Int := F.mergeSort fun a b => decide (a ≤ b)
theorem sortI_eq (F : List Int) : sortD false (F.map .int) = (sortI F).map .int := by
  unfold sortD sortI
  refine (PySem.W.sort_maps D.int fun a _ b _ => ?_).symm
  rw [PySem.W.dataLe_eq]
  show _ = (!PySem.W.dataLt (py (.int b)) (py (.int a)))
  simp only [py]
  rw [PySem.W.dataLt_int, PySem.W.not_lt_int]
theorem sortOk_ints {F : List Int} (h : F.length ≤ LIM) : sortOk (F.map .int) = true := by
  unfold sortOk
  simp only [Bool.and_eq_true, Bool.or_eq_true, decide_eq_true_eq, List.all_eq_true]
  refine ⟨⟨⟨⟨flats_ints F, by simpa using h⟩, fun a ha b hb => ?_⟩, .inr fun a ha => ?_⟩, fun a ha => ?_⟩
  · obtain ⟨x, _, rfl⟩ := List.mem_map.mp ha
    obtain ⟨y, _, rfl⟩ := List.mem_map.mp hb
    simp [py, PySem.W.alike]
  · obtain ⟨x, _, rfl⟩ := List.mem_map.mp ha; rfl
  · obtain ⟨x, _, rfl⟩ := List.mem_map.mp ha; rw [dep_int]; omega
theorem le_total : PySem.W.TotalLe (fun a b : Int => decide (a ≤ b)) := ⟨fun a b c h1 h2 => by simp at *; omega, fun a b => by simp; omega⟩
/-- with unlike first places, lots are in order as their first places are -/
theorem sorted_same {P : List (Int × Int)} (h : (P.map (·.1)).Nodup) : P = sortP P ↔ P.map (·.1) = sortI (P.map (·.1)) := by
  have hle : ∀ p q : Int × Int, PySem.W.dataLe false py (encS p) (encS q) = decide (p.1 < q.1 ∨ (p.1 = q.1 ∧ p.2 ≤ q.2)) := fun p q => by
    rw [PySem.W.dataLe_eq]
    show (!PySem.W.dataLt (py (encS q)) (py (encS p))) = _
    have e : ∀ p : Int × Int, py (encS p) = .tuple [.int p.1, .int p.2] := fun p => by unfold encS; rw [py_enc]; rfl
    rw [e, e, PySem.W.dataLt_ii]
    by_cases h : q.1 < p.1 ∨ (q.1 = p.1 ∧ q.2 < p.2)
    · have h' : ¬ (p.1 < q.1 ∨ (p.1 = q.1 ∧ p.2 ≤ q.2)) := by omega
      simp [h, h']
    · have h' : p.1 < q.1 ∨ (p.1 = q.1 ∧ p.2 ≤ q.2) := by omega
      simp [h, h']
  have t1 : PySem.W.TotalLe (fun a b : Int × Int => PySem.W.dataLe false py (encS a) (encS b)) := ⟨fun a b c h1 h2 => by rw [hle] at *; simp at *; omega, fun a b => by rw [hle, hle]; simp; omega⟩
  unfold sortP sortI
  rw [sorted_iff t1, sorted_iff le_total, List.pairwise_map]
  unfold List.Nodup at h
  rw [List.pairwise_map] at h
  constructor
  · intro z
    refine z.imp fun {a b} q => ?_
    rw [hle] at q
    simp at q ⊢
    omega
  · intro z
    refine (z.and h).imp fun {a b} q => ?_
    obtain ⟨q1, q2⟩ := q
    rw [hle]
    simp at q1 ⊢
    omega
theorem chk_enc {n : Int} {d : D} (h : chk n d = true) : ∃ p, True ∧ d = encS p := by
  unfold chk at h
  split at h
  · exact ⟨(_, _), trivial, rfl⟩
  · cases h
def goodV : D → Bool
  | .src => false
  | .tup l => l.all goodI && decide (l.length ≤ 4000)
  | _ => true
theorem lot_same {n : Int} {v : D} {s : Src} (h : goodV v = true) : ∃ b, sem_is_span_lot [.int n, v] s = some (.bl b, s) ∧ sem_Llaw_is_lot [.int n, v] s = some (.bl b, s) := by
  have hL := LIM_eq
  cases v with
  | src => cases h
  | tup l =>
    simp only [goodV, Bool.and_eq_true, decide_eq_true_eq, List.all_eq_true] at h
    obtain ⟨hg, hl⟩ := h
    obtain ⟨a1, a2⟩ := loop_check (ρ := [some (.p (.int n)), some (.p (.tup l)), none, none, none]) (s := s) (ws := [2]) (chk n) goodI l hg fun d hd => body1 (n := n) (v := .tup l) (s := s) hd
    obtain ⟨b1, b2⟩ := loop_check (ρ := [some (.p (.int n)), some (.p (.tup l)), none, none, none]) (s := s) (ws := [2]) (chk n) goodI l hg fun d hd => body2 (n := n) (v := .tup l) (s := s) hd
    cases hc : l.all (chk n) with
    | false =>
      obtain ⟨ρ1, e1⟩ := a2 hc
      obtain ⟨ρ2, e2⟩ := b2 hc
      refine ⟨false, ?_, ?_⟩
      · unfold sem_is_span_lot runDef g_is_span_lot
        simp [start1, gIsi, tyN, e1]
      · unfold sem_Llaw_is_lot runDef g_Llaw_is_lot
        simp [start1, gIsi, tyN, e2]
    | true =>
      have e1 := a1 hc
      have e2 := b1 hc
      obtain ⟨P, rfl, _⟩ := lift_list (Q := fun _ => True) (l := l) fun d hd => chk_enc (List.all_eq_true.mp hc d hd)
      have hP : P.length ≤ 4000 := by simpa using hl
      have hPL : P.length ≤ LIM := by omega
      refine ⟨decide (P.map (·.1) = sortI (P.map (·.1))) && (decide (P.map (·.1)).Nodup && decide (P.map (·.2)).Nodup), ?_, ?_⟩
      · have q1 : loopC [2] (ptN 2) bYes (Pv.e2 gIx (eVar 2) (eC (.int 0))) [some (.p (.int n)), some (.p (.tup (P.map encS))), none, none, none] (P.map fun p => Itm.v (encS p)) s = some ((P.map (·.1)).map .int, s) := by
          have := loopC_all (us := [2]) (p := ptN 2) (f := Pv.e2 gIx (eVar 2) (eC (.int 0))) (ρ := [some (.p (.int n)), some (.p (.tup (P.map encS))), none, none, none]) (s := s) (fun p => Itm.v (encS p)) (fun p => D.int p.1) P fun p hp => ⟨_, rfl, by simp [ix0]⟩
          rw [this]; simp [Function.comp_def]
        have q2 : loopC [2] (ptN 2) bYes (Pv.e2 gIx (eVar 2) (eC (.int 1))) [some (.p (.int n)), some (.p (.tup (P.map encS))), none, none, none] (P.map fun p => Itm.v (encS p)) s = some ((P.map (·.2)).map .int, s) := by
          have := loopC_all (us := [2]) (p := ptN 2) (f := Pv.e2 gIx (eVar 2) (eC (.int 1))) (ρ := [some (.p (.int n)), some (.p (.tup (P.map encS))), none, none, none]) (s := s) (fun p => Itm.v (encS p)) (fun p => D.int p.2) P fun p hp => ⟨_, rfl, by simp [ix1]⟩
          rw [this]; simp [Function.comp_def]
        have u1 := unlike_spec (F := P.map (·.1)) (s := s) (by simpa using hPL)
        have u2 := unlike_spec (F := P.map (·.2)) (s := s) (by simpa using hPL)
        have so := sortOk_ints (F := P.map (·.1)) (by simpa using hPL)
        have se := sortI_eq (P.map (·.1))
        have ge := gEq_lints (P.map (·.1)) (sortI (P.map (·.1)))
        generalize P.map (·.1) = F at q1 u1 so se ge ⊢
        generalize P.map (·.2) = G at q2 u2 ⊢
        generalize decide (F = sortI F) = x at ge ⊢
        generalize decide F.Nodup = y at u1 ⊢
        generalize decide G.Nodup = z at u2 ⊢
        unfold sem_is_span_lot runDef g_is_span_lot
        simp [start1, gIsi, tyN, Function.comp_def] at e1 ⊢
        simp [e1, hPL, q1, q2, gSrt, so, se, ge, Function.comp_def]
        cases x <;> cases y <;> cases z <;> simp [u1, u2, q1, q2, e1, hPL, gSrt, so, se, ge, Function.comp_def]
      · have q1 : loopC [3, 4] (ptT (ptCons (ptN 3) (ptCons (ptN 4) ptNil))) bYes (eVar 3) [some (.p (.int n)), some (.p (.tup (P.map encS))), none, none, none] (P.map fun p => Itm.v (encS p)) s = some ((P.map (·.1)).map .int, s) := by
          have := loopC_all (us := [3, 4]) (p := ptT (ptCons (ptN 3) (ptCons (ptN 4) ptNil))) (f := eVar 3) (ρ := [some (.p (.int n)), some (.p (.tup (P.map encS))), none, none, none]) (s := s) (fun p => Itm.v (encS p)) (fun p => D.int p.1) P fun p hp => ⟨[some (.p (.int n)), some (.p (.tup (P.map encS))), none, some (.p (.int p.1)), some (.p (.int p.2))], rfl, rfl⟩
          rw [this]; simp [Function.comp_def]
        have q2 : loopC [3, 4] (ptT (ptCons (ptN 3) (ptCons (ptN 4) ptNil))) bYes (eVar 4) [some (.p (.int n)), some (.p (.tup (P.map encS))), none, none, none] (P.map fun p => Itm.v (encS p)) s = some ((P.map (·.2)).map .int, s) := by
          have := loopC_all (us := [3, 4]) (p := ptT (ptCons (ptN 3) (ptCons (ptN 4) ptNil))) (f := eVar 4) (ρ := [some (.p (.int n)), some (.p (.tup (P.map encS))), none, none, none]) (s := s) (fun p => Itm.v (encS p)) (fun p => D.int p.2) P fun p hp => ⟨[some (.p (.int n)), some (.p (.tup (P.map encS))), none, some (.p (.int p.1)), some (.p (.int p.2))], rfl, rfl⟩
          rw [this]; simp [Function.comp_def]
        have so := sortOk_encS (L := P) hPL
        have se := sortP_eq P
        have gn := gNe_spans P (sortP P)
        have c1 := lenSet_spec (F := P.map (·.1)) (by simpa using hP)
        have c2 := lenSet_spec (F := P.map (·.2)) (by simpa using hP)
        have d1 := card_eq (P.map (·.1)) P.length (by simp)
        have d2 := card_eq (P.map (·.2)) P.length (by simp)
        have ss := sorted_same (P := P)
        have sb : (decide (P.map (·.1) = sortI (P.map (·.1))) && (decide (P.map (·.1)).Nodup && decide (P.map (·.2)).Nodup)) = (decide (P = sortP P) && (decide (P.map (·.1)).Nodup && decide (P.map (·.2)).Nodup)) := by
          by_cases z : (P.map (·.1)).Nodup
          · rw [decide_eq_decide.mpr (ss z)]
          · simp [z]
        rw [sb]
        generalize P.map (·.1) = F at q1 c1 d1 ⊢
        generalize P.map (·.2) = G at q2 c2 d2 ⊢
        generalize decide (P = sortP P) = x at gn ⊢
        generalize decide F.Nodup = y at d1 ⊢
        generalize decide G.Nodup = z at d2 ⊢
        unfold sem_Llaw_is_lot runDef g_Llaw_is_lot
        simp [start1, gIsi, tyN, Function.comp_def] at e2 ⊢
        simp [e2, hPL, gSrt, so, se, gn, Function.comp_def]
        cases x <;> cases y <;> cases z <;> simp [q1, q2, c1, c2, gNe_i, gEq_i, d1, d2, Function.comp_def, hPL]
  | _ =>
    refine ⟨false, ?_, ?_⟩
    · unfold sem_is_span_lot runDef g_is_span_lot
      simp [start1, gIsi, tyN]
    · unfold sem_Llaw_is_lot runDef g_Llaw_is_lot
      simp [start1, gIsi, tyN]
end Pv.K41

set_option Elab.async false
set_option linter.all false
set_option maxRecDepth 100000
set_option maxHeartbeats 1000000
namespace Pv.K41
open PySem PySem.Spec L2 Pv
open PyProof.Rows hiding St

def q_1 : SS := (sSet 3 (oV (e2 gAdd (eC (.int 1)) (eFn sem_Llaw_pick (aCons (eVar 1) (aCons (eC (.int 12)) aNil))))))
def q_2 : SS := (sSet 4 (oV (eFn sem_Llaw_lot (aCons (eVar 1) (aCons (eVar 3) aNil)))))
def q_3 : SS := (sSet 5 (oV (eF (fLc (iSeq (eVar 4)) [10] (ptN 10) bYes (eCl gTup (aCons (eF (fLc (iRng r1 (aCons (eVar 3) aNil)) [6] (ptN 6) bYes (eCl gInt (aCons (e2 gIn (eVar 6) (eVar 10)) aNil)))) aNil))))))
def q_4 : SS := (sIf (bE (e2 gNe (eCl gRepr (aCons (eF (fLst (aCons (eFn sem_plain_code (aCons (eVar 3) (aCons (eVar 4) aNil))) (aCons (eFn sem_free_number (aCons (eVar 3) (aCons (eVar 4) aNil))) aNil)))) aNil)) (eCl gRepr (aCons (eF (fLst (aCons (eTup (aCons (eVar 3) (aCons (eFn sem_Llaw_leads (aCons (eVar 3) (aCons (eVar 5) aNil))) aNil))) (aCons (eFn sem_Llaw_free (aCons (eVar 4) aNil)) aNil)))) aNil)))) (sRet (eC (.bl false))) sNil)
def q_5 : SS := (sSet 6 (oV (eFn sem_Llaw_pick (aCons (eVar 1) (aCons (e2 gAdd (eCl gLen (aCons (eVar 4) aNil)) (eC (.int 1))) aNil)))))
def q_6 : SS := (sSet 7 (oV (eFn sem_Llaw_of (aCons (eVar 1) (aCons (eF (fLst (aCons (eTup (aCons (eC (.int 0)) (aCons (eVar 3) aNil))) (aCons (eTup (aCons (eC (.int 1)) (aCons (eC (.int 0)) aNil))) (aCons (eTup (aCons (e2 gSub (eVar 3) (eC (.int 1))) (aCons (e2 gSub (eVar 3) (eC (.int 1))) aNil))) (aCons (eTup (aCons (eC (.int 0)) (aCons (eC (.bl true)) aNil))) (aCons (eF (fLst (aCons (eC (.int 0)) (aCons (eC (.int 0)) aNil)))) (aCons (eC .non) (aCons (eTup (aCons (eC (.int 0)) aNil)) (aCons (eTup (aCons (eC (.int 0)) (aCons (eC (.int 0)) (aCons (eC (.int 0)) aNil)))) (aCons (eC (.str "00")) (aCons (eTup (aCons (e1 gNeg (eC (.int 1))) (aCons (eC (.int 0)) aNil))) (aCons (eTup (aCons (eC (.int 0)) (aCons (e2 gSub (eVar 3) (eC (.int 1))) aNil))) aNil))))))))))))) aNil)))))
def q_7 : SS := (sSet 8 (oV (eF (fLst (aCons (eVar 4) (aCons (e1 gRev (eVar 4)) (aCons (e2 gAdd (eVar 4) (eSl (eVar 4) pNo (pSo (eC (.int 1))))) (aCons (eF (fCl gLst (aCons (eVar 4) aNil))) (aCons (e2 gAdd (e2 gAdd (eSl (eVar 4) pNo (pSo (eVar 6))) (eTup (aCons (eVar 7) aNil))) (eSl (eVar 4) (pSo (eVar 6)) pNo)) (aCons (e2 gAdd (eSl (eVar 4) pNo (pSo (eVar 6))) (eSl (eVar 4) (pSo (e2 gAdd (eVar 6) (eC (.int 1)))) pNo)) (aCons (eFn sem_Llaw_odd (aCons (eVar 1) aNil)) aNil)))))))))))
def q_8 : SS := (sFor (iSeq (e2 gAdd (eVar 8) (eF (fLst (aCons (eCl gTup (aCons (eF (fCl (gSrt false) (aCons (e2 gAdd (eVar 4) (eTup (aCons (eFn sem_Llaw_of (aCons (eVar 1) (aCons (eFn sem_Llaw_pairs (aCons (eVar 3) aNil)) aNil))) aNil))) aNil))) aNil)) aNil))))) (ptN 9) (sIf (bE (e2 gNe (eCl gRepr (aCons (eFn sem_is_span_lot (aCons (eVar 3) (aCons (eVar 9) aNil))) aNil)) (eCl gRepr (aCons (eFn sem_Llaw_is_lot (aCons (eVar 3) (aCons (eVar 9) aNil))) aNil)))) (sRet (eC (.bl false))) sNil) [9])
def q_all : SS := (sSeq q_1 (sSeq q_2 (sSeq q_3 (sSeq q_4 (sSeq q_5 (sSeq q_6 (sSeq q_7 q_8)))))))
def q_end : SS := (sRet (e2 gEq (eF (fLst (aCons (eFn sem_free_number (aCons (eC (.int 4)) (aCons (eTup (aCons (eTup (aCons (eC (.int 0)) (aCons (eC (.int 3)) aNil))) (aCons (eTup (aCons (eC (.int 1)) (aCons (eC (.int 2)) aNil))) aNil))) aNil))) (aCons (eFn sem_free_number (aCons (eC (.int 4)) (aCons (eTup (aCons (eTup (aCons (eC (.int 0)) (aCons (eC (.int 2)) aNil))) (aCons (eTup (aCons (eC (.int 1)) (aCons (eC (.int 3)) aNil))) aNil))) aNil))) (aCons (eFn sem_plain_code (aCons (eC (.int 2)) (aCons (eTup aNil) aNil))) aNil))))) (eF (fLst (aCons (eC (.int 1)) (aCons (eC (.int 2)) (aCons (eTup (aCons (eC (.int 2)) (aCons (eTup aNil) aNil))) aNil)))))))
theorem g_law_eq : g_law = sSeq (sFor (iRng r1 (aCons (eC (.int 5)) aNil)) (ptN 2) q_all [2, 3, 4, 5, 6, 7, 8, 9]) q_end := rfl

theorem lot_len {n : Nat} {L : List (Int × Int)} (O : LotOk n L) : L.length ≤ n := by
  have h1 : ((List.range n).map fun k : Nat => (k : Int)).Nodup := List.Pairwise.map _ (R := fun a b => a ≠ b) (fun a b hab => by omega) List.nodup_range
  have := count_out O.nf h1 fun x hx => by
    obtain ⟨p, hp, rfl⟩ := List.mem_map.mp hx
    obtain ⟨a, b, c⟩ := O.rng p hp
    exact List.mem_map.mpr ⟨p.1.toNat, List.mem_range.mpr (by omega), by omega⟩
  simp at this
  omega
theorem plains_spec {n : Nat} {ρ : Env} {L : List (Int × Int)} {s : Src} {a b c d : Option SV} (hn : n ≤ 1000) :
    loopC [10] (ptN 10) bYes (eCl gTup (aCons (eF (fLc (iRng r1 (aCons (eVar 3) aNil)) [6] (ptN 6) bYes (eCl gInt (aCons (Pv.e2 gIn (eVar 6) (eVar 10)) aNil)))) aNil)) [none, some (.p .src), a, some (.p (.int n)), b, none, none, none, none, none, none] (L.map fun p => Itm.v (encS p)) s = some (L.map fun p => enc (plainR n p), s) := by
  have hL := LIM_eq
  refine loopC_all (fun p => Itm.v (encS p)) (fun p => enc (plainR n p)) L fun p hp => ⟨[none, some (.p .src), a, some (.p (.int n)), b, none, none, none, none, none, some (.p (encS p))], rfl, ?_⟩
  have e := rng_loop (us := [6]) (i := 6) (f := eCl gInt (aCons (Pv.e2 gIn (eVar 6) (eVar 10)) aNil)) (ρ := [none, some (.p .src), a, some (.p (.int n)), b, none, none, none, none, none, some (.p (encS p))]) (s := s) (fun k => .int (if k ∈ [p.1, p.2] then 1 else 0)) 0 n fun k hk => by
    simp [encS, gIn_enc]
  have hr : r1 [.int (n : Int)] = some (rngD 0 1 n) := by
    have := r1_int (j := (n : Int)) (by omega)
    simpa using this
  have hl : (rngD 0 1 n).length ≤ LIM := by rw [rngD_length]; omega
  have e2 : (List.range n).map (fun k : Nat => D.int (if (0 + (k : Int)) ∈ [p.1, p.2] then 1 else 0)) = (plainR n p).map .int := by
    unfold plainR
    simp
  rw [e2] at e
  have h9 : (plainR n p).length ≤ LIM := by rw [plainR_len]; omega
  simp [hr, hl, e, gTup_lst, h9]
  rfl
/-- what is shown of a lot -/
def told (n : Nat) (L : List (Int × Int)) : D := .lst [.tup [.int n, .tup ((baseOf n L).map enc)], .int (freeN L)]
theorem base_ok (n : Nat) (L : List (Int × Int)) : (baseOf n L).length ≤ L.length ∧ ∀ r ∈ baseOf n L, r.length = n ∧ bits r := by
  obtain ⟨F, hlen⟩ := fold_ok (L.map (plainR n)) [] (plain_fold n L) (FOk.nil n)
  unfold baseOf ord
  refine ⟨?_, fun r hr => ?_⟩
  · rw [List.length_mergeSort]; simpa using hlen
  · have := (List.mergeSort_perm _ _).mem_iff.mp hr
    exact ⟨F.len r this, F.bit r this⟩
theorem told_repr {n : Nat} {L : List (Int × Int)} (hn : n ≤ 12) (O : LotOk n L) : gRepr [told n L] = some (.str (py (told n L)).shown) := by
  have hL := LIM_eq
  have hl := lot_len O
  obtain ⟨b1, b2⟩ := base_ok n L
  have hf : (freeN L).natAbs < 1152921504606846976 := by
    have : ∀ M : List (Int × Int), (∀ q ∈ M, (0 : Int) ≤ q.1 ∧ q.2 < n) → 0 ≤ (M.map fun q => ((freeP L q).length : Int)).sum ∧ (M.map fun q => ((freeP L q).length : Int)).sum ≤ M.length * 12 := by
      intro M
      induction M with
      | nil => intro _; simp
      | cons q M ih =>
        intro h
        obtain ⟨i1, i2⟩ := ih fun x hx => h x (by simp [hx])
        obtain ⟨q1, q2⟩ := h q (by simp)
        have : (freeP L q).length ≤ 12 := by
          unfold freeP
          refine Nat.le_trans (List.length_filter_le _ _) ?_
          simp
          omega
        simp only [List.map_cons, List.sum_cons, List.length_cons]
        omega
    have := this L fun q hq => ⟨(O.rng q hq).1, (O.rng q hq).2.2⟩
    unfold freeN
    omega
  have hs : ∀ r ∈ baseOf n L, small (enc r) = true := fun r hr => enc_small fun x hx => by
    rcases (b2 r hr).2 x hx with h | h <;> rw [h] <;> decide
  have hw : wides ((baseOf n L).map enc) ≤ 12 * 284 := by
    refine Nat.le_trans (wides_all (n := 282) fun d hd => ?_) ?_
    · obtain ⟨r, hr, rfl⟩ := List.mem_map.mp hd
      have := enc_wide r
      have := (b2 r hr).1
      omega
    · rw [List.length_map]
      exact Nat.mul_le_mul (by omega) (Nat.le_refl _)
  have ha : smalls ((baseOf n L).map enc) = true := smalls_all fun d hd => by
    obtain ⟨r, hr, rfl⟩ := List.mem_map.mp hd
    exact hs r hr
  refine gRepr_ok ?_ ?_ ?_
  · simp only [told, small, smalls, ha]
    simp
    omega
  · simp only [told, wide, wides]
    omega
  · refine Nat.le_trans (dep_lst (n := 3) fun d hd => ?_) (by decide)
    simp only [List.mem_cons, List.not_mem_nil, or_false] at hd
    rcases hd with rfl | rfl
    · refine dep_tup (n := 2) fun d hd => ?_
      simp only [List.mem_cons, List.not_mem_nil, or_false] at hd
      rcases hd with rfl | rfl
      · rw [dep_int]; omega
      · exact dep_tup (n := 1) fun d hd => by
          obtain ⟨r, hr, rfl⟩ := List.mem_map.mp hd
          exact enc_dep r
    · rw [dep_int]; omega
theorem lot_small {n : Nat} {L : List (Int × Int)} (O : LotOk n L) (hn : n ≤ 1000) : ∀ q ∈ L, ((0 : Int) ≤ q.1 ∧ q.1 ≤ 1000) ∧ 0 ≤ q.2 ∧ q.2 ≤ 1000 := fun q hq => by
  obtain ⟨a, b, c⟩ := O.rng q hq
  exact ⟨⟨a, by omega⟩, by omega, by omega⟩
theorem ok_encS (p : Int × Int) : goodI (encS p) = true := rfl
theorem good_lot {l : List D} (h : ∀ d ∈ l, goodI d = true) (hl : l.length ≤ 4000) : goodV (.tup l) = true := by
  show (l.all goodI && decide (l.length ≤ 4000)) = true
  rw [decide_eq_true hl, List.all_eq_true.mpr h]; rfl
end Pv.K41

set_option Elab.async false
set_option linter.all false
set_option maxRecDepth 100000
set_option maxHeartbeats 1000000
namespace Pv.K41
open PySem PySem.Spec L2 Pv
open PyProof.Rows hiding St

theorem pow30 : gPow (.int 10) (.int 30) = some (.int 1000000000000000000000000000000) := by rfl
theorem odd_spec {s : Src} (hs : Cok s) : ∃ d s', sem_Llaw_odd [.src] s = some (d, s') ∧ Cok s' ∧ goodV d = true := by
  have hL := LIM_eq
  obtain ⟨d, s', e, c, hd⟩ := of_spec (s := s) (l := [.non, .bl true, .int (-1), .int 0, .int 2, .str "0", .tup [], .lst [], .dct [], .tup [.int 0], .tup [.int 1], .tup [.tup [.int 0]], .tup [.tup [.int 1]], .int 1000000000000000000000000000000, .str "base", .tup [.int 0, .int 0]]) hs (by simp) (by simp; omega)
  refine ⟨d, s', ?_, c, ?_⟩
  · have e' : sem_Llaw_of [.src, .lst [.non, .bl true, .int (-1), .int 0, .int 2, .str "0", .tup [], .lst [], .dct [], .tup [.int 0], .tup [.int 1], .tup [.tup [.int 0]], .tup [.tup [.int 1]], .int 1000000000000000000000000000000, .str "base", .tup [.int 0, .int 0]]] s = some (d, s') := e
    unfold sem_Llaw_odd runDef g_Llaw_odd
    simp [start1, lenOk, LIM_eq, pow30, e']
  · simp only [List.mem_cons, List.not_mem_nil, or_false] at hd
    rcases hd with rfl | rfl | rfl | rfl | rfl | rfl | rfl | rfl | rfl | rfl | rfl | rfl | rfl | rfl | rfl | rfl <;> rfl
theorem cut_good {L : List (Int × Int)} {a b : Option Int} : ∀ d ∈ cutG (L.map encS) a b, goodI d = true := fun d hd => by
  obtain ⟨p, _, rfl⟩ := List.mem_map.mp (cutG_mem hd)
  rfl
theorem cut_len {L : List (Int × Int)} (a b : Option Int) : (cutG (L.map encS) a b).length ≤ L.length := Nat.le_trans (cutG_length _ _ _) (by simp)
theorem body_ok {lap : Int} {s : Src} (hs : Cok s) : ∃ ρ2 s2, q_all [none, some (.p .src), some (.p (.int lap)), none, none, none, none, none, none, none, none] s = some (.nx, ρ2, s2) ∧ wipeE ρ2 [2, 3, 4, 5, 6, 7, 8, 9] = start0 11 ∧ Cok s2 := by
  have hL := LIM_eq
  obtain ⟨r, s1, e1, c1, r0, r1⟩ := pick_spec (s := s) (m := 12) hs (by decide)
  obtain ⟨n, hn⟩ : ∃ n : Nat, 1 + r = (n : Int) := ⟨(1 + r).toNat, by omega⟩
  have hn1 : n ≤ 12 := by omega
  have hn0 : 0 < n := by omega
  obtain ⟨L, s2, e2, c2, O, _⟩ := Llaw_lot_spec (n := n) (s := s1) c1 (by omega)
  have hl : L.length ≤ 12 := Nat.le_trans (lot_len O) hn1
  have hlL : L.length ≤ LIM := by omega
  have a1 : q_1 [none, some (.p .src), some (.p (.int lap)), none, none, none, none, none, none, none, none] s = some (.nx, [none, some (.p .src), some (.p (.int lap)), some (.p (.int n)), none, none, none, none, none, none, none], s1) := by
    have e1' : sem_Llaw_pick [.src, .int 12] s = some (.int r, s1) := e1
    unfold q_1
    simp [e1', hn]
  have a2 : q_2 [none, some (.p .src), some (.p (.int lap)), some (.p (.int n)), none, none, none, none, none, none, none] s1 = some (.nx, [none, some (.p .src), some (.p (.int lap)), some (.p (.int n)), some (.p (.tup (L.map encS))), none, none, none, none, none, none], s2) := by
    unfold q_2
    simp [e2]
  have a3 : q_3 [none, some (.p .src), some (.p (.int lap)), some (.p (.int n)), some (.p (.tup (L.map encS))), none, none, none, none, none, none] s2 = some (.nx, [none, some (.p .src), some (.p (.int lap)), some (.p (.int n)), some (.p (.tup (L.map encS))), some (.p (.lst ((L.map (plainR n)).map enc))), none, none, none, none, none], s2) := by
    have e := plains_spec (ρ := []) (L := L) (s := s2) (a := some (.p (.int lap))) (b := some (.p (.tup (L.map encS)))) (c := none) (d := none) (show n ≤ 1000 by omega)
    unfold q_3
    simp [e, hlL, Function.comp_def]
  have a4 : q_4 [none, some (.p .src), some (.p (.int lap)), some (.p (.int n)), some (.p (.tup (L.map encS))), some (.p (.lst ((L.map (plainR n)).map enc))), none, none, none, none, none] s2 = some (.nx, [none, some (.p .src), some (.p (.int lap)), some (.p (.int n)), some (.p (.tup (L.map encS))), some (.p (.lst ((L.map (plainR n)).map enc))), none, none, none, none, none], s2) := by
    have p1 := plain_code_spec (n := n) (L := L) (s := s2) (by omega) (by omega)
    have p2 := free_number_spec (n := n) (L := L) (s := s2) (by omega) (lot_small O (by omega))
    have p3 := leads_spec (n := n) (n0 := (n : Int)) (rows := L.map (plainR n)) (s := s2) (by omega) (by simp; omega) (plain_fold n L)
    have p4 := Llaw_free_spec (L := L) (s := s2) (by omega)
    rw [← free_eq O] at p4
    have p5 := told_repr hn1 O
    unfold told at p5
    change sem_Llaw_leads _ _ = some (.tup ((baseOf n L).map enc), s2) at p3
    generalize (L.map (plainR n)).map enc = R at p3 ⊢
    unfold q_4
    simp [p1, p2, p3, p4, lenOk, LIM_eq, p5]
  obtain ⟨k, s3, e3, c3, k0, k1⟩ := pick_spec (s := s2) (m := (L.length : Int) + 1) c2 (by omega)
  generalize (D.lst ((L.map (plainR n)).map enc)) = R at a3 a4
  have a5 : q_5 [none, some (.p .src), some (.p (.int lap)), some (.p (.int n)), some (.p (.tup (L.map encS))), some (.p R), none, none, none, none, none] s2 = some (.nx, [none, some (.p .src), some (.p (.int lap)), some (.p (.int n)), some (.p (.tup (L.map encS))), some (.p R), some (.p (.int k)), none, none, none, none], s3) := by
    have e3' : sem_Llaw_pick [.src, .int ((L.length : Int) + 1)] s2 = some (.int k, s3) := e3
    unfold q_5
    simp [e3']
  obtain ⟨o, s4, e4, c4, ho⟩ := of_spec (s := s3) (l := [.tup [.int 0, .int n], .tup [.int 1, .int 0], .tup [.int (n - 1), .int (n - 1)], .tup [.int 0, .bl true], .lst [.int 0, .int 0], .non, .tup [.int 0], .tup [.int 0, .int 0, .int 0], .str "00", .tup [.int (-1), .int 0], .tup [.int 0, .int (n - 1)]]) c3 (by simp) (by simp; omega)
  have ho' : goodI o = true := by
    simp only [List.mem_cons, List.not_mem_nil, or_false] at ho
    rcases ho with rfl | rfl | rfl | rfl | rfl | rfl | rfl | rfl | rfl | rfl | rfl <;> rfl
  have a6 : q_6 [none, some (.p .src), some (.p (.int lap)), some (.p (.int n)), some (.p (.tup (L.map encS))), some (.p R), some (.p (.int k)), none, none, none, none] s3 = some (.nx, [none, some (.p .src), some (.p (.int lap)), some (.p (.int n)), some (.p (.tup (L.map encS))), some (.p R), some (.p (.int k)), some (.p o), none, none, none], s4) := by
    have e4' : sem_Llaw_of [.src, .lst [.tup [.int 0, .int n], .tup [.int 1, .int 0], .tup [.int (n - 1), .int (n - 1)], .tup [.int 0, .bl true], .lst [.int 0, .int 0], .non, .tup [.int 0], .tup [.int 0, .int 0, .int 0], .str "00", .tup [.int (-1), .int 0], .tup [.int 0, .int (n - 1)]]] s3 = some (o, s4) := e4
    unfold q_6
    simp [lenOk, LIM_eq, e4']
  obtain ⟨o2, s5, e5, c5, ho2⟩ := odd_spec (s := s4) c4
  have l1 := cut_len (L := L) none (some 1)
  have l2 := cut_len (L := L) none (some k)
  have l3 := cut_len (L := L) (some k) none
  have l4 := cut_len (L := L) (some (k + 1)) none
  obtain ⟨V, hV, hVl, a7⟩ : ∃ V : List D, (∀ d ∈ V, goodV d = true) ∧ V.length = 7 ∧ q_7 [none, some (.p .src), some (.p (.int lap)), some (.p (.int n)), some (.p (.tup (L.map encS))), some (.p R), some (.p (.int k)), some (.p o), none, none, none] s4 = some (.nx, [none, some (.p .src), some (.p (.int lap)), some (.p (.int n)), some (.p (.tup (L.map encS))), some (.p R), some (.p (.int k)), some (.p o), some (.p (.lst V)), none, none], s5) := by
    refine ⟨[.tup (L.map encS), .tup (L.map encS).reverse, .tup (L.map encS ++ cutG (L.map encS) none (some 1)), .lst (L.map encS), .tup (cutG (L.map encS) none (some k) ++ [o] ++ cutG (L.map encS) (some k) none), .tup (cutG (L.map encS) none (some k) ++ cutG (L.map encS) (some (k + 1)) none), o2], fun d hd => ?_, rfl, ?_⟩
    · have g0 : ∀ d ∈ L.map encS, goodI d = true := fun d hd => by
        obtain ⟨p, _, rfl⟩ := List.mem_map.mp hd
        rfl
      simp only [List.mem_cons, List.not_mem_nil, or_false] at hd
      rcases hd with rfl | rfl | rfl | rfl | rfl | rfl | rfl
      · exact good_lot g0 (by simp; omega)
      · exact good_lot (fun d hd => g0 d (List.mem_reverse.mp hd)) (by simp; omega)
      · exact good_lot (fun d hd => (List.mem_append.mp hd).elim (g0 d) (cut_good d)) (by simp; omega)
      · rfl
      · refine good_lot (fun d hd => (List.mem_append.mp hd).elim (fun h => (List.mem_append.mp h).elim (cut_good d) fun h => ?_) (cut_good d)) (by simp; omega)
        rw [List.mem_singleton.mp h]; exact ho'
      · exact good_lot (fun d hd => (List.mem_append.mp hd).elim (cut_good d) (cut_good d)) (by simp; omega)
      · exact ho2
    · have g1 := gAdd_t (l := L.map encS) (m := cutG (L.map encS) none (some 1)) (by simp; omega)
      have g2 := gAdd_t (l := cutG (L.map encS) none (some k)) (m := [o]) (by simp; omega)
      have g3 := gAdd_t (l := cutG (L.map encS) none (some k) ++ [o]) (m := cutG (L.map encS) (some k) none) (by simp; omega)
      have g4 := gAdd_t (l := cutG (L.map encS) none (some k)) (m := cutG (L.map encS) (some (k + 1)) none) (by omega)
      simp only [List.append_assoc] at g3 ⊢
      unfold q_7
      simp [cutD, lenOk, LIM_eq, g1, g2, g3, g4, gRev, e5]
  obtain ⟨P, eP, hP, lP, nP⟩ := pairs_spec (n := n) (s := s5) (by omega)
  have hnn : n * n ≤ 12 * 12 := Nat.mul_le_mul hn1 hn1
  obtain ⟨y, s6, e6, c6, hy⟩ := of_spec (s := s5) (l := P.map encS) c5 (by simp [nP hn0]) (by simp; omega)
  obtain ⟨p, _, rfl⟩ := List.mem_map.mp hy
  have m1 : L.map encS ++ [encS p] = (L ++ [p]).map encS := by simp
  have so := sortOk_encS (L := L ++ [p]) (by simp; omega)
  have hsl : (sortP (L ++ [p])).length ≤ 4000 := by rw [(sortP_perm _).length_eq]; simp; omega
  obtain ⟨s7, e7, c7⟩ := loopF_src (p := ptN 9) (b := (sIf (bE (Pv.e2 gNe (eCl gRepr (aCons (eFn sem_is_span_lot (aCons (eVar 3) (aCons (eVar 9) aNil))) aNil)) (eCl gRepr (aCons (eFn sem_Llaw_is_lot (aCons (eVar 3) (aCons (eVar 9) aNil))) aNil)))) (sRet (eC (.bl false))) sNil)) (ws := [9]) (ρ := [none, some (.p .src), some (.p (.int lap)), some (.p (.int n)), some (.p (.tup (L.map encS))), some (.p R), some (.p (.int k)), some (.p o), some (.p (.lst V)), none, none]) Cok ((V ++ [D.tup ((sortP (L ++ [p])).map encS)]).map Itm.v) (fun x hx s hs => by
      obtain ⟨v, hv, rfl⟩ := List.mem_map.mp hx
      have gv : goodV v = true := by
        rcases List.mem_append.mp hv with h | h
        · exact hV v h
        · rw [List.mem_singleton.mp h]
          exact good_lot (fun d hd => by
            obtain ⟨q, _, rfl⟩ := List.mem_map.mp hd
            rfl) (by simpa using hsl)
      obtain ⟨b, b1, b2⟩ := lot_same (n := (n : Int)) (s := s) gv
      refine ⟨[none, some (.p .src), some (.p (.int lap)), some (.p (.int n)), some (.p (.tup (L.map encS))), some (.p R), some (.p (.int k)), some (.p o), some (.p (.lst V)), some (.p v), none], [none, some (.p .src), some (.p (.int lap)), some (.p (.int n)), some (.p (.tup (L.map encS))), some (.p R), some (.p (.int k)), some (.p o), some (.p (.lst V)), some (.p v), none], s, rfl, ?_, rfl, hs⟩
      simp [b1, b2]) s6 c6
  refine ⟨[none, some (.p .src), some (.p (.int lap)), some (.p (.int n)), some (.p (.tup (L.map encS))), some (.p R), some (.p (.int k)), some (.p o), some (.p (.lst V)), none, none], s7, ?_, rfl, c7⟩
  have a8 : q_8 [none, some (.p .src), some (.p (.int lap)), some (.p (.int n)), some (.p (.tup (L.map encS))), some (.p R), some (.p (.int k)), some (.p o), some (.p (.lst V)), none, none] s5 = some (.nx, [none, some (.p .src), some (.p (.int lap)), some (.p (.int n)), some (.p (.tup (L.map encS))), some (.p R), some (.p (.int k)), some (.p o), some (.p (.lst V)), none, none], s7) := by
    have e6' : sem_Llaw_of [.src, .lst (P.map encS)] s5 = some (encS p, s6) := e6
    have t1 := gAdd_t (l := L.map encS) (m := [encS p]) (by simp; omega)
    rw [m1] at t1
    have t2 := sortP_eq (L ++ [p])
    have t3 : gTup [.lst ((sortP (L ++ [p])).map encS)] = some (.tup ((sortP (L ++ [p])).map encS)) := gTup_lst (by simp; omega)
    have t4 := gAdd_l (l := V) (m := [.tup ((sortP (L ++ [p])).map encS)]) (by simp; omega)
    generalize (L ++ [p]).map encS = W at t1 t2 so
    generalize (sortP (L ++ [p])).map encS = W2 at t2 t3 t4 e7
    generalize V ++ [D.tup W2] = W3 at t4 e7
    unfold q_8
    simp [eP, e6', lenOk, LIM_eq, t1, gSrt, so, t2, t3, t4, e7]
  unfold q_all
  simp only [sSeq_ap, a1, a2, a3, a4, a5, a6, a7, a8, Option.bind_some]
theorem last_ok {s : Src} : q_end (start0 11) s = some (.ret (.bl true), start0 11, s) := by
  have hL := LIM_eq
  have p1 := free_number_spec (n := 4) (L := [(0, 3), (1, 2)]) (s := s) (by decide) (by intro q hq; simp at hq; rcases hq with rfl | rfl <;> decide)
  have p2 := free_number_spec (n := 4) (L := [(0, 2), (1, 3)]) (s := s) (by decide) (by intro q hq; simp at hq; rcases hq with rfl | rfl <;> decide)
  have p3 := plain_code_spec (n := 2) (L := []) (s := s) (by decide) (by decide)
  have v1 : freeN [(0, 3), (1, 2)] = 1 := by decide
  have v2 : freeN [(0, 2), (1, 3)] = 2 := by decide
  have v3 : baseOf 2 [] = [] := by unfold baseOf ord; simp
  rw [v1] at p1
  rw [v2] at p2
  rw [v3] at p3
  have p1' : sem_free_number [.int 4, .tup [.tup [.int 0, .int 3], .tup [.int 1, .int 2]]] s = some (.int 1, s) := p1
  have p2' : sem_free_number [.int 4, .tup [.tup [.int 0, .int 2], .tup [.int 1, .int 3]]] s = some (.int 2, s) := p2
  have p3' : sem_plain_code [.int 2, .tup []] s = some (.tup [.int 2, .tup []], s) := p3
  have hk : okD (.lst [.int 1, .int 2, .tup [.int 2, .tup []]]) = true := okD_of rfl (by simp [py, pys, PyData.depth, PyData.depthAll])
  have hq : gEq (.lst [.int 1, .int 2, .tup [.int 2, .tup []]]) (.lst [.int 1, .int 2, .tup [.int 2, .tup []]]) = some (.bl true) := by
    show gEqD _ _ = _
    unfold gEqD
    rw [if_pos ⟨hk, hk⟩]
    simp [py, pys, PyData.eqv, PyData.eqvAll]
  unfold q_end
  simp [lenOk, LIM_eq, p1', p2', p3', hq]
theorem good : Good 11 g_law := by
  intro ns hns
  have hL := LIM_eq
  obtain ⟨s', e, _⟩ := loopF_src (p := ptN 2) (b := q_all) (ws := [2, 3, 4, 5, 6, 7, 8, 9]) (ρ := start0 11) Cok (rngD 0 1 5) (fun x hx s hs => by
    obtain ⟨i, rfl⟩ := rngD_ints _ _ _ x hx
    obtain ⟨ρ2, s2, a, b, c⟩ := body_ok (lap := i) hs
    exact ⟨_, ρ2, s2, rfl, a, b, c⟩) (srcOf ns) (cok_src hns)
  refine ⟨start0 11, s', ?_⟩
  have hr : Pv.r1 [.int 5] = some (rngD 0 1 5) := by
    have := r1_int (j := 5) (by omega)
    simpa using this
  rw [g_law_eq]
  simp only [sSeq_ap, sFor_ap, iRng_ap, aCons_ap, aNil_ap, eC_ap, Option.bind_some, Option.map_some, hr, e, last_ok]
end Pv.K41

set_option Elab.async false
set_option linter.all false
set_option maxRecDepth 100000
set_option maxHeartbeats 0
open PySem PySem.W PySem.Calls PyProof.Rows
theorem PySem.Challenge.cw_spancodes_k41_span_lots_holds : PySem.Challenge.rw_spancodes_k41_span_lots.Holds := by
  w_on; o_law
  refine HandSHeadRun.head_any (r := OpenLaw.row PySem.Challenge.rw_spancodes_k41_span_lots) (q := view (OpenLaw.row PySem.Challenge.rw_spancodes_k41_span_lots).prog [29]) (H := Pv.K41.hk) (ob := Pv.K41.ob) (M := 3000) (loose := Pv.K41.loose) (d := HandSHeadRun.topDef (OpenLaw.row PySem.Challenge.rw_spancodes_k41_span_lots).prog 29) (kwd := []) Pv.K41.ob_eq
    (by kernel_rfl) (fun s => by kernel_rfl) Pv.K41.run (by kernel_rfl) (by kernel_rfl) (by kernel_rfl) (by rfl) (by first | assumption | decide +kernel) (by decide +kernel) ⟨rfl, rfl, rfl, rfl, rfl, by decide +kernel⟩ ?hw ?hc
  case hw => w_witness2
  case hc =>
    refine Pv.walk_G (l := PySem.Challenge.rw_spancodes_k41_span_lots) (n := 63) (k := 5) (x := "script") rfl (by decide) (by kernel_rfl) ⟨rfl, by decide, by decide⟩ ?F
    intro w mg fa h Y G hmg0
    obtain ⟨K, KX, c⟩ := Y
    have hmg : mg ("law" : PySem.Str) = some (.ref fa) := by
      have e : (HandSHeadRun.topDef (OpenLaw.row PySem.Challenge.rw_spancodes_k41_span_lots).prog 29).name = ("law" : PySem.Str) := by kernel_rfl
      rw [← e]
      exact hmg0
    obtain ⟨fd, hb, hF⟩ := Pv.K41.facts Pv.K41.good (P := (PySem.Challenge.rw_spancodes_k41_span_lots).prog) (w := w) KX G hmg c
    exact ⟨K, fd, Pv.spLaw K, KX, hb, fun H a ns hl hS => ⟨a, ns, rfl, hS, hl, fun _ => rfl⟩, hF⟩

