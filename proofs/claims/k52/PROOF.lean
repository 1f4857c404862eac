import PyProof.Rows.All
import Wide.All
import OpenK.AllK
import Wide.FinOn
import KE.KStateDown
import KE.DataCmp
import KE.DataMinMax
import KE.DataIsa
import KE.SortData
import PyProof.ReprRoads
import HandS.Base
import HandS.Call
import HandS.List
import HandS.Comp
import HandS.Iter
import HandS.Walk
import HandS.Zip
import HandS.Ends
import HandS.More
import HandS.Exc
import HandS.ExcOwn
import HandS.Words
import HandS.WordsExc
import HandS.Defaults
import HandS.Wide
import HandS.Deep
import HandS.Style
import HandS.TupAny
import HandS.TupMul
import HandS.IsInst
import HandS.TryOnly
import HandS.TryMany
import HandS.Star
import KE.GoesEnum
import HandS.Head0
import HandS.Head1
import HandS.Head2
import HandS.HeadEnd
import HandS.HeadHook1
import HandS.HeadHook2
import PySem.Challenge.RW_mostsums_k52_whole_polys_that_reach
set_option Elab.async false
set_option linter.all false
section
set_option maxRecDepth 100000
set_option maxHeartbeats 1000000
/-! Values as trees: DF (what a value tells as data, lists outside O never written), Kp (what stays), the jar. -/
namespace Ev
open PySem PySem.Spec PyProof.Rows L2

/-! ### data without a list -/
mutual
def noL : PyData → Bool
  | .none => true
  | .bool _ => true
  | .int _ => true
  | .str _ => true
  | .list _ => false
  | .tuple xs => noLs xs
  | .dict _ => false
def noLs : List PyData → Bool
  | [] => true
  | x :: xs => noL x && noLs xs
end

/-- the script -/
def scrD (ns : List Int) : PyData := .dict [(.none, .list (ns.map .int))]

/-! ### what a value tells -/
def KLst (K : PySem.W.Frag) (a : Addr) (xs : List V) : Prop :=
  ∃ (o : Obj) (its : Array Value) (n : Nat), K.lookup a = some o ∧ o.cls = .type "list" ∧ o.dict = none ∧ o.data = .seq its n ∧ its.size ≤ sizeLine ∧ Vals xs its.toList
/-- a list that is not written: it stands outside O, or it is locked, or the module's -/
def LsF (K : PySem.W.Frag) (H : Hp) (O : Addr → Prop) (a : Addr) (xs : List V) : Prop :=
  (H a = some (.lst xs) ∧ ¬ O a) ∨ (∃ o, H a = some (.frz o (.lst xs))) ∨ KLst K a xs
theorem LsF.sq {K : PySem.W.Frag} {H : Hp} {O : Addr → Prop} {a : Addr} {xs : List V} (h : LsF K H O a xs) : SqL K H a xs := by
  rcases h with h | h | h
  · exact .inl (.inl h.1)
  · exact .inl (.inr h)
  · exact .inr h

mutual
inductive DF (K : PySem.W.Frag) (H : Hp) (O : Addr → Prop) : V → PyData → Prop
  | non : DF K H O .non .none
  | bl (b : Bool) : DF K H O (.bl b) (.bool b)
  | int (i : Int) : DF K H O (.int i) (.int i)
  | str (x : Str) : DF K H O (.str x) (.str x)
  | lst {a : Addr} {xs : List V} {ds : List PyData} : H a = some (.lst xs) → ¬ O a → DFs K H O xs ds → DF K H O (.ref a) (.list ds)
  | tup {a : Addr} {xs : List V} {ds : List PyData} : SqT K H a xs → DFs K H O xs ds → DF K H O (.ref a) (.tuple ds)
  | scr {a : Addr} {ns : List Int} : LsF K H O a (ns.map V.int) → DF K H O (.ref a) (scrD ns)
inductive DFs (K : PySem.W.Frag) (H : Hp) (O : Addr → Prop) : List V → List PyData → Prop
  | nil : DFs K H O [] []
  | cons {v : V} {vs : List V} {d : PyData} {ds : List PyData} : DF K H O v d → DFs K H O vs ds → DFs K H O (v :: vs) (d :: ds)
end

section
variable {K : PySem.W.Frag} {H H' : Hp} {O O' : Addr → Prop}
theorem DFs.length : ∀ {vs : List V} {ds : List PyData}, DFs K H O vs ds → vs.length = ds.length
  | _, _, .nil => rfl
  | _, _, .cons _ t => by rw [List.length_cons, List.length_cons, DFs.length t]
theorem DFs.get : ∀ {vs : List V} {ds : List PyData}, DFs K H O vs ds → ∀ {i : Nat} {d : PyData}, ds[i]? = some d → ∃ v, vs[i]? = some v ∧ DF K H O v d
  | _, _, .nil, _, _, e => by simp at e
  | _, _, .cons h t, 0, d, e => by simp at e; subst e; exact ⟨_, rfl, h⟩
  | _, _, .cons h t, i + 1, d, e => by simpa using DFs.get t (i := i) (d := d) (by simpa using e)
theorem DFs.get' : ∀ {vs : List V} {ds : List PyData}, DFs K H O vs ds → ∀ {i : Nat} {v : V}, vs[i]? = some v → ∃ d, ds[i]? = some d ∧ DF K H O v d
  | _, _, .nil, _, _, e => by simp at e
  | _, _, .cons h t, 0, d, e => by simp at e; subst e; exact ⟨_, rfl, h⟩
  | _, _, .cons h t, i + 1, d, e => by simpa using DFs.get' t (i := i) (v := d) (by simpa using e)
theorem DFs.append : ∀ {vs ws : List V} {ds es : List PyData}, DFs K H O vs ds → DFs K H O ws es → DFs K H O (vs ++ ws) (ds ++ es)
  | _, _, _, _, .nil, s => s
  | _, _, _, _, .cons h t, s => .cons h (DFs.append t s)
theorem DFs.take : ∀ {vs : List V} {ds : List PyData} (n : Nat), DFs K H O vs ds → DFs K H O (vs.take n) (ds.take n)
  | _, _, 0, _ => .nil
  | _, _, _ + 1, .nil => .nil
  | _, _, n + 1, .cons h t => .cons h (DFs.take n t)
theorem DFs.drop : ∀ {vs : List V} {ds : List PyData} (n : Nat), DFs K H O vs ds → DFs K H O (vs.drop n) (ds.drop n)
  | _, _, 0, r => r
  | _, _, _ + 1, .nil => .nil
  | _, _, n + 1, .cons _ t => DFs.drop n t
theorem DFs.set : ∀ {vs : List V} {ds : List PyData} (n : Nat) {v : V} {d : PyData}, DFs K H O vs ds → DF K H O v d → DFs K H O (vs.set n v) (ds.set n d)
  | _, _, _, _, _, .nil, _ => .nil
  | _, _, 0, _, _, .cons _ t, h => .cons h t
  | _, _, n + 1, _, _, .cons q t, h => .cons q (DFs.set n t h)
theorem DFs.reverse {vs : List V} {ds : List PyData} (h : DFs K H O vs ds) : DFs K H O vs.reverse ds.reverse := by
  induction vs generalizing ds with
  | nil => cases h; exact .nil
  | cons v vs ih =>
    cases h with
    | cons h t =>
      rw [List.reverse_cons, List.reverse_cons]
      exact (ih t).append (.cons h .nil)
theorem DFs.rep {vs : List V} {ds : List PyData} (h : DFs K H O vs ds) : ∀ k : Nat, DFs K H O (List.replicate k vs).flatten (List.replicate k ds).flatten
  | 0 => .nil
  | k + 1 => by
    rw [List.replicate_succ, List.replicate_succ, List.flatten_cons, List.flatten_cons]
    exact h.append (h.rep k)
theorem DFs.dropLast {vs : List V} {ds : List PyData} (h : DFs K H O vs ds) : DFs K H O vs.dropLast ds.dropLast := by
  rw [List.dropLast_eq_take, List.dropLast_eq_take, h.length]
  exact h.take _
theorem DFs.ints : ∀ {ns : List Int}, DFs K H O (ns.map V.int) (ns.map PyData.int)
  | [] => .nil
  | n :: ns => .cons (.int n) DFs.ints
theorem DFs.intsOf : ∀ {vs : List V} {ns : List Int}, DFs K H O vs (ns.map PyData.int) → vs = ns.map V.int
  | _, [], h => by cases h; rfl
  | _, n :: ns, h => by
    cases h with
    | cons h t =>
      cases h
      rw [DFs.intsOf t]; rfl
theorem DF.inj_int {v : V} {i : Int} (h : DF K H O v (.int i)) : v = .int i := by cases h; rfl
theorem DF.inj_bool {v : V} {i : Bool} (h : DF K H O v (.bool i)) : v = .bl i := by cases h; rfl
theorem DF.inj_str {v : V} {i : Str} (h : DF K H O v (.str i)) : v = .str i := by cases h; rfl
theorem DF.inj_none {v : V} (h : DF K H O v .none) : v = .non := by cases h; rfl
theorem DF.inj_list {v : V} {ds : List PyData} (h : DF K H O v (.list ds)) : ∃ a xs, v = .ref a ∧ H a = some (.lst xs) ∧ ¬ O a ∧ DFs K H O xs ds := by
  cases h with
  | lst h n t => exact ⟨_, _, rfl, h, n, t⟩
theorem DF.inj_tup {v : V} {ds : List PyData} (h : DF K H O v (.tuple ds)) : ∃ a xs, v = .ref a ∧ SqT K H a xs ∧ DFs K H O xs ds := by
  cases h with
  | tup h t => exact ⟨_, _, rfl, h, t⟩

/-! ### to the layer's own reading -/
mutual
def noD : PyData → Bool
  | .none => true
  | .bool _ => true
  | .int _ => true
  | .str _ => true
  | .list xs => noDs xs
  | .tuple xs => noDs xs
  | .dict _ => false
def noDs : List PyData → Bool
  | [] => true
  | x :: xs => noD x && noDs xs
end
mutual
theorem DF.dp : ∀ {v : V} {d : PyData}, DF K H O v d → noD d = true → Dp K H v d
  | _, _, .non, _ => .non
  | _, _, .bl b, _ => .bl b
  | _, _, .int i, _ => .int i
  | _, _, .str x, _ => .str x
  | _, _, .lst h _ t, e => .lst (.inl (.inl h)) (t.dp (by simpa [noD] using e))
  | _, _, .tup h t, e => .tup h (t.dp (by simpa [noD] using e))
  | _, _, .scr _, e => by simp [scrD, noD] at e
theorem DFs.dp : ∀ {vs : List V} {ds : List PyData}, DFs K H O vs ds → noDs ds = true → DpAll K H vs ds
  | _, _, .nil, _ => .nil
  | _, _, .cons h t, e => by
    rw [noDs, Bool.and_eq_true] at e
    exact .cons (h.dp e.1) (t.dp e.2)
end
mutual
theorem noD_lay : ∀ {d : PyData}, d.canLay0 = true → noD d = true
  | .none, _ => rfl
  | .bool _, _ => rfl
  | .int _, _ => rfl
  | .str _, _ => rfl
  | .list xs, e => by rw [noD]; exact noDs_lay (by simpa [PyData.canLay0] using e)
  | .tuple xs, e => by rw [noD]; exact noDs_lay (by simpa [PyData.canLay0] using e)
  | .dict _, e => by simp [PyData.canLay0] at e
theorem noDs_lay : ∀ {ds : List PyData}, PyData.canLayAll0 ds = true → noDs ds = true
  | [], _ => rfl
  | x :: xs, e => by
    rw [PyData.canLayAll0, Bool.and_eq_true] at e
    rw [noDs, noD_lay e.1, noDs_lay e.2]; rfl
end

/-! ### what stays -/
/-- all that is not written, or stands outside O, stays -/
structure Kp (O : Addr → Prop) (H H' : Hp) : Prop where
  at_ : ∀ a o, H a = some o → (¬ O a ∨ ¬ Mut (some o)) → H' a = some o
  there : ∀ a, H a ≠ none → H' a ≠ none
/-- nothing is written -/
abbrev No : Addr → Prop := fun _ => False
theorem Kp.refl : Kp O H H := ⟨fun _ _ e _ => e, fun _ e => e⟩
theorem Kp.trans {H1 H2 : Hp} (a : Kp O H H1) (b : Kp O H1 H2) : Kp O H H2 := ⟨fun x o e n => b.at_ x o (a.at_ x o e n) n, fun x e => b.there x (a.there x e)⟩
theorem Kp.mono {O' : Addr → Prop} (k : Kp O H H') (h : ∀ a, O a → O' a) : Kp O' H H' := ⟨fun x o e n => k.at_ x o e (n.imp (fun z q => z (h x q)) fun z => z), k.there⟩
theorem Kp.no (k : Kp No H H') : Kp O H H' := k.mono fun _ z => z.elim
theorem Kp.gone {a : Addr} (k : Kp O H H') (hn : H' a = none) : H a = none := by
  cases e : H a with
  | none => rfl
  | some o => exact absurd hn (k.there a (by rw [e]; exact fun z => nomatch z))
theorem upd_none {a b : Addr} {o : HO} (h : H b ≠ none) : upd H a o b ≠ none := by
  unfold upd; split
  · exact fun z => nomatch z
  · exact h
theorem Kp.new {a : Addr} {o : HO} (hn : H a = none) : Kp O H (upd H a o) := ⟨fun x u e _ => by rw [upd_ne (ne_of_none e hn)]; exact e, fun x e => upd_none e⟩
theorem Kp.write {a : Addr} {o u : HO} (ha : O a) (e : H a = some u) (m : Mut (some u)) : Kp O H (upd H a o) := ⟨fun x w q n => by
  by_cases z : x = a
  · subst z
    rw [e] at q; cases q
    rcases n with n | n
    · exact absurd ha n
    · exact absurd m n
  · rw [upd_ne z]; exact q, fun x e => upd_none e⟩

theorem LsF.keep {a : Addr} {xs : List V} (k : Kp O H H') (h : LsF K H O a xs) : LsF K H' O a xs := by
  rcases h with ⟨h, n⟩ | ⟨o, h⟩ | h
  · exact .inl ⟨k.at_ _ _ h (.inl n), n⟩
  · exact .inr (.inl ⟨o, k.at_ _ _ h (.inr fun z => z)⟩)
  · exact .inr (.inr h)
theorem SqT.keep {a : Addr} {xs : List V} (k : Kp O H H') (h : SqT K H a xs) : SqT K H' a xs := by
  rcases h with (h | ⟨o, h⟩) | h
  · exact .inl (.inl (k.at_ _ _ h (.inr fun z => z)))
  · exact .inl (.inr ⟨o, k.at_ _ _ h (.inr fun z => z)⟩)
  · exact .inr h
mutual
theorem DF.keep (k : Kp O H H') : ∀ {v : V} {d : PyData}, DF K H O v d → DF K H' O v d
  | _, _, .non => .non
  | _, _, .bl b => .bl b
  | _, _, .int i => .int i
  | _, _, .str x => .str x
  | _, _, .lst h n t => .lst (k.at_ _ _ h (.inl n)) n (t.keep k)
  | _, _, .tup h t => .tup (SqT.keep k h) (t.keep k)
  | _, _, .scr h => .scr (h.keep k)
theorem DFs.keep (k : Kp O H H') : ∀ {vs : List V} {ds : List PyData}, DFs K H O vs ds → DFs K H' O vs ds
  | _, _, .nil => .nil
  | _, _, .cons h t => .cons (h.keep k) (t.keep k)
end
/-- other addresses stand apart: those of O, or such that nothing stood at -/
theorem LsF.less {a : Addr} {xs : List V} (k : ∀ a, O' a → O a ∨ H a = none) (h : LsF K H O a xs) : LsF K H O' a xs := by
  rcases h with ⟨h, n⟩ | h | h
  · exact .inl ⟨h, fun z => by rcases k _ z with q | q; exact n q; rw [h] at q; cases q⟩
  · exact .inr (.inl h)
  · exact .inr (.inr h)
mutual
theorem DF.less (k : ∀ a, O' a → O a ∨ H a = none) : ∀ {v : V} {d : PyData}, DF K H O v d → DF K H O' v d
  | _, _, .non => .non
  | _, _, .bl b => .bl b
  | _, _, .int i => .int i
  | _, _, .str x => .str x
  | _, _, .lst h n t => .lst h (fun z => by rcases k _ z with q | q; exact n q; rw [h] at q; cases q) (t.less k)
  | _, _, .tup h t => .tup h (t.less k)
  | _, _, .scr h => .scr (h.less k)
theorem DFs.less (k : ∀ a, O' a → O a ∨ H a = none) : ∀ {vs : List V} {ds : List PyData}, DFs K H O vs ds → DFs K H O' vs ds
  | _, _, .nil => .nil
  | _, _, .cons h t => .cons (h.less k) (t.less k)
end
/-- later, with more apart -/
theorem DF.move (k : Kp O H H') (l : ∀ a, O' a → O a ∨ H a = none) {v : V} {d : PyData} (h : DF K H O v d) : DF K H' O' v d := by
  have h1 : DF K H (fun a => O a ∨ O' a) v d := h.less fun a z => z.elim .inl (l a)
  exact (h1.keep (k.mono fun a z => .inl z)).less fun a z => .inl (.inr z)
theorem DFs.move (k : Kp O H H') (l : ∀ a, O' a → O a ∨ H a = none) {v : List V} {d : List PyData} (h : DFs K H O v d) : DFs K H' O' v d := by
  have h1 : DFs K H (fun a => O a ∨ O' a) v d := h.less fun a z => z.elim .inl (l a)
  exact (h1.keep (k.mono fun a z => .inl z)).less fun a z => .inl (.inr z)
mutual
theorem DF.noL (O' : Addr → Prop) : ∀ {v : V} {d : PyData}, DF K H O v d → Ev.noL d = true → DF K H O' v d
  | _, _, .non, _ => .non
  | _, _, .bl b, _ => .bl b
  | _, _, .int i, _ => .int i
  | _, _, .str x, _ => .str x
  | _, _, .lst _ _ _, e => by simp [Ev.noL] at e
  | _, _, .tup h t, e => .tup h (t.noL O' (by simpa [Ev.noL] using e))
  | _, _, .scr _, e => by simp [Ev.noL, scrD] at e
theorem DFs.noL (O' : Addr → Prop) : ∀ {vs : List V} {ds : List PyData}, DFs K H O vs ds → Ev.noLs ds = true → DFs K H O' vs ds
  | _, _, .nil, _ => .nil
  | _, _, .cons h t, e => by
    rw [Ev.noLs, Bool.and_eq_true] at e
    exact .cons (h.noL O' e.1) (t.noL O' e.2)
end
end

/-! ### the jar: one list of whole numbers, written -/
abbrev Jr := Option (List Int)
def JRel (H : Hp) (O : Addr → Prop) : Option Addr → Jr → Prop
  | none, none => True
  | some j, some ns => O j ∧ H j = some (.lst (ns.map V.int))
  | _, _ => False

/-! ### results -/
/-- an exception: its class by name, what it keeps -/
structure Xn where
  cls : Str
  arg : Option PyData
inductive Rs (α : Type) where
  | ok (a : α) (J : Jr)
  | ex (x : Xn) (J : Jr)
  | no
abbrev Mo (α : Type) := Jr → Rs α
def Mo.bind {α β : Type} (m : Mo α) (f : α → Mo β) : Mo β := fun J => match m J with
  | .ok a J1 => f a J1
  | .ex x J1 => .ex x J1
  | .no => .no
def Mo.pure {α : Type} (a : α) : Mo α := fun J => .ok a J
def Mo.fail {α : Type} : Mo α := fun _ => .no
def Mo.opt {α : Type} : Option α → Mo α
  | some a => fun J => .ok a J
  | none => fun _ => .no
abbrev Sd := List (Option PyData)
def Rs.Ok {α : Type} (P : α → Jr → Prop) : Rs α → Prop
  | .ok a J => P a J
  | _ => False
theorem Mo.bind_ok {α β : Type} {P : β → Jr → Prop} {m : Mo α} {f : α → Mo β} {J : Jr} (h : (Mo.bind m f J).Ok P) : ∃ a J1, m J = .ok a J1 ∧ (f a J1).Ok P := by
  unfold Mo.bind at h
  cases e : m J with
  | ok a J1 => rw [e] at h; exact ⟨a, J1, rfl, h⟩
  | ex x J1 => rw [e] at h; exact h.elim
  | no => rw [e] at h; exact h.elim
theorem Mo.opt_ok {α : Type} {P : α → Jr → Prop} {o : Option α} {J : Jr} (h : (Mo.opt o J).Ok P) : ∃ a, o = some a ∧ P a J := by
  cases o with
  | none => exact h.elim
  | some a => exact ⟨a, rfl, h⟩
theorem Mo.opt_eq {α : Type} {o : Option α} {a : α} {J J1 : Jr} (h : Mo.opt o J = .ok a J1) : o = some a ∧ J1 = J := by
  cases o with
  | none => cases h
  | some b => cases h; exact ⟨rfl, rfl⟩
theorem Mo.pure_eq {α : Type} {a b : α} {J J1 : Jr} (h : Mo.pure a J = .ok b J1) : a = b ∧ J1 = J := by cases h; exact ⟨rfl, rfl⟩
theorem Rs.Ok.imp {α : Type} {P Q : α → Jr → Prop} {r : Rs α} (h : r.Ok P) (k : ∀ a J, P a J → Q a J) : r.Ok Q := by
  cases r with
  | ok a J => exact k _ _ h
  | ex x J => exact h.elim
  | no => exact h.elim
end Ev
end

section
set_option maxRecDepth 100000
set_option maxHeartbeats 1000000
/-! A small language over data, and what it computes. -/
namespace Ev
open PySem PySem.Spec PyProof.Rows L2

inductive BOp | add | sub | mul | fdiv | mod | pow
  deriving DecidableEq
inductive COp | lt | le | gt | ge | eq | ne | is_ | isn | isin | nin
  deriving DecidableEq
inductive Ty | tup | lst | int | bool | str | dct
  deriving DecidableEq
inductive Bi | len | abs | int | list | tuple | sum | max | min | max2 | min2 | sorted | all | any | repr | isi (t : Ty)
  deriving DecidableEq

/-- targets of assignments, loops, comprehensions -/
inductive Tg where
  | name (i : Nat)
  | tup (ts : List Tg)

mutual
inductive Ex where
  | var (i : Nat)
  | lit (d : PyData)
  | tup (es : List Ex)
  | lst (es : List Ex)
  | star (e : Ex)
  | bin (o : BOp) (a b : Ex)
  | neg (a : Ex)
  | not (a : Ex)
  | cmp (o : COp) (a b : Ex)
  | chain (o o' : COp) (a b c : Ex)
  | and (a b : Ex)
  | or (a b : Ex)
  | ite (c a b : Ex)
  | idx (a i : Ex)
  | slc (a : Ex) (lo hi : List Ex)
  | rev (a : Ex)
  | call (f : Nat) (as : List Ex)
  | callJ (f : Nat) (as : List Ex)
  | bi (b : Bi) (as : List Ex)
  | jget (k : Nat)
  | lc (elt : Ex) (t : Tg) (it : Itr) (ifs : List Ex) (own : List Nat)
  | lc2 (elt : Ex) (t : Tg) (it : Itr) (ifs : List Ex) (t1 : Tg) (it1 : Itr) (ifs1 : List Ex) (own : List Nat) (own1 : List Nat)
inductive Itr where
  | seq (e : Ex)
  | rng1 (e : Ex)
  | rng2 (a b : Ex)
  | enum (e : Ex)
  | zip (a b : Ex)
end

/-! ### values -/
def truthD : PyData → Option Bool
  | .none => some false
  | .bool b => some b
  | .int i => some (i != 0)
  | .list xs => some (!xs.isEmpty)
  | .tuple xs => some (!xs.isEmpty)
  | _ => none
def intsD : List PyData → Option (List Int)
  | [] => some []
  | .int i :: r => (intsD r).map (i :: ·)
  | _ :: _ => none
def boolsD : List PyData → Option (List Bool)
  | [] => some []
  | .bool b :: r => (boolsD r).map (b :: ·)
  | _ :: _ => none
def alikeB (ds : List PyData) : Bool := ds.all fun a => ds.all fun b => W.alike a b
def sortB : List PyData → Bool := fun ds => (ds.all fun d => match d with | .tuple (_ :: _) => true | _ => false) || (ds.all fun d => match d with | .none => false | .tuple _ => false | _ => true)
def shapedB (d : PyData) : Bool := SeqAt.shaped d
def isiD : Ty → PyData → Bool
  | .tup, d => d.isTuple
  | .lst, d => d.isList
  | .int, d => d.isInt
  | .bool, d => d.isBool
  | .str, d => d.isStr
  | .dct, d => d.isDict
def sortD (ds : List PyData) : List PyData := ds.mergeSort (W.dataLe false id)
def seqD : PyData → Option (List PyData)
  | .list xs => some xs
  | .tuple xs => some xs
  | _ => none
def bestB (xs : List PyData) : Bool := alikeB xs && sortB xs && decide (PyData.depthAll xs ≤ 60) && noDs xs
def biE : Bi → List PyData → Option PyData
  | .len, [.list xs] => some (.int xs.length)
  | .len, [.tuple xs] => some (.int xs.length)
  | .len, [.dict [(.none, .list xs)]] => some (.int xs.length)
  | .abs, [.int i] => some (.int (if i < 0 then -i else i))
  | .int, [.int i] => some (.int i)
  | .int, [.bool k] => some (.int (if k then 1 else 0))
  | .list, [.list xs] => some (.list xs)
  | .list, [.tuple xs] => some (.list xs)
  | .tuple, [.list xs] => some (.tuple xs)
  | .tuple, [.tuple xs] => some (.tuple xs)
  | .sum, [.list xs] => (intsD xs).map fun ns => .int ns.sum
  | .max, [.list (x :: xs)] => if bestB (x :: xs) then some (W.maxD x xs) else none
  | .max, [.tuple (x :: xs)] => if bestB (x :: xs) then some (W.maxD x xs) else none
  | .min, [.list (x :: xs)] => if bestB (x :: xs) then some (W.minD x xs) else none
  | .min, [.tuple (x :: xs)] => if bestB (x :: xs) then some (W.minD x xs) else none
  | .max2, [.int a, .int b] => some (.int (if b > a then b else a))
  | .min2, [.int a, .int b] => some (.int (if b < a then b else a))
  | .sorted, [.list xs] => if bestB xs && decide (xs.length ≤ sizeLine) then some (.list (sortD xs)) else none
  | .all, [.list xs] => (boolsD xs).map fun bs => .bool (bs.all id)
  | .any, [.list xs] => (boolsD xs).map fun bs => .bool (bs.any id)
  | .repr, [d] => if d.showable && noD d && decide (d.depth ≤ 60) && decide (d.shown.length ≤ sizeLine) then some (.str d.shown) else none
  | .isi t, [d] => if noD d then some (.bool (isiD t d)) else none
  | _, _ => none
def mulI (i j : Int) : Option PyData := if i.natAbs.log2 + j.natAbs.log2 < 1000000 then some (.int (i * j)) else none
def binE : BOp → PyData → PyData → Option PyData
  | .add, .int a, .int b => some (.int (a + b))
  | .add, .tuple a, .tuple b => if a.length + b.length ≤ sizeLine then some (.tuple (a ++ b)) else none
  | .add, .list a, .list b => if a.length + b.length ≤ sizeLine then some (.list (a ++ b)) else none
  | .add, .str a, .str b => if a.length + b.length ≤ sizeLine then some (.str (a ++ b)) else none
  | .sub, .int a, .int b => some (.int (a - b))
  | .mul, .int a, .int b => mulI a b
  | .mul, .list a, .int k => if -(2 ^ 62) ≤ k ∧ k < 2 ^ 62 ∧ a.length * k.toNat ≤ sizeLine then some (.list (List.replicate k.toNat a).flatten) else none
  | .mul, .tuple (x :: a), .int k => if 2 ≤ k ∧ k ≤ 1000 ∧ a.length < 1000 then some (.tuple (List.replicate k.toNat (x :: a)).flatten) else none
  | .fdiv, .int a, .int b => if 0 < b ∧ b.natAbs.log2 < 9000 then some (.int (a / b)) else none
  | .mod, .int a, .int b => if 0 < b then some (.int (a % b)) else none
  | .pow, .int a, .int b => if 0 ≤ b ∧ b ≤ 1000000 ∧ a.natAbs < 2 ^ 64 then some (.int (a ^ b.toNat)) else none
  | _, _, _ => none
def ltD (a b : PyData) : Option Bool := if W.alike a b && (match a with | .none => false | _ => true) && decide (a.depth ≤ 60) && noD a && noD b then some (W.dataLt a b) else none
def eqD (a b : PyData) : Option Bool := if shapedB a && shapedB b then some (PyData.eqv a b) else none
def inD (a : PyData) (xs : List PyData) : Option Bool := if shapedB a && shapedB (.list xs) then some (xs.any fun z => PyData.eqv z a) else none
def isD : PyData → PyData → Option Bool
  | .none, .none => some true
  | _, .none => some false
  | .bool a, .bool b => some (decide (a = b))
  | _, _ => none
def cmpE : COp → PyData → PyData → Option Bool
  | .lt, .int a, .int b => some (decide (a < b))
  | .le, .int a, .int b => some (decide (a ≤ b))
  | .gt, .int a, .int b => some (decide (b < a))
  | .ge, .int a, .int b => some (decide (b ≤ a))
  | .eq, .int a, .int b => some (decide (a = b))
  | .ne, .int a, .int b => some (!decide (a = b))
  | .lt, a, b => ltD a b
  | .le, a, b => (ltD b a).map (!·)
  | .gt, a, b => ltD b a
  | .ge, a, b => (ltD a b).map (!·)
  | .eq, a, b => eqD a b
  | .ne, a, b => (eqD a b).map (!·)
  | .is_, a, b => isD a b
  | .isn, a, b => (isD a b).map (!·)
  | .isin, a, .list xs => inD a xs
  | .isin, a, .tuple xs => inD a xs
  | .nin, a, .list xs => (inD a xs).map (!·)
  | .nin, a, .tuple xs => (inD a xs).map (!·)
  | _, _, _ => none
def idxE : PyData → PyData → Option PyData
  | .list xs, .int i => atI xs i
  | .tuple xs, .int i => atI xs i
  | .dict [(.none, .list xs)], .int i => atI xs i
  | _, _ => none
def cutD (xs : List PyData) (lo hi : Option Int) : List PyData := (xs.drop (HT.sIx xs.length 0 lo)).take (HT.sIx xs.length xs.length hi - HT.sIx xs.length 0 lo)
def slcE : PyData → Option Int → Option Int → Option PyData
  | .list xs, lo, hi => some (.list (cutD xs lo hi))
  | .tuple xs, lo, hi => some (.tuple (cutD xs lo hi))
  | _, _, _ => none
def revE : PyData → Option PyData
  | .list xs => some (.list xs.reverse)
  | _ => none
def intD : PyData → Option Int
  | .int i => some i
  | _ => none
def boolD : PyData → Option Bool
  | .bool b => some b
  | _ => none
def fitD (ds : List PyData) : Option (List PyData) := if ds.length ≤ sizeLine then some ds else none
def rngD (i j : Int) : Option (List PyData) := if -(2 ^ 62) ≤ i ∧ i < 2 ^ 62 ∧ -(2 ^ 62) ≤ j ∧ j < 2 ^ 62 then some ((List.range (j - i).toNat).map fun (k : Nat) => PyData.int (i + (k : Int))) else none
def enumD (i : Nat) : List PyData → List PyData
  | [] => []
  | x :: xs => .tuple [.int i, x] :: enumD (i + 1) xs
def zipE : PyData → PyData → Option (List PyData)
  | .list xs, .list ys => some (List.zipWith (fun x y => .tuple [x, y]) xs ys)
  | .tuple xs, .tuple ys => some (List.zipWith (fun x y => .tuple [x, y]) xs ys)
  | _, _ => none
def zipD (xs ys : List PyData) : List PyData := List.zipWith (fun x y => .tuple [x, y]) xs ys

/-! ### targets -/
mutual
def setTg : Tg → PyData → Sd → Option Sd
  | .name i, d, σ => some (σ.set i (some d))
  | .tup ts, .tuple ds, σ => setTgs ts ds σ
  | .tup _, _, _ => none
def setTgs : List Tg → List PyData → Sd → Option Sd
  | [], [], σ => some σ
  | t :: ts, d :: ds, σ => (setTg t d σ).bind fun σ1 => setTgs ts ds σ1
  | _, _, _ => none
end
def wipeD (σ : Sd) : List Nat → Sd
  | [] => σ
  | v :: vs => (wipeD σ vs).set v none

/-! ### expressions -/
def lcLoop (f : PyData → Mo (Option PyData)) : List PyData → Mo (List PyData)
  | [] => Mo.pure []
  | d :: ds => Mo.bind (f d) fun o => Mo.bind (lcLoop f ds) fun r => Mo.pure (match o with | some x => x :: r | none => r)
def lcLoop2 (f : PyData → Mo (List PyData)) : List PyData → Mo (List PyData)
  | [] => Mo.pure []
  | d :: ds => Mo.bind (f d) fun o => Mo.bind (lcLoop2 f ds) fun r => Mo.pure (o ++ r)
abbrev Fns := Nat → List PyData → Mo PyData
def noX {α : Type} (m : Mo α) : Mo α := fun J => match m J with
  | .ex _ _ => .no
  | r => r
def callP (Φ : Fns) (f : Nat) (ds : List PyData) : Mo PyData := fun J => match Φ f ds none with
  | .ok d _ => .ok d J
  | .ex x _ => .ex x J
  | .no => .no
def callQ (Φ : Fns) (f : Nat) (ds : List PyData) : Mo PyData := fun J => match J with
  | none => .no
  | some ns => Φ f ds (some ns)
/-! ### readings put together -/
def mCallJ (Φ : Fns) (f : Nat) (Fs : Sd → Mo (List PyData)) : Sd → Mo PyData := fun σ J => match J with
  | none => .no
  | some _ => Mo.bind (Fs σ) (fun ds => callQ Φ f ds) J
def mT (F : Sd → Mo PyData) : Sd → Mo Bool := fun σ => Mo.bind (F σ) fun x => Mo.opt (truthD x)
def mChain (G G' : PyData → PyData → Option Bool) (Fa Fb Fc : Sd → Mo PyData) : Sd → Mo PyData := fun σ => Mo.bind (Fa σ) fun x => Mo.bind (Fb σ) fun y => Mo.bind (Mo.opt (G x y)) fun k => match k with
  | true => Mo.bind (Fc σ) fun z => Mo.opt ((G' y z).map .bool)
  | false => Mo.pure (.bool false)
def mAnd (Fa Fb : Sd → Mo PyData) : Sd → Mo PyData := fun σ => Mo.bind (Fa σ) fun x => Mo.bind (Mo.opt (boolD x)) fun k => match k with | true => Fb σ | false => Mo.pure (.bool false)
def mOr (Fa Fb : Sd → Mo PyData) : Sd → Mo PyData := fun σ => Mo.bind (Fa σ) fun x => Mo.bind (Mo.opt (boolD x)) fun k => match k with | true => Mo.pure (.bool true) | false => Fb σ
def mIte (Fc Fa Fb : Sd → Mo PyData) : Sd → Mo PyData := fun σ => Mo.bind (Fc σ) fun x => Mo.bind (Mo.opt (truthD x)) fun k => match k with | true => Fa σ | false => Fb σ
def mNot (Fa : Sd → Mo PyData) : Sd → Mo PyData := fun σ => Mo.bind (Fa σ) fun x => Mo.opt ((truthD x).map fun b => .bool (!b))
/-- a turn of a comprehension: the item stored, the tests, the element -/
def lcTurn (t : Tg) (Ff : Sd → Mo Bool) (Fe : Sd → Mo PyData) (σ0 : Sd) (d : PyData) : Mo (Option PyData) := Mo.bind (Mo.opt (setTg t d σ0)) fun σ1 => Mo.bind (Ff σ1) fun k => match k with
  | true => Mo.bind (Fe σ1) fun x => Mo.pure (some x)
  | false => Mo.pure none
def mLc (Fi : Sd → Mo (List PyData)) (t : Tg) (Ff : Sd → Mo Bool) (Fe : Sd → Mo PyData) (vs : List Nat) : Sd → Mo PyData := fun σ => Mo.bind (Fi σ) fun ds => Mo.bind (noX (lcLoop (lcTurn t Ff Fe (wipeD σ vs)) ds)) fun r => Mo.opt ((fitD r).map .list)
def lcTurn2 (t : Tg) (Ff : Sd → Mo Bool) (Fi1 : Sd → Mo (List PyData)) (t1 : Tg) (Ff1 : Sd → Mo Bool) (Fe : Sd → Mo PyData) (vs1 : List Nat) (σ0 : Sd) (d : PyData) : Mo (List PyData) := Mo.bind (Mo.opt (setTg t d σ0)) fun σ1 => Mo.bind (Ff σ1) fun k => match k with
  | true => Mo.bind (Fi1 σ1) fun ds1 => lcLoop (lcTurn t1 Ff1 Fe (wipeD σ1 vs1)) ds1
  | false => Mo.pure []
def mLc2 (Fi : Sd → Mo (List PyData)) (t : Tg) (Ff : Sd → Mo Bool) (Fi1 : Sd → Mo (List PyData)) (t1 : Tg) (Ff1 : Sd → Mo Bool) (Fe : Sd → Mo PyData) (vs vs1 : List Nat) : Sd → Mo PyData := fun σ => Mo.bind (Fi σ) fun ds =>
  Mo.bind (noX (lcLoop2 (lcTurn2 t Ff Fi1 t1 Ff1 Fe vs1 (wipeD σ vs)) ds)) fun r => Mo.opt ((fitD r).map .list)
mutual
def evE (Φ : Fns) : Ex → Sd → Mo PyData
  | .var i, σ => Mo.opt (σ.getD i none)
  | .lit d, _ => Mo.pure d
  | .tup es, σ => Mo.bind (evEs Φ es σ) fun ds => Mo.opt ((fitD ds).map .tuple)
  | .lst es, σ => Mo.bind (evEs Φ es σ) fun ds => Mo.opt ((fitD ds).map .list)
  | .star _, _ => Mo.fail
  | .bin o a b, σ => Mo.bind (evE Φ a σ) fun x => Mo.bind (evE Φ b σ) fun y => Mo.opt (binE o x y)
  | .neg a, σ => Mo.bind (evE Φ a σ) fun x => Mo.opt ((intD x).map fun i => .int (-i))
  | .not a, σ => mNot (evE Φ a) σ
  | .cmp o a b, σ => Mo.bind (evE Φ a σ) fun x => Mo.bind (evE Φ b σ) fun y => Mo.opt ((cmpE o x y).map .bool)
  | .chain o o' a b c, σ => mChain (cmpE o) (cmpE o') (evE Φ a) (evE Φ b) (evE Φ c) σ
  | .and a b, σ => mAnd (evE Φ a) (evE Φ b) σ
  | .or a b, σ => mOr (evE Φ a) (evE Φ b) σ
  | .ite c a b, σ => mIte (evE Φ c) (evE Φ a) (evE Φ b) σ
  | .idx a i, σ => Mo.bind (evE Φ a σ) fun x => Mo.bind (evE Φ i σ) fun y => Mo.opt (idxE x y)
  | .slc a lo hi, σ => Mo.bind (evE Φ a σ) fun x => Mo.bind (evO Φ lo σ) fun l => Mo.bind (evO Φ hi σ) fun h => Mo.opt (slcE x l h)
  | .rev a, σ => Mo.bind (evE Φ a σ) fun x => Mo.opt (revE x)
  | .call f as, σ => Mo.bind (evEs Φ as σ) fun ds => callP Φ f ds
  | .callJ f as, σ => mCallJ Φ f (evEs Φ as) σ
  | .bi b as, σ => Mo.bind (evEs Φ as σ) fun ds => Mo.opt (biE b ds)
  | .jget k, _ => fun J => match J with
    | some ns => (match ns[k]? with
      | some n => .ok (.int n) J
      | none => .no)
    | none => .no
  | .lc elt t it ifs own, σ => mLc (evIt Φ it) t (evIf Φ ifs) (evE Φ elt) own σ
  | .lc2 elt t it ifs t1 it1 ifs1 own own1, σ => mLc2 (evIt Φ it) t (evIf Φ ifs) (evIt Φ it1) t1 (evIf Φ ifs1) (evE Φ elt) own own1 σ
def evEs (Φ : Fns) : List Ex → Sd → Mo (List PyData)
  | [], _ => Mo.pure []
  | .star e :: es, σ => Mo.bind (evE Φ e σ) fun d => Mo.bind (Mo.opt (seqD d)) fun xs => Mo.bind (evEs Φ es σ) fun ds => Mo.pure (xs ++ ds)
  | e :: es, σ => Mo.bind (evE Φ e σ) fun d => Mo.bind (evEs Φ es σ) fun ds => Mo.pure (d :: ds)
def evO (Φ : Fns) : List Ex → Sd → Mo (Option Int)
  | [], _ => Mo.pure none
  | e :: _, σ => Mo.bind (evE Φ e σ) fun d => Mo.bind (Mo.opt (intD d)) fun i => Mo.pure (some i)
def evIf (Φ : Fns) : List Ex → Sd → Mo Bool
  | [], _ => Mo.pure true
  | e :: _, σ => mT (evE Φ e) σ
def evIt (Φ : Fns) : Itr → Sd → Mo (List PyData)
  | .seq e, σ => Mo.bind (evE Φ e σ) fun d => Mo.opt (seqD d)
  | .rng1 e, σ => Mo.bind (evE Φ e σ) fun d => Mo.bind (Mo.opt (intD d)) fun j => Mo.opt (rngD 0 j)
  | .rng2 a b, σ => Mo.bind (evE Φ a σ) fun x => Mo.bind (evE Φ b σ) fun y => Mo.bind (Mo.opt (intD x)) fun i => Mo.bind (Mo.opt (intD y)) fun j => Mo.opt (rngD i j)
  | .enum e, σ => Mo.bind (evE Φ e σ) fun d => Mo.bind (Mo.opt (seqD d)) fun xs => Mo.pure (enumD 0 xs)
  | .zip a b, σ => Mo.bind (evE Φ a σ) fun x => Mo.bind (evE Φ b σ) fun y => Mo.opt (zipE x y)
end

/-! ### statements -/
inductive Sm where
  | asg (i own : Nat) (b : Bool) (e : Ex)
  | asgT (t : Tg) (b : Bool) (e : Ex)
  | par (is : List Nat) (b : Bool) (es : List Ex)
  | app (i : Nat) (b : Bool) (e : Ex)
  | ext (i : Nat) (b : Bool) (e : Ex)
  | setI (i : Nat) (b : Bool) (ix e : Ex)
  | popS (i : Nat)
  | popA (j i : Nat)
  | jset (k : Nat) (e : Ex)
  | jnew (i f : Nat) (as : List Ex)
  | ex (e : Ex)
  | ret (e : Ex)
  | retN
  | ite (c : Ex) (t e : List Sm)
  | whl (c : Ex) (body : List Sm)
  | forS (b : Bool) (t : Tg) (it : Itr) (body : List Sm)
  | brk
  | cnt
  | pass
  | raise_

/-- what lies behind a statement -/
inductive Out where
  | nx (σ : Sd)
  | rt (d : PyData)
  | bk (σ : Sd)
  | ct (σ : Sd)
/-- the owned names hidden -/
def hide (M : List Nat) (σ : Sd) : Sd := List.zipWith (fun m d => if m = 0 then d else none) M σ
def view (b : Bool) (M : List Nat) (σ : Sd) : Sd := match b with
  | true => σ
  | false => hide M σ
/-- an expression that makes a list makes a new one -/
def isFresh : Ex → Bool
  | .lst _ => true
  | .lc .. => true
  | .lc2 .. => true
  | .bi .list _ => true
  | .bi .sorted _ => true
  | .slc .. => true
  | .bin .add _ _ => true
  | .bin .mul _ _ => true
  | _ => false
/-- it tells nothing of an owned list -/
def okR (e : Ex) (d : PyData) : Bool := noL d || (isFresh e && match d with
  | .list ds => noLs ds
  | _ => false)
def keepR (b : Bool) (M : List Nat) (ok : Bool) (σ : Sd) : Sd := if !b || ok then σ else hide M σ
def okIt : Itr → List PyData → Bool
  | .seq e, ds => isFresh e && noLs ds
  | .rng1 _, _ => true
  | .rng2 _ _, _ => true
  | .enum _, _ => false
  | .zip _ _, _ => false
/-- what an owned name may be given -/
def ownOk (own : Nat) (e : Ex) (d : PyData) : Bool := decide (own = 0) || (decide (own = 1) && (noL d || (isFresh e && match d with
  | .list _ => true
  | _ => false)))
def whlLoop (c : Sd → Mo Bool) (f : Sd → Mo Out) : Nat → Sd → Mo Out
  | 0, _ => Mo.fail
  | n + 1, σ => Mo.bind (c σ) fun k => match k with
    | false => Mo.pure (.nx σ)
    | true => Mo.bind (f σ) fun o => match o with
      | .nx σ1 => whlLoop c f n σ1
      | .ct σ1 => whlLoop c f n σ1
      | .bk σ1 => Mo.pure (.nx σ1)
      | .rt d => Mo.pure (.rt d)
def forLoop (f : PyData → Sd → Mo Out) : List PyData → Sd → Mo Out
  | [], σ => Mo.pure (.nx σ)
  | d :: ds, σ => Mo.bind (f d σ) fun o => match o with
      | .nx σ1 => forLoop f ds σ1
      | .ct σ1 => forLoop f ds σ1
      | .bk σ1 => Mo.pure (.nx σ1)
      | .rt d => Mo.pure (.rt d)
/-- several names given at once -/
def parGo (f : Ex → Mo PyData) (b : Bool) (M : List Nat) : List Nat → List Ex → Sd → Mo Out
  | [], [], σ => Mo.pure (.nx σ)
  | i :: is, e :: es, σ => Mo.bind (f e) fun d => if ownOk (M.getD i 0) e d && (!b || okR e d) then parGo f b M is es (σ.set i (some d)) else Mo.fail
  | _, _, _ => Mo.fail
def listAt (σ : Sd) (i : Nat) : Option (List PyData) := match σ.getD i none with
  | some (.list ds) => some ds
  | _ => none
def freeAt (σ : Sd) (i : Nat) : Option Unit := match σ[i]? with
  | some none => some ()
  | _ => none
def lstD : PyData → Option (List PyData)
  | .list xs => some xs
  | _ => none
def jSet (k : Nat) (n : Int) (σ : Sd) : Mo Out := fun J => match J with
  | some ns => if k < ns.length then .ok (.nx σ) (some (ns.set k n)) else .no
  | none => .no
mutual
def evS (Φ : Fns) (fuel : Nat) (M : List Nat) : Sm → Sd → Mo Out
  | .asg i own b e, σ => Mo.bind (evE Φ e (view b M σ)) fun d => if ownOk own e d then Mo.pure (.nx ((keepR b M (okR e d) σ).set i (some d))) else Mo.fail
  | .asgT t b e, σ => Mo.bind (evE Φ e (view b M σ)) fun d => Mo.bind (Mo.opt (setTg t d (keepR b M (okR e d) σ))) fun σ1 => Mo.pure (.nx σ1)
  | .par is b es, σ => parGo (fun e => evE Φ e (view b M σ)) b M is es σ
  | .app i b e, σ => Mo.bind (evE Φ e (view b M σ)) fun d => Mo.bind (Mo.opt (listAt (keepR b M (okR e d) σ) i)) fun ds =>
      if ds.length < sizeLine then Mo.pure (.nx ((keepR b M (okR e d) σ).set i (some (.list (ds ++ [d]))))) else Mo.fail
  | .ext i b e, σ => Mo.bind (evE Φ e (view b M σ)) fun d => Mo.bind (Mo.opt (listAt (keepR b M (okR e d) σ) i)) fun ds => Mo.bind (Mo.opt (lstD d)) fun es =>
      if ds.length + es.length ≤ sizeLine then Mo.pure (.nx ((keepR b M (okR e d) σ).set i (some (.list (ds ++ es))))) else Mo.fail
  | .setI i b ix e, σ => Mo.bind (evE Φ e (view b M σ)) fun d => Mo.bind (evE Φ ix σ) fun k => Mo.bind (Mo.opt (listAt (keepR b M (okR e d) σ) i)) fun ds => Mo.bind (Mo.opt (intD k)) fun n => Mo.bind (Mo.opt (ixN ds.length n)) fun j =>
      Mo.pure (.nx ((keepR b M (okR e d) σ).set i (some (.list (ds.set j d)))))
  | .popS i, σ => Mo.bind (Mo.opt (listAt σ i)) fun ds => if ds.isEmpty then Mo.fail else Mo.pure (.nx (σ.set i (some (.list ds.dropLast))))
  | .popA j i, σ => Mo.bind (Mo.opt (listAt σ i)) fun ds => Mo.bind (Mo.opt ds.getLast?) fun d => if noL d then Mo.pure (.nx ((σ.set i (some (.list ds.dropLast))).set j (some d))) else Mo.fail
  | .jset k e, σ => Mo.bind (evE Φ e σ) fun d => Mo.bind (Mo.opt (intD d)) fun n => jSet k n σ
  | .jnew i f as, σ => Mo.bind (Mo.opt (freeAt σ i)) fun _ => Mo.bind (evEs Φ as σ) fun ds => Mo.bind (callP Φ f ds) fun d => Mo.bind (Mo.opt (lstD d)) fun xs => Mo.bind (Mo.opt (intsD xs)) fun ns => fun _ => .ok (.nx σ) (some ns)
  | .ex e, σ => Mo.bind (evE Φ e σ) fun _ => Mo.pure (.nx σ)
  | .ret e, σ => Mo.bind (evE Φ e σ) fun d => Mo.pure (.rt d)
  | .retN, _ => Mo.pure (.rt .none)
  | .ite c t e, σ => Mo.bind (evE Φ c σ) fun x => Mo.bind (Mo.opt (truthD x)) fun k => match k with
    | true => evSs Φ fuel M t σ
    | false => evSs Φ fuel M e σ
  | .whl c body, σ => whlLoop (fun σ => Mo.bind (evE Φ c σ) fun x => Mo.opt (truthD x)) (fun σ => evSs Φ fuel M body σ) fuel σ
  | .forS b t it body, σ => Mo.bind (evIt Φ it (view b M σ)) fun ds =>
      forLoop (fun d σ => Mo.bind (Mo.opt (setTg t d σ)) fun σ1 => evSs Φ fuel M body σ1) ds (keepR b M (okIt it ds) σ)
  | .brk, σ => Mo.pure (.bk σ)
  | .cnt, σ => Mo.pure (.ct σ)
  | .pass, σ => Mo.pure (.nx σ)
  | .raise_, _ => Mo.fail
def evSs (Φ : Fns) (fuel : Nat) (M : List Nat) : List Sm → Sd → Mo Out
  | [], σ => Mo.pure (.nx σ)
  | s :: ss, σ => Mo.bind (evS Φ fuel M s σ) fun o => match o with
    | .nx σ1 => evSs Φ fuel M ss σ1
    | o => Mo.pure o
end

/-! ### functions -/
/-- np: the parameters (the jar and a star among them); nN: all names -/
structure Fn where
  np : Nat
  nN : Nat
  jar : Bool
  va : Bool
  M : List Nat
  body : List Sm
def argsD (F : Fn) (ds : List PyData) : Option (List (Option PyData)) :=
  match F.jar, F.va with
  | false, false => if ds.length = F.np then some (ds.map some) else none
  | true, false => if ds.length + 1 = F.np then some (none :: ds.map some) else none
  | false, true => if F.np ≤ ds.length + 1 ∧ 0 < F.np ∧ ds.length ≤ 1000 then some ((ds.take (F.np - 1)).map some ++ [some (.tuple (ds.drop (F.np - 1)))]) else none
  | true, true => none
def runFn (Φ : Fns) (fuel : Nat) (F : Fn) (ds : List PyData) : Mo PyData := fun J =>
  match argsD F ds, F.jar, J with
  | some as, true, none => .no
  | some as, false, some _ => .no
  | some as, _, _ => (match evSs Φ fuel F.M F.body (as ++ List.replicate (F.nN - F.np) none) J with
    | .ok (.rt d) J1 => .ok d (if F.jar then J1 else none)
    | .ok (.nx _) J1 => .ok .none (if F.jar then J1 else none)
    | .ok _ _ => .no
    | .ex x J1 => .ex x J1
    | .no => .no)
  | none, _, _ => .no
def phi (fuel : Nat) (P : List Fn) : Nat → Fns
  | 0 => fun _ _ _ => .no
  | n + 1 => fun f ds => if f = n then (match P[n]? with
    | some F => runFn (phi fuel P n) fuel F ds
    | none => Mo.fail) else phi fuel P n f ds
end Ev
end

section
set_option maxRecDepth 100000
set_option maxHeartbeats 1000000
/-! Operations by data. -/
namespace Ev
open PySem PySem.Spec PyProof.Rows L2

/-- a list is a new one -/
def Od (O : Addr → Prop) (D : Addr) : Addr → Prop := fun a => O a ∨ a = D
def FrV (K : PySem.W.Frag) (H H' : Hp) (O : Addr → Prop) (d : PyData) (v : V) : Prop := ∀ ds a, d = .list ds → v = .ref a → H a = none ∧ ∃ xs, H' a = some (.lst xs) ∧ DFs K H' (Od O a) xs ds
/-- what is wanted of a value that tells d -/
def dRes (K : PySem.W.Frag) (fr : Bool) (H : Hp) (O : Addr → Prop) (d : PyData) (Q : VK) : Prop := ∀ v H', Kp No H H' → DF K H' O v d → (fr = true → FrV K H H' O d v) → Q v H'
abbrev Ow (H : Hp) (O : Addr → Prop) : Prop := ∀ a, O a → H a ≠ none
section
variable {K : PySem.W.Frag} {fr : Bool} {H : Hp} {O : Addr → Prop} {Q : VK}
theorem dRes.int {i : Int} (h : dRes K fr H O (.int i) Q) : Q (.int i) H := h _ _ .refl (.int i) fun _ _ _ e => nomatch e
theorem dRes.bl {i : Bool} (h : dRes K fr H O (.bool i) Q) : Q (.bl i) H := h _ _ .refl (.bl i) fun _ _ _ e => nomatch e
theorem dRes.str {i : Str} (h : dRes K fr H O (.str i) Q) : Q (.str i) H := h _ _ .refl (.str i) fun _ _ _ e => nomatch e
theorem Ow.not (w : Ow H O) {p : Addr} (hp : H p = none) : ¬ O p := fun z => w p z hp
theorem dRes.lst {xs : List V} {ds : List PyData} (h : dRes K fr H O (.list ds) Q) (w : Ow H O) (r : DFs K H O xs ds) {p : Addr} (hp : H p = none) : Q (.ref p) (upd H p (.lst xs)) :=
  h _ _ (.new hp) (.lst upd_same (w.not hp) (r.keep (.new hp))) fun _ _ a e1 e => by
    cases e; cases e1
    exact ⟨hp, xs, upd_same, r.move (.new hp) fun x z => z.imp_right fun q => by rw [q]; exact hp⟩
theorem dRes.tup {xs : List V} {ds : List PyData} (h : dRes K fr H O (.tuple ds) Q) (r : DFs K H O xs ds) {p : Addr} (hp : H p = none) : Q (.ref p) (upd H p (.tup xs)) :=
  h _ _ (.new hp) (.tup (.inl (.inl upd_same)) (r.keep (.new hp))) fun _ _ _ e => nomatch e
theorem dRes.same {v : V} {d : PyData} (h : dRes K fr H O d Q) (r : DF K H O v d) (f : fr = false) : Q v H := h _ _ .refl r fun z => by rw [f] at z; cases z
theorem dRes.sameT {v : V} {ds : List PyData} (h : dRes K fr H O (.tuple ds) Q) (r : DF K H O v (.tuple ds)) : Q v H := h _ _ .refl r fun _ _ _ e => nomatch e
end
def dR2 (K : PySem.W.Frag) (fr : Bool) (F : PyData → PyData → Option PyData) : R2 := fun x y H Q =>
  ∃ O d1 d2 d, Ow H O ∧ DF K H O x d1 ∧ DF K H O y d2 ∧ F d1 d2 = some d ∧ dRes K fr H O d Q
def dRn (K : PySem.W.Frag) (fr : Bool) (F : List PyData → Option PyData) : List V → Hp → VK → Prop := fun xs H Q =>
  ∃ O ds d, Ow H O ∧ DFs K H O xs ds ∧ F ds = some d ∧ dRes K fr H O d Q

def bop : BOp → Operator
  | .add => .Add
  | .sub => .Sub
  | .mul => .Mult
  | .fdiv => .FloorDiv
  | .mod => .Mod
  | .pow => .Pow
section
variable {X : Cx}
theorem opr {f : Value → Value → Sem Value} {r r' : R2} (h : OpR X f r) (i : ∀ x y H Q, r' x y H Q → r x y H Q) : OpR X f r' := fun pins s σ H x y v u Q I rx ry q => h pins s σ H x y v u Q I rx ry (i _ _ _ _ q)
theorem ite_some {α : Type} {c : Prop} [Decidable c] {a b : α} (h : (if c then some a else none) = some b) : c ∧ a = b := by
  split at h
  · exact ⟨by assumption, by cases h; rfl⟩
  · cases h
theorem op_bin (o : BOp) : OpR X (binaryOp (bop o)) (dR2 X.K true (binE o)) := by
  intro pins s σ H x y v u Q I rx ry ⟨O, d1, d2, d, w, h1, h2, e, q⟩
  unfold binE at e
  split at e
  · cases h1; cases h2; cases e; exact op_add pins s σ H _ _ v u Q I rx ry ⟨_, _, rfl, rfl, q.int⟩
  · rename_i a b
    obtain ⟨hl, rfl⟩ := ite_some e
    obtain ⟨p, xs, rfl, s1, r1⟩ := h1.inj_tup
    obtain ⟨p2, ys, rfl, s2, r2⟩ := h2.inj_tup
    have l1 := r1.length
    have l2 := r2.length
    refine op_catA pins s σ H _ _ v u Q I rx ry ⟨p, p2, xs, ys, rfl, rfl, s1, s2, by omega, ?_⟩
    refine ⟨fun e => ?_, fun e e' => ?_, fun _ _ t ht => q.tup (r1.append r2) ht⟩
    · subst e
      cases r1
      exact q.sameT (.tup s2 r2)
    · subst e'
      cases r2
      rw [List.append_nil] at q
      exact q.sameT (.tup s1 r1)
  · rename_i a b
    obtain ⟨hl, rfl⟩ := ite_some e
    obtain ⟨p, xs, rfl, s1, n1, r1⟩ := h1.inj_list
    obtain ⟨p2, ys, rfl, s2, n2, r2⟩ := h2.inj_list
    have l1 := r1.length
    have l2 := r2.length
    exact op_cat pins s σ H _ _ v u Q I rx ry ⟨p, p2, xs, ys, rfl, rfl, s1, s2, by omega, fun t ht => q.lst w (r1.append r2) ht⟩
  · obtain ⟨hl, rfl⟩ := ite_some e
    cases h1; cases h2
    exact op_add_str pins s σ H _ _ v u Q I rx ry ⟨_, _, rfl, rfl, hl, q.str⟩
  · cases h1; cases h2; cases e; exact op_sub pins s σ H _ _ v u Q I rx ry ⟨_, _, rfl, rfl, q.int⟩
  · cases h1; cases h2
    obtain ⟨hl, rfl⟩ := ite_some e
    exact op_mulW pins s σ H _ _ v u Q I rx ry ⟨_, _, rfl, rfl, hl, q.int⟩
  · obtain ⟨⟨k1, k2, k3⟩, rfl⟩ := ite_some e
    cases h2
    obtain ⟨p, xs, rfl, s1, n1, r1⟩ := h1.inj_list
    have l1 := r1.length
    exact op_rep pins s σ H _ _ v u Q I rx ry ⟨p, _, xs, rfl, rfl, s1, by omega, by omega, by rw [l1]; exact k3, fun t ht => q.lst w (r1.rep _) ht⟩
  · obtain ⟨⟨k1, k2, k3⟩, rfl⟩ := ite_some e
    cases h2
    obtain ⟨p, xs, rfl, s1, r1⟩ := h1.inj_tup
    have l1 := r1.length
    rw [List.length_cons] at l1
    exact op_repT pins s σ H _ _ v u Q I rx ry ⟨p, _, xs, rfl, rfl, s1, fun z => by subst z; simp at l1, k1, k2, by omega, fun t ht => q.tup (r1.rep _) ht⟩
  · obtain ⟨⟨k1, k2⟩, rfl⟩ := ite_some e
    cases h1; cases h2
    exact op_fdivW pins s σ H _ _ v u Q I rx ry ⟨_, _, rfl, rfl, ⟨k1, k2⟩, q.int⟩
  · obtain ⟨k1, rfl⟩ := ite_some e
    cases h1; cases h2
    exact op_mod pins s σ H _ _ v u Q I rx ry ⟨_, _, rfl, rfl, k1, q.int⟩
  · obtain ⟨⟨k1, k2, k3⟩, rfl⟩ := ite_some e
    cases h1; cases h2
    exact op_pow pins s σ H _ _ v u Q I rx ry ⟨_, _, rfl, rfl, ⟨k1, k2, k3⟩, q.int⟩
  · cases e

def cop : COp → CmpOp
  | .lt => .Lt
  | .le => .LtE
  | .gt => .Gt
  | .ge => .GtE
  | .eq => .Eq
  | .ne => .NotEq
  | .is_ => .Is
  | .isn => .IsNot
  | .isin => .In
  | .nin => .NotIn
theorem map_some {α β : Type} {f : α → β} {o : Option α} {b : β} (h : o.map f = some b) : ∃ a, o = some a ∧ f a = b := by
  cases o with
  | none => cases h
  | some a => exact ⟨a, rfl, by cases h; rfl⟩
theorem ltD_some {a b : PyData} {k : Bool} (h : ltD a b = some k) : W.alike a b = true ∧ a ≠ .none ∧ a.depth ≤ 60 ∧ noD a = true ∧ noD b = true ∧ W.dataLt a b = k := by
  unfold ltD at h
  obtain ⟨h1, h2⟩ := ite_some h
  simp only [Bool.and_eq_true, decide_eq_true_eq] at h1
  obtain ⟨⟨⟨⟨h3, h4⟩, h5⟩, h6⟩, h7⟩ := h1
  exact ⟨h3, fun e => by subst e; simp at h4, h5, h6, h7, h2⟩
theorem ltD_none {a b : PyData} (h : W.alike a b = true) (n : a ≠ .none) : b ≠ .none := W.ne_none_both h n
section
variable {pins : List (Addr × Obj)} {s : Shared} {σ : L2.St} {H : Hp} {O : Addr → Prop}
theorem DF.reads (I : Inv X pins σ H s) {v : V} {d : PyData} {u : Value} (h : DF X.K H O v d) (n : noD d = true) (r : RelV v u) : ∃ as, Reads s.heap u d as := Dp.reads I d v u (h.dp n) r
end
theorem min_le {a b c : Nat} (h : a ≤ c) : min a b ≤ c := Nat.le_trans (Nat.min_le_left _ _) h
theorem min_le' {a b c : Nat} (h : b ≤ c) : min a b ≤ c := Nat.le_trans (Nat.min_le_right _ _) h
theorem eqD_some {a b : PyData} {k : Bool} (h : eqD a b = some k) : shapedB a = true ∧ shapedB b = true ∧ PyData.eqv a b = k := by
  unfold eqD at h
  obtain ⟨h1, h2⟩ := ite_some h
  rw [Bool.and_eq_true] at h1
  exact ⟨h1.1, h1.2, h2⟩
theorem noD_sh {a : PyData} (h : shapedB a = true) : noD a = true := noD_lay (SeqAt.canLay_of_shaped h)
theorem inD_some {a : PyData} {xs : List PyData} {k : Bool} (h : inD a xs = some k) : shapedB a = true ∧ shapedB (.list xs) = true ∧ (xs.any fun z => PyData.eqv z a) = k := by
  unfold inD at h
  obtain ⟨h1, h2⟩ := ite_some h
  rw [Bool.and_eq_true] at h1
  exact ⟨h1.1, h1.2, h2⟩
theorem shaped_room {u : Nat} {a : PyData} {xs : List PyData} (h : shapedB a = true) (hu : u + 65 < cLine) : u + 1 + min (PyData.depthAll xs) a.depth < cLine := by
  have := min_le' (a := PyData.depthAll xs) (SeqAt.depth_of_shaped h)
  omega
theorem dec_vint {a b : Int} : decide (V.int a = V.int b) = decide (a = b) := decide_eq_decide.mpr ⟨V.int.inj, congrArg _⟩
def cmpD (o : COp) (a b : PyData) : Option PyData := (cmpE o a b).map .bool
theorem op_cmp (hu : X.A.units + 65 < cLine) (o : COp) : OpR X (compareOp (cop o)) (dR2 X.K true (cmpD o)) := by
  intro pins s σ H x y v u Q I rx ry ⟨O, d1, d2, d, w, h1, h2, e0, q⟩
  unfold cmpD at e0
  obtain ⟨k, e, ek⟩ := map_some e0
  clear e0
  subst ek
  have qk := q.bl
  unfold cmpE at e
  split at e
  · cases h1; cases h2; cases e; exact op_lt pins s σ H _ _ v u Q I rx ry ⟨_, _, rfl, rfl, qk⟩
  · cases h1; cases h2; cases e; exact op_le pins s σ H _ _ v u Q I rx ry ⟨_, _, rfl, rfl, qk⟩
  · cases h1; cases h2; cases e; exact op_gt pins s σ H _ _ v u Q I rx ry ⟨_, _, rfl, rfl, qk⟩
  · cases h1; cases h2; cases e; exact op_ge pins s σ H _ _ v u Q I rx ry ⟨_, _, rfl, rfl, qk⟩
  · cases h1; cases h2; cases e
    refine op_eq pins s σ H _ _ v u Q I rx ry ⟨rfl, ?_⟩
    rw [dec_vint]
    exact qk
  · cases h1; cases h2; cases e
    refine op_ne pins s σ H _ _ v u Q I rx ry ⟨rfl, ?_⟩
    rw [dec_vint]
    exact qk
  · obtain ⟨e1, e2, e3, e4, e5, rfl⟩ := ltD_some e
    obtain ⟨as, r1⟩ := h1.reads I e4 rx
    obtain ⟨bs, r2⟩ := h2.reads I e5 ry
    exact W.lt_data r1 r2 e1 e2 (by have := min_le (b := d2.depth) e3; omega) ⟨.bl _, H, I, rfl, qk⟩
  · obtain ⟨k', e', ek⟩ := map_some e
    clear e
    subst ek
    obtain ⟨e1, e2, e3, e4, e5, rfl⟩ := ltD_some e'
    obtain ⟨as, r1⟩ := h1.reads I e5 rx
    obtain ⟨bs, r2⟩ := h2.reads I e4 ry
    exact W.le_data r1 r2 (by rw [W.alike_comm]; exact e1) (ltD_none e1 e2) (by have := min_le' (a := d1.depth) e3; omega) ⟨.bl _, H, I, rfl, qk⟩
  · obtain ⟨e1, e2, e3, e4, e5, rfl⟩ := ltD_some e
    obtain ⟨as, r1⟩ := h1.reads I e5 rx
    obtain ⟨bs, r2⟩ := h2.reads I e4 ry
    exact W.gt_data r1 r2 (by rw [W.alike_comm]; exact e1) (ltD_none e1 e2) (by have := min_le' (a := d1.depth) e3; omega) ⟨.bl _, H, I, rfl, qk⟩
  · obtain ⟨k', e', ek⟩ := map_some e
    clear e
    subst ek
    obtain ⟨e1, e2, e3, e4, e5, rfl⟩ := ltD_some e'
    obtain ⟨as, r1⟩ := h1.reads I e4 rx
    obtain ⟨bs, r2⟩ := h2.reads I e5 ry
    exact W.ge_data r1 r2 e1 e2 (by have := min_le (b := d2.depth) e3; omega) ⟨.bl _, H, I, rfl, qk⟩
  · obtain ⟨e1, e2, rfl⟩ := eqD_some e
    exact op_eqD (by omega) pins s σ H _ _ v u Q I rx ry ⟨_, _, h1.dp (noD_sh e1), h2.dp (noD_sh e2), e1, e2, qk⟩
  · obtain ⟨k', e', ek⟩ := map_some e
    clear e
    subst ek
    obtain ⟨e1, e2, rfl⟩ := eqD_some e'
    exact op_neD (by omega) pins s σ H _ _ v u Q I rx ry ⟨_, _, h1.dp (noD_sh e1), h2.dp (noD_sh e2), e1, e2, qk⟩
  · unfold isD at e
    split at e
    · cases h1; cases h2; cases e; exact op_isN pins s σ H _ _ v u Q I rx ry ⟨rfl, by simpa using qk⟩
    · rename_i hne
      cases h2; cases e
      refine op_isN pins s σ H _ _ v u Q I rx ry ⟨rfl, ?_⟩
      have : x ≠ .non := fun z => by subst z; cases h1; exact hne rfl
      rw [decide_eq_false this]; exact qk
    · cases h1; cases h2; cases e; exact op_isBl pins s σ H _ _ v u Q I rx ry ⟨_, _, rfl, rfl, qk⟩
    · cases e
  · obtain ⟨k', e', ek⟩ := map_some e
    clear e
    subst ek
    unfold isD at e'
    split at e'
    · cases h1; cases h2; cases e'; exact op_notN pins s σ H _ _ v u Q I rx ry ⟨rfl, by simpa using qk⟩
    · rename_i hne
      cases h2; cases e'
      refine op_notN pins s σ H _ _ v u Q I rx ry ⟨rfl, ?_⟩
      have : x ≠ .non := fun z => by subst z; cases h1; exact hne rfl
      rw [decide_eq_false this]; exact qk
    · cases h1; cases h2; cases e'; exact op_notBl pins s σ H _ _ v u Q I rx ry ⟨_, _, rfl, rfl, qk⟩
    · cases e'
  · obtain ⟨e1, e2, rfl⟩ := inD_some e
    exact op_inD hu pins s σ H _ _ v u Q I rx ry ⟨_, _, h1.dp (noD_sh e1), h2.dp (noD_sh e2), e1, e2, qk⟩
  · obtain ⟨e1, e2, rfl⟩ := inD_some e
    obtain ⟨as, r1⟩ := h1.reads I (noD_sh e1) rx
    obtain ⟨bs, r2⟩ := h2.reads I (by have := noD_sh e2; simpa [noD] using this) ry
    exact SeqAt.in_tuple_reads r2 r1 (SeqAt.canLay_of_shaped e2) (SeqAt.canLay_of_shaped e1) (shaped_room e1 hu) ⟨.bl _, H, I, rfl, qk⟩
  · obtain ⟨k', e', ek⟩ := map_some e
    clear e
    subst ek
    obtain ⟨e1, e2, rfl⟩ := inD_some e'
    exact op_notInD hu pins s σ H _ _ v u Q I rx ry ⟨_, _, h1.dp (noD_sh e1), h2.dp (noD_sh e2), e1, e2, qk⟩
  · obtain ⟨k', e', ek⟩ := map_some e
    clear e
    subst ek
    obtain ⟨e1, e2, rfl⟩ := inD_some e'
    obtain ⟨as, r1⟩ := h1.reads I (noD_sh e1) rx
    obtain ⟨bs, r2⟩ := h2.reads I (by have := noD_sh e2; simpa [noD] using this) ry
    exact SeqAt.notIn_tuple_reads r2 r1 (SeqAt.canLay_of_shaped e2) (SeqAt.canLay_of_shaped e1) (shaped_room e1 hu) ⟨.bl _, H, I, rfl, qk⟩
  · cases e
end
end Ev
end

section
set_option maxRecDepth 100000
set_option maxHeartbeats 1000000
/-! Built-ins by data. -/
namespace Ev
open PySem PySem.Spec PyProof.Rows L2

theorem noDs_hd : ∀ {ds : List PyData}, noDs ds = true → PyData.hasDictAll ds = false
  | [], _ => by simp only [PyData.hasDictAll]
  | .none :: r, h => by simp only [noDs, noD, Bool.true_and] at h; simp only [PyData.hasDictAll, PyData.hasDict, noDs_hd h, Bool.or_self]
  | .bool _ :: r, h => by simp only [noDs, noD, Bool.true_and] at h; simp only [PyData.hasDictAll, PyData.hasDict, noDs_hd h, Bool.or_self]
  | .int _ :: r, h => by simp only [noDs, noD, Bool.true_and] at h; simp only [PyData.hasDictAll, PyData.hasDict, noDs_hd h, Bool.or_self]
  | .str _ :: r, h => by simp only [noDs, noD, Bool.true_and] at h; simp only [PyData.hasDictAll, PyData.hasDict, noDs_hd h, Bool.or_self]
  | .list xs :: r, h => by simp only [noDs, noD, Bool.and_eq_true] at h; simp only [PyData.hasDictAll, PyData.hasDict, noDs_hd h.1, noDs_hd h.2, Bool.or_self]
  | .tuple xs :: r, h => by simp only [noDs, noD, Bool.and_eq_true] at h; simp only [PyData.hasDictAll, PyData.hasDict, noDs_hd h.1, noDs_hd h.2, Bool.or_self]
  | .dict xs :: r, h => by simp only [noDs, noD, Bool.false_and] at h; cases h
theorem noD_hd {d : PyData} (h : noD d = true) : d.hasDict = false := by
  have := noDs_hd (ds := [d]) (by simp [noDs, h])
  simpa [PyData.hasDictAll] using this
theorem intsD_eq : ∀ {ds : List PyData} {ns : List Int}, intsD ds = some ns → ds = ns.map .int
  | [], ns, h => by cases h; rfl
  | .int i :: r, ns, h => by
    obtain ⟨m, h1, h2⟩ := map_some (show (intsD r).map (i :: ·) = some ns from h)
    subst h2
    rw [intsD_eq h1]; rfl
  | .none :: _, _, h => by cases h
  | .bool _ :: _, _, h => by cases h
  | .str _ :: _, _, h => by cases h
  | .list _ :: _, _, h => by cases h
  | .tuple _ :: _, _, h => by cases h
  | .dict _ :: _, _, h => by cases h
theorem boolsD_eq : ∀ {ds : List PyData} {ns : List Bool}, boolsD ds = some ns → ds = ns.map .bool
  | [], ns, h => by cases h; rfl
  | .bool i :: r, ns, h => by
    obtain ⟨m, h1, h2⟩ := map_some (show (boolsD r).map (i :: ·) = some ns from h)
    subst h2
    rw [boolsD_eq h1]; rfl
  | .none :: _, _, h => by cases h
  | .int _ :: _, _, h => by cases h
  | .str _ :: _, _, h => by cases h
  | .list _ :: _, _, h => by cases h
  | .tuple _ :: _, _, h => by cases h
  | .dict _ :: _, _, h => by cases h
theorem bestB_ok {xs : List PyData} (h : bestB xs = true) : W.AllAlike xs ∧ W.Sortable xs ∧ PyData.depthAll xs ≤ 60 ∧ noDs xs = true := by
  unfold bestB at h
  simp only [Bool.and_eq_true, decide_eq_true_eq] at h
  obtain ⟨⟨⟨h1, h2⟩, h3⟩, h4⟩ := h
  refine ⟨fun d hd d' hd' => ?_, ?_, h3, h4⟩
  · unfold alikeB at h1
    rw [List.all_eq_true] at h1
    have := h1 d hd
    rw [List.all_eq_true] at this
    exact this d' hd'
  · unfold sortB at h2
    rw [Bool.or_eq_true, List.all_eq_true, List.all_eq_true] at h2
    rcases h2 with h2 | h2
    · refine .inl fun d hd => ?_
      have := h2 d hd
      split at this
      · exact ⟨_, _, rfl⟩
      · cases this
    · refine .inr fun d hd => ?_
      have := h2 d hd
      refine ⟨fun e => ?_, fun _ e => ?_⟩
      · subst e; cases this
      · subst e; cases this
theorem bestB_al {xs : List PyData} (h : bestB xs = true) : W.AlikeAll xs := by
  obtain ⟨h1, h2, _, _⟩ := bestB_ok h
  refine ⟨h1, fun d hd e => ?_⟩
  subst e
  rcases h2 with h2 | h2
  · obtain ⟨_, _, e⟩ := h2 _ hd
    cases e
  · exact (h2 _ hd).1 rfl

def biV : Bi → Value
  | .len => .builtin "len"
  | .abs => .builtin "abs"
  | .int => .type "int"
  | .list => .type "list"
  | .tuple => .type "tuple"
  | .sum => .builtin "sum"
  | .max => .builtin "max"
  | .min => .builtin "min"
  | .max2 => .builtin "max"
  | .min2 => .builtin "min"
  | .sorted => .builtin "sorted"
  | .all => .builtin "all"
  | .any => .builtin "any"
  | .repr => .builtin "repr"
  | .isi _ => .builtin "isinstance"
def biN : Bi → Str
  | .len => "len"
  | .abs => "abs"
  | .int => "int"
  | .list => "list"
  | .tuple => "tuple"
  | .sum => "sum"
  | .max => "max"
  | .min => "min"
  | .max2 => "max"
  | .min2 => "min"
  | .sorted => "sorted"
  | .all => "all"
  | .any => "any"
  | .repr => "repr"
  | .isi _ => "isinstance"
theorem biBoot : ∀ b, bootBuiltins (biN b) = some (biV b)
  | .len => by show bootBuiltins "len" = _; decide +kernel
  | .abs => by show bootBuiltins "abs" = _; decide +kernel
  | .int => by show bootBuiltins "int" = _; decide +kernel
  | .list => by show bootBuiltins "list" = _; decide +kernel
  | .tuple => by show bootBuiltins "tuple" = _; decide +kernel
  | .sum => by show bootBuiltins "sum" = _; decide +kernel
  | .max => by show bootBuiltins "max" = _; decide +kernel
  | .min => by show bootBuiltins "min" = _; decide +kernel
  | .max2 => by show bootBuiltins "max" = _; decide +kernel
  | .min2 => by show bootBuiltins "min" = _; decide +kernel
  | .sorted => by show bootBuiltins "sorted" = _; decide +kernel
  | .all => by show bootBuiltins "all" = _; decide +kernel
  | .any => by show bootBuiltins "any" = _; decide +kernel
  | .repr => by show bootBuiltins "repr" = _; decide +kernel
  | .isi _ => by show bootBuiltins "isinstance" = some (.builtin "isinstance"); decide +kernel
def biFr : Bi → Bool
  | .list => true
  | .sorted => true
  | _ => false
def isIsi : Bi → Bool
  | .isi _ => true
  | _ => false

section
variable {X : Cx}
theorem callr {f : Value} {r r' : List V → Hp → VK → Prop} (h : CallR X f r) (i : ∀ xs H Q, r' xs H Q → r xs H Q) : CallR X f r' := fun pins s σ H xs us Q I rx q => h pins s σ H xs us Q I rx (i _ _ _ q)
section
variable {K : PySem.W.Frag} {H : Hp} {O : Addr → Prop} {vs : List V} {d : PyData}
theorem DFs.one (h : DFs K H O vs [d]) : ∃ v, vs = [v] ∧ DF K H O v d := by
  cases h with
  | cons h t => cases t; exact ⟨_, rfl, h⟩
theorem DFs.two {e : PyData} (h : DFs K H O vs [d, e]) : ∃ v w, vs = [v, w] ∧ DF K H O v d ∧ DF K H O w e := by
  cases h with
  | cons h t =>
    cases t with
    | cons h' t => cases t; exact ⟨_, _, rfl, h, h'⟩
theorem DFs.bools : ∀ {vs : List V} {bs : List Bool}, DFs K H O vs (bs.map PyData.bool) → vs = bs.map V.bl
  | _, [], h => by cases h; rfl
  | _, b :: bs, h => by
    cases h with
    | cons h t => cases h; rw [DFs.bools t]; rfl
end
/-- the best of a list or a tuple -/
theorem best_in {pins : List (Addr × Obj)} {s : Shared} {σ : L2.St} {H : Hp} {O : Addr → Prop} {xs : List V} {its : List Value} {ds : List PyData} {m : PyData} {i : Nat} {v : Value} {h' : Heap} {tk : Nat} {bs : List Addr} {Q : VK}
    (I : Inv X pins σ H s) (rv : Vals xs its) (r : DFs X.K H O xs ds) (al : W.AllAlike ds) (hm : m ∈ ds) (nd : noDs ds = true) (hv : its[i]? = some v) (rd : Reads h' v m bs) (k : ∀ b o, s.heap.get? b = some o → h'.get? b = some o) (q : dRes X.K false H O m Q) :
    EP X pins σ Q v { s with heap := h', toks := tk } := by
  have hi : i < its.length := (List.getElem?_eq_some_iff.mp hv).1
  have l1 := rv.length
  have hx : xs[i]? = some (xs[i]'(by omega)) := List.getElem?_eq_getElem _
  obtain ⟨u, hu, ru⟩ := rv.get hx
  rw [hv] at hu
  cases hu
  obtain ⟨d, hd, rd'⟩ := r.get' hx
  have nd' : noD d = true := by
    have : ∀ {l : List PyData}, noDs l = true → ∀ x ∈ l, noD x = true := by
      intro l
      induction l with
      | nil => intro _ x hx; cases hx
      | cons y l ih =>
        intro h x hx
        rw [noDs, Bool.and_eq_true] at h
        rcases List.mem_cons.mp hx with e | hx
        · rw [e]; exact h.1
        · exact ih h.2 x hx
    exact this nd d (List.mem_of_getElem? hd)
  obtain ⟨as, ra⟩ := rd'.reads I nd' ru
  have e : d = m := W.alike_unique _ _ _ _ _ (al d (List.mem_of_getElem? hd) m hm) (PyProof.Rows.Reads.keeps k ra) rd
  subst e
  exact ⟨_, H, I.kept k, ru, q.same rd' rfl⟩
theorem maxD_mem (x : PyData) : ∀ xs : List PyData, W.maxD x xs ∈ x :: xs := by
  intro xs
  induction xs generalizing x with
  | nil => exact List.mem_cons_self
  | cons y ys ih =>
    show W.maxD (if W.dataLt x y then y else x) ys ∈ _
    split
    · exact List.mem_cons_of_mem _ (ih y)
    · rcases List.mem_cons.mp (ih x) with e | e
      · rw [e]; exact List.mem_cons_self
      · exact List.mem_cons_of_mem _ (List.mem_cons_of_mem _ e)
theorem minD_mem (x : PyData) : ∀ xs : List PyData, W.minD x xs ∈ x :: xs := by
  intro xs
  induction xs generalizing x with
  | nil => exact List.mem_cons_self
  | cons y ys ih =>
    show W.minD (if W.dataLt y x then y else x) ys ∈ _
    split
    · exact List.mem_cons_of_mem _ (ih y)
    · rcases List.mem_cons.mp (ih x) with e | e
      · rw [e]; exact List.mem_cons_self
      · exact List.mem_cons_of_mem _ (List.mem_cons_of_mem _ e)
/-- items and values, in another order -/
theorem each_of {K : PySem.W.Frag} {H : Hp} {O : Addr → Prop} : ∀ {xs : List V} {ds : List PyData} {its : List Value}, DFs K H O xs ds → Vals xs its → W.EachIs (fun u d => ∃ x, RelV x u ∧ DF K H O x d) its ds
  | _, _, _, .nil, .nil => .nil
  | _, _, _, .cons h t, .cons r s => .cons ⟨_, r, h⟩ (each_of t s)
theorem of_each {K : PySem.W.Frag} {H : Hp} {O : Addr → Prop} : ∀ {ds : List PyData} {its : List Value}, W.EachIs (fun u d => ∃ x, RelV x u ∧ DF K H O x d) its ds → ∃ xs, DFs K H O xs ds ∧ Vals xs its
  | _, _, .nil => ⟨[], .nil, .nil⟩
  | _, _, .cons ⟨x, r, h⟩ t => by
    obtain ⟨xs, h1, h2⟩ := of_each t
    exact ⟨x :: xs, .cons h h1, .cons r h2⟩
theorem noDs_mem {d : PyData} : ∀ {l : List PyData}, noDs l = true → d ∈ l → noD d = true
  | y :: l, h, hx => by
    rw [noDs, Bool.and_eq_true] at h
    rcases List.mem_cons.mp hx with e | hx
    · rw [e]; exact h.1
    · exact noDs_mem h.2 hx
theorem depth_mem {d : PyData} : ∀ {l : List PyData}, d ∈ l → d.depth ≤ PyData.depthAll l
  | y :: l, hx => by
    rw [PyData.depthAll]
    rcases List.mem_cons.mp hx with e | hx
    · rw [e]; omega
    · have := depth_mem hx; omega
theorem call_bi (hc : X.calm = true) (hg : X.A.guards = some []) (hu : X.A.units + 65 < cLine) (b : Bi) (hb : isIsi b = false) : CallR X (biV b) (dRn X.K (biFr b) (biE b)) := by
  intro pins s σ H vs us Q I rx ⟨O, ds, d, w, hs, e, q⟩
  unfold biE at e
  split at e
  · -- len
    cases e
    obtain ⟨v, rfl, h⟩ := hs.one
    obtain ⟨a, xs, rfl, h1, _, h3⟩ := h.inj_list
    exact call_len_seq pins s σ H _ us Q I rx ⟨a, xs, rfl, .inl (.of h1), by rw [h3.length]; exact q.int⟩
  · cases e
    obtain ⟨v, rfl, h⟩ := hs.one
    obtain ⟨a, xs, rfl, h1, h3⟩ := h.inj_tup
    exact call_len_seq pins s σ H _ us Q I rx ⟨a, xs, rfl, .inr h1, by rw [h3.length]; exact q.int⟩
  · cases e
    obtain ⟨v, rfl, h⟩ := hs.one
    cases h with
    | scr h => exact call_len_seq pins s σ H _ us Q I rx ⟨_, _, rfl, .inl h.sq, by rw [List.length_map]; rw [List.length_map] at q; exact q.int⟩
  · cases e
    obtain ⟨v, rfl, h⟩ := hs.one
    cases h
    exact call_abs pins s σ H _ us Q I rx ⟨_, rfl, q.int⟩
  · cases e
    obtain ⟨v, rfl, h⟩ := hs.one
    cases h
    exact call_int1 pins s σ H _ us Q I rx (.inl ⟨_, rfl, q.int⟩)
  · cases e
    obtain ⟨v, rfl, h⟩ := hs.one
    cases h
    exact call_int1 pins s σ H _ us Q I rx (.inr ⟨_, rfl, q.int⟩)
  · cases e
    obtain ⟨v, rfl, h⟩ := hs.one
    obtain ⟨a, xs, rfl, h1, _, h3⟩ := h.inj_list
    exact call_list_of pins s σ H _ us Q I rx ⟨a, xs, rfl, .inl (.of h1), fun l hl => q.lst w h3 hl⟩
  · cases e
    obtain ⟨v, rfl, h⟩ := hs.one
    obtain ⟨a, xs, rfl, h1, h3⟩ := h.inj_tup
    exact call_list_of pins s σ H _ us Q I rx ⟨a, xs, rfl, .inr h1, fun l hl => q.lst w h3 hl⟩
  · cases e
    obtain ⟨v, rfl, h⟩ := hs.one
    obtain ⟨a, xs, rfl, h1, _, h3⟩ := h.inj_list
    exact call_tuple_of pins s σ H _ us Q I rx ⟨a, xs, rfl, .inl ⟨.of h1, fun l hl => q.tup h3 hl⟩⟩
  · cases e
    obtain ⟨v, rfl, h⟩ := hs.one
    obtain ⟨a, xs, rfl, h1, h3⟩ := h.inj_tup
    exact call_tuple_of pins s σ H _ us Q I rx ⟨a, xs, rfl, .inr ⟨h1, q.sameT (.tup h1 h3)⟩⟩
  · obtain ⟨ns, e1, e2⟩ := map_some e
    subst e2
    rw [intsD_eq e1] at hs
    obtain ⟨v, rfl, h⟩ := hs.one
    obtain ⟨a, xs, rfl, h1, _, h3⟩ := h.inj_list
    rw [h3.intsOf] at h1
    exact cr_sum hc pins s σ H _ us Q I rx ⟨a, ns, rfl, .of h1, q.int⟩
  · obtain ⟨e1, e2⟩ := ite_some e
    subst e2
    obtain ⟨v, rfl, h⟩ := hs.one
    obtain ⟨a, xs, rfl, h1, _, h3⟩ := h.inj_list
    obtain ⟨u, rfl, ru⟩ := vals1 rx
    cases (show u = Value.ref a from ru)
    obtain ⟨its, rv, pl, hz⟩ := I.list (.of h1)
    obtain ⟨k1, k2, k3, k4⟩ := bestB_ok e1
    obtain ⟨as, ra⟩ := Dp.readsAll I _ _ _ (h3.dp k4) rv
    exact W.max_list_data (I.ok.hd hc) pl.isList (by simpa using ra) (bestB_al e1) (by omega) fun i v h' tk bs hv rd k => best_in I rv h3 k1 (maxD_mem _ _) k4 (by simpa using hv) rd k q
  · obtain ⟨e1, e2⟩ := ite_some e
    subst e2
    obtain ⟨v, rfl, h⟩ := hs.one
    obtain ⟨a, xs, rfl, h1, h3⟩ := h.inj_tup
    obtain ⟨u, rfl, ru⟩ := vals1 rx
    cases (show u = Value.ref a from ru)
    obtain ⟨its, rv, pl, hz⟩ := I.tuple h1
    obtain ⟨k1, k2, k3, k4⟩ := bestB_ok e1
    obtain ⟨as, ra⟩ := Dp.readsAll I _ _ _ (h3.dp k4) rv
    exact W.max_tuple_data (I.ok.hd hc) pl (by simpa using ra) (bestB_al e1) (by omega) fun i v h' tk bs hv rd k => best_in I rv h3 k1 (maxD_mem _ _) k4 (by simpa using hv) rd k q
  · obtain ⟨e1, e2⟩ := ite_some e
    subst e2
    obtain ⟨v, rfl, h⟩ := hs.one
    obtain ⟨a, xs, rfl, h1, _, h3⟩ := h.inj_list
    obtain ⟨u, rfl, ru⟩ := vals1 rx
    cases (show u = Value.ref a from ru)
    obtain ⟨its, rv, pl, hz⟩ := I.list (.of h1)
    obtain ⟨k1, k2, k3, k4⟩ := bestB_ok e1
    obtain ⟨as, ra⟩ := Dp.readsAll I _ _ _ (h3.dp k4) rv
    exact W.min_list_data (I.ok.hd hc) pl.isList (by simpa using ra) (bestB_al e1) (by omega) fun i v h' tk bs hv rd k => best_in I rv h3 k1 (minD_mem _ _) k4 (by simpa using hv) rd k q
  · obtain ⟨e1, e2⟩ := ite_some e
    subst e2
    obtain ⟨v, rfl, h⟩ := hs.one
    obtain ⟨a, xs, rfl, h1, h3⟩ := h.inj_tup
    obtain ⟨u, rfl, ru⟩ := vals1 rx
    cases (show u = Value.ref a from ru)
    obtain ⟨its, rv, pl, hz⟩ := I.tuple h1
    obtain ⟨k1, k2, k3, k4⟩ := bestB_ok e1
    obtain ⟨as, ra⟩ := Dp.readsAll I _ _ _ (h3.dp k4) rv
    exact W.min_tuple_data (I.ok.hd hc) pl (by simpa using ra) (bestB_al e1) (by omega) fun i v h' tk bs hv rd k => best_in I rv h3 k1 (minD_mem _ _) k4 (by simpa using hv) rd k q
  · cases e
    obtain ⟨v, w2, rfl, h, h'⟩ := hs.two
    cases h; cases h'
    exact call_max2 hc pins s σ H _ us Q I rx ⟨_, _, rfl, q.int⟩
  · cases e
    obtain ⟨v, w2, rfl, h, h'⟩ := hs.two
    cases h; cases h'
    exact call_min2 hc pins s σ H _ us Q I rx ⟨_, _, rfl, q.int⟩
  · -- sorted
    obtain ⟨e1, e2⟩ := ite_some e
    subst e2
    rw [Bool.and_eq_true, decide_eq_true_eq] at e1
    obtain ⟨v, rfl, h⟩ := hs.one
    obtain ⟨a, xs, rfl, h1, _, h3⟩ := h.inj_list
    obtain ⟨u, rfl, ru⟩ := vals1 rx
    cases (show u = Value.ref a from ru)
    obtain ⟨its, rv, pl, hz⟩ := I.list (.of h1)
    obtain ⟨k1, k2, k3, k4⟩ := bestB_ok e1.1
    rename_i ds0
    have ea := each_of h3 rv
    refine W.sorted_data (R := fun u d => ∃ x, RelV x u ∧ DF X.K H O x d) (enc := id) pl.isList ea ?_ (by rw [List.map_id]; exact k1) (by rw [List.map_id]; exact k2) e1.2 (fun b hb => ?_) fun out ol oe => ?_
    · have : ∀ {us : List Value} {l : List PyData}, W.EachIs (fun u d => ∃ x, RelV x u ∧ DF X.K H O x d) us l → noDs l = true → W.EachIs (fun v b => ∃ as, Reads s.heap v (id b) as) us l := by
        intro us l ee
        induction ee with
        | nil => intro _; exact .nil
        | cons r _ ih =>
          intro nn
          rw [noDs, Bool.and_eq_true] at nn
          obtain ⟨x, r1, r2⟩ := r
          exact .cons (r2.reads I nn.1 r1) (ih nn.2)
      exact this ea k4
    · have := depth_mem hb
      show X.A.units + 2 + b.depth < cLine
      omega
    · obtain ⟨ys, y1, y2⟩ := of_each oe
      obtain ⟨ep, he'⟩ := PyProof.Rows.sortedAll_at s.heap its (List.toArray out)
      have hn : H (s.heap.objs.size + 1) = none := I.hok.fresh (Nat.le_succ _)
      refine ⟨.ref _, upd H (s.heap.objs.size + 1) (.lst ys), I.laid (t' := s.toks) (fun _ _ => PyProof.Rows.sortedAll_old) (Nat.le_succ _) ⟨?_, out, ep, y2, he'⟩, rfl, q.lst w y1 hn⟩
      rw [y2.length, ol]; exact e1.2
  · obtain ⟨ns, e1, e2⟩ := map_some e
    subst e2
    rw [boolsD_eq e1] at hs
    obtain ⟨v, rfl, h⟩ := hs.one
    obtain ⟨a, xs, rfl, h1, _, h3⟩ := h.inj_list
    rw [h3.bools] at h1
    exact cr_all hc pins s σ H _ us Q I rx ⟨a, ns, rfl, .of h1, q.bl⟩
  · obtain ⟨ns, e1, e2⟩ := map_some e
    subst e2
    rw [boolsD_eq e1] at hs
    obtain ⟨v, rfl, h⟩ := hs.one
    obtain ⟨a, xs, rfl, h1, _, h3⟩ := h.inj_list
    rw [h3.bools] at h1
    exact cr_any hc pins s σ H _ us Q I rx ⟨a, ns, rfl, .of h1, q.bl⟩
  · -- repr
    obtain ⟨e1, e2⟩ := ite_some e
    subst e2
    simp only [Bool.and_eq_true, decide_eq_true_eq] at e1
    obtain ⟨⟨⟨k1, k2⟩, k3⟩, k4⟩ := e1
    obtain ⟨v, rfl, h⟩ := hs.one
    obtain ⟨u, rfl, ru⟩ := vals1 rx
    have hh := noD_hd k2
    have go : ∀ a, u = Value.ref a → ∀ d0 as, Reads s.heap u d0 as → d0.showable = true → d0.hasDict = false → d0.depth ≤ 60 → d0.shown.length ≤ sizeLine → dRes X.K false H O (.str d0.shown) Q → wpAny (model X.prog X.w) X.A (call (.builtin "repr") [u]) (EP X pins σ Q) X.xe s := by
      intro a ea d0 as rd n1 n2 n3 n4 q
      subst ea
      exact repr_of_reads' rd n1 (PyData.noDict_hsm n2) hg (by omega) (fun _ _ z => z) (fun h' u tk k => ⟨.str d0.shown, H, I.kept k, ⟨_, rfl⟩, q.str⟩) n4
    obtain ⟨as, rd⟩ := h.reads I k2 ru
    cases h with
    | non => cases ru; exact PySem.P.repr_of_none ⟨.str _, H, I.tok _, ⟨_, rfl⟩, q.str⟩
    | bl b => cases ru; exact PySem.P.repr_of_bool ⟨.str _, H, I.tok _, ⟨_, rfl⟩, q.str⟩
    | int i => obtain ⟨t, rfl⟩ := ru; exact PySem.P.repr_of_int (by simpa [PyData.showable] using k1) ⟨.str _, H, I.tok _, ⟨_, rfl⟩, q.str⟩
    | str x => obtain ⟨t, rfl⟩ := ru; exact PySem.P.repr_of_str ⟨.str _, H, I.tok _, ⟨_, rfl⟩, q.str⟩ k4
    | lst h1 h2 h3 => exact go _ ru _ _ rd k1 hh k3 k4 q
    | tup h1 h2 => exact go _ ru _ _ rd k1 hh k3 k4 q
    | scr h1 => simp [scrD, noD] at k2
  · cases hb
  · cases e
end
end Ev
end

section
set_option maxRecDepth 100000
set_option maxHeartbeats 1000000
/-! Readings of expressions by data. -/
namespace Ev
open PySem PySem.Spec PyProof.Rows L2

theorem _root_.L2.PE.imp {X : Cx} {e : Expr} {t t' : TE} (h : PE X e t) (i : ∀ σ H Q, t' σ H Q → t σ H Q) : PE X e t' := ⟨fun pins s σ H Q I q => h.run pins s σ H Q I (i σ H Q q)⟩
theorem _root_.L2.PT.imp {X : Cx} {e : Expr} {t t' : TT} (h : PT X e t) (i : ∀ σ H Q, t' σ H Q → t σ H Q) : PT X e t' := ⟨fun pins s σ H Q I q => h.run pins s σ H Q I (i σ H Q q)⟩
theorem _root_.L2.PW.imp {X : Cx} {e : Expr} {t t' : TT} (h : PW X e t) (i : ∀ σ H Q, t' σ H Q → t σ H Q) : PW X e t' := ⟨fun wh pins s σ H Q I q => h.run wh pins s σ H Q I (i σ H Q q)⟩
theorem _root_.L2.PA.imp {X : Cx} {e : List Expr} {t t' : TA} (h : PA X e t) (i : ∀ σ H Q, t' σ H Q → t σ H Q) : PA X e t' := ⟨fun pos pins s σ H Q I q => h.run pos pins s σ H Q I (i σ H Q q)⟩
theorem _root_.L2.PO.imp {X : Cx} {e : Option Expr} {t t' : TO} (h : PO X e t) (i : ∀ σ H Q, t' σ H Q → t σ H Q) : PO X e t' := ⟨fun pins s σ H Q I q => h.run pins s σ H Q I (i σ H Q q)⟩
theorem _root_.L2.PI.imp {X : Cx} {tg e : Expr} {t t' : TI} (h : PI X tg e t) (i : ∀ σ H Q, t' σ H Q → t σ H Q) : PI X tg e t' := ⟨fun pins s σ H Q I q => h.run pins s σ H Q I (i σ H Q q)⟩
theorem _root_.L2.PTs.imp {X : Cx} {e : List Expr} {t t' : TT} (h : PTs X e t) (i : ∀ σ H Q, t' σ H Q → t σ H Q) : PTs X e t' := ⟨fun pins s σ H Q I q => h.run pins s σ H Q I (i σ H Q q)⟩
theorem _root_.L2.PSs.imp {X : Cx} {st : List Stmt} {t t' : TS} (h : PSs X st t) (i : ∀ D σ H, t' D σ H → t D σ H) : PSs X st t' := ⟨fun pins s σ H D I q => h.run pins s σ H D I (i D σ H q)⟩
theorem _root_.L2.PS.imp {X : Cx} {st : Stmt} {t t' : TS} (h : PS X st t) (i : ∀ D σ H, t' D σ H → t D σ H) : PS X st t' := ⟨fun pins s σ H D I q => h.run pins s σ H D I (i D σ H q)⟩

/-- the jar's address -/
def Jo (jo : Option Addr) : Addr → Prop := fun a => jo = some a
structure Rel (K : PySem.W.Frag) (H : Hp) (O : Addr → Prop) (jx : Option Nat) (jo : Option Addr) (σv : L2.St) (σd : Sd) (J : Jr) : Prop where
  len : σd.length = σv.length
  val : ∀ (i : Nat) (d : PyData), σd[i]? = some (some d) → ∃ v, σv[i]? = some (some v) ∧ DF K H O v d
  own : Ow H O
  jar : JRel H O jo J
  js : ∀ j, jo = some j → ∃ i, jx = some i ∧ σv[i]? = some (some (.ref j))
section
variable {K : PySem.W.Frag} {H H' H1 : Hp} {O : Addr → Prop} {jx : Option Nat} {jo : Option Addr} {σv : L2.St} {σd : Sd} {J J' : Jr}
theorem JRel.sub (h : JRel H O jo J) : ∀ a, Jo jo a → O a := fun a e => by
  cases jo with
  | none => cases e
  | some j =>
    cases e
    cases J with
    | none => exact h.elim
    | some ns => exact h.1
theorem JRel.keepNo (h : JRel H O jo J) (k : Kp No H H') : JRel H' O jo J := by
  cases jo with
  | none => cases J with
    | none => exact True.intro
    | some ns => exact h.elim
  | some j =>
    cases J with
    | none => exact h.elim
    | some ns => exact ⟨h.1, k.at_ _ _ h.2 (.inl fun z => z)⟩
theorem Ow.keep (w : Ow H O) (k : Kp (Jo jo) H H') : Ow H' O := fun a z => k.there a (w a z)
theorem Ow.keepNo (w : Ow H O) (k : Kp No H H') : Ow H' O := fun a z => k.there a (w a z)
theorem Rel.kp (r : Rel K H O jx jo σv σd J) (k : Kp (Jo jo) H H') : Kp O H H' := k.mono r.jar.sub
theorem Rel.keep (r : Rel K H O jx jo σv σd J) (k : Kp (Jo jo) H H') (j : JRel H' O jo J') : Rel K H' O jx jo σv σd J' :=
  ⟨r.len, fun i d e => let ⟨v, e1, e2⟩ := r.val i d e; ⟨v, e1, e2.keep (r.kp k)⟩, r.own.keep k, j, r.js⟩

/-- what is wanted of a value that tells d -/
def Vw (K : PySem.W.Frag) (O : Addr → Prop) (jo : Option Addr) (H : Hp) (fr : Bool) (d : PyData) (J' : Jr) (Q : VK) : Prop := ∀ v H', Kp (Jo jo) H H' → JRel H' O jo J' → DF K H' O v d → (fr = true → FrV K H H' O d v) → Q v H'
def tV (K : PySem.W.Frag) (jx : Option Nat) (fr : Bool) (F : Sd → Mo PyData) : TE := fun σv H Q =>
  ∃ O jo σd J, Rel K H O jx jo σv σd J ∧ (F σd J).Ok fun d J' => Vw K O jo H fr d J' Q
def tVs (K : PySem.W.Frag) (jx : Option Nat) (F : Sd → Mo (List PyData)) : TA := fun σv H Q =>
  ∃ O jo σd J, Rel K H O jx jo σv σd J ∧ (F σd J).Ok fun ds J' => ∀ vs H', Kp (Jo jo) H H' → JRel H' O jo J' → DFs K H' O vs ds → Q vs H'
def tT (K : PySem.W.Frag) (jx : Option Nat) (F : Sd → Mo Bool) : TT := fun σv H Q =>
  ∃ O jo σd J, Rel K H O jx jo σv σd J ∧ (F σd J).Ok fun k J' => ∀ H', Kp (Jo jo) H H' → JRel H' O jo J' → Q k H'
def tO (K : PySem.W.Frag) (jx : Option Nat) (F : Sd → Mo (Option Int)) : TO := fun σv H Q =>
  ∃ O jo σd J, Rel K H O jx jo σv σd J ∧ (F σd J).Ok fun k J' => ∀ H', Kp (Jo jo) H H' → JRel H' O jo J' → Q k H'
variable {fr : Bool} {d : PyData} {Q : VK}
theorem Vw.step (w : Vw K O jo H fr d J' Q) (k : Kp (Jo jo) H H1) : Vw K O jo H1 fr d J' Q := fun v H' k' j' d' f => w v H' (k.trans k') j' d' fun z ds a e1 e2 => let ⟨g1, g2⟩ := f z ds a e1 e2; ⟨k.gone g1, g2⟩
theorem Vw.res (w : Vw K O jo H fr d J Q) (j : JRel H O jo J) : dRes K fr H O d Q := fun v H' k d' f => w v H' k.no (j.keepNo k) d' f
theorem tV.to {F : Sd → Mo PyData} {J1 : Jr} (r : Rel K H O jx jo σv σd J) (e : F σd J = .ok d J1) (h : Vw K O jo H fr d J1 Q) : tV K jx fr F σv H Q := ⟨O, jo, σd, J, r, by rw [e]; exact h⟩
theorem tVs.to {F : Sd → Mo (List PyData)} {ds : List PyData} {J1 : Jr} {Q : List V → Hp → Prop} (r : Rel K H O jx jo σv σd J) (e : F σd J = .ok ds J1) (h : ∀ vs H', Kp (Jo jo) H H' → JRel H' O jo J1 → DFs K H' O vs ds → Q vs H') : tVs K jx F σv H Q :=
  ⟨O, jo, σd, J, r, by rw [e]; exact h⟩
theorem tT.to {F : Sd → Mo Bool} {k : Bool} {J1 : Jr} {Q : Bool → Hp → Prop} (r : Rel K H O jx jo σv σd J) (e : F σd J = .ok k J1) (h : ∀ H', Kp (Jo jo) H H' → JRel H' O jo J1 → Q k H') : tT K jx F σv H Q := ⟨O, jo, σd, J, r, by rw [e]; exact h⟩
theorem tO.to {F : Sd → Mo (Option Int)} {k : Option Int} {J1 : Jr} {Q : Option Int → Hp → Prop} (r : Rel K H O jx jo σv σd J) (e : F σd J = .ok k J1) (h : ∀ H', Kp (Jo jo) H H' → JRel H' O jo J1 → Q k H') : tO K jx F σv H Q := ⟨O, jo, σd, J, r, by rw [e]; exact h⟩
/-- weaker about freshness -/
theorem tV.weak {F : Sd → Mo PyData} (h : tV K jx false F σv H Q) : tV K jx fr F σv H Q := by
  obtain ⟨O, jo, σd, J, r, w⟩ := h
  exact ⟨O, jo, σd, J, r, w.imp fun d J' w v H' k j d' _ => w v H' k j d' fun z => nomatch z⟩
end

section
variable {X : Cx} {jx : Option Nat} {e a b c : Expr} {f1 f2 f3 fr : Bool} {Fa Fb Fc : Sd → Mo PyData} {pos : Pos}

theorem ok_of {α : Type} {m : Rs α} {d : α} {J : Jr} (e : m = .ok d J) : m.Ok fun d' J' => d' = d ∧ J' = J := by rw [e]; exact ⟨rfl, rfl⟩
/-! ### names, constants -/
theorem pv_var {i : Nat} {x : Str} (hN : X.N[i]? = some x) (hv : Vis X.env.scope x) (hd : (x == ("__debug__" : Str)) = false) (hcd : (x == ("__classdict__" : Str)) = false) : PE X (.Name x pos) (tV X.K jx false fun σ => Mo.opt (σ.getD i none)) := by
  refine (pe_var hN hv hd hcd).imp fun σ H Q ⟨O, jo, σd, J, r, w⟩ => ?_
  obtain ⟨d, e1, w⟩ := Mo.opt_ok w
  have e2 : σd[i]? = some (some d) := by
    rw [List.getD_eq_getElem?_getD] at e1
    cases h : σd[i]? with
    | none => rw [h] at e1; cases e1
    | some o => rw [h] at e1; exact congrArg some e1
  obtain ⟨v, e3, e4⟩ := r.val i d e2
  exact ⟨v, e3, w v H .refl r.jar e4 fun z => nomatch z⟩
theorem pv_con {v : V} {d : PyData} (h : PE X e (tC v)) (hd : ∀ H O, DF X.K H O v d) (hn : noL d = true) : PE X e (tV X.K jx fr fun _ => Mo.pure d) := by
  refine h.imp fun σ H Q ⟨O, jo, σd, J, r, w⟩ => ?_
  exact w v H .refl r.jar (hd H O) fun _ ds a e _ => by subst e; simp [noL] at hn

/-! ### two places -/
theorem pv_op2 {G : PyData → PyData → Option PyData} (h : PE X e (tOp (dR2 X.K fr G) (tV X.K jx f1 Fa) (tV X.K jx f2 Fb))) :
    PE X e (tV X.K jx fr fun σ => Mo.bind (Fa σ) fun x => Mo.bind (Fb σ) fun y => Mo.opt (G x y)) := by
  refine h.imp fun σ H Q ⟨O, jo, σd, J, r, w⟩ => ?_
  obtain ⟨x, J1, e1, w⟩ := Mo.bind_ok w
  obtain ⟨y, J2, e2, w⟩ := Mo.bind_ok w
  obtain ⟨d, e3, w⟩ := Mo.opt_ok w
  refine .to r e1 fun v H1 k1 j1 d1 _ => ?_
  have r1 := r.keep k1 j1
  refine .to r1 e2 fun u H2 k2 j2 d2 _ => ?_
  have r2 := r1.keep k2 j2
  exact ⟨O, x, y, d, r2.own, d1.keep (r1.kp k2), d2, e3, (w.step (k1.trans k2)).res j2⟩
def uR (K : PySem.W.Frag) (fr : Bool) (G : PyData → Option PyData) : V → Hp → VK → Prop := fun x H Q => ∃ O d1 d, Ow H O ∧ DF K H O x d1 ∧ G d1 = some d ∧ dRes K fr H O d Q
theorem pv_op1 {G : PyData → Option PyData} (h : PE X e (tUn (uR X.K fr G) (tV X.K jx f1 Fa))) : PE X e (tV X.K jx fr fun σ => Mo.bind (Fa σ) fun x => Mo.opt (G x)) := by
  refine h.imp fun σ H Q ⟨O, jo, σd, J, r, w⟩ => ?_
  obtain ⟨x, J1, e1, w⟩ := Mo.bind_ok w
  obtain ⟨d, e3, w⟩ := Mo.opt_ok w
  refine .to r e1 fun v H1 k1 j1 d1 _ => ?_
  have r1 := r.keep k1 j1
  exact ⟨O, x, d, r1.own, d1, e3, (w.step k1).res j1⟩
theorem pv_neg (ha : PE X a (tV X.K jx f1 Fa)) : PE X (.UnaryOp .USub a pos) (tV X.K jx fr fun σ => Mo.bind (Fa σ) fun x => Mo.opt ((intD x).map fun i => .int (-i))) := by
  refine pv_op1 (f1 := f1) ((pe_un un_neg ha).imp fun σ H Q h => ?_)
  obtain ⟨O, jo, σd, J, r, w⟩ := h
  refine ⟨O, jo, σd, J, r, w.imp fun d J' w v H' k j d' f => ?_⟩
  obtain ⟨O2, d1, d2, w1, h1, h2, q⟩ := w v H' k j d' f
  obtain ⟨i, e1, e2⟩ := map_some h2
  subst e2
  cases d1 with
  | int i' => cases e1; exact ⟨i, h1.inj_int, q.int⟩
  | _ => cases e1

/-! ### truth -/
theorem DF.tru {K : PySem.W.Frag} {H : Hp} {O : Addr → Prop} {v : V} {d : PyData} {k : Bool} (h : DF K H O v d) (e : truthD d = some k) : TruV K v H k := by
  cases h with
  | non => cases e; rfl
  | bl b => cases e; rfl
  | int i => cases e; rfl
  | str x => cases e
  | lst h1 h2 h3 =>
    cases e
    refine .inl ⟨_, .of h1, ?_⟩
    cases h3 <;> rfl
  | tup h1 h3 =>
    cases e
    refine .inr (.inl ⟨_, h1, ?_⟩)
    cases h3 <;> rfl
  | scr h => cases e
theorem pvt_val (ha : PE X a (tV X.K jx f1 Fa)) (he : ∀ whole, isTrue a X.env whole = (do let v ← whole; standAt a.pos; holding [v] (truthy v))) : PT X a (tT X.K jx (mT Fa)) := by
  refine (pt_truth ha he).imp fun σ H Q ⟨O, jo, σd, J, r, w⟩ => ?_
  obtain ⟨x, J1, e1, w⟩ := Mo.bind_ok w
  obtain ⟨k, e3, w⟩ := Mo.opt_ok w
  exact .to r e1 fun v H1 k1 j1 d1 _ => ⟨k, d1.tru e3, w H1 k1 j1⟩
theorem pvt_cmp {op : CmpOp} {G : PyData → PyData → Option Bool} (ho : OpR X (compareOp op) (dR2 X.K true fun x y => (G x y).map .bool)) (ha : PE X a (tV X.K jx f1 Fa)) (hb : PE X b (tV X.K jx f2 Fb)) (hm : behindInMarks op b = false) :
    PT X (.Compare a [op] [b] pos) (tT X.K jx (mT fun σ => Mo.bind (Fa σ) fun x => Mo.bind (Fb σ) fun y => Mo.opt ((G x y).map .bool))) := by
  refine (pt_cmpR ho ha hb hm).imp fun σ H Q ⟨O, jo, σd, J, r, w⟩ => ?_
  obtain ⟨d, J2, e, w⟩ := Mo.bind_ok w
  obtain ⟨k, e4, w⟩ := Mo.opt_ok w
  have e' := ok_of e
  obtain ⟨x, J1, e1, e'⟩ := Mo.bind_ok e'
  obtain ⟨y, J2', e2, e'⟩ := Mo.bind_ok e'
  obtain ⟨d', e3, e', e''⟩ := Mo.opt_ok e'
  subst e' e''
  refine .to r e1 fun v H1 k1 j1 d1 _ => ?_
  have r1 := r.keep k1 j1
  refine .to r1 e2 fun u H2 k2 j2 d2 _ => ?_
  have r2 := r1.keep k2 j2
  refine ⟨O, x, y, d', r2.own, d1.keep (r1.kp k2), d2, e3, fun v H' k' dv _ => ?_⟩
  obtain ⟨b', e5, e6⟩ := map_some e3
  subst e6
  cases e4
  exact ⟨_, dv.inj_bool, w H' ((k1.trans k2).trans k'.no) (j2.keepNo k')⟩
theorem chain_tV {G G' : PyData → PyData → Option Bool} {σ : L2.St} {H : Hp} {Q : VK} (h : tV X.K jx fr (mChain G G' Fa Fb Fc) σ H Q) :
    tChain (dR2 X.K true fun x y => (G x y).map .bool) (dR2 X.K true fun x y => (G' x y).map .bool) (tV X.K jx f1 Fa) (tV X.K jx f2 Fb) (tV X.K jx f3 Fc) σ H Q := by
  obtain ⟨O, jo, σd, J, r, w⟩ := h
  obtain ⟨x, J1, e1, w⟩ := Mo.bind_ok w
  obtain ⟨y, J2, e2, w⟩ := Mo.bind_ok w
  obtain ⟨k, J2', g3, w⟩ := Mo.bind_ok w
  obtain ⟨e3, ej⟩ := Mo.opt_eq g3
  clear g3
  subst ej
  refine .to r e1 fun v H1 k1 j1 d1 _ => ?_
  have r1 := r.keep k1 j1
  refine .to r1 e2 fun u H2 k2 j2 d2 _ => ?_
  have r2 := r1.keep k2 j2
  refine ⟨O, x, y, .bool k, r2.own, d1.keep (r1.kp k2), d2, by show (G x y).map _ = _; rw [e3]; rfl, fun v' H3 k3 dv _ => ⟨k, dv.inj_bool, ?_⟩⟩
  have r3 := r2.keep k3.no (j2.keepNo k3)
  cases k with
  | false => rw [if_neg Bool.false_ne_true]; exact w _ H3 ((k1.trans k2).trans k3.no) r3.jar (.bl false) fun _ _ _ e => nomatch e
  | true =>
    rw [if_pos rfl]
    obtain ⟨z, J4, e4, w⟩ := Mo.bind_ok w
    obtain ⟨d', e5, w⟩ := Mo.opt_ok w
    refine .to r3 e4 fun u' H4 k4 j4 d4 _ => ?_
    have r4 := r3.keep k4 j4
    have q := (w.step (((k1.trans k2).trans k3.no).trans k4)).res j4
    obtain ⟨b', e6, e7⟩ := map_some e5
    subst e7
    exact ⟨O, y, z, _, r4.own, d2.keep ((r2.kp k3.no).trans (r3.kp k4)), d4, e5, fun v H' k d _ => q v H' k d fun _ _ _ e => nomatch e⟩
theorem pv_chain {op op' : CmpOp} {G G' : PyData → PyData → Option Bool} (ho : OpR X (compareOp op) (dR2 X.K true fun x y => (G x y).map .bool)) (ho' : OpR X (compareOp op') (dR2 X.K true fun x y => (G' x y).map .bool))
    (ha : PE X a (tV X.K jx f1 Fa)) (hb : PE X b (tV X.K jx f2 Fb)) (hc : PE X c (tV X.K jx f3 Fc)) (hm : lastMarks [op, op'] [b, c] = false) :
    PE X (.Compare a [op, op'] [b, c] pos) (tV X.K jx fr (mChain G G' Fa Fb Fc)) := (pe_chain ho ho' ha hb hc hm).imp fun σ H Q h => chain_tV h
theorem Ok_bool {F : Sd → Mo PyData} {σd : Sd} {J : Jr} {P : Bool → Jr → Prop} (w : (mT F σd J).Ok P) (h : ∀ d J', F σd J = .ok d J' → ∃ b, d = .bool b) : (F σd J).Ok fun d J' => ∃ b, d = .bool b ∧ P b J' := by
  obtain ⟨d, J1, e, w⟩ := Mo.bind_ok w
  obtain ⟨k, e4, w⟩ := Mo.opt_ok w
  obtain ⟨b, eb⟩ := h d J1 e
  rw [e]
  subst eb
  cases e4
  exact ⟨_, rfl, w⟩
/-- a test from a value that is a bool -/
theorem tV_test {F : Sd → Mo PyData} {σ : L2.St} {H : Hp} {Q : Bool → Hp → Prop} (hb : ∀ σd J d J', F σd J = .ok d J' → ∃ b, d = .bool b) (h : tT X.K jx (mT F) σ H Q) : tV X.K jx true F σ H fun x H' => ∃ k, x = .bl k ∧ Q k H' := by
  obtain ⟨O, jo, σd, J, r, w⟩ := h
  refine ⟨O, jo, σd, J, r, (Ok_bool w fun d J' e => hb σd J d J' e).imp fun d J' ⟨b, e, w⟩ v H' k j dv _ => ?_⟩
  subst e
  exact ⟨b, dv.inj_bool, w H' k j⟩
theorem chain_bool {G G' : PyData → PyData → Option Bool} {σd : Sd} {J J' : Jr} {d : PyData} (h : mChain G G' Fa Fb Fc σd J = .ok d J') : ∃ b, d = .bool b := by
  have w : (mChain G G' Fa Fb Fc σd J).Ok fun d' _ => d' = d := by rw [h]; exact rfl
  obtain ⟨x, J1, e1, w⟩ := Mo.bind_ok w
  obtain ⟨y, J2, e2, w⟩ := Mo.bind_ok w
  obtain ⟨k, J2', e3, w⟩ := Mo.bind_ok w
  cases k with
  | false => exact ⟨false, (show _ = d from w).symm⟩
  | true =>
    obtain ⟨z, J4, e4, w⟩ := Mo.bind_ok w
    obtain ⟨d', e5, w⟩ := Mo.opt_ok w
    obtain ⟨b', e6, e7⟩ := map_some e5
    exact ⟨b', (show d' = d from w) ▸ e7.symm⟩
theorem pvt_chain {op op' : CmpOp} {G G' : PyData → PyData → Option Bool} (ho : OpR X (compareOp op) (dR2 X.K true fun x y => (G x y).map .bool)) (ho' : OpR X (compareOp op') (dR2 X.K true fun x y => (G' x y).map .bool))
    (ha : PE X a (tV X.K jx f1 Fa)) (hb : PE X b (tV X.K jx f2 Fb)) (hc : PE X c (tV X.K jx f3 Fc)) (hm : lastMarks [op, op'] [b, c] = false) :
    PT X (.Compare a [op, op'] [b, c] pos) (tT X.K jx (mT (mChain G G' Fa Fb Fc))) := (pt_chain ho ho' ha hb hc hm).imp fun σ H Q h => chain_tV (tV_test (fun _ _ _ _ e => chain_bool e) h)

/-! ### and, or, not, if -/
variable {Ta Tb : Sd → Mo Bool}
theorem boolD_some {d : PyData} {k : Bool} (h : boolD d = some k) : d = .bool k := by
  cases d <;> first | (cases h; rfl) | cases h
theorem and_tV {σ : L2.St} {H : Hp} {Q : VK} (h : tV X.K jx fr (mAnd Fa Fb) σ H Q) : tAndV (tV X.K jx f1 Fa) (tV X.K jx fr Fb) σ H Q := by
  obtain ⟨O, jo, σd, J, r, w⟩ := h
  obtain ⟨x, J1, e1, w⟩ := Mo.bind_ok w
  obtain ⟨k, J2', g3, w⟩ := Mo.bind_ok w
  obtain ⟨e3, ej⟩ := Mo.opt_eq g3
  clear g3
  subst ej
  refine .to r e1 fun v H1 k1 j1 d1 _ => ?_
  rw [boolD_some e3] at d1
  refine ⟨k, d1.inj_bool, ?_⟩
  have r1 := r.keep k1 j1
  cases k with
  | false => rw [if_neg Bool.false_ne_true]; exact w _ H1 k1 j1 (.bl false) fun _ _ _ e => nomatch e
  | true => rw [if_pos rfl]; exact ⟨O, jo, σd, _, r1, w.imp fun d J' w => w.step k1⟩
theorem or_tV {σ : L2.St} {H : Hp} {Q : VK} (h : tV X.K jx fr (mOr Fa Fb) σ H Q) : tOrV (tV X.K jx f1 Fa) (tV X.K jx fr Fb) σ H Q := by
  obtain ⟨O, jo, σd, J, r, w⟩ := h
  obtain ⟨x, J1, e1, w⟩ := Mo.bind_ok w
  obtain ⟨k, J2', g3, w⟩ := Mo.bind_ok w
  obtain ⟨e3, ej⟩ := Mo.opt_eq g3
  clear g3
  subst ej
  refine .to r e1 fun v H1 k1 j1 d1 _ => ?_
  rw [boolD_some e3] at d1
  refine ⟨k, d1.inj_bool, ?_⟩
  have r1 := r.keep k1 j1
  cases k with
  | true => rw [if_pos rfl]; exact w _ H1 k1 j1 (.bl true) fun _ _ _ e => nomatch e
  | false => rw [if_neg Bool.false_ne_true]; exact ⟨O, jo, σd, _, r1, w.imp fun d J' w => w.step k1⟩
theorem and_tT {σ : L2.St} {H : Hp} {Q : Bool → Hp → Prop} (h : tT X.K jx (mT (mAnd Fa Fb)) σ H Q) : tAnd (tT X.K jx (mT Fa)) (tT X.K jx (mT Fb)) σ H Q := by
  obtain ⟨O, jo, σd, J, r, w⟩ := h
  obtain ⟨d, J3, e, w⟩ := Mo.bind_ok w
  have e' := ok_of e
  obtain ⟨x, J1, e1, e'⟩ := Mo.bind_ok e'
  obtain ⟨k, J2', g3, e'⟩ := Mo.bind_ok e'
  obtain ⟨e3, ej⟩ := Mo.opt_eq g3
  clear g3
  subst ej
  have ex := boolD_some e3
  subst ex
  refine tT.to r (k := k) (J1 := J2') (by show mT Fa σd J = _; unfold mT Mo.bind; rw [e1]; rfl) fun H1 k1 j1 => ?_
  have r1 := r.keep k1 j1
  cases k with
  | false =>
    obtain ⟨e4, e5⟩ := (show PyData.bool false = d ∧ J2' = J3 from e')
    subst e4 e5
    rw [if_neg Bool.false_ne_true]
    exact w H1 k1 j1
  | true =>
    rw [if_pos rfl]
    refine ⟨O, jo, σd, _, r1, ?_⟩
    show (Mo.bind (Fb σd) _ J2').Ok _
    unfold Mo.bind
    have e6 : (Fb σd J2').Ok fun d' J' => d' = d ∧ J' = J3 := e'
    cases hb : Fb σd J2' with
    | ok y J4 =>
      rw [hb] at e6
      obtain ⟨e7, e8⟩ := e6
      subst e7 e8
      exact Rs.Ok.imp w fun k J' w H' k' j' => w H' (k1.trans k') j'
    | ex _ _ => rw [hb] at e6; exact e6.elim
    | no => rw [hb] at e6; exact e6.elim
theorem or_tT {σ : L2.St} {H : Hp} {Q : Bool → Hp → Prop} (h : tT X.K jx (mT (mOr Fa Fb)) σ H Q) : tOr (tT X.K jx (mT Fa)) (tT X.K jx (mT Fb)) σ H Q := by
  obtain ⟨O, jo, σd, J, r, w⟩ := h
  obtain ⟨d, J3, e, w⟩ := Mo.bind_ok w
  have e' := ok_of e
  obtain ⟨x, J1, e1, e'⟩ := Mo.bind_ok e'
  obtain ⟨k, J2', g3, e'⟩ := Mo.bind_ok e'
  obtain ⟨e3, ej⟩ := Mo.opt_eq g3
  clear g3
  subst ej
  have ex := boolD_some e3
  subst ex
  refine tT.to r (k := k) (J1 := J2') (by show mT Fa σd J = _; unfold mT Mo.bind; rw [e1]; rfl) fun H1 k1 j1 => ?_
  have r1 := r.keep k1 j1
  cases k with
  | true =>
    obtain ⟨e4, e5⟩ := (show PyData.bool true = d ∧ J2' = J3 from e')
    subst e4 e5
    rw [if_pos rfl]
    exact w H1 k1 j1
  | false =>
    rw [if_neg Bool.false_ne_true]
    refine ⟨O, jo, σd, _, r1, ?_⟩
    show (Mo.bind (Fb σd) _ J2').Ok _
    unfold Mo.bind
    have e6 : (Fb σd J2').Ok fun d' J' => d' = d ∧ J' = J3 := e'
    cases hb : Fb σd J2' with
    | ok y J4 =>
      rw [hb] at e6
      obtain ⟨e7, e8⟩ := e6
      subst e7 e8
      exact Rs.Ok.imp w fun k J' w H' k' j' => w H' (k1.trans k') j'
    | ex _ _ => rw [hb] at e6; exact e6.elim
    | no => rw [hb] at e6; exact e6.elim
theorem pv_ite (hc : PT X c (tT X.K jx (mT Fc))) (ha : PE X a (tV X.K jx false Fa)) (hb : PE X b (tV X.K jx false Fb)) :
    PE X (.IfExp c a b pos) (tV X.K jx false (mIte Fc Fa Fb)) := by
  refine (pe_ifExp hc ha hb).imp fun σ H Q ⟨O, jo, σd, J, r, w⟩ => ?_
  obtain ⟨x, J1, e1, w⟩ := Mo.bind_ok w
  obtain ⟨k, J2', g3, w⟩ := Mo.bind_ok w
  obtain ⟨e3, ej⟩ := Mo.opt_eq g3
  clear g3
  subst ej
  refine tT.to r (k := k) (J1 := J2') (by show mT Fc σd J = _; unfold mT Mo.bind; rw [e1]; show Mo.opt (truthD x) _ = _; rw [e3]; rfl) fun H1 k1 j1 => ?_
  have r1 := r.keep k1 j1
  cases k with
  | true => rw [if_pos rfl]; exact ⟨O, jo, σd, _, r1, w.imp fun d J' w => w.step k1⟩
  | false => rw [if_neg Bool.false_ne_true]; exact ⟨O, jo, σd, _, r1, w.imp fun d J' w => w.step k1⟩
end
end Ev
end

section
set_option maxRecDepth 100000
set_option maxHeartbeats 1000000
/-! Readings of subscripts, displays, calls. -/
namespace Ev
open PySem PySem.Spec PyProof.Rows L2

section
variable {X : Cx} {jx : Option Nat} {e a b c : Expr} {f1 f2 f3 fr : Bool} {Fa Fb Fc : Sd → Mo PyData} {pos : Pos}
theorem atI_map {K : PySem.W.Frag} {H : Hp} {O : Addr → Prop} {xs : List V} {ds : List PyData} {i : Int} {d : PyData} (r : DFs K H O xs ds) (e : atI ds i = some d) : ∃ v, atI xs i = some v ∧ DF K H O v d := by
  unfold atI at e ⊢
  rw [r.length]
  cases h : ixN ds.length i with
  | none => rw [h] at e; cases e
  | some j => rw [h] at e; exact r.get e
theorem ix_dat : IxR X (dR2 X.K false idxE) := by
  intro value slice pins s σ H x y v u Q I rx ry ⟨O, d1, d2, d, w, h1, h2, e, q⟩ hs
  unfold idxE at e
  split at e
  · obtain ⟨p, xs, rfl, s1, n1, r1⟩ := h1.inj_list
    obtain ⟨z, e1, e2⟩ := atI_map r1 e
    exact ix_list value slice pins s σ H _ y v u Q I rx ry ⟨p, xs, _, z, rfl, h2.inj_int, .of s1, e1, q.same e2 rfl⟩ hs
  · obtain ⟨p, xs, rfl, s1, r1⟩ := h1.inj_tup
    obtain ⟨z, e1, e2⟩ := atI_map r1 e
    exact ix_tup value slice pins s σ H _ y v u Q I rx ry ⟨p, xs, _, z, rfl, h2.inj_int, s1, e1, q.same e2 rfl⟩ hs
  · rename_i xs i
    cases h1 with
    | scr h =>
      obtain ⟨z, e1, e2⟩ := atI_map (K := X.K) (H := H) (O := O) DFs.ints e
      exact ix_list value slice pins s σ H _ y v u Q I rx ry ⟨_, _, _, z, rfl, h2.inj_int, h.sq, e1, q.same e2 rfl⟩ hs
  · cases e
theorem pv_idx (ha : PE X a (tV X.K jx f1 Fa)) (hb : PE X b (tV X.K jx f2 Fb)) (hs : PlainIx b) :
    PE X (.Subscript a b pos) (tV X.K jx false fun σ => Mo.bind (Fa σ) fun x => Mo.bind (Fb σ) fun y => Mo.opt (idxE x y)) := pv_op2 (pe_ix ix_dat ha hb hs)

/-! ### slices -/
variable {Fl Fh : Sd → Mo (Option Int)} {lo hi : Option Expr} {p2 : Pos}
theorem cutD_len {K : PySem.W.Frag} {H : Hp} {O : Addr → Prop} {xs : List V} {ds : List PyData} (r : DFs K H O xs ds) (l h : Option Int) : DFs K H O (cutV xs l h) (cutD ds l h) := by
  unfold cutV cutD
  rw [r.length]
  exact (r.drop _).take _
def sR (K : PySem.W.Frag) : V → Option Int → Option Int → Hp → VK → Prop := fun x l h H Q => ∃ O d1 d, Ow H O ∧ DF K H O x d1 ∧ slcE d1 l h = some d ∧ dRes K true H O d Q
theorem sl_dat : SlR X (sR X.K) := by
  intro pins s σ H x v vl vu l h sl Q I rx hs pl pu ⟨O, d1, d, w, h1, e, q⟩
  unfold slcE at e
  split at e
  · cases e
    obtain ⟨p, xs, rfl, s1, n1, r1⟩ := h1.inj_list
    exact sl_list pins s σ H _ v vl vu l h sl Q I rx hs pl pu ⟨p, xs, rfl, .of s1, fun t ht => q.lst w (cutD_len r1 l h) ht⟩
  · cases e
    obtain ⟨p, xs, rfl, s1, r1⟩ := h1.inj_tup
    refine sl_tupA pins s σ H _ v vl vu l h sl Q I rx hs pl pu ⟨p, xs, rfl, s1, fun ⟨e1, e2⟩ => ?_, fun _ t ht => q.tup (cutD_len r1 l h) ht⟩
    have r2 := cutD_len r1 l h
    have e3 : cutV xs l h = xs := by unfold cutV; rw [e1, e2]; simp
    rw [e3] at r2
    exact q.sameT (.tup s1 r2)
  · cases e
theorem pv_slc (ha : PE X a (tV X.K jx f1 Fa)) (hl : PO X lo (tO X.K jx Fl)) (hh : PO X hi (tO X.K jx Fh)) :
    PE X (.Subscript a (.Slice lo hi none p2) pos) (tV X.K jx true fun σ => Mo.bind (Fa σ) fun x => Mo.bind (Fl σ) fun l => Mo.bind (Fh σ) fun h => Mo.opt (slcE x l h)) := by
  refine (pe_slice sl_dat ha hl hh).imp fun σ H Q ⟨O, jo, σd, J, r, w⟩ => ?_
  obtain ⟨x, J1, e1, w⟩ := Mo.bind_ok w
  obtain ⟨l, J2, e2, w⟩ := Mo.bind_ok w
  obtain ⟨h, J3, e3, w⟩ := Mo.bind_ok w
  obtain ⟨d, e4, w⟩ := Mo.opt_ok w
  refine .to r e1 fun v H1 k1 j1 d1 _ => ?_
  have r1 := r.keep k1 j1
  refine .to r1 e2 fun H2 k2 j2 => ?_
  have r2 := r1.keep k2 j2
  refine .to r2 e3 fun H3 k3 j3 => ?_
  have r3 := r2.keep k3 j3
  exact ⟨O, x, d, r3.own, (d1.keep (r1.kp k2)).keep (r2.kp k3), e4, (w.step ((k1.trans k2).trans k3)).res j3⟩
theorem po_n : PO X none (tO X.K jx fun _ => Mo.pure none) := po_none.imp fun σ H Q ⟨O, jo, σd, J, r, w⟩ => w H .refl r.jar
theorem po_s (ha : PE X a (tV X.K jx f1 Fa)) : PO X (some a) (tO X.K jx fun σ => Mo.bind (Fa σ) fun d => Mo.bind (Mo.opt (intD d)) fun i => Mo.pure (some i)) := by
  refine (po_some ha).imp fun σ H Q ⟨O, jo, σd, J, r, w⟩ => ?_
  obtain ⟨x, J1, e1, w⟩ := Mo.bind_ok w
  obtain ⟨i, J2, g, w⟩ := Mo.bind_ok w
  obtain ⟨e2, ej⟩ := Mo.opt_eq g
  clear g
  subst ej
  refine .to r e1 fun v H1 k1 j1 d1 _ => ?_
  have ex : x = .int i := by cases x <;> first | (cases e2; rfl) | cases e2
  subst ex
  exact ⟨i, d1.inj_int, w H1 k1 j1⟩

/-! ### lists backwards -/
theorem pv_rev {k : Nat} {p1 p3 : Pos} (ha : PE X a (tV X.K jx f1 Fa)) : PE X (.Subscript a (.Slice none none (some (.UnaryOp .USub (.Constant (.int 1) k p1) p2)) p3) pos) (tV X.K jx true fun σ => Mo.bind (Fa σ) fun x => Mo.opt (revE x)) := by
  refine (pe_revL ha).imp fun σ H Q ⟨O, jo, σd, J, r, w⟩ => ?_
  obtain ⟨x, J1, e1, w⟩ := Mo.bind_ok w
  obtain ⟨d, e4, w⟩ := Mo.opt_ok w
  refine .to r e1 fun v H1 k1 j1 d1 _ => ?_
  have r1 := r.keep k1 j1
  unfold revE at e4
  split at e4
  · cases e4
    obtain ⟨p, xs, rfl, s1, n1, r2⟩ := d1.inj_list
    exact ⟨p, xs, rfl, .of s1, fun t ht => ((w.step k1).res j1).lst r1.own r2.reverse ht⟩
  · cases e4

/-! ### displays, arguments -/
variable {es : List Expr} {Fs Fr : Sd → Mo (List PyData)}
theorem pvs_nil : PA X [] (tVs X.K jx fun _ => Mo.pure []) := pa_nil.imp fun σ H Q ⟨O, jo, σd, J, r, w⟩ => w [] H .refl r.jar .nil
theorem pvs_cons (ha : PE X a (tV X.K jx f1 Fa)) (hr : PA X es (tVs X.K jx Fr)) (hs : starEach (a :: es) X.env = (false, eval a X.env) :: starEach es X.env) :
    PA X (a :: es) (tVs X.K jx fun σ => Mo.bind (Fa σ) fun d => Mo.bind (Fr σ) fun ds => Mo.pure (d :: ds)) := by
  refine (pa_cons ha hr hs).imp fun σ H Q ⟨O, jo, σd, J, r, w⟩ => ?_
  obtain ⟨x, J1, e1, w⟩ := Mo.bind_ok w
  obtain ⟨ds, J2, e2, w⟩ := Mo.bind_ok w
  refine .to r e1 fun v H1 k1 j1 d1 _ => ?_
  have r1 := r.keep k1 j1
  refine .to r1 e2 fun vs H2 k2 j2 d2 => ?_
  exact w (v :: vs) H2 (k1.trans k2) j2 (.cons (d1.keep (r1.kp k2)) d2)
theorem pvs_star {p : Pos} (ha : PE X a (tV X.K jx f1 Fa)) (hr : PA X es (tVs X.K jx Fr)) :
    PA X (.Starred a p :: es) (tVs X.K jx fun σ => Mo.bind (Fa σ) fun d => Mo.bind (Mo.opt (seqD d)) fun xs => Mo.bind (Fr σ) fun ds => Mo.pure (xs ++ ds)) := by
  refine (StX.pa_star ha hr).imp fun σ H Q ⟨O, jo, σd, J, r, w⟩ => ?_
  obtain ⟨x, J1, e1, w1⟩ := Mo.bind_ok w
  obtain ⟨xs, J1', g, w2⟩ := Mo.bind_ok w1
  obtain ⟨e3, ej⟩ := Mo.opt_eq g
  obtain ⟨ds, J2, e2, w3⟩ := Mo.bind_ok w2
  clear w w1 w2 g
  subst ej
  refine .to r e1 fun v H1 k1 j1 d1 _ => ?_
  have r1 := r.keep k1 j1
  have go : ∀ ys : List V, DFs X.K H1 O ys xs → tVs X.K jx Fr σ H1 fun zs H2 => Q (ys ++ zs) H2 := fun ys hy =>
    .to r1 e2 fun vs H2 k2 j2 d2 => w3 (ys ++ vs) H2 (k1.trans k2) j2 ((hy.keep (r1.kp k2)).append d2)
  unfold seqD at e3
  split at e3
  · cases e3
    obtain ⟨p, ys, rfl, s1, n1, r2⟩ := d1.inj_list
    exact ⟨p, ys, rfl, .inr (.of s1), go ys r2⟩
  · cases e3
    obtain ⟨p, ys, rfl, s1, r2⟩ := d1.inj_tup
    exact ⟨p, ys, rfl, .inl s1, go ys r2⟩
  · cases e3
theorem fitD_some {ds ds' : List PyData} (h : fitD ds = some ds') : ds.length ≤ sizeLine ∧ ds = ds' := ite_some h
theorem pv_tup {k : Nat} (h : PA X es (tVs X.K jx Fs)) : PE X (.Tuple es k pos) (tV X.K jx fr fun σ => Mo.bind (Fs σ) fun ds => Mo.opt ((fitD ds).map .tuple)) := by
  refine (pe_tup h).imp fun σ H Q ⟨O, jo, σd, J, r, w⟩ => ?_
  obtain ⟨ds, J1, e1, w⟩ := Mo.bind_ok w
  obtain ⟨d, e4, w⟩ := Mo.opt_ok w
  obtain ⟨ds', e5, e6⟩ := map_some e4
  obtain ⟨e7, e8⟩ := fitD_some e5
  subst e6 e8
  exact .to r e1 fun vs H1 k1 j1 d1 => ⟨by rw [d1.length]; exact e7, fun t ht => ((w.step k1).res j1).tup d1 ht⟩
theorem pv_lst (h : PA X es (tVs X.K jx Fs)) : PE X (.List es pos) (tV X.K jx true fun σ => Mo.bind (Fs σ) fun ds => Mo.opt ((fitD ds).map .list)) := by
  refine (pe_lst h).imp fun σ H Q ⟨O, jo, σd, J, r, w⟩ => ?_
  obtain ⟨ds, J1, e1, w⟩ := Mo.bind_ok w
  obtain ⟨d, e4, w⟩ := Mo.opt_ok w
  obtain ⟨ds', e5, e6⟩ := map_some e4
  obtain ⟨e7, e8⟩ := fitD_some e5
  subst e6 e8
  refine .to r e1 fun vs H1 k1 j1 d1 => ⟨by rw [d1.length]; exact e7, fun t ht => ?_⟩
  exact ((w.step k1).res j1).lst (r.keep k1 j1).own d1 ht

/-! ### calls -/
theorem pv_bi {f : Value} {G : List PyData → Option PyData} (h : PE X e (tCB (dRn X.K fr G) (tVs X.K jx Fs))) : PE X e (tV X.K jx fr fun σ => Mo.bind (Fs σ) fun ds => Mo.opt (G ds)) := by
  refine h.imp fun σ H Q ⟨O, jo, σd, J, r, w⟩ => ?_
  obtain ⟨ds, J1, e1, w⟩ := Mo.bind_ok w
  obtain ⟨d, e4, w⟩ := Mo.opt_ok w
  exact .to r e1 fun vs H1 k1 j1 d1 => ⟨O, ds, d, (r.keep k1 j1).own, d1, e4, (w.step k1).res j1⟩

/-- a function's promise: with the jar as its first value, or without one -/
def spF (K : PySem.W.Frag) (G : List PyData → Mo PyData) (jar fr : Bool) : Sp := fun vs H Q _ => ∃ O jo J ds vs', Ow H O ∧ JRel H O jo J ∧ DFs K H O vs' ds ∧
  (match jar, jo with
    | true, some j => vs = .ref j :: vs'
    | false, none => vs = vs'
    | _, _ => False) ∧ (G ds J).Ok fun d J' => Vw K O jo H fr d J' Q
/-- as FnR, where no repr is under way -/
def FnG (P : Program) (w : World) (K : PySem.W.Frag) (mg : Str → Option Value) (base : Heap) (CX : CXT) (k : Nat) (f : Addr) (sp : Sp) : Prop :=
  ∀ (A : Around) (outer : List Env) (s : Shared) (H : Hp) (us : List Value) (vs : List V) (Q : VK) (E : XK), Room k A → A.guards = some [] → Env0 P w K mg base A outer s H → Vals vs us → sp vs H Q E →
    codeAny (model P w) A (.call (.ref f) ⟨us, []⟩) (CR CX outer P w H s Q E) s
theorem FnG.mono {P : Program} {w : World} {K : PySem.W.Frag} {mg : Str → Option Value} {base : Heap} {CX : CXT} {j k : Nat} {f : Addr} {sp : Sp} (F : FnG P w K mg base CX j f sp) (h : j ≤ k) : FnG P w K mg base CX k f sp :=
  fun A outer s H us vs Q E hr => F A outer s H us vs Q E (hr.mono h)
theorem run_fnG {pins : List (Addr × Obj)} {σ : L2.St} {H : Hp} {s : Shared} {k : Nat} {f : Addr} {sp : Sp} {Q : VK} {us : List Value} {vs : List V} (F : FnG X.prog X.w X.K X.mg X.base CX0 k f sp) (hr : Room k X.A) (hg : X.A.guards = some []) (I : Inv X pins σ H s) (r : Vals vs us) (h : sp vs H Q E0) :
    wpAny (model X.prog X.w) X.A (call (.ref f) us) (EP X pins σ Q) X.xe s := by
  refine wpAny_call (codeAny_mono (F X.A X.stack s H us vs Q E0 hr hg I.env0 r h) fun r s' hq => ?_)
  cases r with
  | error e => exact False.elim hq
  | ok fl =>
    cases fl with
    | ret u => exact I.after hq
    | next => exact False.elim hq
    | brk => exact False.elim hq
    | cont => exact False.elim hq
section
variable {k : Nat} {f : Addr} {sp : Sp} {x : Str} {p : Pos} {t : TA}
theorem pe_callG (F : FnG X.prog X.w X.K X.mg X.base CX0 k f sp) (hr : Room k X.A) (hgd : X.A.guards = some []) (hg : Gl X x) (hm : X.mg x = some (.ref f)) (hk : PySem.W.keepIn X.K (.ref f) = true)
    (ha : PA X (a :: es) t) (hdb : (x == ("__debug__" : Str)) = false) (he : starEach (a :: es) X.env = (false, eval a X.env) :: starEach es X.env) (hpl : (backTo pos (starEach es X.env)).any (·.1) = false) :
    PE X (.Call (.Name x p) (a :: es) [] pos) (fun σ H Q => t σ H fun vs H1 => sp vs H1 Q E0) := by
  refine ⟨fun pins s σ H Q I h => ?_⟩
  refine wpAny_Call_Name_kw (ld_glob I hg hm ?_ hdb)
  refine PySem.W.callWith_K (h₀ := X.base) I.ok.mod.kin hk (thn (ha.run pos pins s σ H _ I h) fun us s1 ⟨vs, H1, I1, r, q⟩ => ⟨I1.kIn, ?_⟩) he hpl
  exact run_fnG F hr hgd I1 r q
theorem pe_callG0 (F : FnG X.prog X.w X.K X.mg X.base CX0 k f sp) (hr : Room k X.A) (hgd : X.A.guards = some []) (hg : Gl X x) (hm : X.mg x = some (.ref f)) (hk : PySem.W.keepIn X.K (.ref f) = true)
    (hdb : (x == ("__debug__" : Str)) = false) : PE X (.Call (.Name x p) [] [] pos) (fun σ H Q => sp [] H Q E0) := by
  refine ⟨fun pins s σ H Q I h => ?_⟩
  refine wpAny_Call_Name_kw (ld_glob I hg hm ?_ hdb)
  exact PySem.W.callWith_K0 I.kIn hk (run_fnG F hr hgd I .nil h)
end
end
end Ev
end

section
set_option maxRecDepth 100000
set_option maxHeartbeats 1000000
/-! Targets, iterators, comprehensions by data. -/
namespace Ev
open PySem PySem.Spec PyProof.Rows L2

/-! ### targets -/
mutual
def gT (K : PySem.W.Frag) : Tg → TG
  | .name i => gName i
  | .tup ts => gTup K ts.length (gTs K ts)
def gTs (K : PySem.W.Frag) : List Tg → TGs
  | [] => gNil
  | t :: ts => gCons (gT K t) (gTs K ts)
end
mutual
def slots : Tg → List Nat
  | .name i => [i]
  | .tup ts => slotss ts
def slotss : List Tg → List Nat
  | [] => []
  | t :: ts => slots t ++ slotss ts
end
section
variable {K : PySem.W.Frag} {H H' H1 : Hp} {O O' : Addr → Prop} {jx : Option Nat} {jo : Option Addr} {σv : L2.St} {σd : Sd} {J J' : Jr}
/-- slots alone -/
structure RelV' (K : PySem.W.Frag) (H : Hp) (O : Addr → Prop) (σv : L2.St) (σd : Sd) : Prop where
  len : σd.length = σv.length
  val : ∀ (i : Nat) (d : PyData), σd[i]? = some (some d) → ∃ v, σv[i]? = some (some v) ∧ DF K H O v d
theorem RelV'.set (r : RelV' K H O σv σd) (i : Nat) {v : V} {d : PyData} (h : DF K H O v d) : RelV' K H O (σv.set i (some v)) (σd.set i (some d)) := by
  refine ⟨by rw [List.length_set, List.length_set, r.len], fun k e hk => ?_⟩
  rw [List.getElem?_set] at hk ⊢
  by_cases z : i = k
  · subst z
    rw [if_pos rfl] at hk ⊢
    split at hk
    · cases hk
      rw [if_pos (by rw [← r.len]; assumption)]
      exact ⟨v, rfl, h⟩
    · cases hk
  · rw [if_neg z] at hk ⊢
    exact r.val k e hk
mutual
theorem gT_ok : ∀ (t : Tg) {v : V} {d : PyData} {σv : L2.St} {σd σd' : Sd} {Q : L2.St → Hp → Prop}, RelV' K H O σv σd → DF K H O v d → setTg t d σd = some σd' →
    (∀ σv', RelV' K H O σv' σd' → (∀ i, i ∉ slots t → σv'[i]? = σv[i]?) → Q σv' H) → gT K t v σv H Q
  | .name i, v, d, σv, σd, σd', Q, r, h, e, q => by
    rw [setTg] at e
    cases e
    rw [gT]
    exact q _ (r.set i h) fun k hk => List.getElem?_set_ne fun z => hk (by rw [slots]; simp [z])
  | .tup ts, v, d, σv, σd, σd', Q, r, h, e, q => by
    cases d with
    | tuple ds =>
      rw [setTg] at e
      obtain ⟨a, xs, rfl, s1, r1⟩ := h.inj_tup
      rw [gT]
      exact ⟨a, xs, rfl, s1, by rw [r1.length]; exact setTgs_len e, gTs_ok ts r r1 e fun σv' r' f => q σv' r' fun i hi => f i (by rw [slots] at hi; exact hi)⟩
    | none => rw [setTg] at e; cases e; all_goals nofun
    | bool _ => rw [setTg] at e; cases e; all_goals nofun
    | int _ => rw [setTg] at e; cases e; all_goals nofun
    | str _ => rw [setTg] at e; cases e; all_goals nofun
    | list _ => rw [setTg] at e; cases e; all_goals nofun
    | dict _ => rw [setTg] at e; cases e; all_goals nofun
theorem gTs_ok : ∀ (ts : List Tg) {vs : List V} {ds : List PyData} {σv : L2.St} {σd σd' : Sd} {Q : L2.St → Hp → Prop}, RelV' K H O σv σd → DFs K H O vs ds → setTgs ts ds σd = some σd' →
    (∀ σv', RelV' K H O σv' σd' → (∀ i, i ∉ slotss ts → σv'[i]? = σv[i]?) → Q σv' H) → gTs K ts vs σv H Q
  | [], vs, ds, σv, σd, σd', Q, r, h, e, q => by
    cases h with
    | nil =>
      rw [setTgs] at e
      cases e
      rw [gTs]
      exact ⟨rfl, q _ r fun _ _ => rfl⟩
    | cons _ _ => rw [setTgs] at e; cases e; all_goals nofun
  | t :: ts, vs, ds, σv, σd, σd', Q, r, h, e, q => by
    cases h with
    | nil => rw [setTgs] at e; cases e; all_goals nofun
    | cons h1 h2 =>
      rw [setTgs] at e
      rename_i v vs d ds
      cases e1 : setTg t d σd with
      | none => rw [e1] at e; cases e
      | some σ1 =>
        rw [e1] at e
        rw [gTs]
        refine ⟨_, _, rfl, gT_ok t r h1 e1 fun σv1 r1 f1 => gTs_ok ts r1 h2 e fun σv2 r2 f2 => q σv2 r2 fun i hi => ?_⟩
        rw [slotss, List.mem_append, not_or] at hi
        rw [f2 i hi.2, f1 i hi.1]
theorem setTgs_len : ∀ {ts : List Tg} {ds : List PyData} {σd σd' : Sd}, setTgs ts ds σd = some σd' → ds.length = ts.length
  | [], [], _, _, _ => rfl
  | [], _ :: _, _, _, e => by rw [setTgs] at e; cases e; all_goals nofun
  | _ :: _, [], _, _, e => by rw [setTgs] at e; cases e; all_goals nofun
  | t :: ts, d :: ds, σd, σd', e => by
    rw [setTgs] at e
    cases e1 : setTg t d σd with
    | none => rw [e1] at e; cases e
    | some σ1 =>
      rw [e1] at e
      rw [List.length_cons, List.length_cons, setTgs_len (ts := ts) e]
end
mutual
theorem setTg_len : ∀ {t : Tg} {d : PyData} {σd σd' : Sd}, setTg t d σd = some σd' → σd.length = σd'.length
  | .name i, d, σd, σd', e => by
    rw [setTg] at e
    cases e
    rw [List.length_set]
  | .tup ts, .tuple ds, σd, σd', e => by
    rw [setTg] at e
    exact setTgs_sz e
  | .tup ts, .none, _, _, e => by rw [setTg] at e; cases e; all_goals nofun
  | .tup ts, .bool _, _, _, e => by rw [setTg] at e; cases e; all_goals nofun
  | .tup ts, .int _, _, _, e => by rw [setTg] at e; cases e; all_goals nofun
  | .tup ts, .str _, _, _, e => by rw [setTg] at e; cases e; all_goals nofun
  | .tup ts, .list _, _, _, e => by rw [setTg] at e; cases e; all_goals nofun
  | .tup ts, .dict _, _, _, e => by rw [setTg] at e; cases e; all_goals nofun
theorem setTgs_sz : ∀ {ts : List Tg} {ds : List PyData} {σd σd' : Sd}, setTgs ts ds σd = some σd' → σd.length = σd'.length
  | [], [], _, _, e => by rw [setTgs] at e; cases e; rfl
  | [], _ :: _, _, _, e => by rw [setTgs] at e; cases e; all_goals nofun
  | _ :: _, [], _, _, e => by rw [setTgs] at e; cases e; all_goals nofun
  | t :: ts, d :: ds, σd, σd', e => by
    rw [setTgs] at e
    cases e1 : setTg t d σd with
    | none => rw [e1] at e; cases e
    | some σ1 =>
      rw [e1] at e
      rw [setTg_len e1]
      exact setTgs_sz (ts := ts) e
end
end
end Ev
end

section
set_option maxRecDepth 100000
set_option maxHeartbeats 1000000
/-! Iterators, comprehensions by data. -/
namespace Ev
open PySem PySem.Spec PyProof.Rows L2

/-- what the iterator gives tells ds, while Kp stands from Hs on -/
def Wk (K : PySem.W.Frag) (O : Addr → Prop) (It : L2.It) (ds : List PyData) (Hs : Hp) : Prop := ∃ Y : Nat → Hp → V → Hp → Prop, Walk It ds.length (fun H => Kp O Hs H) Y ∧
  ∀ i H x H', i < ds.length → Kp O Hs H → Y i H x H' → (H' = H ∨ ∃ T xs, H T = none ∧ H' = upd H T (.tup xs)) ∧ ∀ d (Ot : Addr → Prop), ds[i]? = some d → (∀ a, Ot a → O a ∨ Hs a = none) → DF K H' Ot x d
def tI (K : PySem.W.Frag) (jx : Option Nat) (ok : List PyData → Bool) (F : Sd → Mo (List PyData)) : TI := fun σv H R =>
  ∃ O jo σd J, Rel K H O jx jo σv σd J ∧ (F σd J).Ok fun ds J' => ∀ It H', Kp (Jo jo) H H' → JRel H' O jo J' → Wk K O It ds H' → (ok ds = true → ∀ O', Ow H O' → Wk K O' It ds H') → R It H'
section
variable {K : PySem.W.Frag} {O : Addr → Prop} {Hs : Hp} {a b : Addr} {xs ys : List V} {ds es : List PyData}
theorem wk_list (h : Hs a = some (.lst xs)) (n : ¬ O a) (r : DFs K Hs O xs ds) : Wk K O (Itl K a) ds Hs := by
  have w : Walk (Itl K a) ds.length (fun H => Kp O Hs H) (YAt xs) := by
    rw [← r.length]
    exact walk_list.mono (fun H k => .of (k.at_ _ _ h (.inl n))) fun _ _ _ _ _ _ y => y
  refine ⟨_, w, fun i H x H' hi k y => ?_⟩
  obtain ⟨rfl, hx⟩ := y
  refine ⟨.inl rfl, fun d Ot hd l => ?_⟩
  obtain ⟨v, e, dv⟩ := r.get hd
  rw [hx] at e; cases e
  exact dv.move k l
theorem wk_scr {ns : List Int} (h : LsF K Hs O a (ns.map V.int)) : Wk K O (Itl K a) (ns.map .int) Hs := by
  have w : Walk (Itl K a) (ns.map PyData.int).length (fun H => Kp O Hs H) (YAt (ns.map V.int)) := by
    rw [List.length_map, ← List.length_map (f := V.int)]
    exact walk_list.mono (fun H k => (h.keep k).sq) fun _ _ _ _ _ _ y => y
  refine ⟨_, w, fun i H x H' hi k y => ?_⟩
  obtain ⟨rfl, hx⟩ := y
  refine ⟨.inl rfl, fun d Ot hd l => ?_⟩
  rw [List.getElem?_map] at hx hd
  cases e : ns[i]? with
  | none => rw [e] at hx; cases hx
  | some n => rw [e] at hx hd; cases hx; cases hd; exact .int n
theorem wk_tup (h : SqT K Hs a xs) (r : DFs K Hs O xs ds) : Wk K O (Itt K a) ds Hs := by
  have w : Walk (Itt K a) ds.length (fun H => Kp O Hs H) (YAt xs) := by
    rw [← r.length]
    exact walk_tup.mono (fun H k => SqT.keep k h) fun _ _ _ _ _ _ y => y
  refine ⟨_, w, fun i H x H' hi k y => ?_⟩
  obtain ⟨rfl, hx⟩ := y
  refine ⟨.inl rfl, fun d Ot hd l => ?_⟩
  obtain ⟨v, e, dv⟩ := r.get hd
  rw [hx] at e; cases e
  exact dv.move k l
theorem wk_range {lo : Int} {n : Nat} : Wk K O (L2.Itr lo n) ((List.range n).map fun (k : Nat) => PyData.int (lo + (k : Int))) Hs := by
  have w : Walk (L2.Itr lo n) ((List.range n).map fun (k : Nat) => PyData.int (lo + (k : Int))).length (fun H => Kp O Hs H) (YFn fun i => .int (lo + i)) := by
    rw [List.length_map, List.length_range]
    exact walk_range.mono (fun _ _ => trivial) fun _ _ _ _ _ _ y => y
  refine ⟨_, w, fun i H x H' hi k y => ?_⟩
  obtain ⟨rfl, hx⟩ := y
  refine ⟨.inl rfl, fun d Ot hd l => ?_⟩
  rw [List.length_map, List.length_range] at hi
  rw [List.getElem?_map, List.getElem?_range hi] at hd
  cases hd
  subst hx
  exact .int _
/-- the list or tuple at a in new pairs behind its index -/
def ItE (S : Hp → List V → Prop) (le : Nat → Nat → Prop) : L2.It :=
  ⟨fun i H => ∃ (xs : List V) (x : V), S H xs ∧ xs[i]? = some x, fun i H v H' => ∃ T x, v = .ref T ∧ H T = none ∧ H' = upd H T (.tup [.int (i : Nat), x]) ∧ ∀ xs, S H xs → xs[i]? = some x, fun i H => ∃ xs : List V, S H xs ∧ le xs.length i⟩
theorem enumD_get : ∀ (l : List PyData) (k i : Nat), (enumD k l)[i]? = l[i]?.map fun d => .tuple [.int ((k + i : Nat) : Int), d]
  | [], k, i => by simp [enumD]
  | x :: l, k, 0 => by simp [enumD]
  | x :: l, k, i + 1 => by
    rw [enumD, List.getElem?_cons_succ, enumD_get l (k + 1) i, List.getElem?_cons_succ, show k + 1 + i = k + (i + 1) by omega]
theorem enumD_len : ∀ (l : List PyData) (k : Nat), (enumD k l).length = l.length
  | [], _ => rfl
  | _ :: l, k => by rw [enumD, List.length_cons, List.length_cons, enumD_len l]
theorem pair_df {H : Hp} {Ot : Addr → Prop} {T : Addr} {x y : V} {d e : PyData} (hT : H T = none) (h1 : DF K H Ot x d) (h2 : DF K H Ot y e) : DF K (upd H T (.tup [x, y])) Ot (.ref T) (.tuple [d, e]) :=
  .tup (.inl (.inl upd_same)) (.cons (h1.keep (.new hT)) (.cons (h2.keep (.new hT)) .nil))
theorem wk_enum {S : Hp → List V → Prop} {le : Nat → Nat → Prop} (hle : ∀ n, le n n) (hS : ∀ H, Kp O Hs H → S H xs) (r : DFs K Hs O xs ds) : Wk K O (ItE S le) (enumD 0 ds) Hs := by
  refine ⟨fun i H v H' => ∃ T x, v = .ref T ∧ H T = none ∧ H' = upd H T (.tup [.int (i : Nat), x]) ∧ xs[i]? = some x, ⟨fun i H hi k => ?_, fun H k => ?_, fun i H x H' hi k y => ?_⟩, fun i H x H' hi k y => ?_⟩
  · rw [enumD_len, ← r.length] at hi
    exact ⟨xs, xs[i], hS H k, by simp [hi]⟩
  · rw [enumD_len, ← r.length]
    exact ⟨xs, hS H k, hle _⟩
  · obtain ⟨T, z, h1, h2, h3, h4⟩ := y
    exact ⟨T, z, h1, h2, h3, h4 xs (hS H k)⟩
  · obtain ⟨T, z, rfl, h2, rfl, h4⟩ := y
    refine ⟨.inr ⟨T, _, h2, rfl⟩, fun d Ot hd l => ?_⟩
    rw [enumD_get] at hd
    cases e : ds[i]? with
    | none => rw [e] at hd; cases hd
    | some d0 =>
      rw [e] at hd
      cases hd
      obtain ⟨v, e2, dv⟩ := r.get e
      rw [h4] at e2; cases e2
      rw [Nat.zero_add]
      exact pair_df h2 (.int _) (dv.move k l)
theorem zipD_get : ∀ (l m : List PyData) (i : Nat) (d : PyData), (zipD l m)[i]? = some d → ∃ x y, l[i]? = some x ∧ m[i]? = some y ∧ d = .tuple [x, y] := by
  intro l m i d h
  unfold zipD at h
  rw [List.getElem?_zipWith] at h
  cases e1 : l[i]? with
  | none => rw [e1] at h; cases h
  | some x =>
    rw [e1] at h
    cases e2 : m[i]? with
    | none => rw [e2] at h; cases h
    | some y => rw [e2] at h; cases h; exact ⟨x, y, rfl, rfl, rfl⟩
theorem wk_zipY {It : L2.It} (hr : DFs K Hs O xs ds) (hs : DFs K Hs O ys es) (w : Walk It (min xs.length ys.length) (fun H => Kp O Hs H) (YPair (fun i => xs[i]?) (fun i => ys[i]?))) : Wk K O It (zipD ds es) Hs := by
  refine ⟨_, by unfold zipD; rw [List.length_zipWith, ← hr.length, ← hs.length]; exact w, fun i H x H' hi k y => ?_⟩
  obtain ⟨T, u, z, rfl, h2, rfl, h4, h5⟩ := y
  refine ⟨.inr ⟨T, _, h2, rfl⟩, fun d Ot hd l => ?_⟩
  obtain ⟨p, q, e1, e2, rfl⟩ := zipD_get _ _ _ _ hd
  obtain ⟨v, e3, dv⟩ := hr.get e1
  obtain ⟨v', e4, dv'⟩ := hs.get e2
  rw [show xs[i]? = some u from h4] at e3; cases e3
  rw [show ys[i]? = some z from h5] at e4; cases e4
  exact pair_df h2 (dv.move k l) (dv'.move k l)
theorem wk_zipL (ha : Hs a = some (.lst xs)) (na : ¬ O a) (hr : DFs K Hs O xs ds) (hb : Hs b = some (.lst ys)) (nb : ¬ O b) (hs : DFs K Hs O ys es) : Wk K O (Itz K a b) (zipD ds es) Hs :=
  wk_zipY hr hs ((walk_zip rfl).mono (fun H k => ⟨.of (k.at_ _ _ ha (.inl na)), .of (k.at_ _ _ hb (.inl nb))⟩) fun _ _ _ _ _ _ y => y)
theorem wk_zipT (ha : SqT K Hs a xs) (hr : DFs K Hs O xs ds) (hb : SqT K Hs b ys) (hs : DFs K Hs O ys es) : Wk K O (RZ.ItzT K a b) (zipD ds es) Hs := by
  refine wk_zipY hr hs ⟨fun i H hi k => ?_, fun H k => ⟨xs, ys, SqT.keep k ha, SqT.keep k hb, by omega⟩, fun i H v H' hi k y => ?_⟩
  · have h1 : i < xs.length := by omega
    have h2 : i < ys.length := by omega
    exact ⟨xs, ys, xs[i], ys[i], SqT.keep k ha, SqT.keep k hb, by simp [h1], by simp [h2]⟩
  · obtain ⟨T, x, z, h1, h2, h3, h4, h5⟩ := y
    exact ⟨T, x, z, h1, h2, h3, h4 xs (SqT.keep k ha), h5 ys (SqT.keep k hb)⟩
end

/-! ### enumerate of a tuple -/
theorem enum_newT (t : Addr) (items : Array Value) : Meets (Builtin.«enumerate.__new__» ⟨[.type "enumerate", .ref t], []⟩) (fun _ R s => s.heap.IsTuple t items ∧
    R (.ok (.ret (.ref (s.heap.objs.size + 1)))) { s with heap := (s.heap.push { cls := .type "tuple_iterator", data := .fields #[.ref t, .int 0 0] }).push { cls := .type "enumerate", data := .fields #[.none, .bool false, .ref s.heap.objs.size, rawInt 0, .none, .none] } }) :=
  .of_wp fun prog w A R s h => by
    obtain ⟨hp, g, d, tk, os⟩ := s
    obtain ⟨ht, h⟩ := h
    have hsub := sub_enumerate
    have hz : (hp.push { cls := .type "tuple_iterator", data := .fields #[.ref t, .int 0 0] }).objs.size = hp.objs.size + 1 := Heap.size_push ..
    have h' : R (.ok (.ret (.ref (hp.push { cls := .type "tuple_iterator", data := .fields #[.ref t, .int 0 0] }).objs.size))) ⟨(hp.push { cls := .type "tuple_iterator", data := .fields #[.ref t, .int 0 0] }).push { cls := .type "enumerate", data := .fields #[.none, .bool false, .ref hp.objs.size, rawInt 0, .none, .none] }, g, d, tk, os⟩ := by
      rw [hz]; exact h
    have it : ∀ {A' : Around} {E : Value → Shared → Prop} {Q : Value → Shared → Prop}, Q (.ref hp.objs.size) ⟨hp.push { cls := .type "tuple_iterator", data := .fields #[.ref t, .int 0 0] }, g, d, tk, os⟩ → wpAny (model prog w) A' (pyIter (.ref t)) Q E ⟨hp, g, d, tk, os⟩ :=
      fun q => wpAny_pyIter_tuple ht q
    wp_walk
    refine wpAny_stack_any fun st => wpAny_pure ?_
    split
    · rename_i c _ _ _ _ _
      cases (c == Value.type "enumerate")
      · wp_walk using it
        exact ⟨_, rfl, h'⟩
      · wp_walk using it
        exact ⟨_, rfl, h'⟩
    · wp_walk using it
      exact ⟨_, rfl, h'⟩
section
variable {prog : Program} {w : World} {A : Around} {E : Value → Shared → Prop} {s : Shared}
theorem enum_tuple {t : Addr} {items : Array Value} {Q : Value → Shared → Prop} (ht : s.heap.IsTuple t items)
    (h : ∀ h', IsEnum h' (s.heap.objs.size + 1) s.heap.objs.size 0 .none → h'.IsTupleIter s.heap.objs.size t 0 → (∀ b o, s.heap.get? b = some o → h'.get? b = some o) → Q (.ref (s.heap.objs.size + 1)) { s with heap := h' }) :
    wpAny (model prog w) A (call (.type "enumerate") [.ref t]) Q E s := by
  refine callType_new F.called_enumerate (by decide) (F.typeCall_enumerate_1 _) (F.newCall_enumerate_1 _) (fun obj => F.args_object_init_2 obj _) F.entry_enumerate_new (enum_newT t items) ⟨ht, ?_⟩
  have hz : (s.heap.push { cls := .type "tuple_iterator", data := .fields #[.ref t, .int 0 0] }).objs.size = s.heap.objs.size + 1 := Heap.size_push ..
  have he : IsEnum ((s.heap.push { cls := .type "tuple_iterator", data := .fields #[.ref t, .int 0 0] }).push { cls := .type "enumerate", data := .fields #[.none, .bool false, .ref s.heap.objs.size, rawInt 0, .none, .none] }) (s.heap.objs.size + 1) s.heap.objs.size 0 .none := by
    have q := Heap.get?_push_size (s.heap.push { cls := .type "tuple_iterator", data := .fields #[.ref t, .int 0 0] }) (o := { cls := .type "enumerate", data := .fields #[.none, .bool false, .ref s.heap.objs.size, rawInt 0, .none, .none] }) rfl
    rw [hz] at q; exact q
  exact ⟨⟨_, he, rfl⟩, h _ he ⟨_, Heap.get?_push_of_some _ (Heap.get?_push_size _ rfl), rfl, rfl⟩ fun b o x => Heap.get?_push_of_some _ (Heap.get?_push_of_some _ x)⟩
end
theorem turn_enumT {P : Program} {w : World} {K : PySem.W.Frag} {elts : List Expr} {kk : Nat} {tpos : Pos} (a e it : Addr) :
    Turn P w K (.Tuple elts kk tpos) (ItE (fun H xs => SqT K H a xs) fun n i => n = i) [e, it] e (fun i h => (∃ old, IsEnum h e it ((i : Nat) : Int) old) ∧ h.IsTupleIter it a i ∧ e ≠ it) where
  mem := by simp
  obj := fun i h st b hb => by
    obtain ⟨⟨old, he⟩, ⟨o, ho, hc, hd⟩, _⟩ := st
    rcases (show b = e ∨ b = it by simpa using hb) with z | z
    · exact ⟨_, z ▸ he, fun v q => by cases (show Data.fields _ = Data.cell v from q)⟩
    · exact ⟨o, z ▸ ho, fun v q => by rw [hd] at q; cases q⟩
  keep := fun i h h' st k => by
    obtain ⟨⟨old, he⟩, hi, hne⟩ := st
    exact ⟨⟨old, k e (by simp) _ he⟩, hi.at fun o q => k it (by simp) o q, hne⟩
  item := by
    intro X hP hw hK hc i pins s σ H E I hf st hg
    subst hP hw hK
    obtain ⟨⟨old, he⟩, hit, hne⟩ := st
    obtain ⟨xs, x, hq, hx⟩ := hg
    obtain ⟨its, rv, p, hz⟩ := I.tuple hq
    obtain ⟨u, hu, ru⟩ := rv.get hx
    have hel : e < s.heap.objs.size := Heap.lt_size he
    have hil : it < s.heap.objs.size := by obtain ⟨_, q, _⟩ := hit; exact Heap.lt_size q
    have pt : s.heap.IsTuple a its.toArray := p
    have hai : a ≠ it := fun z => by
      obtain ⟨o1, q1, c1, _⟩ := hit
      obtain ⟨o2, q2, c2, _⟩ := pt
      rw [z, q1] at q2; cases q2
      rw [c1] at c2
      exact absurd c2 (by decide +kernel)
    have hae : a ≠ e := fun z => by
      obtain ⟨o2, q2, c2, _⟩ := pt
      rw [z, he] at q2; cases q2
      exact absurd (show Value.type "enumerate" = Value.type "tuple" from c2) (by decide +kernel)
    have D := Draws.tuple (prog := X.prog) (w := X.w) (A := X.A.in1) (I.ok.hd hc) it a hai its.toArray
    have hef : e ∉ [it, a] := by simp only [List.mem_cons, List.not_mem_nil, or_false, not_or]; exact ⟨hne, fun z => hae z.symm⟩
    have hi : i < its.toArray.size := by
      have := (List.getElem?_eq_some_iff.mp hu).1
      simpa using this
    refine wpAny_pyNext_enum_itemC D he ⟨hit, pt⟩ hi hne hef fun x' h' tk hP ho hit' hT hsz hk => ?_
    have ex : x' = u := by
      have q : its[i]? = some x' := by simpa using hP
      rw [hu] at q; cases q; rfl
    subst ex
    refine ⟨_, rfl, wpAny_letOwnedTupleGo_enum (s := { s with heap := h', toks := tk + 1 }) ho fun h'' he' sb => ?_⟩
    have hT2 : h''.get? s.heap.objs.size = some { cls := .type "tuple", data := .seq #[.int (i : Int) tk, x'] } := (sb.2 _ (Nat.ne_of_gt hel)).trans hT
    have new : ObjOk X.prog X.w (upd H s.heap.objs.size (.tup [.int (i : Nat), x])) h'' s.heap.objs.size (.tup [.int (i : Nat), x]) :=
      ⟨by show 2 ≤ sizeLine; decide, [.int i tk, x'], .cons ⟨_, rfl⟩ (.cons ru .nil), _, hT2, rfl, _, rfl⟩
    have I1 : Inv X pins σ (upd H s.heap.objs.size (.tup [.int (i : Nat), x])) { s with heap := h'', toks := tk + 1 } :=
      I.turnedNew (ch := [e, it]) (fun b ob hb q => (sb.2 b fun z => hb (by simp [z])).trans (hk b ob (fun z => hb (by simp [z])) (fun z => hb (by simp [z])) q)) hf (Nat.le_refl _) new
    refine ⟨.ref s.heap.objs.size, _, I1, rfl, ⟨_, x, rfl, I.hok.fresh (Nat.le_refl _), rfl, fun ys hy => by rw [I.tuple_inj hy hq]; exact hx⟩, ⟨⟨x', ?_⟩, hit'.1.at fun o q => (sb.2 it (Ne.symm hne)).trans q, hne⟩, fun b hb => ?_⟩
    · rw [show ((i + 1 : Nat) : Int) = (i : Int) + 1 by omega]
      exact he'
    · have hb' : b < s.heap.objs.size := by
        rcases (show b = e ∨ b = it by simpa using hb) with z | z
        · exact z ▸ hel
        · exact z ▸ hil
      rw [upd_ne (Nat.ne_of_lt hb')]
      exact (hf b hb).1
  done := by
    intro X hP hw hK hc i pins s σ H E I hf st hg
    subst hP hw hK
    obtain ⟨⟨old, he⟩, hit, hne⟩ := st
    obtain ⟨xs, hq, hx⟩ := hg
    obtain ⟨its, rv, p, hz⟩ := I.tuple hq
    have pt : s.heap.IsTuple a its.toArray := p
    obtain ⟨f0, f1, f2, f3, f4, f5⟩ := hf it (by simp)
    have hai : a ≠ it := fun z => by
      obtain ⟨o1, q1, c1, _⟩ := hit
      obtain ⟨o2, q2, c2, _⟩ := pt
      rw [z, q1] at q2; cases q2
      rw [c1] at c2
      exact absurd c2 (by decide +kernel)
    have D := Draws.tuple (prog := X.prog) (w := X.w) (A := X.A.in1) (I.ok.hd hc) it a hai its.toArray
    have hl := rv.length
    refine wpAny_pyNext_enum_endD D he ⟨?_, pt⟩ fun h' eb => ⟨rfl, I.turned (t' := s.toks) (fun b o hb q => eb b o hb q) f0 f1 f3 f4 f5⟩
    rw [List.size_toArray, ← hl, hx]
    exact hit
  self := fun A i s Q E st h => by
    obtain ⟨⟨old, he⟩, _⟩ := st
    exact wpAny_pyIter_enum he h
end Ev
end

section
set_option maxRecDepth 100000
set_option maxHeartbeats 1000000
/-! What is walked; comprehensions by data. -/
namespace Ev
open PySem PySem.Spec PyProof.Rows L2
section
variable {X : Cx} {jx : Option Nat} {a b tg : Expr} {f1 f2 fr : Bool} {Fa Fb : Sd → Mo PyData} {pos p tpos : Pos} {elts : List Expr} {kk : Nat}
theorem pi_sq (ha : PE X a (tV X.K jx f1 Fa)) : PI X tg a (tI X.K jx (fun ds => f1 && noLs ds) fun σ => Mo.bind (Fa σ) fun d => Mo.opt (seqD d)) := by
  refine ⟨fun pins s σ H R I ⟨O, jo, σd, J, r, w⟩ => ?_⟩
  obtain ⟨x, J1, e1, w1⟩ := Mo.bind_ok w
  obtain ⟨ds, e2, w2⟩ := Mo.opt_ok w1
  clear w w1
  unfold seqD at e2
  split at e2
  · cases e2
    refine (pi_list ha).run pins s σ H R I (.to r e1 fun v H1 k1 j1 d1 fv => ?_)
    obtain ⟨q, ys, rfl, s1, n1, r2⟩ := d1.inj_list
    refine ⟨q, rfl, ⟨ys, .of s1⟩, w2 _ H1 k1 j1 (wk_list s1 n1 r2) fun z O' wO => ?_⟩
    rw [Bool.and_eq_true] at z
    exact wk_list s1 (fun y => wO q y (fv z.1 _ _ rfl rfl).1) (r2.noL O' z.2)
  · cases e2
    refine (pi_tup ha).run pins s σ H R I (.to r e1 fun v H1 k1 j1 d1 _ => ?_)
    obtain ⟨q, ys, rfl, s1, r2⟩ := d1.inj_tup
    refine ⟨q, rfl, ⟨ys, s1⟩, w2 _ H1 k1 j1 (wk_tup s1 r2) fun z O' wO => ?_⟩
    rw [Bool.and_eq_true] at z
    exact wk_tup s1 (r2.noL O' z.2)
  · cases e2
theorem rngD_some {i j : Int} {ds : List PyData} (h : rngD i j = some ds) : (-(2 ^ 62) ≤ i ∧ i < 2 ^ 62 ∧ -(2 ^ 62) ≤ j ∧ j < 2 ^ 62) ∧ ds = (List.range (j - i).toNat).map fun (k : Nat) => PyData.int (i + (k : Int)) := by
  unfold rngD at h
  obtain ⟨h1, h2⟩ := ite_some h
  exact ⟨h1, h2.symm⟩
theorem intD_some {d : PyData} {i : Int} (h : intD d = some i) : d = .int i := by cases d <;> first | (cases h; rfl) | cases h
theorem pi_rg1 (hg : Gl X "range") (hm : X.mg "range" = none) (ha : PE X a (tV X.K jx f1 Fa)) (hs : starEach [a] X.env = [(false, eval a X.env)]) :
    PI X tg (.Call (.Name "range" p) [a] [] pos) (tI X.K jx (fun _ => true) fun σ => Mo.bind (Fa σ) fun d => Mo.bind (Mo.opt (intD d)) fun j => Mo.opt (rngD 0 j)) := by
  have hs0 : starEach ([] : List Expr) X.env = [] := by rw [starEach]
  refine (pi_range1 hg hm (pvs_cons ha pvs_nil (by rw [hs, hs0])) hs).imp fun σ H R ⟨O, jo, σd, J, r, w⟩ => ?_
  obtain ⟨x, J1, e1, w1⟩ := Mo.bind_ok w
  obtain ⟨j, J2, g, w2⟩ := Mo.bind_ok w1
  obtain ⟨ds, e3, w3⟩ := Mo.opt_ok w2
  obtain ⟨e2, ej⟩ := Mo.opt_eq g
  clear w w1 w2 g
  subst ej
  have ex := intD_some e2
  subst ex
  obtain ⟨⟨h1, h2, h3, h4⟩, h5⟩ := rngD_some e3
  subst h5
  refine ⟨O, jo, σd, J, r, ?_⟩
  show (Mo.bind (Fa σd) _ J).Ok _
  unfold Mo.bind
  rw [e1]
  intro vs H1 k1 j1 dz
  obtain ⟨v, rfl, dv⟩ := dz.one
  refine ⟨j, by rw [dv.inj_int], h3, h4, ?_⟩
  rw [Int.sub_zero] at w3
  exact w3 _ H1 k1 j1 wk_range fun _ _ _ => wk_range
theorem pi_rg2 (hg : Gl X "range") (hm : X.mg "range" = none) (ha : PE X a (tV X.K jx f1 Fa)) (hb : PE X b (tV X.K jx f2 Fb)) (hs : starEach [a, b] X.env = [(false, eval a X.env), (false, eval b X.env)]) (hs2 : starEach [b] X.env = [(false, eval b X.env)]) :
    PI X tg (.Call (.Name "range" p) [a, b] [] pos) (tI X.K jx (fun _ => true) fun σ => Mo.bind (Fa σ) fun x => Mo.bind (Fb σ) fun y => Mo.bind (Mo.opt (intD x)) fun i => Mo.bind (Mo.opt (intD y)) fun j => Mo.opt (rngD i j)) := by
  have hs0 : starEach ([] : List Expr) X.env = [] := by rw [starEach]
  refine (pi_range2 hg hm (pvs_cons ha (pvs_cons hb pvs_nil (by rw [hs2, hs0])) (by rw [hs, hs2])) hs hs2).imp fun σ H R ⟨O, jo, σd, J, r, w⟩ => ?_
  obtain ⟨x, J1, e1, w1⟩ := Mo.bind_ok w
  obtain ⟨y, J2, e2, w2⟩ := Mo.bind_ok w1
  obtain ⟨i, J3, g, w3⟩ := Mo.bind_ok w2
  obtain ⟨j, J4, g', w4⟩ := Mo.bind_ok w3
  obtain ⟨ds, e5, w5⟩ := Mo.opt_ok w4
  obtain ⟨e3, ej⟩ := Mo.opt_eq g
  obtain ⟨e4, ej'⟩ := Mo.opt_eq g'
  clear w w1 w2 w3 w4 g g'
  subst ej'
  subst ej
  have ex := intD_some e3
  have ey := intD_some e4
  subst ex ey
  obtain ⟨h1, h5⟩ := rngD_some e5
  subst h5
  refine ⟨O, jo, σd, J, r, ?_⟩
  show (Mo.bind (Fa σd) _ J).Ok _
  unfold Mo.bind
  rw [e1]
  show (Mo.bind (Mo.bind (Fb σd) _) _ J1).Ok _
  unfold Mo.bind
  rw [e2]
  intro vs H1 k1 j1 dz
  obtain ⟨v, v', rfl, dv, dv'⟩ := dz.two
  exact ⟨i, j, by rw [dv.inj_int, dv'.inj_int], h1, w5 _ H1 k1 j1 wk_range fun _ _ _ => wk_range⟩
theorem pi_en (hg : Gl X "enumerate") (hm : X.mg "enumerate" = none) (ha : PE X a (tV X.K jx f1 Fa)) (hs : starEach [a] X.env = [(false, eval a X.env)]) :
    PI X (.Tuple elts kk tpos) (.Call (.Name "enumerate" p) [a] [] pos) (tI X.K jx (fun _ => false) fun σ => Mo.bind (Fa σ) fun d => Mo.bind (Mo.opt (seqD d)) fun xs => Mo.pure (enumD 0 xs)) := by
  have hs0 : starEach ([] : List Expr) X.env = [] := by rw [starEach]
  have hpa := pvs_cons ha (pvs_nil (jx := jx)) (by rw [hs, hs0])
  refine ⟨fun pins s σ H R I ⟨O, jo, σd, J, r, w⟩ => ?_⟩
  obtain ⟨x, J1, e1, w1⟩ := Mo.bind_ok w
  obtain ⟨ds, J2, g, w2⟩ := Mo.bind_ok w1
  obtain ⟨e2, ej⟩ := Mo.opt_eq g
  clear w w1 g
  subst ej
  have arg : ∀ {Q : List V → Hp → Prop}, (∀ v H', Kp (Jo jo) H H' → JRel H' O jo J2 → DF X.K H' O v x → Q [v] H') → tVs X.K jx (fun σ => Mo.bind (Fa σ) fun d => Mo.bind (Mo.pure []) fun ds => Mo.pure (d :: ds)) σ H Q := fun {Q} q => by
    refine ⟨O, jo, σd, J, r, ?_⟩
    show (Mo.bind (Fa σd) _ J).Ok _
    unfold Mo.bind
    rw [e1]
    intro vs H1 k1 j1 dz
    obtain ⟨v, rfl, dv⟩ := dz.one
    exact q v H1 k1 j1 dv
  unfold seqD at e2
  split at e2
  · cases e2
    refine (pi_enum hg hm hpa hs).run pins s σ H R I (arg fun v H1 k1 j1 d1 => ?_)
    obtain ⟨q, ys, rfl, s1, n1, r2⟩ := d1.inj_list
    exact ⟨q, ys, rfl, .of s1, w2 _ H1 k1 j1 (wk_enum (S := fun H xs => SqL X.K H q xs) (le := fun n i => n ≤ i) (fun n => Nat.le_refl n) (fun H k => .of (k.at_ _ _ s1 (.inl n1))) r2) fun z => nomatch z⟩
  · cases e2
    refine Call_ (ld_blt I hg hm boot_enumerate (PyProof.Rows.callWith_type1 (thn (hpa.run pos pins s σ H _ I (arg (Q := fun vs H1 => ∃ v, vs = [v] ∧ Kp (Jo jo) H H1 ∧ JRel H1 O jo J2 ∧ DF X.K H1 O v (.tuple ds)) fun v H1 k1 j1 d1 => ⟨v, rfl, k1, j1, d1⟩)) fun us s1 ⟨vs, H1, I1, r1, v, ev, k1, j1, d1⟩ => ?_) hs rfl))
    subst ev
    obtain ⟨u, rfl, ru⟩ := vals1 r1
    obtain ⟨q, ys, rfl, sq, r2⟩ := d1.inj_tup
    obtain rfl : u = Value.ref q := ru
    obtain ⟨its, rv, pt, hz⟩ := I1.tuple sq
    refine enum_tuple (items := its.toArray) pt fun h' he hit hk => wpAny_pyIter_enum he ?_
    have I2 : Inv X pins σ H1 { s1 with heap := h' } := I1.kept (t' := s1.toks) hk
    refine ⟨s1.heap.objs.size + 1, [s1.heap.objs.size + 1, s1.heap.objs.size], _, _, H1, rfl, I2, turn_enumT q (s1.heap.objs.size + 1) s1.heap.objs.size, ⟨⟨.none, he⟩, hit, Nat.succ_ne_self _⟩, fun b hb => ?_,
      w2 _ H1 k1 j1 (wk_enum (fun _ => rfl) (fun H k => SqT.keep k sq) r2) fun z => nomatch z⟩
    have hle : s1.heap.objs.size ≤ b := by
      rcases (show b = s1.heap.objs.size + 1 ∨ b = s1.heap.objs.size by simpa using hb) with z | z
      · rw [z]; exact Nat.le_succ _
      · rw [z]; exact Nat.le_refl _
    exact I1.fpOk hle (I1.hok.fresh hle)
  · cases e2
theorem pi_zp (hg : Gl X "zip") (hm : X.mg "zip" = none) (ha : PE X a (tV X.K jx f1 Fa)) (hb : PE X b (tV X.K jx f2 Fb)) (hs : starEach [a, b] X.env = (false, eval a X.env) :: starEach [b] X.env) (hs2 : starEach [b] X.env = [(false, eval b X.env)]) (hpl : (backTo pos (starEach [b] X.env)).any (·.1) = false) :
    PI X (.Tuple elts kk tpos) (.Call (.Name "zip" p) [a, b] [] pos) (tI X.K jx (fun _ => false) fun σ => Mo.bind (Fa σ) fun x => Mo.bind (Fb σ) fun y => Mo.opt (zipE x y)) := by
  have hs0 : starEach ([] : List Expr) X.env = [] := by rw [starEach]
  refine (RZ.pi_zipA hg hm (pvs_cons ha (pvs_cons hb pvs_nil (by rw [hs2, hs0])) hs) hs hpl).imp fun σ H R ⟨O, jo, σd, J, r, w⟩ => ?_
  obtain ⟨x, J1, e1, w1⟩ := Mo.bind_ok w
  obtain ⟨y, J2, e2, w2⟩ := Mo.bind_ok w1
  obtain ⟨ds, e5, w5⟩ := Mo.opt_ok w2
  clear w w1 w2
  refine ⟨O, jo, σd, J, r, ?_⟩
  show (Mo.bind (Fa σd) _ J).Ok _
  unfold Mo.bind
  rw [e1]
  show (Mo.bind (Mo.bind (Fb σd) _) _ J1).Ok _
  unfold Mo.bind
  rw [e2]
  intro vs H1 k1 j1 dz
  obtain ⟨v, v', rfl, dv, dv'⟩ := dz.two
  unfold zipE at e5
  split at e5
  · cases e5
    obtain ⟨q, ys, rfl, s1, n1, r1⟩ := dv.inj_list
    obtain ⟨q', ys', rfl, s2, n2, r2⟩ := dv'.inj_list
    exact ⟨q, q', ys, ys', rfl, .inl ⟨.of s1, .of s2, w5 _ H1 k1 j1 (wk_zipL s1 n1 r1 s2 n2 r2) fun z => nomatch z⟩⟩
  · cases e5
    obtain ⟨q, ys, rfl, s1, r1⟩ := dv.inj_tup
    obtain ⟨q', ys', rfl, s2, r2⟩ := dv'.inj_tup
    exact ⟨q, q', ys, ys', rfl, .inr ⟨s1, s2, w5 _ H1 k1 j1 (wk_zipT s1 r1 s2 r2) fun z => nomatch z⟩⟩
  · cases e5
end
end Ev
end

section
set_option maxRecDepth 100000
set_option maxHeartbeats 1000000
/-! Comprehensions by data. -/
namespace Ev
open PySem PySem.Spec PyProof.Rows L2

theorem noX_ok {α : Type} {m : Mo α} {J : Jr} {P : α → Jr → Prop} (h : (noX m J).Ok P) : (m J).Ok P := by
  unfold noX at h
  cases e : m J with
  | ok a J1 => rw [e] at h; exact h
  | ex x J1 => rw [e] at h; exact h.elim
  | no => rw [e] at h; exact h.elim
/-- a walk that collects: as lc_it, from any heap -/
theorem col_it {J : L2.It} {n : Nat} {G : Hp → Prop} {Y : Nat → Hp → V → Hp → Prop} (w : Walk J n G Y) {B : V → Hp → (Hp → Prop) → Prop} {H0 : Hp} {Qd : Hp → Prop} (Pv : Nat → Hp → Prop) (h0 : Pv 0 H0) (hG : ∀ i H, i ≤ n → Pv i H → G H)
    (hs : ∀ i x H H', i < n → Pv i H → Y i H x H' → B x H' (Pv (i + 1))) (hd : ∀ H, Pv n H → Qd H) :
    ∃ W : Nat → Nat → Hp → Prop, (∃ m, W 0 m H0) ∧ ∀ i m H, W i m H → (J.stop i H ∧ Qd H) ∨ (J.go i H ∧ ∃ Nx : Hp → Prop, (∀ H', Nx H' → ∃ m', m' < m ∧ W (i + 1) m' H') ∧ ∀ x H', J.yld i H x H' → B x H' Nx) := by
  refine ⟨fun i m H => (i ≤ n ∧ m = n - i) ∧ Pv i H, ⟨n, ⟨Nat.zero_le _, rfl⟩, h0⟩, fun i m H ⟨⟨hi, em⟩, p⟩ => ?_⟩
  subst em
  rcases Nat.lt_or_ge i n with l | l
  · refine .inr ⟨w.goes i H l (hG i H hi p), Pv (i + 1), fun H' p' => ⟨n - (i + 1), by omega, ⟨l, rfl⟩, p'⟩, fun x H' y => ?_⟩
    exact hs i x H H' l p (w.yields i H x H' l (hG i H hi p) y)
  · have e : i = n := Nat.le_antisymm hi l
    subst e
    exact .inl ⟨w.stops H (hG i H hi p), hd H p⟩

theorem wipe_ext {σ σ' : L2.St} (hl : σ'.length = σ.length) : ∀ {vs : List Nat}, (∀ i, i ∉ vs → σ'[i]? = σ[i]?) → wipe σ' vs = wipe σ vs := by
  intro vs h
  apply List.ext_getElem?
  intro i
  by_cases hi : i ∈ vs
  · have key : ∀ (τ : L2.St) (ws : List Nat), i ∈ ws → (wipe τ ws)[i]? = if i < τ.length then some none else none := by
      intro τ ws
      induction ws with
      | nil => intro h; cases h
      | cons v ws ih =>
        intro hm
        unfold wipe
        rw [List.getElem?_set, wipe_length]
        by_cases z : v = i
        · rw [if_pos z, z]
        · rw [if_neg z]
          rcases List.mem_cons.mp hm with q | q
          · exact absurd q.symm z
          · exact ih q
    rw [key σ' vs hi, key σ vs hi, hl]
  · rw [wipe_out hi, wipe_out hi, h i hi]
section
variable {K : PySem.W.Frag} {H H' H1 : Hp} {O : Addr → Prop} {jx : Option Nat} {jo : Option Addr} {σv : L2.St} {σd : Sd} {J J' : Jr} {D : Addr}
theorem Rel.v' (r : Rel K H O jx jo σv σd J) : RelV' K H O σv σd := ⟨r.len, r.val⟩
theorem wipeD_length (σ : Sd) : ∀ vs : List Nat, (wipeD σ vs).length = σ.length
  | [] => rfl
  | v :: vs => by rw [wipeD, List.length_set, wipeD_length σ vs]
theorem wipeD_some {σ : Sd} {i : Nat} {x : PyData} : ∀ {vs : List Nat}, (wipeD σ vs)[i]? = some (some x) → σ[i]? = some (some x) ∧ i ∉ vs
  | [], h => ⟨h, nofun⟩
  | v :: vs, h => by
    rw [wipeD, List.getElem?_set] at h
    split at h
    · split at h <;> cases h
    · rename_i z
      obtain ⟨h1, h2⟩ := wipeD_some h
      exact ⟨h1, fun m => by rcases List.mem_cons.mp m with q | q; exact z q.symm; exact h2 q⟩
theorem RelV'.wipe (r : RelV' K H O σv σd) (vs : List Nat) : RelV' K H O (L2.wipe σv vs) (wipeD σd vs) := by
  refine ⟨by rw [wipeD_length, wipe_length, r.len], fun i d e => ?_⟩
  obtain ⟨h1, h2⟩ := wipeD_some e
  rw [wipe_out h2]
  exact r.val i d h1
theorem RelV'.keep (r : RelV' K H O σv σd) (k : Kp O H H') : RelV' K H' O σv σd := ⟨r.len, fun i d e => let ⟨v, e1, e2⟩ := r.val i d e; ⟨v, e1, e2.keep k⟩⟩

def Jd (jo : Option Addr) (D : Addr) : Addr → Prop := fun a => jo = some a ∨ a = D
theorem Kp.drop {P Q : Addr → Prop} (k : Kp P H H') (h : ∀ a, P a → Q a ∨ H a = none) : Kp Q H H' := ⟨fun a o e n => k.at_ a o e (n.imp (fun z p => (h a p).elim z fun q => by rw [e] at q; cases q) fun z => z), k.there⟩
/-- what stands within a comprehension's loop: the new list, what it holds; since Hb -/
structure LS (K : PySem.W.Frag) (O : Addr → Prop) (jx : Option Nat) (jo : Option Addr) (D : Addr) (σv : L2.St) (σd : Sd) (Hb H : Hp) (acc : List V) (rs : List PyData) (J : Jr) : Prop where
  rel : Rel K H (Od O D) jx jo σv σd J
  at_ : H D = some (.lst acc)
  it : DFs K H (Od O D) acc rs
  ne : ¬ Jo jo D
  kp : Kp (Jd jo D) Hb H
theorem jd_od (r : JRel H (Od O D) jo J) : ∀ a, Jd jo D a → Od O D a := fun a z => by
  rcases z with z | z
  · exact r.sub a z
  · exact .inr z
/-- the heap grew, the jar may have changed -/
theorem LS.step {Hb : Hp} {acc : List V} {rs : List PyData} (s : LS K O jx jo D σv σd Hb H acc rs J) (k : Kp (Jo jo) H H') (j : JRel H' (Od O D) jo J') : LS K O jx jo D σv σd Hb H' acc rs J' :=
  ⟨s.rel.keep k j, k.at_ _ _ s.at_ (.inl s.ne), s.it.keep (s.rel.kp k), s.ne, s.kp.trans (k.mono fun a z => .inl z)⟩
theorem LS.add {Hb : Hp} {acc : List V} {rs : List PyData} {y : V} {d : PyData} (s : LS K O jx jo D σv σd Hb H acc rs J) (h : DF K H (Od O D) y d) : LS K O jx jo D σv σd Hb (upd H D (.lst (acc ++ [y]))) (acc ++ [y]) (rs ++ [d]) J := by
  have kw : Kp (Od O D) H (upd H D (.lst (acc ++ [y]))) := .write (.inr rfl) s.at_ trivial
  refine ⟨⟨s.rel.len, fun i d e => let ⟨v, e1, e2⟩ := s.rel.val i d e; ⟨v, e1, e2.keep kw⟩, fun a z => kw.there a (s.rel.own a z), ?_, s.rel.js⟩, upd_same, (s.it.keep kw).append (.cons (h.keep kw) .nil), s.ne, s.kp.trans (.write (.inr rfl) s.at_ trivial)⟩
  have q := s.rel.jar
  cases jo with
  | none => cases J with
    | none => exact q
    | some _ => exact q.elim
  | some j => cases J with
    | none => exact q.elim
    | some ns => exact ⟨q.1, by rw [upd_ne (fun z => s.ne (congrArg some z))]; exact q.2⟩
theorem LS.slots {Hb : Hp} {acc : List V} {rs : List PyData} {σv' : L2.St} {σd' : Sd} (s : LS K O jx jo D σv σd Hb H acc rs J) (r : Rel K H (Od O D) jx jo σv' σd' J) : LS K O jx jo D σv' σd' Hb H acc rs J := ⟨r, s.at_, s.it, s.ne, s.kp⟩
theorem LS.base {Hb : Hp} {acc : List V} {rs : List PyData} (s : LS K O jx jo D σv σd Hb H acc rs J) : LS K O jx jo D σv σd H H acc rs J := ⟨s.rel, s.at_, s.it, s.ne, .refl⟩

/-- a turn in which an element may be added -/
theorem turn_ok {fe : Bool} {t : Tg} {Ff : Sd → Mo Bool} {Fe : Sd → Mo PyData} {vs : List Nat} (hs : ∀ i ∈ slots t, i ∈ vs) (hj : ∀ i, jx = some i → i ∉ vs) {Hb : Hp} {acc : List V} {rs : List PyData} {x : V} {d : PyData} {o : Option PyData} {J2 : Jr} {Nx : Hp → Prop}
    (s : LS K O jx jo D σv σd Hb H acc rs J) (hx : DF K H (Od O D) x d) (e : lcTurn t Ff Fe (wipeD σd vs) d J = .ok o J2) (hz : rs.length + o.toList.length ≤ sizeLine)
    (hn : ∀ H' acc', LS K O jx jo D σv σd Hb H' acc' (rs ++ o.toList) J2 → Nx H') :
    gT K t x (wipe σv vs) H fun σ2 H2 => wipe σ2 vs = wipe σv vs ∧ tT K jx Ff σ2 H2 fun b H3 => if b = true then tV K jx fe Fe σ2 H3 fun y H4 => ∃ acc, H4 D = some (.lst acc) ∧ acc.length < sizeLine ∧ Nx (upd H4 D (.lst (acc ++ [y]))) else Nx H3 := by
  obtain ⟨σ1, J1, g, w1⟩ := Mo.bind_ok (ok_of e)
  obtain ⟨e1, ej⟩ := Mo.opt_eq g
  clear g
  subst ej
  obtain ⟨k, J3, e3, w2⟩ := Mo.bind_ok w1
  refine gT_ok t (s.rel.v'.wipe vs) hx e1 fun σ2 r2 f2 => ?_
  have hl : σ2.length = σv.length := by
    have h1 := r2.len
    have h2 : (wipeD σd vs).length = σ1.length := setTg_len e1
    rw [← h1, ← h2, wipeD_length, s.rel.len]
  have hw : wipe σ2 vs = wipe σv vs := wipe_ext hl fun i hi => by rw [f2 i fun m => hi (hs i m), wipe_out hi]
  refine ⟨hw, ?_⟩
  have rr : Rel K H (Od O D) jx jo σ2 σ1 J1 := ⟨r2.len, r2.val, s.rel.own, s.rel.jar, fun j ej => by
    obtain ⟨i, ei, q⟩ := s.rel.js j ej
    have hi := hj i ei
    exact ⟨i, ei, by rw [f2 i fun m => hi (hs i m), wipe_out hi]; exact q⟩⟩
  refine tT.to rr e3 fun H3 k3 j3 => ?_
  have s3 := s.step k3 j3
  cases k with
  | false =>
    rw [if_neg Bool.false_ne_true]
    obtain ⟨q1, q2⟩ := (show none = o ∧ J3 = J2 from w2)
    subst q1 q2
    exact hn H3 acc (by simpa using s3)
  | true =>
    rw [if_pos rfl]
    obtain ⟨y, J4, e4, w3⟩ := Mo.bind_ok w2
    obtain ⟨q1, q2⟩ := (show some y = o ∧ J4 = J2 from w3)
    subst q1 q2
    have r3 := rr.keep k3 j3
    refine .to r3 e4 fun v H4 k4 j4 d4 _ => ?_
    have s4 := s3.step k4 j4
    refine ⟨acc, s4.at_, ?_, hn _ _ (s4.add d4)⟩
    have l1 := s4.it.length
    simp only [Option.toList_some, List.length_singleton] at hz
    omega
end
end Ev
end

section
set_option maxRecDepth 100000
set_option maxHeartbeats 1000000
/-! Comprehensions by data: the two rules. -/
namespace Ev
open PySem PySem.Spec PyProof.Rows L2
section
variable {K : PySem.W.Frag} {H H' H1 : Hp} {O : Addr → Prop} {jx : Option Nat} {jo : Option Addr} {σv : L2.St} {σd : Sd} {J J' : Jr} {D : Addr}
/-- the loop begins -/
theorem LS.start (r : Rel K H1 O jx jo σv σd J) (hD : H1 D = none) : LS K O jx jo D σv σd H1 (upd H1 D (.lst [])) [] [] J := by
  have k : Kp No H1 (upd H1 D (.lst [])) := .new hD
  have ne : ¬ Jo jo D := fun z => r.own D (r.jar.sub D z) hD
  refine ⟨⟨r.len, fun i d e => let ⟨v, e1, e2⟩ := r.val i d e; ⟨v, e1, e2.move k.no fun a z => z.elim .inl fun q => .inr (by rw [q]; exact hD)⟩, fun a z => ?_, ?_, r.js⟩, upd_same, .nil, ne, k.no⟩
  · rcases z with z | z
    · exact k.there a (r.own a z)
    · rw [z, upd_same]; exact fun q => nomatch q
  · have q := r.jar.keepNo k
    cases jo with
    | none => cases J with
      | none => exact q
      | some _ => exact q.elim
    | some j => cases J with
      | none => exact q.elim
      | some ns => exact ⟨.inl q.1, q.2⟩
/-- the loop has ended -/
theorem LS.done {acc : List V} {rs : List PyData} {Q : VK} {H0 : Hp} {J0 : Jr} (r : Rel K H1 O jx jo σv σd J0) (hD : H1 D = none) (s : LS K O jx jo D σv σd H1 H acc rs J) (k1 : Kp (Jo jo) H0 H1) (w : Vw K O jo H0 true (.list rs) J Q) : Q (.ref D) H := by
  have kd : Kp (Jo jo) H1 H := s.kp.drop fun a z => z.imp_right fun q => by rw [q]; exact hD
  have nD : ¬ O D := fun z => r.own D z hD
  refine w (.ref D) H (k1.trans kd) ?_ (.lst s.at_ nD (s.it.less fun a z => .inl (.inl z))) fun _ ds a e1 e => by cases e; cases e1; exact ⟨k1.gone hD, acc, s.at_, s.it⟩
  have q := s.rel.jar
  cases jo with
  | none => cases J with
    | none => exact q
    | some ns => exact q.elim
  | some j => cases J with
    | none => exact q.elim
    | some ns =>
      refine ⟨?_, q.2⟩
      have q1 := r.jar
      cases J0 with
      | none => exact q1.elim
      | some _ => exact q1.1
theorem lcLoop_cons {f : PyData → Mo (Option PyData)} {d : PyData} {ds : List PyData} {J : Jr} {P : List PyData → Jr → Prop} (h : (lcLoop f (d :: ds) J).Ok P) : ∃ o J1, f d J = .ok o J1 ∧ (lcLoop f ds J1).Ok fun r J2 => P (o.toList ++ r) J2 := by
  rw [lcLoop] at h
  obtain ⟨o, J1, e, h1⟩ := Mo.bind_ok h
  obtain ⟨r, J2, e2, h2⟩ := Mo.bind_ok h1
  refine ⟨o, J1, e, ?_⟩
  rw [e2]
  cases o <;> exact h2
theorem lcLoop2_cons {f : PyData → Mo (List PyData)} {d : PyData} {ds : List PyData} {J : Jr} {P : List PyData → Jr → Prop} (h : (lcLoop2 f (d :: ds) J).Ok P) : ∃ o J1, f d J = .ok o J1 ∧ (lcLoop2 f ds J1).Ok fun r J2 => P (o ++ r) J2 := by
  rw [lcLoop2] at h
  obtain ⟨o, J1, e, h1⟩ := Mo.bind_ok h
  obtain ⟨r, J2, e2, h2⟩ := Mo.bind_ok h1
  refine ⟨o, J1, e, ?_⟩
  rw [e2]
  exact h2
theorem drop_get {α : Type} {l : List α} {i : Nat} (h : i < l.length) : l.drop i = l[i] :: l.drop (i + 1) := List.drop_eq_getElem_cons h
/-- where the walked stood, seen from within the loop -/
theorem LS.walk {acc : List V} {rs : List PyData} {J0 : Jr} (r : Rel K H1 O jx jo σv σd J0) (hD : H1 D = none) (s : LS K O jx jo D σv σd H1 H acc rs J) : Kp O H1 H := s.kp.drop fun a z => z.elim (fun q => .inl (r.jar.sub a q)) fun q => .inr (by rw [q]; exact hD)
theorem LS.item {Hb : Hp} {acc : List V} {rs : List PyData} (s : LS K O jx jo D σv σd Hb H acc rs J) (h : H' = H ∨ ∃ T xs, H T = none ∧ H' = upd H T (.tup xs)) : LS K O jx jo D σv σd Hb H' acc rs J := by
  rcases h with e | ⟨T, xs, hT, e⟩
  · rw [e]; exact s
  · rw [e]
    have k : Kp No H (upd H T (.tup xs)) := .new hT
    exact s.step k.no (s.rel.jar.keepNo k)
/-- the body of a comprehension's loop, as the layer asks it -/
abbrev Bd (K : PySem.W.Frag) (jx : Option Nat) (t : Tg) (Ff : Sd → Mo Bool) (fe : Bool) (Fe : Sd → Mo PyData) (vs : List Nat) (D : Addr) (σv : L2.St) (x : V) (H' : Hp) (Nx : Hp → Prop) : Prop :=
  gT K t x (wipe σv vs) H' fun σ2 H2 => wipe σ2 vs = wipe σv vs ∧ tT K jx Ff σ2 H2 fun b H3 => if b = true then tV K jx fe Fe σ2 H3 fun y H4 => ∃ acc, H4 D = some (.lst acc) ∧ acc.length < sizeLine ∧ Nx (upd H4 D (.lst (acc ++ [y]))) else Nx H3
/-- the whole loop over what is walked, from any heap within -/
theorem loop_ok {fe : Bool} {t : Tg} {Ff : Sd → Mo Bool} {Fe : Sd → Mo PyData} {vs : List Nat} (hs : ∀ i ∈ slots t, i ∈ vs) (hj : ∀ i, jx = some i → i ∉ vs) {It : L2.It} {ds : List PyData} {Hs Hb H0 : Hp} {Ow' : Addr → Prop} {acc0 : List V} {rs0 : List PyData} {Qd : Hp → Prop} {J1 : Jr}
    (wk : Wk K Ow' It ds Hs) (sees : ∀ H acc rs J, LS K O jx jo D σv σd Hb H acc rs J → Kp Ow' Hs H) (apart : ∀ a, Od O D a → Ow' a ∨ Hs a = none)
    (s0 : LS K O jx jo D σv σd Hb H0 acc0 rs0 J1) (h : (lcLoop (lcTurn t Ff Fe (wipeD σd vs)) ds J1).Ok fun r J2 => (rs0 ++ r).length ≤ sizeLine ∧ ∀ H acc, LS K O jx jo D σv σd Hb H acc (rs0 ++ r) J2 → Qd H) :
    ∃ W : Nat → Nat → Hp → Prop, (∃ m, W 0 m H0) ∧ ∀ i m H, W i m H → (It.stop i H ∧ Qd H) ∨ (It.go i H ∧ ∃ Nx : Hp → Prop, (∀ H', Nx H' → ∃ m', m' < m ∧ W (i + 1) m' H') ∧ ∀ x H', It.yld i H x H' → Bd K jx t Ff fe Fe vs D σv x H' Nx) := by
  obtain ⟨Y, w, hy⟩ := wk
  refine col_it w (fun i H => ∃ acc rs J, LS K O jx jo D σv σd Hb H acc rs J ∧ (lcLoop (lcTurn t Ff Fe (wipeD σd vs)) (ds.drop i) J).Ok fun r J2 => (rs ++ r).length ≤ sizeLine ∧ ∀ H acc, LS K O jx jo D σv σd Hb H acc (rs ++ r) J2 → Qd H)
    ⟨acc0, rs0, J1, s0, h⟩ (fun i H _ ⟨acc, rs, J, s, _⟩ => sees H acc rs J s) (fun i x H H' hi ⟨acc, rs, J, s, q⟩ y => ?_) fun H ⟨acc, rs, J, s, q⟩ => ?_
  · obtain ⟨hh, hd⟩ := hy i H x H' hi (sees H acc rs J s) y
    rw [drop_get hi] at q
    obtain ⟨o, J2, e, q2⟩ := lcLoop_cons q
    have sz : rs.length + o.toList.length ≤ sizeLine := by
      cases hr : lcLoop (lcTurn t Ff Fe (wipeD σd vs)) (ds.drop (i + 1)) J2 with
      | ok r J3 =>
        rw [hr] at q2
        have := q2.1
        simp only [List.length_append] at this
        omega
      | ex _ _ => rw [hr] at q2; exact q2.elim
      | no => rw [hr] at q2; exact q2.elim
    exact turn_ok hs hj (s.item hh) (hd _ (Od O D) (List.getElem?_eq_getElem hi) apart) e sz fun H2 acc2 s2 => ⟨acc2, _, J2, s2, q2.imp fun r J3 z => by rw [List.append_assoc]; exact z⟩
  · rw [List.drop_length] at q
    have q' := q.2 H acc
    rw [List.append_nil] at q'
    exact q' s
theorem lc_tV {ok : List PyData → Bool} {fe : Bool} {t : Tg} {Fi : Sd → Mo (List PyData)} {Ff : Sd → Mo Bool} {Fe : Sd → Mo PyData} {vs : List Nat} {Q : VK} (hs : ∀ i ∈ slots t, i ∈ vs) (hj : ∀ i, jx = some i → i ∉ vs) (h : tV K jx true (mLc Fi t Ff Fe vs) σv H Q) :
    tLc (tI K jx ok Fi) (gT K t) (tT K jx Ff) (tV K jx fe Fe) vs σv H Q := by
  obtain ⟨O, jo, σd, J, r, w⟩ := h
  obtain ⟨ds, J1, e1, w1⟩ := Mo.bind_ok w
  obtain ⟨rs, J2, e2, w2⟩ := Mo.bind_ok w1
  obtain ⟨d, e3, w3⟩ := Mo.opt_ok w2
  obtain ⟨rs', e4, e5⟩ := map_some e3
  obtain ⟨e6, e7⟩ := fitD_some e4
  subst e5 e7
  have lp := noX_ok (ok_of e2)
  refine ⟨O, jo, σd, J, r, ?_⟩
  rw [e1]
  intro It H1 k1 j1 wk _ D hD
  have r1 := r.keep k1 j1
  refine loop_ok hs hj wk (fun H acc rs J s => s.walk r1 hD) (fun a z => z.imp_right fun q => by rw [q]; exact hD) (LS.start r1 hD) (lp.imp fun r2 J3 ⟨q1, q2⟩ => ?_)
  subst q1 q2
  exact ⟨by simpa using e6, fun H acc s => s.done r1 hD k1 w3⟩
theorem lc2_tV {ok ok1 : List PyData → Bool} {fe : Bool} {t t1 : Tg} {Fi Fi1 : Sd → Mo (List PyData)} {Ff Ff1 : Sd → Mo Bool} {Fe : Sd → Mo PyData} {vs vs1 : List Nat} {Q : VK} (hs : ∀ i ∈ slots t, i ∈ vs) (hj : ∀ i, jx = some i → i ∉ vs) (hs1 : ∀ i ∈ slots t1, i ∈ vs1) (hj1 : ∀ i, jx = some i → i ∉ vs1)
    (h : tV K jx true (mLc2 Fi t Ff Fi1 t1 Ff1 Fe vs vs1) σv H Q) : tLc2 (tI K jx ok Fi) (gT K t) (tT K jx Ff) (tI K jx ok1 Fi1) (gT K t1) (tT K jx Ff1) (tV K jx fe Fe) vs vs1 σv H Q := by
  obtain ⟨O, jo, σd, J, r, w⟩ := h
  obtain ⟨ds, J1, e1, w1⟩ := Mo.bind_ok w
  obtain ⟨rs, J2, e2, w2⟩ := Mo.bind_ok w1
  obtain ⟨d, e3, w3⟩ := Mo.opt_ok w2
  obtain ⟨rs', e4, e5⟩ := map_some e3
  obtain ⟨e6, e7⟩ := fitD_some e4
  subst e5 e7
  have lp := noX_ok (ok_of e2)
  refine ⟨O, jo, σd, J, r, ?_⟩
  rw [e1]
  intro It H1 k1 j1 wk _ D hD
  have r1 := r.keep k1 j1
  obtain ⟨Y, wy, hy⟩ := wk
  refine col_it wy (fun i H => ∃ acc rs0 J, LS K O jx jo D σv σd H1 H acc rs0 J ∧ (lcLoop2 (lcTurn2 t Ff Fi1 t1 Ff1 Fe vs1 (wipeD σd vs)) (ds.drop i) J).Ok fun r J3 => rs0 ++ r = rs ∧ J3 = J2)
    ⟨[], [], J1, LS.start r1 hD, lp⟩ (fun i H _ ⟨acc, rs, J, s, _⟩ => s.walk r1 hD) (fun i x H H' hi ⟨acc, rs0, J, s, q⟩ y => ?_) fun H ⟨acc, rs0, J, s, q⟩ => ?_
  · obtain ⟨hh, hd⟩ := hy i H x H' hi (s.walk r1 hD) y
    rw [drop_get hi] at q
    obtain ⟨o, J4, e, q2⟩ := lcLoop2_cons q
    have s' := s.item hh
    have hx := hd _ (Od O D) (List.getElem?_eq_getElem hi) fun a z => z.imp_right fun q => by rw [q]; exact hD
    have sz : rs0.length + o.length ≤ sizeLine := by
      cases hr : lcLoop2 (lcTurn2 t Ff Fi1 t1 Ff1 Fe vs1 (wipeD σd vs)) (ds.drop (i + 1)) J4 with
      | ok r J5 =>
        rw [hr] at q2
        have e8 := q2.1
        subst e8
        simp only [List.length_append] at e6
        omega
      | ex _ _ => rw [hr] at q2; exact q2.elim
      | no => rw [hr] at q2; exact q2.elim
    obtain ⟨σ1, J5, g, v1⟩ := Mo.bind_ok (ok_of e)
    obtain ⟨g1, ej⟩ := Mo.opt_eq g
    clear g
    subst ej
    obtain ⟨k, J6, g2, v2⟩ := Mo.bind_ok v1
    refine gT_ok t (s'.rel.v'.wipe vs) hx g1 fun σ2 r2 f2 => ?_
    have hl : σ2.length = σv.length := by
      have h1 := r2.len
      have h2 : (wipeD σd vs).length = σ1.length := setTg_len g1
      rw [← h1, ← h2, wipeD_length, s.rel.len]
    refine ⟨wipe_ext hl fun i hi => by rw [f2 i fun m => hi (hs i m), wipe_out hi], ?_⟩
    have rr : Rel K H' (Od O D) jx jo σ2 σ1 J5 := ⟨r2.len, r2.val, s'.rel.own, s'.rel.jar, fun j ej => by
      obtain ⟨i, ei, q⟩ := s'.rel.js j ej
      have hi := hj i ei
      exact ⟨i, ei, by rw [f2 i fun m => hi (hs i m), wipe_out hi]; exact q⟩⟩
    refine tT.to rr g2 fun H3 k3 j3 => ?_
    have r3 := rr.keep k3 j3
    have s3 := s'.step k3 j3
    cases k with
    | false =>
      rw [if_neg Bool.false_ne_true]
      obtain ⟨q1, q3⟩ := (show [] = o ∧ J6 = J4 from v2)
      subst q1 q3
      exact ⟨acc, rs0, J6, s3, by simpa using q2⟩
    | true =>
      rw [if_pos rfl]
      obtain ⟨ds1, J7, g3, v3⟩ := Mo.bind_ok v2
      refine ⟨Od O D, jo, σ1, J6, r3, ?_⟩
      rw [g3]
      intro It1 H4 k4 j4 wk1 _
      have s4 := s3.step k4 j4
      have r4 := r3.keep k4 j4
      have s5 : LS K O jx jo D σ2 σ1 H4 H4 acc rs0 J7 := (s4.slots r4).base
      refine loop_ok hs1 hj1 wk1 (fun H acc rs J s => s.kp.mono (jd_od r4.jar)) (fun a z => .inl z) s5 (Rs.Ok.imp v3 fun r2 J8 ⟨q1, q3⟩ => ?_)
      subst q1 q3
      refine ⟨by simpa using sz, fun H6 acc6 s6 => ⟨acc6, _, J8, ?_, q2.imp fun r J3 z => by rw [List.append_assoc]; exact z⟩⟩
      have kp : Kp (Jd jo D) H4 H6 := s6.kp
      exact ⟨⟨r1.len, fun i d e => let ⟨v, e1, e2⟩ := s4.rel.val i d e; ⟨v, e1, e2.keep (kp.mono (jd_od r4.jar))⟩, s6.rel.own, s6.rel.jar, s4.rel.js⟩, s6.at_, s6.it, s6.ne, s4.kp.trans kp⟩
  · rw [List.drop_length] at q
    obtain ⟨q1, q2⟩ := (show rs0 ++ [] = rs ∧ J = J2 from q)
    rw [List.append_nil] at q1
    subst q1 q2
    exact s.done r1 hD k1 w3
end
end Ev
end

section
set_option maxRecDepth 100000
set_option maxHeartbeats 1000000
/-! That a text is what the small language says: expressions. -/
namespace Ev
open PySem PySem.Spec PyProof.Rows L2

/-! ### data told apart -/
mutual
def eqP : PyData → PyData → Bool
  | .none, b => match b with | .none => true | _ => false
  | .bool x, b => match b with | .bool y => decide (x = y) | _ => false
  | .int x, b => match b with | .int y => decide (x = y) | _ => false
  | .str x, b => match b with | .str y => decide (x = y) | _ => false
  | .list xs, b => match b with | .list ys => eqPs xs ys | _ => false
  | .tuple xs, b => match b with | .tuple ys => eqPs xs ys | _ => false
  | .dict _, _ => false
def eqPs : List PyData → List PyData → Bool
  | [], ys => match ys with | [] => true | _ => false
  | x :: xs, ys => match ys with | y :: ys => eqP x y && eqPs xs ys | [] => false
end
mutual
theorem eqP_eq : ∀ {a b : PyData}, eqP a b = true → a = b
  | .none, b, h => by cases b <;> first | rfl | (simp [eqP] at h)
  | .bool x, b, h => by cases b <;> first | (simp [eqP] at h; rw [h]; done) | (simp [eqP] at h; done)
  | .int x, b, h => by cases b <;> first | (simp [eqP] at h; rw [h]; done) | (simp [eqP] at h; done)
  | .str x, b, h => by cases b <;> first | (simp [eqP] at h; rw [h]; done) | (simp [eqP] at h; done)
  | .list xs, b, h => by cases b <;> first | (simp only [eqP] at h; rw [eqPs_eq h]; done) | (simp [eqP] at h; done)
  | .tuple xs, b, h => by cases b <;> first | (simp only [eqP] at h; rw [eqPs_eq h]; done) | (simp [eqP] at h; done)
  | .dict _, b, h => by simp [eqP] at h
theorem eqPs_eq : ∀ {a b : List PyData}, eqPs a b = true → a = b
  | [], b, h => by cases b <;> first | rfl | (simp [eqPs] at h; done)
  | x :: xs, b, h => by
    cases b with
    | nil => simp [eqPs] at h
    | cons y ys =>
      simp only [eqPs, Bool.and_eq_true] at h
      rw [eqP_eq h.1, eqPs_eq h.2]
end

/-! ### what is known of the names -/
/-- the defs (name, whether the first parameter is the jar, whether what comes back is a new list), the modules' constants -/
structure Tb where
  fs : List (Str × Bool × Bool)
  cs : List (Str × PyData)
/-- the names' places, the scope, the jar's place; of a comprehension's block its own names' kinds -/
structure Ss where
  N : List Str
  sc : Scope
  jx : Option Nat
  own : Option (List (Str × NameKind))
def blts : List Str := ["len", "abs", "int", "list", "tuple", "sum", "max", "min", "sorted", "all", "any", "repr", "isinstance", "range", "enumerate", "zip", "bool", "str"]
def Ss.fnB (S : Ss) (x : Str) : Bool := match S.own with
  | none => true
  | some nm => nm.lookup x == some .cell
structure Cf (T : Tb) (Φ : Fns) (lv : Nat) (S : Ss) (X : Cx) : Prop where
  N : X.N = S.N
  sc : X.env.scope = S.sc
  calm : X.calm = true
  nd : X.N.Nodup
  room : Room lv X.A
  gd : X.A.guards = some []
  fn : ∀ x, S.fnB x = true → X.fn x = true
  bl : ∀ x ∈ blts, X.mg x = none
  cs : ∀ x d, (x, d) ∈ T.cs → ∃ u v, X.mg x = some u ∧ RelV v u ∧ (∀ H O, DF X.K H O v d) ∧ noL d = true
  fs : ∀ f x j r, T.fs[f]? = some (x, j, r) → (∀ ds J, Φ f ds J = .no) ∨ ∃ a, X.mg x = some (.ref a) ∧ PySem.W.keepIn X.K (.ref a) = true ∧ FnG X.prog X.w X.K X.mg X.base CX0 lv a (spF X.K (Φ f) j r)

def ndbg (x : Str) : Bool := !(x == ("__debug__" : Str)) && !(x == ("__classdict__" : Str))
def visB (S : Ss) (x : Str) : Bool := match S.sc.names.lookup x with
  | some .local => true
  | some .cell => true
  | some .free => true
  | _ => false
def locB (S : Ss) (x : Str) : Bool := match S.sc.names.lookup x with
  | some .local => true
  | some .cell => S.fnB x
  | _ => false
def glB (S : Ss) (x : Str) : Bool := decide (S.sc.names.lookup x = some .globalImplicit) && ndbg x
/-- the name at place i -/
def atN (S : Ss) (i : Nat) (x : Str) : Bool := decide (S.N[i]? = some x) && visB S x && ndbg x
def notSlice : Expr → Bool
  | .Slice .. => false
  | _ => true
def notStar : Expr → Bool
  | .Starred .. => false
  | _ => true
def notSet : Expr → Bool
  | .Set .. => false
  | _ => true
def tstOk : Expr → Bool
  | .IfExp .. => false
  | _ => true
def tyN : Ty → Str
  | .tup => "tuple"
  | .lst => "list"
  | .int => "int"
  | .bool => "bool"
  | .str => "str"
  | .dct => "dict"
def tyOf : Bi → Option Ty
  | .isi t => some t
  | _ => none
def ckC (T : Tb) (S : Ss) (d : PyData) : Expr → Bool
  | .Constant c _ _ => (match c with
    | .int i => eqP d (.int i)
    | .str x => eqP d (.str x)
    | .none => eqP d .none
    | .bool b => eqP d (.bool b)
    | _ => false)
  | .Name x _ => glB S x && (match T.cs.lookup x with
    | some d' => eqP d d'
    | none => false)
  | _ => false
mutual
def ckTg : Tg → Ss → Expr → Bool
  | .name i, S, e => (match e with
    | .Name x _ => decide (S.N[i]? = some x) && locB S x
    | _ => false)
  | .tup ts, S, e => (match e with
    | .Tuple es _ _ => ckTgs ts S es
    | _ => false)
def ckTgs : List Tg → Ss → List Expr → Bool
  | [], _, es => (match es with | [] => true | _ => false)
  | t :: ts, S, es => (match es with
    | e :: es => notStar e && ckTg t S e && ckTgs ts S es
    | [] => false)
end
def isTuple : Expr → Bool
  | .Tuple .. => true
  | _ => false
/-- the scope within a comprehension -/
def Ss.blk (S : Ss) (scope : Scope) : Ss := { S with sc := relS scope S.sc, own := some scope.names }
def ownOf (S : Ss) (own : List Nat) : List (Str × Nat) := own.map fun i => (S.N.getD i Str.empty, i)
def jxOut (S : Ss) (own : List Nat) : Bool := match S.jx with
  | some j => !own.contains j
  | none => true
mutual
def ckE (T : Tb) : Ex → Ss → Expr → Bool
  | .var i, S, e => (match e with
    | .Name x _ => atN S i x
    | _ => false)
  | .lit d, S, e => ckC T S d e && noL d
  | .tup es, S, e => (match e with
    | .Tuple xs _ _ => ckEs T es S xs
    | _ => false)
  | .lst es, S, e => (match e with
    | .List xs _ => ckEs T es S xs
    | _ => false)
  | .star _, _, _ => false
  | .bin o a b, S, e => (match e with
    | .BinOp x op y _ => decide (op = bop o) && ckE T a S x && ckE T b S y
    | _ => false)
  | .neg a, S, e => (match e with
    | .UnaryOp op x _ => decide (op = .USub) && ckE T a S x
    | _ => false)
  | .not a, S, e => (match e with
    | .UnaryOp op x _ => decide (op = .Not) && tstOk x && ckE T a S x
    | _ => false)
  | .cmp o a b, S, e => (match e with
    | .Compare x ops ys _ => (match ops, ys with
      | [op], [y] => decide (op = cop o) && !behindInMarks op y && ckE T a S x && ckE T b S y
      | _, _ => false)
    | _ => false)
  | .chain o o' a b c, S, e => (match e with
    | .Compare x ops ys _ => (match ops, ys with
      | [op, op'], [y, z] => decide (op = cop o) && decide (op' = cop o') && !lastMarks [op, op'] [y, z] && ckE T a S x && ckE T b S y && ckE T c S z
      | _, _ => false)
    | _ => false)
  | .and a b, S, e => (match e with
    | .BoolOp op xs p => (match xs with
      | [x, y] => decide (op = .And) && tstOk x && tstOk y && ckE T a S x && ckE T b S y
      | x :: y :: z :: r => decide (op = .And) && tstOk x && ckE T a S x && ckE T b S (.BoolOp .And (y :: z :: r) p)
      | _ => false)
    | _ => false)
  | .or a b, S, e => (match e with
    | .BoolOp op xs p => (match xs with
      | [x, y] => decide (op = .Or) && tstOk x && tstOk y && ckE T a S x && ckE T b S y
      | x :: y :: z :: r => decide (op = .Or) && tstOk x && ckE T a S x && ckE T b S (.BoolOp .Or (y :: z :: r) p)
      | _ => false)
    | _ => false)
  | .ite c a b, S, e => (match e with
    | .IfExp t x y _ => tstOk t && ckE T c S t && ckE T a S x && ckE T b S y
    | _ => false)
  | .idx a i, S, e => (match e with
    | .Subscript x y _ => notSlice y && ckE T a S x && ckE T i S y
    | _ => false)
  | .slc a lo hi, S, e => (match e with
    | .Subscript x y _ => (match y with
      | .Slice l h st _ => (match st with
        | none => ckE T a S x && ckO T lo S l && ckO T hi S h
        | some _ => false)
      | _ => false)
    | _ => false)
  | .rev a, S, e => (match e with
    | .Subscript x (.Slice none none (some (.UnaryOp .USub (.Constant (.int 1) _ _) _)) _) _ => ckE T a S x
    | _ => false)
  | .call f as, S, e => (match e with
    | .Call g xs kw _ => (match g, kw with
      | .Name x _, [] => (match T.fs[f]? with
        | some (y, j, _) => decide (x = y) && !j && glB S x && (xs.all notStar) && ckEs T as S xs
        | none => false)
      | _, _ => false)
    | _ => false)
  | .callJ f as, S, e => (match e with
    | .Call g xs kw _ => (match g, kw, xs with
      | .Name x _, [], .Name jn _ :: xs => (match T.fs[f]?, S.jx with
        | some (y, j, _), some i => decide (x = y) && j && glB S x && atN S i jn && (xs.all notStar) && ckEs T as S xs
        | _, _ => false)
      | _, _, _ => false)
    | _ => false)
  | .bi b as, S, e => (match e with
    | .Call g xs kw _ => (match g, kw with
      | .Name x _, [] => decide (x = biN b) && glB S x && (match tyOf b with
        | some t => (match xs, as with
          | [x1, .Name ty _], [a] => decide (ty = tyN t) && decide (ty ∈ blts) && glB S ty && notStar x1 && ckE T a S x1
          | _, _ => false)
        | none => (match xs with
          | [] => false
          | _ :: _ => xs.all notStar && ckEs T as S xs))
      | _, _ => false)
    | _ => false)
  | .jget k, S, e => (match e with
    | .Subscript (.Name jn _) (.Constant (.int n) _ _) _ => (match S.jx with
      | some i => atN S i jn && decide (n = (k : Int))
      | none => false)
    | _ => false)
  | .lc elt t it ifs own, S, e => (match e with
    | .ListComp el gs scope _ => (match gs with
      | [⟨tg, iter, cs, asy⟩] => decide (asy = 0) && blkC S.N S.sc scope (ownOf S own) && jxOut S own && ((slots t).all fun i => own.contains i) && notSet iter && ckTg t (S.blk scope) tg && ckIt T it S tg iter && ckIf T ifs (S.blk scope) cs && ckE T elt (S.blk scope) el
      | _ => false)
    | _ => false)
  | .lc2 elt t it ifs t1 it1 ifs1 own own1, S, e => (match e with
    | .ListComp el gs scope _ => (match gs with
      | [⟨tg, iter, cs, asy⟩, ⟨tg1, iter1, cs1, asy1⟩] => decide (asy = 0) && decide (asy1 = 0) && blkC S.N S.sc scope (ownOf S own) && jxOut S own && jxOut S own1 && (own1.all fun i => own.contains i) &&
          ((slots t).all fun i => own.contains i) && ((slots t1).all fun i => own1.contains i) && notSet iter && notSet iter1 && ckTg t (S.blk scope) tg && ckIt T it S tg iter && ckIf T ifs (S.blk scope) cs &&
          ckTg t1 (S.blk scope) tg1 && ckIt T it1 (S.blk scope) tg1 iter1 && ckIf T ifs1 (S.blk scope) cs1 && ckE T elt (S.blk scope) el
      | _ => false)
    | _ => false)
def ckEs (T : Tb) : List Ex → Ss → List Expr → Bool
  | [], _, es => (match es with | [] => true | _ => false)
  | .star a :: as, S, es => (match es with
    | .Starred x _ :: es => ckE T a S x && ckEs T as S es
    | _ => false)
  | a :: as, S, es => (match es with
    | e :: es => notStar e && ckE T a S e && ckEs T as S es
    | [] => false)
def ckO (T : Tb) : List Ex → Ss → Option Expr → Bool
  | [], _, e => (match e with | none => true | some _ => false)
  | a :: _, S, e => (match e with
    | some x => ckE T a S x
    | none => false)
def ckIf (T : Tb) : List Ex → Ss → List Expr → Bool
  | [], _, es => (match es with | [] => true | _ => false)
  | a :: _, S, es => (match es with
    | [x] => tstOk x && ckE T a S x
    | _ => false)
def ckIt (T : Tb) : Itr → Ss → Expr → Expr → Bool
  | .seq a, S, _, e => ckE T a S e
  | .rng1 a, S, _, e => (match e with
    | .Call g xs kw _ => (match g, kw, xs with
      | .Name x _, [], [y] => decide (x = ("range" : Str)) && glB S x && notStar y && ckE T a S y
      | _, _, _ => false)
    | _ => false)
  | .rng2 a b, S, _, e => (match e with
    | .Call g xs kw _ => (match g, kw, xs with
      | .Name x _, [], [y, z] => decide (x = ("range" : Str)) && glB S x && notStar y && notStar z && ckE T a S y && ckE T b S z
      | _, _, _ => false)
    | _ => false)
  | .enum a, S, tg, e => (match e with
    | .Call g xs kw _ => (match g, kw, xs with
      | .Name x _, [], [y] => decide (x = ("enumerate" : Str)) && glB S x && isTuple tg && notStar y && ckE T a S y
      | _, _, _ => false)
    | _ => false)
  | .zip a b, S, tg, e => (match e with
    | .Call g xs kw _ => (match g, kw, xs with
      | .Name x _, [], [y, z] => decide (x = ("zip" : Str)) && glB S x && isTuple tg && notStar y && notStar z && ckE T a S y && ckE T b S z
      | _, _, _ => false)
    | _ => false)
end
end Ev
end

section
set_option maxRecDepth 100000
set_option maxHeartbeats 1000000
/-! Expressions: what is checked, holds. -/
namespace Ev
open PySem PySem.Spec PyProof.Rows L2

/-! ### small facts -/
theorem starEach_ns {e : Expr} {es : List Expr} {env : Env} (h : notStar e = true) : starEach (e :: es) env = (false, eval e env) :: starEach es env := by
  cases e <;> first | rfl | cases h
theorem starEach_none : ∀ {es : List Expr} {env : Env}, es.all notStar = true → ∀ {pos : Pos}, (backTo pos (starEach es env)).any (·.1) = false
  | [], env, _, pos => rfl
  | e :: es, env, h, pos => by
    rw [List.all_cons, Bool.and_eq_true] at h
    rw [starEach_ns h.1]
    show (false || (backTo pos (starEach es env)).any (·.1)) = false
    rw [starEach_none h.2]; rfl
theorem assignEach_ns {e : Expr} {es : List Expr} {env : Env} (h : notStar e = true) : assignEach (e :: es) env = (false, assign e env) :: assignEach es env := by
  cases e <;> first | rfl | cases h
theorem plainIx_of {b : Expr} (h : notSlice b = true) : PlainIx b := by
  intro o i
  cases b <;> first | rfl | cases h
theorem nset_of {e : Expr} {env : Env} (h : notSet e = true) : ∀ x, foldedSetIterable e env x = pure x := by
  intro x
  cases e <;> first | rfl | cases h
section
variable {T : Tb} {Φ : Fns} {lv : Nat} {S : Ss} {X : Cx}
theorem Cf.look (c : Cf T Φ lv S X) (x : Str) : X.env.scope.names.lookup x = S.sc.names.lookup x := by rw [c.sc]
theorem Cf.vis (c : Cf T Φ lv S X) {x : Str} (h : visB S x = true) : Vis X.env.scope x := by
  unfold visB at h
  unfold Vis
  rw [c.sc]
  split at h
  · exact .inl (by assumption)
  · exact .inr (.inl (by assumption))
  · exact .inr (.inr (by assumption))
  · cases h
theorem Cf.loc (c : Cf T Φ lv S X) {x : Str} (h : locB S x = true) : L2.Loc X.env.scope x ∧ (X.fn x = true ∨ X.env.scope.names.lookup x = some .local) := by
  unfold locB at h
  unfold L2.Loc
  rw [c.sc]
  split at h
  · exact ⟨.inl (by assumption), .inr (by assumption)⟩
  · exact ⟨.inr (by assumption), .inl (c.fn x h)⟩
  · cases h
theorem ndbg_of {x : Str} (h : ndbg x = true) : (x == ("__debug__" : Str)) = false ∧ (x == ("__classdict__" : Str)) = false := by
  unfold ndbg at h
  rw [Bool.and_eq_true, Bool.not_eq_true', Bool.not_eq_true'] at h
  exact h
theorem Cf.gl (c : Cf T Φ lv S X) {x : Str} (h : glB S x = true) : Gl X x ∧ (x == ("__debug__" : Str)) = false := by
  unfold glB at h
  rw [Bool.and_eq_true, decide_eq_true_eq] at h
  refine ⟨?_, (ndbg_of h.2).1⟩
  show X.env.scope.names.lookup x = some .globalImplicit
  rw [c.sc]; exact h.1
theorem Cf.atN (c : Cf T Φ lv S X) {i : Nat} {x : Str} (h : atN S i x = true) : X.N[i]? = some x ∧ Vis X.env.scope x ∧ (x == ("__debug__" : Str)) = false ∧ (x == ("__classdict__" : Str)) = false := by
  unfold Ev.atN at h
  simp only [Bool.and_eq_true, decide_eq_true_eq] at h
  exact ⟨by rw [c.N]; exact h.1.1, c.vis h.1.2, ndbg_of h.2⟩
theorem Cf.hu (c : Cf T Φ lv S X) : X.A.units + 65 < cLine := by have := c.room.un; omega
theorem Cf.blk (c : Cf T Φ lv S X) (s : Shared) (H : Hp) (C : Addr) (cl : List (Str × Addr)) (fp : List Addr) (scope : Scope) : Cf T Φ lv (S.blk scope) (X.blk s H scope (compEnvC scope cl C X.env) fp) := by
  refine ⟨c.N, ?_, c.calm, c.nd, c.room, c.gd, fun x h => h, c.bl, c.cs, c.fs⟩
  show relS scope X.env.scope = relS scope S.sc
  rw [c.sc]

/-! ### targets -/
mutual
theorem pg_ok : ∀ (t : Tg) {S : Ss} {X : Cx} {e : Expr}, ckTg t S e = true → Cf T Φ lv S X → PG X e (gT X.K t)
  | .name i, S, X, e, h, c => by
    unfold ckTg at h
    split at h
    · rw [Bool.and_eq_true, decide_eq_true_eq] at h
      obtain ⟨l1, l2⟩ := c.loc h.2
      rw [gT]
      exact pg_name c.nd (by rw [c.N]; exact h.1) l1 l2
    · cases h
  | .tup ts, S, X, e, h, c => by
    unfold ckTg at h
    split at h
    · obtain ⟨h1, h2, h3⟩ := pgs_ok ts h c
      rw [gT]
      exact pg_tup c.calm h1 h2 h3
    · cases h
theorem pgs_ok : ∀ (ts : List Tg) {S : Ss} {X : Cx} {es : List Expr}, ckTgs ts S es = true → Cf T Φ lv S X → PGs X es (gTs X.K ts) ∧ (assignEach es X.env).length = ts.length ∧ (assignEach es X.env).findIdx? (·.1) = none
  | [], S, X, es, h, c => by
    unfold ckTgs at h
    split at h
    · rw [gTs]; exact ⟨pgs_nil, rfl, rfl⟩
    · cases h
  | t :: ts, S, X, es, h, c => by
    unfold ckTgs at h
    split at h
    · simp only [Bool.and_eq_true] at h
      obtain ⟨h1, h2, h3⟩ := pgs_ok ts h.2 c
      rw [gTs]
      refine ⟨pgs_cons (pg_ok t h.1.2 c) h1 (by rw [assignEach_ns h.1.1]; rfl), by rw [assignEach_ns h.1.1, List.length_cons, h2]; rfl, ?_⟩
      rw [assignEach_ns h.1.1, List.findIdx?_cons]
      simp only [Bool.false_eq_true, if_false, h3, Option.map_none]
    · cases h
end

/-! ### readings -/
variable {jx : Option Nat} {e a : Expr} {f1 fr : Bool} {Fa : Sd → Mo PyData} {Fs : Sd → Mo (List PyData)} {pos : Pos}
theorem pv_any {F : Sd → Mo PyData} (h : PE X e (tV X.K jx true F)) : PE X e (tV X.K jx fr F) := h.imp fun σ H Q ⟨O, jo, σd, J, r, w⟩ => ⟨O, jo, σd, J, r, w.imp fun d J' w v H' k j dv f => w v H' k j dv fun z => f rfl⟩
theorem pv_wk {F : Sd → Mo PyData} (h : PE X e (tV X.K jx fr F)) : PE X e (tV X.K jx false F) := h.imp fun σ H Q h => tV.weak h
theorem not_ev {x : Expr} (ha : PE X x (tV X.K jx f1 Fa)) : PE X (.UnaryOp .Not x pos) (tV X.K jx fr (mNot Fa)) := by
  refine ⟨fun pins s σ H Q I ⟨O, jo, σd, J, r, w⟩ => ?_⟩
  obtain ⟨d, J1, e1, w1⟩ := Mo.bind_ok w
  obtain ⟨d', e2, w2⟩ := Mo.opt_ok w1
  obtain ⟨k, e3, e4⟩ := map_some e2
  subst e4
  refine UnaryOp_ (thn (ha.run pins s σ H _ I (.to r e1 (Q := fun x H1 => TruV X.K x H1 k ∧ Q (.bl (!k)) H1) fun v H1 k1 j1 d1 _ => ⟨d1.tru e3, w2 _ H1 k1 j1 (.bl _) fun _ _ _ e => nomatch e⟩)) fun v s1 ⟨x, H1, I1, r1, q1, q2⟩ => ?_)
  refine not_of (thn (tru_ok pins s1 σ H1 x v (fun b H2 => Q (.bl (!b)) H2) I1 r1 ⟨k, q1, q2⟩) fun b s2 ⟨H2, I2, q⟩ => ?_)
  exact ⟨.bl (!b), H2, I2, rfl, q⟩
theorem not_pt {x : Expr} (ha : PT X x (tT X.K jx (mT Fa))) : PT X (.UnaryOp .Not x pos) (tT X.K jx (mT (mNot Fa))) := by
  refine (pt_not ha).imp fun σ H Q ⟨O, jo, σd, J, r, w⟩ => ?_
  obtain ⟨d, J2, e, w1⟩ := Mo.bind_ok w
  obtain ⟨k, e4, w2⟩ := Mo.opt_ok w1
  obtain ⟨y, J1, e1, v1⟩ := Mo.bind_ok (ok_of e)
  obtain ⟨d', e2, v2, v3⟩ := Mo.opt_ok v1
  obtain ⟨b, e3, e5⟩ := map_some e2
  clear w w1 v1
  subst v3
  subst v2
  subst e5
  have ek : k = !b := (Option.some.inj e4).symm
  subst ek
  refine tT.to r (k := b) (J1 := J1) (by show mT Fa σd J = _; unfold mT Mo.bind; rw [e1]; show Mo.opt (truthD y) _ = _; rw [e3]; rfl) fun H1 k1 j1 => w2 H1 k1 j1

/-- a text's reading, as a value, as a test -/
structure SE (X : Cx) (jx : Option Nat) (Φ : Fns) (ir : Ex) (e : Expr) : Prop where
  pe : PE X e (tV X.K jx (isFresh ir) (evE Φ ir))
  pt : tstOk e = true → PT X e (tT X.K jx (mT (evE Φ ir)))
  pw : (∃ op es p, e = .BoolOp op es p) → PW X e (tT X.K jx (mT (evE Φ ir)))
theorem SE.dflt {ir : Ex} (h : PE X e (tV X.K jx (isFresh ir) (evE Φ ir))) (he : ∀ whole, isTrue e X.env whole = (do let v ← whole; standAt e.pos; holding [v] (truthy v))) (hb : ¬ ∃ op es p, e = .BoolOp op es p) : SE X jx Φ ir e :=
  ⟨h, fun _ => pvt_val h he, fun z => absurd z hb⟩
theorem ckC_ok {d : PyData} (c : Cf T Φ lv S X) (h : ckC T S d e = true) (hn : noL d = true) : PE X e (tV X.K jx fr fun _ => Mo.pure d) ∧ (∀ whole, isTrue e X.env whole = (do let v ← whole; standAt e.pos; holding [v] (truthy v))) ∧ ¬ ∃ op es p, e = .BoolOp op es p := by
  unfold ckC at h
  split at h
  · split at h
    · cases eqP_eq h; exact ⟨pv_con pe_int (fun _ _ => .int _) hn, fun _ => rfl, nofun⟩
    · cases eqP_eq h; exact ⟨pv_con pe_str (fun _ _ => .str _) hn, fun _ => rfl, nofun⟩
    · cases eqP_eq h; exact ⟨pv_con pe_non (fun _ _ => .non) hn, fun _ => rfl, nofun⟩
    · cases eqP_eq h; exact ⟨pv_con pe_bl (fun _ _ => .bl _) hn, fun _ => rfl, nofun⟩
    · cases h
  · rw [Bool.and_eq_true] at h
    obtain ⟨h1, h2⟩ := h
    split at h2
    · rename_i d' hl
      cases eqP_eq h2
      obtain ⟨u, v, m, r, df, _⟩ := c.cs _ _ (PySem.mem_of_lookup hl)
      obtain ⟨g1, g2⟩ := c.gl h1
      exact ⟨pv_con (pe_glob g1 m r g2) df hn, fun _ => rfl, nofun⟩
    · cases h2
  · cases h
theorem stuck_ev {G : Sd → Mo PyData} (h : ∀ σ J, ∃ m, G σ J = m ∧ ∀ P : PyData → Jr → Prop, ¬ m.Ok P) : PE X e (tV X.K jx fr G) := by
  refine ⟨fun pins s σ H Q I ⟨O, jo, σd, J, r, w⟩ => ?_⟩
  obtain ⟨m, e1, e2⟩ := h σd J
  rw [e1] at w
  exact (e2 _ w).elim
theorem callP_ok {f : Nat} {ds : List PyData} {J : Jr} {P : PyData → Jr → Prop} (h : (callP Φ f ds J).Ok P) : (Φ f ds none).Ok fun d _ => P d J := by
  unfold callP at h
  cases e : Φ f ds none with
  | ok d J1 => rw [e] at h; exact h
  | ex x J1 => rw [e] at h; exact h.elim
  | no => rw [e] at h; exact h.elim
theorem Vw.callP {K : PySem.W.Frag} {O : Addr → Prop} {jo : Option Addr} {H : Hp} {r : Bool} {d : PyData} {J J' : Jr} {Q : VK} (w : Vw K O jo H r d J Q) (j : JRel H O jo J) : Vw K O none H r d J' Q := by
  intro v H' k j' dv f
  have k' : Kp No H H' := k.mono fun a z => by cases z
  exact w v H' k'.no (j.keepNo k') dv f
theorem call_imp {f : Nat} {r : Bool} {σ : L2.St} {H : Hp} {Q : VK} (h : tV X.K jx r (fun σ => Mo.bind (Fs σ) fun ds => callP Φ f ds) σ H Q) : tVs X.K jx Fs σ H fun vs H1 => spF X.K (Φ f) false r vs H1 Q E0 := by
  obtain ⟨O, jo, σd, J, rl, w⟩ := h
  obtain ⟨ds, J1, e1, w1⟩ := Mo.bind_ok w
  have w2 := callP_ok w1
  refine .to rl e1 fun vs H1 k1 j1 dv => ?_
  exact ⟨O, none, none, ds, vs, rl.own.keep k1, trivial, dv, rfl, w2.imp fun d J' z => (z.step k1).callP j1⟩
theorem call_st {f : Nat} {r : Bool} (st : ∀ ds J, Φ f ds J = .no) : PE X e (tV X.K jx r fun σ => Mo.bind (Fs σ) fun ds => callP Φ f ds) := by
  refine ⟨fun pins s σ H Q I ⟨O, jo, σd, J, rl, w⟩ => ?_⟩
  obtain ⟨ds, J1, e1, w1⟩ := Mo.bind_ok w
  have w2 := callP_ok w1
  rw [st ds none] at w2
  exact w2.elim
/-- a call of a def without the jar -/
theorem call_ev {f : Nat} {x : Str} {r : Bool} {p : Pos} {a : Expr} {es : List Expr} (c : Cf T Φ lv S X) (hf : T.fs[f]? = some (x, false, r)) (hg : glB S x = true) (ha : PA X (a :: es) (tVs X.K jx Fs)) (hn : (a :: es).all notStar = true) :
    PE X (.Call (.Name x p) (a :: es) [] pos) (tV X.K jx r fun σ => Mo.bind (Fs σ) fun ds => callP Φ f ds) := by
  rcases c.fs f x _ _ hf with st | ⟨a, m, kp, F⟩
  · exact call_st st
  · obtain ⟨g1, g2⟩ := c.gl hg
    rw [List.all_cons, Bool.and_eq_true] at hn
    exact (pe_callG F c.room c.gd g1 m kp ha g2 (starEach_ns hn.1) (starEach_none hn.2)).imp fun σ H Q h => call_imp h
theorem call_ev0 {f : Nat} {x : Str} {r : Bool} {p : Pos} (c : Cf T Φ lv S X) (hf : T.fs[f]? = some (x, false, r)) (hg : glB S x = true) : PE X (.Call (.Name x p) [] [] pos) (tV X.K jx r fun σ => Mo.bind (Mo.pure []) fun ds => callP Φ f ds) := by
  rcases c.fs f x _ _ hf with st | ⟨a, m, kp, F⟩
  · exact call_st (Fs := fun _ => Mo.pure []) st
  · obtain ⟨g1, g2⟩ := c.gl hg
    refine (pe_callG0 F c.room c.gd g1 m kp g2).imp fun σ H Q h => ?_
    obtain ⟨O, jo, σd, J, rl, w⟩ := call_imp (Fs := fun _ => Mo.pure []) h
    exact w [] H .refl rl.jar .nil
theorem callQ_ok {f : Nat} {ds : List PyData} {J : Jr} {P : PyData → Jr → Prop} (h : (callQ Φ f ds J).Ok P) : ∃ ns, J = some ns ∧ (Φ f ds (some ns)).Ok P := by
  unfold callQ at h
  cases J with
  | none => exact h.elim
  | some ns => exact ⟨ns, rfl, h⟩
/-- a call of a def with the jar -/
theorem callJ_ev {f i : Nat} {x jn : Str} {r : Bool} {p pj : Pos} {es : List Expr} (c : Cf T Φ lv S X) (hf : T.fs[f]? = some (x, true, r)) (hg : glB S x = true) (hj : S.jx = some i) (hi : atN S i jn = true) (ha : PA X es (tVs X.K S.jx Fs)) (hn : es.all notStar = true) :
    PE X (.Call (.Name x p) (.Name jn pj :: es) [] pos) (tV X.K S.jx r (mCallJ Φ f Fs)) := by
  have open_ : ∀ {σ : L2.St} {H : Hp} {Q : VK}, tV X.K S.jx r (mCallJ Φ f Fs) σ H Q → ∃ O j σd J ns1 ds, Rel X.K H O S.jx (some j) σ σd J ∧ Fs σd J = .ok ds (some ns1) ∧ (Φ f ds (some ns1)).Ok fun d J' => Vw X.K O (some j) H r d J' Q := by
    intro σ H Q ⟨O, jo, σd, J, rl, w⟩
    cases J with
    | none => exact w.elim
    | some ns =>
      cases jo with
      | none => exact rl.jar.elim
      | some j =>
        obtain ⟨ds, J1, e1, w1⟩ := Mo.bind_ok (show (Mo.bind (Fs σd) (fun ds => callQ Φ f ds) (some ns)).Ok _ from w)
        obtain ⟨ns1, ej, w2⟩ := callQ_ok w1
        subst ej
        exact ⟨O, j, σd, _, ns1, ds, rl, e1, w2⟩
  rcases c.fs f x _ _ hf with st | ⟨a, m, kp, F⟩
  · refine ⟨fun pins s σ H Q I h => ?_⟩
    obtain ⟨O, j, σd, J, ns1, ds, rl, e1, w2⟩ := open_ h
    rw [st ds (some ns1)] at w2
    exact w2.elim
  · obtain ⟨g1, g2⟩ := c.gl hg
    obtain ⟨n1, n2, n3, n4⟩ := c.atN hi
    refine (pe_callG F c.room c.gd g1 m kp (pa_cons (pe_var n1 n2 n3 n4) ha (starEach_ns rfl)) g2 (starEach_ns rfl) (starEach_none hn)).imp fun σ H Q h => ?_
    obtain ⟨O, j, σd, J, ns1, ds, rl, e1, w2⟩ := open_ h
    obtain ⟨i', ei, es'⟩ := rl.js j rfl
    rw [hj] at ei
    cases ei
    refine ⟨_, es', .to rl e1 fun vs H1 k1 j1 dv => ?_⟩
    exact ⟨O, some j, some ns1, ds, vs, rl.own.keep k1, j1, dv, rfl, w2.imp fun d J' z => z.step k1⟩
/-- an item of the jar -/
theorem jget_ev {i k : Nat} {jn : Str} {pj p2 : Pos} {kk : Nat} (c : Cf T Φ lv S X) (hj : S.jx = some i) (hi : atN S i jn = true) :
    PE X (.Subscript (.Name jn pj) (.Constant (.int (k : Int)) kk p2) pos) (tV X.K S.jx fr (evE Φ (.jget k))) := by
  obtain ⟨n1, n2, n3, n4⟩ := c.atN hi
  refine (pe_ix ix_list (pe_var n1 n2 n3 n4) pe_int (plainIx_of rfl)).imp fun σ H Q ⟨O, jo, σd, J, rl, w⟩ => ?_
  cases J with
  | none => exact w.elim
  | some ns =>
    have w' : Rs.Ok (fun d J' => Vw X.K O jo H fr d J' Q) (match ns[k]? with
      | some n => .ok (.int n) (some ns)
      | none => .no) := w
    cases hn : ns[k]? with
    | none => rw [hn] at w'; exact w'.elim
    | some n =>
      rw [hn] at w'
      cases jo with
      | none => exact rl.jar.elim
      | some j =>
        obtain ⟨i', ei, es'⟩ := rl.js j rfl
        rw [hj] at ei
        cases ei
        refine ⟨_, es', j, _, _, .int n, rfl, rfl, .of rl.jar.2, atI_nat (by rw [List.getElem?_map, hn]; rfl), ?_⟩
        exact w' (.int n) H .refl rl.jar (.int n) fun _ _ _ e => nomatch e
def tyT : Ty → String
  | .tup => "tuple"
  | .lst => "list"
  | .int => "int"
  | .bool => "bool"
  | .str => "str"
  | .dct => "dict"
theorem tyBoot : ∀ t, bootBuiltins (tyN t) = some (.type (tyT t))
  | .tup => by show bootBuiltins "tuple" = some (.type "tuple"); decide +kernel
  | .lst => by show bootBuiltins "list" = some (.type "list"); decide +kernel
  | .int => by show bootBuiltins "int" = some (.type "int"); decide +kernel
  | .bool => by show bootBuiltins "bool" = some (.type "bool"); decide +kernel
  | .str => by show bootBuiltins "str" = some (.type "str"); decide +kernel
  | .dct => by show bootBuiltins "dict" = some (.type "dict"); decide +kernel
theorem tyN_ne : ∀ t, tyN t ≠ "__name__" ∧ (tyN t == ("__debug__" : Str)) = false
  | .tup => by decide
  | .lst => by decide
  | .int => by decide
  | .bool => by decide
  | .str => by decide
  | .dct => by decide
theorem biN_ne : ∀ b, biN b ≠ "__name__" ∧ (biN b == ("__debug__" : Str)) = false
  | .len => by decide
  | .abs => by decide
  | .int => by decide
  | .list => by decide
  | .tuple => by decide
  | .sum => by decide
  | .max => by decide
  | .min => by decide
  | .max2 => by decide
  | .min2 => by decide
  | .sorted => by decide
  | .all => by decide
  | .any => by decide
  | .repr => by decide
  | .isi _ => by show Str.ofString "isinstance" ≠ Str.ofString "__name__" ∧ (Str.ofString "isinstance" == Str.ofString "__debug__") = false; decide
theorem biN_mem : ∀ b, biN b ∈ blts
  | .len => by decide
  | .abs => by decide
  | .int => by decide
  | .list => by decide
  | .tuple => by decide
  | .sum => by decide
  | .max => by decide
  | .min => by decide
  | .max2 => by decide
  | .min2 => by decide
  | .sorted => by decide
  | .all => by decide
  | .any => by decide
  | .repr => by decide
  | .isi _ => by show Str.ofString "isinstance" ∈ blts; decide
theorem isi_data (t : Ty) : CallR X (.builtin "isinstance") (fun xs H Q => ∃ v, xs = [v, .ty (tyT t)] ∧ dRn X.K false (biE (.isi t)) [v] H Q) := by
  intro pins s σ H xs us Q I r ⟨v, ex, O, ds, d, w, hd, e, q⟩
  subst ex
  obtain ⟨u1, u2, rfl, r1, r2⟩ := vals2 r
  obtain rfl : u2 = Value.type (tyT t) := r2
  cases hd with
  | cons h1 h2 =>
    rename_i d0 ds0
    cases h2
    obtain ⟨e1, e2⟩ := ite_some (show (if noD d0 then some (PyData.bool (isiD t d0)) else none) = some d from e)
    subst e2
    obtain ⟨as, rd⟩ := h1.reads I e1 r1
    have fin : ∀ tk : Nat, EP X pins σ Q (.bool (isiD t d0)) { s with toks := tk } := fun tk => ⟨.bl _, H, I.tok tk, rfl, q.bl⟩
    cases t with
    | tup => exact W.isinstance_tuple_data rd fun tk _ => fin tk
    | lst => exact W.isinstance_list_data rd fun tk _ => fin tk
    | int => exact W.isinstance_int_data rd fun tk _ => fin tk
    | bool => exact W.isinstance_bool_data rd fun tk _ => fin tk
    | str => exact W.isinstance_str_data rd fun tk _ => fin tk
    | dct => exact W.isinstance_dict_data rd fun tk _ => fin tk
theorem isi_ev {t : Ty} {p p2 : Pos} {x ty : Str} (c : Cf T Φ lv S X) (hx : x = biN (.isi t)) (hg : glB S x = true) (hty : ty = tyN t) (hb : ty ∈ blts) (hg2 : glB S ty = true) (hn : notStar a = true) (ha : PE X a (tV X.K jx f1 Fa)) :
    PE X (.Call (.Name x p) [a, .Name ty p2] [] pos) (tV X.K jx false fun σ => Mo.bind (Mo.bind (Fa σ) fun d => Mo.bind (Mo.pure []) fun ds => Mo.pure (d :: ds)) fun ds => Mo.opt (biE (.isi t) ds)) := by
  subst hx
  subst hty
  obtain ⟨g1, g2⟩ := c.gl hg
  obtain ⟨g3, g4⟩ := c.gl hg2
  have pt : PE X (.Name (tyN t) p2) (tC (.ty (tyT t))) := pe_bltn g3 (c.bl _ hb) (tyBoot t) rfl (tyN_ne t).1 g4
  refine (pe_callB (isi_data t) g1 (c.bl _ (biN_mem (.isi t))) (biBoot (.isi t)) (pa_cons ha (pa_cons pt pa_nil (starEach_ns rfl)) (starEach_ns hn)) (biN_ne (.isi t)).1 g2 (starEach_ns hn) (starEach_none rfl)).imp fun σ H Q ⟨O, jo, σd, J, rl, w⟩ => ?_
  obtain ⟨ds, J1, e1, w1⟩ := Mo.bind_ok w
  obtain ⟨d, e2, w2⟩ := Mo.opt_ok w1
  obtain ⟨d0, J0, e3, v1⟩ := Mo.bind_ok (ok_of e1)
  obtain ⟨v2, v3⟩ := (show [d0] = ds ∧ J0 = J1 from v1)
  subst v2
  subst v3
  refine tV.to rl e3 fun v H1 k1 j1 d1 _ => ⟨v, rfl, O, [d0], d, (rl.keep k1 j1).own, .cons d1 .nil, e2, (fun v' H' k' dv _ => w2 v' H' (k1.trans k'.no) (j1.keepNo k') dv fun z => nomatch z)⟩

/-! ### all together -/
theorem evEs_ns {a : Ex} {as : List Ex} (h : ∀ x, a ≠ .star x) : evEs Φ (a :: as) = fun σ => Mo.bind (evE Φ a σ) fun d => Mo.bind (evEs Φ as σ) fun ds => Mo.pure (d :: ds) := by
  funext σ
  cases a <;> first | rfl | exact absurd rfl (h _)
theorem ckEs_ns {a : Ex} {as : List Ex} {es : List Expr} (h : ∀ x, a ≠ .star x) (hc : ckEs T (a :: as) S es = true) : ∃ e es', es = e :: es' ∧ notStar e = true ∧ ckE T a S e = true ∧ ckEs T as S es' = true := by
  cases a <;> first
    | exact absurd rfl (h _)
    | (unfold ckEs at hc
       split at hc
       · simp only [Bool.and_eq_true] at hc
         exact ⟨_, _, rfl, hc.1.1, hc.1.2, hc.2⟩
       · cases hc)
theorem isTuple_of {e : Expr} (h : isTuple e = true) : ∃ a b c, e = .Tuple a b c := by
  cases e <;> first | exact ⟨_, _, _, rfl⟩ | cases h
theorem ownOf_map (S : Ss) (own : List Nat) : (ownOf S own).map (·.2) = own := by
  unfold ownOf
  rw [List.map_map]
  exact List.map_id _
theorem own_ok {t : Tg} {own : List Nat} (h : jxOut S own = true) (h2 : ((slots t).all fun i => own.contains i) = true) : (∀ i, S.jx = some i → i ∉ own) ∧ ∀ i ∈ slots t, i ∈ own := by
  refine ⟨fun i e m => ?_, fun i m => ?_⟩
  · unfold jxOut at h
    rw [e] at h
    have h : (!own.contains i) = true := h
    have q : own.contains i = true := by simpa using m
    rw [q] at h
    cases h
  · have := List.all_eq_true.mp h2 i m
    simpa using this
theorem call_all {f : Nat} {x : Str} {r : Bool} {p : Pos} {as : List Ex} {xs : List Expr} (c : Cf T Φ lv S X) (hf : T.fs[f]? = some (x, false, r)) (hg : glB S x = true) (hn : xs.all notStar = true) (hc : ckEs T as S xs = true) (hp : PA X xs (tVs X.K S.jx (evEs Φ as))) :
    PE X (.Call (.Name x p) xs [] pos) (tV X.K S.jx r (evE Φ (.call f as))) := by
  cases xs with
  | nil =>
    cases as with
    | nil => exact call_ev0 c hf hg
    | cons a as => cases a <;> (unfold ckEs at hc; cases hc)
  | cons x1 xs => exact call_ev c hf hg hp hn
theorem bi_all {b : Bi} {x : Str} {p : Pos} {as : List Ex} {x1 : Expr} {xs : List Expr} (c : Cf T Φ lv S X) (hb : tyOf b = none) (hx : x = biN b) (hg : glB S x = true) (hn : (x1 :: xs).all notStar = true) (hp : PA X (x1 :: xs) (tVs X.K S.jx (evEs Φ as))) :
    PE X (.Call (.Name x p) (x1 :: xs) [] pos) (tV X.K S.jx (isFresh (.bi b as)) (evE Φ (.bi b as))) := by
  subst hx
  obtain ⟨g1, g2⟩ := c.gl hg
  rw [List.all_cons, Bool.and_eq_true] at hn
  have nb : isIsi b = false := by cases b <;> first | rfl | cases hb
  have q : PE X (.Call (.Name (biN b) p) (x1 :: xs) [] pos) (tV X.K S.jx (biFr b) (evE Φ (.bi b as))) := by
    have cb := call_bi c.calm c.gd c.hu b nb
    have bt := biBoot b
    have bm := c.bl _ (biN_mem b)
    have bn := (biN_ne b).1
    have e1 := starEach_ns (es := xs) (env := X.env) hn.1
    have e2 := starEach_none (env := X.env) hn.2 (pos := pos)
    refine pv_bi (f := biV b) ?_
    cases b <;> first
      | exact pe_callB cb g1 bm bt hp bn g2 e1 e2
      | exact pe_callTy cb g1 bm bt hp bn g2 e1 e2
  cases b <;> exact q
mutual
theorem sE : ∀ (ir : Ex) {S : Ss} {X : Cx} {e : Expr}, ckE T ir S e = true → Cf T Φ lv S X → SE X S.jx Φ ir e
  | .var i, S, X, e, h, c => by
    unfold ckE at h
    split at h
    · obtain ⟨n1, n2, n3, n4⟩ := c.atN h
      exact .dflt (pv_var n1 n2 n3 n4) (fun _ => rfl) nofun
    · cases h
  | .lit d, S, X, e, h, c => by
    unfold ckE at h
    rw [Bool.and_eq_true] at h
    obtain ⟨h1, h2, h3⟩ := ckC_ok (jx := S.jx) (fr := false) c h.1 h.2
    exact .dflt h1 h2 h3
  | .tup es, S, X, e, h, c => by
    unfold ckE at h
    split at h
    · exact .dflt (pv_tup (sEs es h c)) (fun _ => rfl) nofun
    · cases h
  | .lst es, S, X, e, h, c => by
    unfold ckE at h
    split at h
    · exact .dflt (pv_lst (sEs es h c)) (fun _ => rfl) nofun
    · cases h
  | .star _, S, X, e, h, c => by unfold ckE at h; cases h
  | .bin o a b, S, X, e, h, c => by
    unfold ckE at h
    split at h
    · simp only [Bool.and_eq_true, decide_eq_true_eq] at h
      obtain ⟨⟨rfl, ha⟩, hb⟩ := h
      exact .dflt (pv_any (pv_op2 (pe_op (op_bin o) (sE a ha c).pe (sE b hb c).pe))) (fun _ => rfl) nofun
    · cases h
  | .neg a, S, X, e, h, c => by
    unfold ckE at h
    split at h
    · simp only [Bool.and_eq_true, decide_eq_true_eq] at h
      obtain ⟨rfl, ha⟩ := h
      exact .dflt (pv_neg (sE a ha c).pe) (fun _ => rfl) nofun
    · cases h
  | .not a, S, X, e, h, c => by
    unfold ckE at h
    split at h
    · simp only [Bool.and_eq_true, decide_eq_true_eq] at h
      obtain ⟨⟨rfl, ht⟩, ha⟩ := h
      exact ⟨not_ev (sE a ha c).pe, fun _ => not_pt ((sE a ha c).pt ht), nofun⟩
    · cases h
  | .cmp o a b, S, X, e, h, c => by
    unfold ckE at h
    split at h
    · split at h
      · simp only [Bool.and_eq_true, decide_eq_true_eq, Bool.not_eq_true'] at h
        obtain ⟨⟨⟨rfl, hm⟩, ha⟩, hb⟩ := h
        have ia := sE a ha c
        have ib := sE b hb c
        exact ⟨pv_any (pv_op2 (pe_cmpR (op_cmp c.hu o) ia.pe ib.pe hm)), fun _ => pvt_cmp (op_cmp c.hu o) ia.pe ib.pe hm, nofun⟩
      · cases h
    · cases h
  | .chain o o' a b d, S, X, e, h, c => by
    unfold ckE at h
    split at h
    · split at h
      · simp only [Bool.and_eq_true, decide_eq_true_eq, Bool.not_eq_true'] at h
        obtain ⟨⟨⟨⟨⟨rfl, rfl⟩, hm⟩, ha⟩, hb⟩, hd⟩ := h
        have ia := sE a ha c
        have ib := sE b hb c
        have id' := sE d hd c
        exact ⟨pv_chain (op_cmp c.hu o) (op_cmp c.hu o') ia.pe ib.pe id'.pe hm, fun _ => pvt_chain (op_cmp c.hu o) (op_cmp c.hu o') ia.pe ib.pe id'.pe hm, nofun⟩
      · cases h
    · cases h
  | .and a b, S, X, e, h, c => by
    unfold ckE at h
    split at h
    · split at h
      · simp only [Bool.and_eq_true, decide_eq_true_eq] at h
        obtain ⟨⟨⟨⟨rfl, h1⟩, h2⟩, ha⟩, hb⟩ := h
        have ia := sE a ha c
        have ib := sE b hb c
        have w := fun p => (pw_and (pos := p) (ia.pt h1) (pw_and1 (ib.pt h2))).imp fun σ H Q h => and_tT h
        exact ⟨(pe_and ia.pe (pe_one (pv_wk ib.pe))).imp fun σ H Q h => and_tV h, fun _ => (w _).pt, fun _ => w _⟩
      · simp only [Bool.and_eq_true, decide_eq_true_eq] at h
        obtain ⟨⟨⟨rfl, h1⟩, ha⟩, hb⟩ := h
        have ia := sE a ha c
        have ib := sE b hb c
        have w := (pw_and (ia.pt h1) (ib.pw ⟨_, _, _, rfl⟩)).imp fun σ H Q h => and_tT h
        exact ⟨(pe_and ia.pe (pv_wk ib.pe)).imp fun σ H Q h => and_tV h, fun _ => w.pt, fun _ => w⟩
      · cases h
    · cases h
  | .or a b, S, X, e, h, c => by
    unfold ckE at h
    split at h
    · split at h
      · simp only [Bool.and_eq_true, decide_eq_true_eq] at h
        obtain ⟨⟨⟨⟨rfl, h1⟩, h2⟩, ha⟩, hb⟩ := h
        have ia := sE a ha c
        have ib := sE b hb c
        have w := fun p => (pw_or (pos := p) (ia.pt h1) (pw_or1 (ib.pt h2))).imp fun σ H Q h => or_tT h
        exact ⟨(pe_or ia.pe (pe_one (pv_wk ib.pe))).imp fun σ H Q h => or_tV h, fun _ => (w _).pt, fun _ => w _⟩
      · simp only [Bool.and_eq_true, decide_eq_true_eq] at h
        obtain ⟨⟨⟨rfl, h1⟩, ha⟩, hb⟩ := h
        have ia := sE a ha c
        have ib := sE b hb c
        have w := (pw_or (ia.pt h1) (ib.pw ⟨_, _, _, rfl⟩)).imp fun σ H Q h => or_tT h
        exact ⟨(pe_or ia.pe (pv_wk ib.pe)).imp fun σ H Q h => or_tV h, fun _ => w.pt, fun _ => w⟩
      · cases h
    · cases h
  | .ite d a b, S, X, e, h, c => by
    unfold ckE at h
    split at h
    · simp only [Bool.and_eq_true, decide_eq_true_eq] at h
      obtain ⟨⟨⟨h1, hd⟩, ha⟩, hb⟩ := h
      exact ⟨pv_ite ((sE d hd c).pt h1) (pv_wk (sE a ha c).pe) (pv_wk (sE b hb c).pe), (fun z => by cases z), nofun⟩
    · cases h
  | .idx a i, S, X, e, h, c => by
    unfold ckE at h
    split at h
    · simp only [Bool.and_eq_true] at h
      exact .dflt (pv_idx (sE a h.1.2 c).pe (sE i h.2 c).pe (plainIx_of h.1.1)) (fun _ => rfl) nofun
    · cases h
  | .slc a lo hi, S, X, e, h, c => by
    unfold ckE at h
    split at h
    · split at h
      · split at h
        · simp only [Bool.and_eq_true] at h
          exact .dflt (pv_slc (sE a h.1.1 c).pe (sO lo h.1.2 c) (sO hi h.2 c)) (fun _ => rfl) nofun
        · cases h
      · cases h
    · cases h
  | .rev a, S, X, e, h, c => by
    unfold ckE at h
    split at h
    · exact .dflt (pv_any (pv_rev (sE a h c).pe)) (fun _ => rfl) nofun
    · cases h
  | .call f as, S, X, e, h, c => by
    unfold ckE at h
    split at h
    · split at h
      · split at h
        · rename_i r hf
          simp only [Bool.and_eq_true, decide_eq_true_eq, Bool.not_eq_true'] at h
          obtain ⟨⟨⟨⟨h1, h2⟩, h3⟩, h4⟩, h5⟩ := h
          subst h1
          subst h2
          exact .dflt (pv_wk (call_all c hf h3 h4 h5 (sEs as h5 c))) (fun _ => rfl) nofun
        · cases h
      · cases h
    · cases h
  | .callJ f as, S, X, e, h, c => by
    unfold ckE at h
    split at h
    · split at h
      · split at h
        · rename_i r hf hj
          simp only [Bool.and_eq_true, decide_eq_true_eq] at h
          obtain ⟨⟨⟨⟨⟨h1, h2⟩, h3⟩, h4⟩, h5⟩, h6⟩ := h
          subst h1
          subst h2
          exact .dflt (pv_wk (callJ_ev c hf h3 hj h4 (sEs as h6 c) h5)) (fun _ => rfl) nofun
        · cases h
      · cases h
    · cases h
  | .bi b as, S, X, e, h, c => by
    unfold ckE at h
    split at h
    · split at h
      · simp only [Bool.and_eq_true, decide_eq_true_eq] at h
        obtain ⟨⟨h1, h2⟩, h3⟩ := h
        split at h3
        · rename_i t hb
          split at h3
          · rename_i a
            simp only [Bool.and_eq_true, decide_eq_true_eq] at h3
            obtain ⟨⟨⟨⟨k1, k2⟩, k3⟩, k4⟩, k5⟩ := h3
            have eb : b = .isi t := by cases b <;> first | (cases hb; rfl) | cases hb
            subst eb
            have hns : ∀ x, a ≠ .star x := fun x z => by subst z; unfold ckE at k5; cases k5
            refine .dflt ?_ (fun _ => rfl) nofun
            have e1 : evE Φ (.bi (.isi t) [a]) = fun σ => Mo.bind (Mo.bind (evE Φ a σ) fun d => Mo.bind (Mo.pure []) fun ds => Mo.pure (d :: ds)) fun ds => Mo.opt (biE (.isi t) ds) := by
              funext σ
              show Mo.bind (evEs Φ [a] σ) _ = _
              rw [evEs_ns hns]
              rfl
            rw [e1]
            exact isi_ev c h1 h2 k1 k2 k3 k4 (sE a k5 c).pe
          · cases h3
        · rename_i hb
          split at h3
          · cases h3
          · rw [Bool.and_eq_true] at h3
            exact .dflt (bi_all c hb h1 h2 h3.1 (sEs as h3.2 c)) (fun _ => rfl) nofun
      · cases h
    · cases h
  | .jget k, S, X, e, h, c => by
    unfold ckE at h
    split at h
    · split at h
      · rename_i hj
        rw [Bool.and_eq_true, decide_eq_true_eq] at h
        obtain ⟨h1, h2⟩ := h
        subst h2
        exact .dflt (jget_ev c hj h1) (fun _ => rfl) nofun
      · cases h
    · cases h
  | .lc elt t it ifs own, S, X, e, h, c => by
    unfold ckE at h
    split at h
    · split at h
      · simp only [Bool.and_eq_true, decide_eq_true_eq] at h
        obtain ⟨⟨⟨⟨⟨⟨⟨⟨h1, h2⟩, h3⟩, h4⟩, h5⟩, h6⟩, h7⟩, h8⟩, h9⟩ := h
        subst h1
        obtain ⟨k1, k2⟩ := own_ok h3 h4
        refine .dflt ?_ (fun _ => rfl) nofun
        refine (pe_lc (wi := tI X.K S.jx (okIt it) (evIt Φ it)) (g := gT X.K t) (tt := tT X.K S.jx (evIf Φ ifs)) (te := tV X.K S.jx (isFresh elt) (evE Φ elt)) c.calm c.nd (sIt it h7 c) (blkOk_by (own := ownOf S own) (by rw [c.N, c.sc]; exact h2)) (fun s H C cl fp => by have q := pg_ok t h6 (c.blk s H C cl fp _); exact q) (fun s H C cl fp => by have q := sIf ifs h8 (c.blk s H C cl fp _); exact q) (fun s H C cl fp => by have q := (sE elt h9 (c.blk s H C cl fp _)).pe; exact q) (nset_of h5)).imp fun σ H Q h => ?_
        rw [ownOf_map]
        exact lc_tV k2 k1 h
      · cases h
    · cases h
  | .lc2 elt t it ifs t1 it1 ifs1 own own1, S, X, e, h, c => by
    unfold ckE at h
    split at h
    · split at h
      · simp only [Bool.and_eq_true, decide_eq_true_eq] at h
        obtain ⟨⟨⟨⟨⟨⟨⟨⟨⟨⟨⟨⟨⟨⟨⟨⟨h1, h2⟩, h3⟩, h4⟩, h5⟩, h6⟩, h7⟩, h8⟩, h9⟩, h10⟩, h11⟩, h12⟩, h13⟩, h14⟩, h15⟩, h16⟩, h17⟩ := h
        subst h1
        subst h2
        obtain ⟨k1, k2⟩ := own_ok h4 h7
        obtain ⟨k3, k4⟩ := own_ok h5 h8
        have hv : ∀ i ∈ own1, i ∈ (ownOf S own).map (·.2) := fun i hi => by
          rw [ownOf_map]
          have := List.all_eq_true.mp h6 i hi
          simpa using this
        refine .dflt ?_ (fun _ => rfl) nofun
        refine (pe_lc2 (wi := tI X.K S.jx (okIt it) (evIt Φ it)) (g := gT X.K t) (tt := tT X.K S.jx (evIf Φ ifs)) (wi1 := tI X.K S.jx (okIt it1) (evIt Φ it1)) (g1 := gT X.K t1) (tt1 := tT X.K S.jx (evIf Φ ifs1)) (te := tV X.K S.jx (isFresh elt) (evE Φ elt)) c.calm c.nd (sIt it h12 c) (blkOk_by (own := ownOf S own) (by rw [c.N, c.sc]; exact h3)) hv (fun s H C cl fp => by have q := pg_ok t h11 (c.blk s H C cl fp _); exact q) (fun s H C cl fp => by have q := sIf ifs h13 (c.blk s H C cl fp _); exact q)
          (fun s H C cl fp => by have q := sIt it1 h15 (c.blk s H C cl fp _); exact q) (fun s H C cl fp => by have q := pg_ok t1 h14 (c.blk s H C cl fp _); exact q) (fun s H C cl fp => by have q := sIf ifs1 h16 (c.blk s H C cl fp _); exact q) (fun s H C cl fp => by have q := (sE elt h17 (c.blk s H C cl fp _)).pe; exact q) (nset_of h9) (fun env => nset_of h10)).imp fun σ H Q h => ?_
        rw [ownOf_map]
        exact lc2_tV k2 k1 k4 k3 h
      · cases h
    · cases h
theorem sEs : ∀ (irs : List Ex) {S : Ss} {X : Cx} {es : List Expr}, ckEs T irs S es = true → Cf T Φ lv S X → PA X es (tVs X.K S.jx (evEs Φ irs))
  | [], S, X, es, h, c => by
    unfold ckEs at h
    split at h
    · exact pvs_nil
    · cases h
  | a :: as, S, X, es, h, c => by
    by_cases hs : ∃ x, a = .star x
    · obtain ⟨x, rfl⟩ := hs
      unfold ckEs at h
      split at h
      · rw [Bool.and_eq_true] at h
        exact pvs_star (sE x h.1 c).pe (sEs as h.2 c)
      · cases h
    · have hn : ∀ x, a ≠ .star x := fun x z => hs ⟨x, z⟩
      obtain ⟨e, es', rfl, h1, h2, h3⟩ := ckEs_ns hn h
      rw [evEs_ns hn]
      exact pvs_cons (sE a h2 c).pe (sEs as h3 c) (starEach_ns h1)
theorem sO : ∀ (irs : List Ex) {S : Ss} {X : Cx} {e : Option Expr}, ckO T irs S e = true → Cf T Φ lv S X → PO X e (tO X.K S.jx (evO Φ irs))
  | [], S, X, e, h, c => by
    unfold ckO at h
    split at h
    · exact po_n
    · cases h
  | a :: _, S, X, e, h, c => by
    unfold ckO at h
    split at h
    · exact po_s (sE a h c).pe
    · cases h
theorem sIf : ∀ (irs : List Ex) {S : Ss} {X : Cx} {es : List Expr}, ckIf T irs S es = true → Cf T Φ lv S X → PTs X es (tT X.K S.jx (evIf Φ irs))
  | [], S, X, es, h, c => by
    unfold ckIf at h
    split at h
    · exact pts_nil.imp fun σ H Q ⟨O, jo, σd, J, r, w⟩ => w H .refl r.jar
    · cases h
  | a :: _, S, X, es, h, c => by
    unfold ckIf at h
    split at h
    · rw [Bool.and_eq_true] at h
      exact pts_one ((sE a h.2 c).pt h.1)
    · cases h
theorem sIt : ∀ (it : Itr) {S : Ss} {X : Cx} {tg e : Expr}, ckIt T it S tg e = true → Cf T Φ lv S X → PI X tg e (tI X.K S.jx (okIt it) (evIt Φ it))
  | .seq a, S, X, tg, e, h, c => by
    unfold ckIt at h
    exact pi_sq (sE a h c).pe
  | .rng1 a, S, X, tg, e, h, c => by
    unfold ckIt at h
    split at h
    · split at h
      · simp only [Bool.and_eq_true, decide_eq_true_eq] at h
        obtain ⟨⟨⟨rfl, h2⟩, h3⟩, h4⟩ := h
        exact pi_rg1 (c.gl h2).1 (c.bl _ (by decide)) (sE a h4 c).pe (by rw [starEach_ns h3]; rfl)
      · cases h
    · cases h
  | .rng2 a b, S, X, tg, e, h, c => by
    unfold ckIt at h
    split at h
    · split at h
      · simp only [Bool.and_eq_true, decide_eq_true_eq] at h
        obtain ⟨⟨⟨⟨⟨rfl, h2⟩, h3⟩, h3'⟩, h4⟩, h5⟩ := h
        exact pi_rg2 (c.gl h2).1 (c.bl _ (by decide)) (sE a h4 c).pe (sE b h5 c).pe (by rw [starEach_ns h3, starEach_ns h3']; rfl) (by rw [starEach_ns h3']; rfl)
      · cases h
    · cases h
  | .enum a, S, X, tg, e, h, c => by
    unfold ckIt at h
    split at h
    · split at h
      · simp only [Bool.and_eq_true, decide_eq_true_eq] at h
        obtain ⟨⟨⟨⟨rfl, h2⟩, ht⟩, h3⟩, h4⟩ := h
        obtain ⟨e1, e2, e3, rfl⟩ := isTuple_of ht
        exact pi_en (c.gl h2).1 (c.bl _ (by decide)) (sE a h4 c).pe (by rw [starEach_ns h3]; rfl)
      · cases h
    · cases h
  | .zip a b, S, X, tg, e, h, c => by
    unfold ckIt at h
    split at h
    · split at h
      · simp only [Bool.and_eq_true, decide_eq_true_eq] at h
        obtain ⟨⟨⟨⟨⟨⟨rfl, h2⟩, ht⟩, h3⟩, h3'⟩, h4⟩, h5⟩ := h
        obtain ⟨e1, e2, e3, rfl⟩ := isTuple_of ht
        exact pi_zp (c.gl h2).1 (c.bl _ (by decide)) (sE a h4 c).pe (sE b h5 c).pe (starEach_ns h3) (by rw [starEach_ns h3']; rfl) (starEach_none (by simp [h3']))
      · cases h
    · cases h
end
end
end Ev
end

section
set_option maxRecDepth 100000
set_option maxHeartbeats 1000000
/-! The state between statements. -/
namespace Ev
open PySem PySem.Spec PyProof.Rows L2

def OJ (O0 : Addr → Prop) (jo : Option Addr) : Addr → Prop := fun a => O0 a ∨ jo = some a
def OO (O0 : Addr → Prop) (jo : Option Addr) (ow : Nat → Option Addr) : Addr → Prop := fun a => OJ O0 jo a ∨ ∃ i, ow i = some a
def noOw : Nat → Option Addr := fun _ => none
structure RS (K : PySem.W.Frag) (M : List Nat) (jx : Option Nat) (jf : Bool) (O0 : Addr → Prop) (jo0 : Option Addr) (Fs : List ((Addr → Prop) × Hp)) (ow : Nat → Option Addr) (jo : Option Addr) (H : Hp) (σv : L2.St) (σd : Sd) (J : Jr) : Prop where
  len : σd.length = σv.length
  mlen : M.length = σd.length
  plain : ∀ (i : Nat) (d : PyData), M.getD i 0 = 0 → σd[i]? = some (some d) → ∃ v, σv[i]? = some (some v) ∧ DF K H (OO O0 jo ow) v d
  owned : ∀ (i : Nat) (d : PyData), M.getD i 0 ≠ 0 → σd[i]? = some (some d) → ∃ v, σv[i]? = some (some v) ∧ ((noL d = true ∧ DF K H (OO O0 jo ow) v d) ∨ ∃ a xs ds, v = .ref a ∧ d = .list ds ∧ ow i = some a ∧ H a = some (.lst xs) ∧ DFs K H (OO O0 jo ow) xs ds)
  inj : ∀ (i j : Nat) (a : Addr), ow i = some a → ow j = some a → i = j
  dis : ∀ (i : Nat) (a : Addr), ow i = some a → ¬ OJ O0 jo a
  live : ∀ (i : Nat) (a : Addr), ow i = some a → H a ≠ none
  own0 : Ow H O0
  jar : JRel H (OJ O0 jo) jo J
  js : ∀ j, jo = some j → ∃ i, jx = some i ∧ σv[i]? = some (some (.ref j))
  jf1 : jf = true → jo = jo0
  jf0 : jf = false → jo0 = none
  fr : ∀ p ∈ Fs, Kp p.1 p.2 H ∧ ∀ a, (jo = some a ∨ ∃ i, ow i = some a) → p.1 a ∨ p.2 a = none
section
variable {K : PySem.W.Frag} {M : List Nat} {jx : Option Nat} {jf : Bool} {O0 : Addr → Prop} {jo0 jo : Option Addr} {Fs : List ((Addr → Prop) × Hp)} {ow : Nat → Option Addr} {H H' : Hp} {σv : L2.St} {σd : Sd} {J J' : Jr}
theorem JRel.re {O O' : Addr → Prop} (r : JRel H O jo J) (h : ∀ j, jo = some j → O' j) : JRel H O' jo J := by
  cases jo with
  | none => cases J with
    | none => trivial
    | some _ => exact r.elim
  | some j => cases J with
    | none => exact r.elim
    | some ns => exact ⟨h j rfl, r.2⟩
theorem JRel.toJ {O : Addr → Prop} (r : JRel H O jo J) : JRel H (OJ O0 jo) jo J := r.re fun j e => .inr e
theorem JRel.live {O : Addr → Prop} (r : JRel H O jo J) {a : Addr} (e : jo = some a) : H a ≠ none := by
  subst e
  cases J with
  | none => exact r.elim
  | some ns => rw [r.2]; exact fun z => nomatch z
theorem Kp.trans' {P Q : Addr → Prop} {H0 H1 H2 : Hp} (a : Kp P H0 H1) (b : Kp Q H1 H2) (h : ∀ x, Q x → P x ∨ H0 x = none) : Kp P H0 H2 :=
  ⟨fun x o e n => b.at_ x o (a.at_ x o e n) (n.imp (fun z q => (h x q).elim z fun y => by rw [y] at e; cases e) fun z => z), fun x e => b.there x (a.there x e)⟩
theorem RS.jr {a : Addr} (r : RS K M jx jf O0 jo0 Fs ow jo H σv σd J) (e : Jo jo a) : OO O0 jo ow a := .inl (.inr e)
theorem RS.liveO (r : RS K M jx jf O0 jo0 Fs ow jo H σv σd J) : Ow H (OO O0 jo ow) := fun a z => by
  rcases z with (z | z) | ⟨i, z⟩
  · exact r.own0 a z
  · exact r.jar.live z
  · exact r.live i a z
theorem RS.liveJ (r : RS K M jx jf O0 jo0 Fs ow jo H σv σd J) : Ow H (OJ O0 jo) := fun a z => r.liveO a (.inl z)
/-- what is read: all of it, or all but the lists that are written -/
def vO (b : Bool) (O0 : Addr → Prop) (jo : Option Addr) (ow : Nat → Option Addr) : Addr → Prop := match b with
  | true => OJ O0 jo
  | false => OO O0 jo ow
theorem hide_get {M : List Nat} {σ : Sd} {i : Nat} {d : PyData} (h : (hide M σ)[i]? = some (some d)) : σ[i]? = some (some d) ∧ M.getD i 0 = 0 := by
  unfold hide at h
  rw [List.getElem?_zipWith] at h
  cases e1 : M[i]? with
  | none => rw [e1] at h; cases h
  | some m =>
    rw [e1] at h
    cases e2 : σ[i]? with
    | none => rw [e2] at h; cases h
    | some o =>
      rw [e2] at h
      have h' : (if m = 0 then o else none) = some d := Option.some.inj h
      split at h'
      · rename_i z
        subst h'
        refine ⟨rfl, ?_⟩
        rw [List.getD_eq_getElem?_getD, e1, z]; rfl
      · cases h'
theorem hide_len {M : List Nat} {σ : Sd} (h : M.length = σ.length) : (hide M σ).length = σ.length := by
  unfold hide
  rw [List.length_zipWith, h, Nat.min_self]
theorem RS.rel (b : Bool) (r : RS K M jx jf O0 jo0 Fs ow jo H σv σd J) : Rel K H (vO b O0 jo ow) jx jo σv (view b M σd) J := by
  cases b with
  | true =>
    refine ⟨r.len, fun i d e => ?_, r.liveJ, r.jar, r.js⟩
    by_cases hm : M.getD i 0 = 0
    · obtain ⟨v, e1, e2⟩ := r.plain i d hm e
      exact ⟨v, e1, e2.less fun a z => .inl (.inl z)⟩
    · obtain ⟨v, e1, e2⟩ := r.owned i d hm e
      rcases e2 with ⟨_, e2⟩ | ⟨a, xs, ds, rfl, rfl, h1, h2, h3⟩
      · exact ⟨v, e1, e2.less fun a z => .inl (.inl z)⟩
      · exact ⟨_, e1, .lst h2 (r.dis i a h1) (h3.less fun a z => .inl (.inl z))⟩
  | false =>
    refine ⟨(hide_len r.mlen).trans r.len, fun i d e => ?_, r.liveO, r.jar.re fun j e => .inl (.inr e), r.js⟩
    obtain ⟨e1, e2⟩ := hide_get e
    exact r.plain i d e2 e1
/-- the lists that are written are known no more -/
theorem RS.kill (r : RS K M jx jf O0 jo0 Fs ow jo H σv σd J) : RS K M jx jf O0 jo0 Fs noOw jo H σv (hide M σd) J := by
  have l : ∀ a, OO O0 jo noOw a → OO O0 jo ow a ∨ H a = none := fun a z => by
    rcases z with z | ⟨i, z⟩
    · exact .inl (.inl z)
    · cases z
  refine ⟨(hide_len r.mlen).trans r.len, r.mlen.trans (hide_len r.mlen).symm, fun i d hm e => ?_, fun i d hm e => ?_, fun i j a z => (by cases z), fun i a z => (by cases z), fun i a z => (by cases z), r.own0, r.jar, r.js, r.jf1, r.jf0, fun p hp => ⟨(r.fr p hp).1, fun a z => (r.fr p hp).2 a (z.imp_right fun ⟨i, y⟩ => by cases y)⟩⟩
  · obtain ⟨e1, _⟩ := hide_get e
    obtain ⟨v, e2, e3⟩ := r.plain i d hm e1
    exact ⟨v, e2, e3.less l⟩
  · exact absurd (hide_get e).2 hm
theorem RS.keepR (b ok : Bool) (r : RS K M jx jf O0 jo0 Fs ow jo H σv σd J) : ∃ ow', RS K M jx jf O0 jo0 Fs ow' jo H σv (keepR b M ok σd) J ∧ (∀ a, OO O0 jo ow' a → OO O0 jo ow a) ∧ ((b = true ∧ ok = false) ∧ ow' = noOw ∨ ((b = false ∨ ok = true) ∧ ow' = ow)) := by
  unfold Ev.keepR
  by_cases h : (!b || ok) = true
  · rw [if_pos h]
    refine ⟨ow, r, fun _ z => z, .inr ⟨?_, rfl⟩⟩
    cases b
    · exact .inl rfl
    · exact .inr (by simpa using h)
  · rw [if_neg h]
    refine ⟨noOw, r.kill, fun a z => ?_, .inl ⟨?_, rfl⟩⟩
    · rcases z with z | ⟨i, z⟩
      · exact .inl z
      · cases z
    · cases b
      · simp at h
      · exact ⟨rfl, by simpa using h⟩
/-- behind an expression -/
theorem RS.stp (r : RS K M jx jf O0 jo0 Fs ow jo H σv σd J) (k : Kp (Jo jo) H H') (j : JRel H' (OJ O0 jo) jo J') : RS K M jx jf O0 jo0 Fs ow jo H' σv σd J' := by
  have k' : Kp (OO O0 jo ow) H H' := k.mono fun a z => .inl (.inr z)
  refine ⟨r.len, r.mlen, fun i d hm e => ?_, fun i d hm e => ?_, r.inj, r.dis, fun i a z => k.there a (r.live i a z), fun a z => k.there a (r.own0 a z), j, r.js, r.jf1, r.jf0, fun p hp => ⟨(r.fr p hp).1.trans' k fun a z => (r.fr p hp).2 a (.inl z), (r.fr p hp).2⟩⟩
  · obtain ⟨v, e1, e2⟩ := r.plain i d hm e
    exact ⟨v, e1, e2.keep k'⟩
  · obtain ⟨v, e1, e2⟩ := r.owned i d hm e
    refine ⟨v, e1, e2.imp (fun ⟨h1, h2⟩ => ⟨h1, h2.keep k'⟩) fun ⟨a, xs, ds, h1, h2, h3, h4, h5⟩ => ⟨a, xs, ds, h1, h2, h3, ?_, h5.keep k'⟩⟩
    exact k.at_ a _ h4 (.inl fun z => r.dis i a h3 (.inr z))
/-- a value that an expression gave, seen apart from the lists that are written -/
theorem RS.val (b : Bool) {e : Ex} {v : V} {d : PyData} {ow' : Nat → Option Addr} (r : RS K M jx jf O0 jo0 Fs ow jo H σv σd J) (c : (b = true ∧ okR e d = false) ∧ ow' = noOw ∨ ((b = false ∨ okR e d = true) ∧ ow' = ow)) (dv : DF K H' (vO b O0 jo ow) v d)
    (f : isFresh e = true → FrV K H H' (vO b O0 jo ow) d v) : DF K H' (OO O0 jo ow') v d ∧ (isFresh e = true → FrV K H H' (OO O0 jo ow') d v) := by
  rcases c with ⟨⟨hb, ho⟩, e1⟩ | ⟨h, e1⟩
  · subst hb
    subst e1
    have l : ∀ a, OO O0 jo noOw a → OJ O0 jo a := fun a z => by
      rcases z with z | ⟨i, z⟩
      · exact z
      · cases z
    refine ⟨DF.less (O := OJ O0 jo) (fun a z => .inl (l a z)) dv, fun z ds a e1 e2 => ?_⟩
    obtain ⟨g1, xs, g2, g3⟩ := f z ds a e1 e2
    exact ⟨g1, xs, g2, g3.less fun x y => .inl (y.imp_left (l x))⟩
  · subst e1
    cases b with
    | false => exact ⟨dv, f⟩
    | true =>
      have ho : okR e d = true := by
        rcases h with z | z
        · cases z
        · exact z
      unfold okR at ho
      rw [Bool.or_eq_true] at ho
      rcases ho with ho | ho
      · refine ⟨dv.noL _ ho, fun z ds a e1 e2 => ?_⟩
        subst e1
        simp [noL] at ho
      · rw [Bool.and_eq_true] at ho
        obtain ⟨h1, h2⟩ := ho
        split at h2
        · rename_i ds
          obtain ⟨a, xs, rfl, s1, n1, r1⟩ := dv.inj_list
          obtain ⟨g1, xs', g2, g3⟩ := f h1 ds a rfl rfl
          exact ⟨.lst s1 (fun z => r.liveO a z g1) (r1.noL _ h2), fun _ ds' a' e1 e2 => by cases e1; cases e2; exact ⟨g1, xs', g2, g3.noL _ h2⟩⟩
        · cases h2

/-! ### names given -/
theorem getElem?_setL {α : Type} {l : List α} {i k : Nat} {x y : α} (h : (l.set i x)[k]? = some y) : (k = i ∧ y = x) ∨ (k ≠ i ∧ l[k]? = some y) := by
  rw [List.getElem?_set] at h
  split at h
  · rename_i z
    split at h
    · exact .inl ⟨z.symm, (Option.some.inj h).symm⟩
    · cases h
  · rename_i z
    exact .inr ⟨fun q => z q.symm, h⟩
theorem set_at {σv : L2.St} {σd : Sd} (hl : σd.length = σv.length) {i : Nat} {o : Option PyData} {x y : Option V} {z : Option PyData} (h : (σd.set i o)[i]? = some z) : (σv.set i x)[i]? = some x := by
  rw [List.getElem?_set_self']
  have : i < σd.length := by
    rcases Nat.lt_or_ge i σd.length with q | q
    · exact q
    · rw [List.getElem?_eq_none (by simpa using q)] at h; cases h
  rw [List.getElem?_eq_getElem (by omega)]; rfl
theorem RS.set0 (r : RS K M jx jf O0 jo0 Fs ow jo H σv σd J) {i : Nat} {v : V} {d : PyData} (hm : M.getD i 0 = 0) (hj : jx ≠ some i) (h : DF K H (OO O0 jo ow) v d) : RS K M jx jf O0 jo0 Fs ow jo H (σv.set i (some v)) (σd.set i (some d)) J := by
  refine ⟨by simp [r.len], by simp [r.mlen], fun k e hk he => ?_, fun k e hk he => ?_, r.inj, r.dis, r.live, r.own0, r.jar, fun j ej => ?_, r.jf1, r.jf0, r.fr⟩
  · rcases getElem?_setL he with ⟨e1, e2⟩ | ⟨e1, e2⟩
    · subst e1; cases e2
      exact ⟨v, set_at (y := none) r.len he, h⟩
    · obtain ⟨w, h1, h2⟩ := r.plain k e hk e2
      exact ⟨w, by rw [List.getElem?_set_ne (Ne.symm e1)]; exact h1, h2⟩
  · rcases getElem?_setL he with ⟨e1, e2⟩ | ⟨e1, e2⟩
    · subst e1; exact absurd hm hk
    · obtain ⟨w, h1, h2⟩ := r.owned k e hk e2
      exact ⟨w, by rw [List.getElem?_set_ne (Ne.symm e1)]; exact h1, h2⟩
  · obtain ⟨k, e1, e2⟩ := r.js j ej
    exact ⟨k, e1, by rw [List.getElem?_set_ne (fun z => hj (by rw [e1, z]))]; exact e2⟩
theorem RS.set1 (r : RS K M jx jf O0 jo0 Fs ow jo H σv σd J) {i : Nat} {v : V} {d : PyData} (hm : M.getD i 0 ≠ 0) (hj : jx ≠ some i) (hn : noL d = true) (h : DF K H (OO O0 jo ow) v d) : RS K M jx jf O0 jo0 Fs ow jo H (σv.set i (some v)) (σd.set i (some d)) J := by
  refine ⟨by simp [r.len], by simp [r.mlen], fun k e hk he => ?_, fun k e hk he => ?_, r.inj, r.dis, r.live, r.own0, r.jar, fun j ej => ?_, r.jf1, r.jf0, r.fr⟩
  · rcases getElem?_setL he with ⟨e1, e2⟩ | ⟨e1, e2⟩
    · subst e1; exact absurd hk hm
    · obtain ⟨w, h1, h2⟩ := r.plain k e hk e2
      exact ⟨w, by rw [List.getElem?_set_ne (Ne.symm e1)]; exact h1, h2⟩
  · rcases getElem?_setL he with ⟨e1, e2⟩ | ⟨e1, e2⟩
    · subst e1; cases e2
      exact ⟨v, set_at (y := none) r.len he, .inl ⟨hn, h⟩⟩
    · obtain ⟨w, h1, h2⟩ := r.owned k e hk e2
      exact ⟨w, by rw [List.getElem?_set_ne (Ne.symm e1)]; exact h1, h2⟩
  · obtain ⟨k, e1, e2⟩ := r.js j ej
    exact ⟨k, e1, by rw [List.getElem?_set_ne (fun z => hj (by rw [e1, z]))]; exact e2⟩
def owSet (ow : Nat → Option Addr) (i : Nat) (a : Addr) : Nat → Option Addr := fun k => if k = i then some a else ow k
theorem owSet_cases {ow : Nat → Option Addr} {i k : Nat} {a x : Addr} (h : owSet ow i a k = some x) : (k = i ∧ x = a) ∨ (k ≠ i ∧ ow k = some x) := by
  unfold owSet at h
  split at h
  · exact .inl ⟨by assumption, (Option.some.inj h).symm⟩
  · exact .inr ⟨by assumption, h⟩
theorem owSet_sub {i : Nat} {a x : Addr} (h : OO O0 jo (owSet ow i a) x) : OO O0 jo ow x ∨ x = a := by
  rcases h with h | ⟨k, h⟩
  · exact .inl (.inl h)
  · rcases owSet_cases h with ⟨_, e⟩ | ⟨_, e⟩
    · exact .inr e
    · exact .inl (.inr ⟨k, e⟩)
/-- a new list given to a name whose list is written -/
theorem RS.setNew (r : RS K M jx jf O0 jo0 Fs ow jo H σv σd J) (k : Kp (Jo jo) H H') (j : JRel H' (OJ O0 jo) jo J') {i : Nat} {a : Addr} {xs : List V} {ds : List PyData} (hm : M.getD i 0 ≠ 0) (hj : jx ≠ some i) (hn : H a = none) (hl : H' a = some (.lst xs)) (hd : DFs K H' (Od (OO O0 jo ow) a) xs ds) :
    RS K M jx jf O0 jo0 Fs (owSet ow i a) jo H' (σv.set i (some (.ref a))) (σd.set i (some (.list ds))) J' := by
  have k' : Kp (OO O0 jo ow) H H' := k.mono fun a z => .inl (.inr z)
  have l : ∀ x, OO O0 jo (owSet ow i a) x → OO O0 jo ow x ∨ H x = none := fun x z => (owSet_sub z).imp_right fun q => by rw [q]; exact hn
  have nj : ¬ OJ O0 jo a := fun z => r.liveJ a z hn
  refine ⟨by simp [r.len], by simp [r.mlen], fun m e hk he => ?_, fun m e hk he => ?_, fun m n x h1 h2 => ?_, fun m x h => ?_, fun m x h => ?_, fun x z => k.there x (r.own0 x z), j, fun j' ej => ?_, r.jf1, r.jf0, fun p hp => ⟨(r.fr p hp).1.trans' k fun x z => (r.fr p hp).2 x (.inl z), fun x z => ?_⟩⟩
  · rcases getElem?_setL he with ⟨e1, e2⟩ | ⟨e1, e2⟩
    · subst e1; exact absurd hk hm
    · obtain ⟨w, h1, h2⟩ := r.plain m e hk e2
      exact ⟨w, by rw [List.getElem?_set_ne (Ne.symm e1)]; exact h1, h2.move k' l⟩
  · rcases getElem?_setL he with ⟨e1, e2⟩ | ⟨e1, e2⟩
    · subst e1; cases e2
      exact ⟨_, set_at (y := none) r.len he, .inr ⟨a, xs, ds, rfl, rfl, by unfold owSet; rw [if_pos rfl], hl, hd.less fun x z => .inl (owSet_sub z)⟩⟩
    · obtain ⟨w, h1, h2⟩ := r.owned m e hk e2
      refine ⟨w, by rw [List.getElem?_set_ne (Ne.symm e1)]; exact h1, h2.imp (fun ⟨q1, q2⟩ => ⟨q1, q2.move k' l⟩) fun ⟨b, ys, es, q1, q2, q3, q4, q5⟩ => ⟨b, ys, es, q1, q2, by unfold owSet; rw [if_neg e1]; exact q3, ?_, q5.move k' l⟩⟩
      exact k.at_ b _ q4 (.inl fun z => r.dis m b q3 (.inr z))
  · rcases owSet_cases h1 with ⟨e1, e2⟩ | ⟨e1, e2⟩
    · rcases owSet_cases h2 with ⟨e3, e4⟩ | ⟨e3, e4⟩
      · rw [e1, e3]
      · rw [e2] at e4; exact absurd hn (r.live n a e4)
    · rcases owSet_cases h2 with ⟨e3, e4⟩ | ⟨e3, e4⟩
      · rw [e4] at e2; exact absurd hn (r.live m a e2)
      · exact r.inj m n x e2 e4
  · rcases owSet_cases h with ⟨e1, e2⟩ | ⟨e1, e2⟩
    · rw [e2]; exact nj
    · exact r.dis m x e2
  · rcases owSet_cases h with ⟨e1, e2⟩ | ⟨e1, e2⟩
    · rw [e2, hl]; exact fun z => nomatch z
    · exact k.there x (r.live m x e2)
  · obtain ⟨m, e1, e2⟩ := r.js j' ej
    exact ⟨m, e1, by rw [List.getElem?_set_ne (fun z => hj (by rw [e1, z]))]; exact e2⟩
  · rcases z with z | ⟨m, z⟩
    · exact (r.fr p hp).2 x (.inl z)
    · rcases owSet_cases z with ⟨e1, e2⟩ | ⟨e1, e2⟩
      · exact .inr (by rw [e2]; exact (r.fr p hp).1.gone hn)
      · exact (r.fr p hp).2 x (.inr ⟨m, e2⟩)
/-- a list written -/
theorem RS.wr (r : RS K M jx jf O0 jo0 Fs ow jo H σv σd J) {i : Nat} {a : Addr} {xs xs' : List V} {ds' : List PyData} (hm : M.getD i 0 ≠ 0) (ha : ow i = some a) (hl : H a = some (.lst xs)) (hv : σv[i]? = some (some (.ref a))) (hd : DFs K H (OO O0 jo ow) xs' ds') :
    RS K M jx jf O0 jo0 Fs ow jo (upd H a (.lst xs')) σv (σd.set i (some (.list ds'))) J := by
  have kw : Kp (OO O0 jo ow) H (upd H a (.lst xs')) := .write (.inr ⟨i, ha⟩) hl trivial
  have k1 : Kp (fun x => x = a) H (upd H a (.lst xs')) := .write rfl hl trivial
  refine ⟨by simp [r.len], by simp [r.mlen], fun m e hk he => ?_, fun m e hk he => ?_, r.inj, r.dis, fun m x h => kw.there x (r.live m x h), fun x z => kw.there x (r.own0 x z), ?_, r.js, r.jf1, r.jf0, fun p hp => ⟨(r.fr p hp).1.trans' k1 fun x z => (r.fr p hp).2 x (.inr ⟨i, by rw [z]; exact ha⟩), (r.fr p hp).2⟩⟩
  · rcases getElem?_setL he with ⟨e1, e2⟩ | ⟨e1, e2⟩
    · subst e1; exact absurd hk hm
    · obtain ⟨w, h1, h2⟩ := r.plain m e hk e2
      exact ⟨w, h1, h2.keep kw⟩
  · rcases getElem?_setL he with ⟨e1, e2⟩ | ⟨e1, e2⟩
    · subst e1; cases e2
      exact ⟨_, hv, .inr ⟨a, xs', ds', rfl, rfl, ha, upd_same, hd.keep kw⟩⟩
    · obtain ⟨w, h1, h2⟩ := r.owned m e hk e2
      refine ⟨w, h1, h2.imp (fun ⟨q1, q2⟩ => ⟨q1, q2.keep kw⟩) fun ⟨b, ys, es, q1, q2, q3, q4, q5⟩ => ⟨b, ys, es, q1, q2, q3, ?_, q5.keep kw⟩⟩
      rw [upd_ne (fun z => e1 (r.inj m i a (by rw [← z]; exact q3) ha))]
      exact q4
  · have q := r.jar
    cases jo with
    | none => cases J with
      | none => trivial
      | some _ => exact q.elim
    | some jj => cases J with
      | none => exact q.elim
      | some ns => exact ⟨q.1, by rw [upd_ne (fun z => r.dis i a ha (.inr (by rw [z])))]; exact q.2⟩
/-- an owned name's list -/
theorem RS.get1 (r : RS K M jx jf O0 jo0 Fs ow jo H σv σd J) {i : Nat} {ds : List PyData} (hm : M.getD i 0 ≠ 0) (h0 : listAt σd i = some ds) : ∃ a xs, σv[i]? = some (some (.ref a)) ∧ ow i = some a ∧ H a = some (.lst xs) ∧ DFs K H (OO O0 jo ow) xs ds := by
  have h : σd.getD i none = some (.list ds) := by
    unfold listAt at h0
    split at h0
    · rename_i z; cases h0; exact z
    · cases h0
  have e : σd[i]? = some (some (.list ds)) := by
    rw [List.getD_eq_getElem?_getD] at h
    cases q : σd[i]? with
    | none => rw [q] at h; cases h
    | some o => rw [q] at h; exact congrArg some h
  obtain ⟨v, e1, e2⟩ := r.owned i _ hm e
  rcases e2 with ⟨e3, _⟩ | ⟨a, xs, ds', rfl, e4, e5, e6, e7⟩
  · simp [noL] at e3
  · cases e4
    exact ⟨a, xs, e1, e5, e6, e7⟩
end
end Ev
end

section
set_option maxRecDepth 100000
set_option maxHeartbeats 1000000
/-! Readings of statements. -/
namespace Ev
open PySem PySem.Spec PyProof.Rows L2

/-- what is wanted behind a block -/
def EndOk (K : PySem.W.Frag) (M : List Nat) (jx : Option Nat) (jf fr : Bool) (O0 : Addr → Prop) (jo0 : Option Addr) (He : Hp) (Fs : List ((Addr → Prop) × Hp)) (D : Ends) : Out → Jr → Prop
  | .nx σd, J => ∀ σv H ow jo, RS K M jx jf O0 jo0 Fs ow jo H σv σd J → D.nx σv H
  | .bk σd, J => ∀ σv H ow jo, RS K M jx jf O0 jo0 Fs ow jo H σv σd J → D.bk σv H
  | .ct σd, J => ∀ σv H ow jo, RS K M jx jf O0 jo0 Fs ow jo H σv σd J → D.ct σv H
  | .rt d, J => ∀ v H, Kp (Jo jo0) He H → JRel H O0 jo0 (if jf then J else none) → DF K H O0 v d → (fr = true → FrV K He H O0 d v) → D.rt v H
def tS (K : PySem.W.Frag) (M : List Nat) (jx : Option Nat) (jf fr : Bool) (F : Sd → Mo Out) : TS := fun D σv H =>
  ∃ O0 jo0 He Fs ow jo σd J, (Jo jo0, He) ∈ Fs ∧ (∀ j, jo0 = some j → O0 j) ∧ RS K M jx jf O0 jo0 Fs ow jo H σv σd J ∧ (F σd J).Ok (EndOk K M jx jf fr O0 jo0 He Fs D)

section
variable {K : PySem.W.Frag} {M : List Nat} {jx : Option Nat} {jf fr : Bool} {D : Ends} {σv : L2.St} {H : Hp} {Φ : Fns} {fuel : Nat}
theorem ownOk_some {own : Nat} {e : Ex} {d : PyData} (h : ownOk own e d = true) : own = 0 ∨ (own ≠ 0 ∧ (noL d = true ∨ (isFresh e = true ∧ ∃ ds, d = .list ds))) := by
  unfold ownOk at h
  rw [Bool.or_eq_true, decide_eq_true_eq] at h
  rcases h with h | h
  · exact .inl h
  · rw [Bool.and_eq_true, decide_eq_true_eq, Bool.or_eq_true, Bool.and_eq_true] at h
    refine .inr ⟨by omega, h.2.imp id fun ⟨h1, h2⟩ => ⟨h1, ?_⟩⟩
    split at h2
    · exact ⟨_, rfl⟩
    · cases h2
/-- a name is given -/
theorem RS.give {O0 : Addr → Prop} {jo0 jo : Option Addr} {Fs : List ((Addr → Prop) × Hp)} {ow : Nat → Option Addr} {H' : Hp} {σd : Sd} {J J' : Jr} (r : RS K M jx jf O0 jo0 Fs ow jo H σv σd J) (k : Kp (Jo jo) H H') (j : JRel H' (OJ O0 jo) jo J') {i : Nat} {e : Ex} {v : V} {d : PyData}
    (hj : jx ≠ some i) (ho : ownOk (M.getD i 0) e d = true) (dv : DF K H' (OO O0 jo ow) v d) (f : isFresh e = true → FrV K H H' (OO O0 jo ow) d v) : ∃ ow', RS K M jx jf O0 jo0 Fs ow' jo H' (σv.set i (some v)) (σd.set i (some d)) J' ∧ ∀ x, OO O0 jo ow' x → OO O0 jo ow x ∨ H x = none := by
  rcases ownOk_some ho with h | ⟨h, hn | ⟨hf, ds, rfl⟩⟩
  · exact ⟨ow, (r.stp k j).set0 h hj dv, fun x z => .inl z⟩
  · exact ⟨ow, (r.stp k j).set1 h hj hn dv, fun x z => .inl z⟩
  · obtain ⟨a, xs, rfl, s1, n1, r1⟩ := dv.inj_list
    obtain ⟨g1, xs', g2, g3⟩ := f hf ds a rfl rfl
    exact ⟨owSet ow i a, r.setNew k j h hj g1 g2 g3, fun x z => (owSet_sub z).imp_right fun q => by rw [q]; exact g1⟩
theorem asg_tS {i own : Nat} {b : Bool} {e : Ex} (ho : own = M.getD i 0) (hj : jx ≠ some i) (h : tS K M jx jf fr (evS Φ fuel M (.asg i own b e)) D σv H) : tV K jx (isFresh e) (evE Φ e) σv H fun x H1 => D.nx (σv.set i (some x)) H1 := by
  obtain ⟨O0, jo0, He, Fs, ow, jo, σd, J, m, jO, r, w⟩ := h
  obtain ⟨d, J1, e1, w1⟩ := Mo.bind_ok w
  refine .to (r.rel b) e1 fun v H1 k1 j1 dv f => ?_
  split at w1
  · rename_i hok
    subst ho
    obtain ⟨ow', r', _, c⟩ := r.keepR b (okR e d)
    obtain ⟨dv', f'⟩ := r.val b c dv f
    obtain ⟨ow2, r2, _⟩ := r'.give k1 j1.toJ hj hok dv' f'
    exact w1 _ H1 ow2 jo r2
  · exact w1.elim
/-- targets over any relation that storing keeps -/
theorem gT_P {O : Addr → Prop} {P : L2.St → Sd → Prop} : ∀ (t : Tg), (∀ i ∈ slots t, ∀ v d σv σd, P σv σd → DF K H O v d → P (σv.set i (some v)) (σd.set i (some d))) → ∀ {v : V} {d : PyData} {σv : L2.St} {σd σd' : Sd} {Q : L2.St → Hp → Prop}, P σv σd → DF K H O v d → setTg t d σd = some σd' →
    (∀ σv', P σv' σd' → Q σv' H) → gT K t v σv H Q := by
  have both : ∀ n : Nat, (∀ t : Tg, sizeOf t ≤ n → (∀ i ∈ slots t, ∀ v d σv σd, P σv σd → DF K H O v d → P (σv.set i (some v)) (σd.set i (some d))) → ∀ {v : V} {d : PyData} {σv : L2.St} {σd σd' : Sd} {Q : L2.St → Hp → Prop}, P σv σd → DF K H O v d → setTg t d σd = some σd' → (∀ σv', P σv' σd' → Q σv' H) → gT K t v σv H Q) ∧
      (∀ ts : List Tg, sizeOf ts ≤ n → (∀ i ∈ slotss ts, ∀ v d σv σd, P σv σd → DF K H O v d → P (σv.set i (some v)) (σd.set i (some d))) → ∀ {vs : List V} {ds : List PyData} {σv : L2.St} {σd σd' : Sd} {Q : L2.St → Hp → Prop}, P σv σd → DFs K H O vs ds → setTgs ts ds σd = some σd' → (∀ σv', P σv' σd' → Q σv' H) → gTs K ts vs σv H Q) := by
    intro n
    induction n with
    | zero =>
      refine ⟨fun t ht => ?_, fun ts ht => ?_⟩
      · cases t <;> simp at ht
      · cases ts <;> simp at ht
    | succ n ih =>
      refine ⟨fun t ht hP v d σv σd σd' Q p h e q => ?_, fun ts ht hP vs ds σv σd σd' Q p h e q => ?_⟩
      · cases t with
        | name i =>
          rw [setTg] at e
          cases e
          rw [gT]
          exact q _ (hP i (by rw [slots]; exact List.mem_singleton.mpr rfl) _ _ _ _ p h)
        | tup ts =>
          cases d with
          | tuple ds =>
            rw [setTg] at e
            obtain ⟨a, xs, rfl, s1, r1⟩ := h.inj_tup
            rw [gT]
            exact ⟨a, xs, rfl, s1, by rw [r1.length]; exact setTgs_len (K := K) (H := H) (O := O) e, ih.2 ts (by simp at ht; omega) (fun i hi => hP i (by rw [slots]; exact hi)) p r1 e q⟩
          | none => rw [setTg] at e; cases e; all_goals nofun
          | bool _ => rw [setTg] at e; cases e; all_goals nofun
          | int _ => rw [setTg] at e; cases e; all_goals nofun
          | str _ => rw [setTg] at e; cases e; all_goals nofun
          | list _ => rw [setTg] at e; cases e; all_goals nofun
          | dict _ => rw [setTg] at e; cases e; all_goals nofun
      · cases ts with
        | nil =>
          cases h with
          | nil =>
            rw [setTgs] at e
            cases e
            rw [gTs]
            exact ⟨rfl, q _ p⟩
          | cons _ _ => rw [setTgs] at e; cases e; all_goals nofun
        | cons t ts =>
          cases h with
          | nil => rw [setTgs] at e; cases e; all_goals nofun
          | cons h1 h2 =>
            rename_i v vs d ds
            rw [setTgs] at e
            cases e1 : setTg t d σd with
            | none => rw [e1] at e; cases e
            | some σ1 =>
              rw [e1] at e
              rw [gTs]
              simp at ht
              refine ⟨_, _, rfl, ih.1 t (by omega) (fun i hi => hP i (by rw [slotss]; exact List.mem_append_left _ hi)) p h1 e1 fun σv1 p1 => ih.2 ts (by omega) (fun i hi => hP i (by rw [slotss]; exact List.mem_append_right _ hi)) p1 h2 e q⟩
  intro t
  exact (both (sizeOf t)).1 t (Nat.le_refl _)
/-- plain names only -/
def plainT (M : List Nat) (jx : Option Nat) (t : Tg) : Bool := (slots t).all fun i => decide (M.getD i 0 = 0) && decide (jx ≠ some i)
theorem RS.tgt {O0 : Addr → Prop} {jo0 jo : Option Addr} {Fs : List ((Addr → Prop) × Hp)} {ow : Nat → Option Addr} {σd σd' : Sd} {J : Jr} {t : Tg} {v : V} {d : PyData} {Q : L2.St → Hp → Prop} (r : RS K M jx jf O0 jo0 Fs ow jo H σv σd J) (hp : plainT M jx t = true) (dv : DF K H (OO O0 jo ow) v d) (e : setTg t d σd = some σd')
    (q : ∀ σv', RS K M jx jf O0 jo0 Fs ow jo H σv' σd' J → Q σv' H) : gT K t v σv H Q := by
  refine gT_P (P := fun σv σd => RS K M jx jf O0 jo0 Fs ow jo H σv σd J) t (fun i hi v d σv σd r h => ?_) r dv e q
  have z := List.all_eq_true.mp hp i hi
  simp only [Bool.and_eq_true, decide_eq_true_eq] at z
  exact r.set0 z.1 z.2 h
theorem asgT_tS {t : Tg} {b : Bool} {e : Ex} (hp : plainT M jx t = true) (h : tS K M jx jf fr (evS Φ fuel M (.asgT t b e)) D σv H) : tV K jx (isFresh e) (evE Φ e) σv H fun x H1 => gT K t x σv H1 D.nx := by
  obtain ⟨O0, jo0, He, Fs, ow, jo, σd, J, m, jO, r, w⟩ := h
  obtain ⟨d, J1, e1, w1⟩ := Mo.bind_ok w
  obtain ⟨σ1, J1', g, w2⟩ := Mo.bind_ok w1
  obtain ⟨e2, ej⟩ := Mo.opt_eq g
  clear w w1 g
  subst ej
  refine .to (r.rel b) e1 fun v H1 k1 j1 dv f => ?_
  obtain ⟨ow', r', _, c⟩ := r.keepR b (okR e d)
  obtain ⟨dv', f'⟩ := r.val b c dv f
  exact (r'.stp k1 j1.toJ).tgt hp dv' e2 fun σv' r2 => w2 σv' H1 ow' jo r2
theorem ret_tS {e : Ex} (hf : fr = true → isFresh e = true) (h : tS K M jx jf fr (evS Φ fuel M (.ret e)) D σv H) : tV K jx (isFresh e) (evE Φ e) σv H D.rt := by
  obtain ⟨O0, jo0, He, Fs, ow, jo, σd, J, m, jO, r, w⟩ := h
  obtain ⟨d, J1, e1, w1⟩ := Mo.bind_ok w
  refine .to (r.rel true) e1 fun v H1 k1 j1 dv f => ?_
  have l : ∀ a, O0 a → OJ O0 jo a := fun a z => .inl z
  have kp := ((r.fr _ m).1.trans' k1 fun x z => (r.fr _ m).2 x (.inl z))
  refine w1 v H1 kp ?_ (DF.less (O := OJ O0 jo) (fun a z => .inl (l a z)) dv) fun z ds a q1 q2 => ?_
  · cases hjf : jf with
    | true =>
      have ej := r.jf1 hjf
      subst ej
      exact j1.re fun j e => jO j e
    | false =>
      have ej := r.jf0 hjf
      subst ej
      exact trivial
  · obtain ⟨g1, xs, g2, g3⟩ := f (hf z) ds a q1 q2
    exact ⟨(r.fr _ m).1.gone g1, xs, g2, g3.less fun x y => .inl (y.imp_left (l x))⟩
theorem retN_tS (h : tS K M jx jf fr (evS Φ fuel M .retN) D σv H) : D.rt .non H := by
  obtain ⟨O0, jo0, He, Fs, ow, jo, σd, J, m, jO, r, w⟩ := h
  refine w .non H (r.fr _ m).1 ?_ .non fun _ _ _ e => nomatch e
  cases hjf : jf with
  | true =>
    have ej := r.jf1 hjf
    subst ej
    exact r.jar.re fun j e => jO j e
  | false =>
    have ej := r.jf0 hjf
    subst ej
    exact trivial
theorem ex_tS {e : Ex} (h : tS K M jx jf fr (evS Φ fuel M (.ex e)) D σv H) : tV K jx (isFresh e) (evE Φ e) σv H fun _ H1 => D.nx σv H1 := by
  obtain ⟨O0, jo0, He, Fs, ow, jo, σd, J, m, jO, r, w⟩ := h
  obtain ⟨d, J1, e1, w1⟩ := Mo.bind_ok w
  exact .to (r.rel true) e1 fun v H1 k1 j1 dv f => w1 σv H1 ow jo (r.stp k1 j1.toJ)

/-! ### lists written -/
theorem app_tS {i : Nat} {b : Bool} {e : Ex} (hm : M.getD i 0 ≠ 0) (h : tS K M jx jf fr (evS Φ fuel M (.app i b e)) D σv H) : tBM K "list" rAppend (tVar i) (tCons (tV K jx (isFresh e) (evE Φ e)) tNil) σv H fun _ H1 => D.nx σv H1 := by
  obtain ⟨O0, jo0, He, Fs, ow, jo, σd, J, m, jO, r, w⟩ := h
  obtain ⟨d, J1, e1, w1⟩ := Mo.bind_ok w
  obtain ⟨ow', r', _, c⟩ := r.keepR b (okR e d)
  obtain ⟨ds, J1', g, w2⟩ := Mo.bind_ok w1
  obtain ⟨hds, ej⟩ := Mo.opt_eq g
  clear w w1 g
  subst ej
  split at w2
  · rename_i hz
    obtain ⟨a, xs, q1, q2, q3, q4⟩ := r'.get1 hm hds
    refine ⟨_, q1, .inl ⟨rfl, _, .inl (.inl q3)⟩, .to (r.rel b) e1 fun v H1 k1 j1 dv f => ?_⟩
    obtain ⟨dv', f'⟩ := r.val b c dv f
    have r2 := r'.stp k1 j1.toJ
    obtain ⟨a2, xs2, p1, p2, p3, p4⟩ := r2.get1 hm hds
    rw [q1] at p1; cases p1
    exact ⟨a, xs2, v, rfl, rfl, p3, by rw [p4.length]; exact hz, w2 σv _ ow' jo (r2.wr hm p2 p3 q1 (p4.append (.cons dv' .nil)))⟩
  · exact w2.elim
theorem ext_tS {i : Nat} {b : Bool} {e : Ex} (hm : M.getD i 0 ≠ 0) (h : tS K M jx jf fr (evS Φ fuel M (.ext i b e)) D σv H) : tBM K "list" rExtend (tVar i) (tCons (tV K jx (isFresh e) (evE Φ e)) tNil) σv H fun _ H1 => D.nx σv H1 := by
  obtain ⟨O0, jo0, He, Fs, ow, jo, σd, J, m, jO, r, w⟩ := h
  obtain ⟨d, J1, e1, w1⟩ := Mo.bind_ok w
  obtain ⟨ow', r', _, c⟩ := r.keepR b (okR e d)
  obtain ⟨ds, J1', g, w2⟩ := Mo.bind_ok w1
  obtain ⟨hds, ej⟩ := Mo.opt_eq g
  obtain ⟨es, J1'', g', w3⟩ := Mo.bind_ok w2
  obtain ⟨hes, ej'⟩ := Mo.opt_eq g'
  clear w w1 w2 g g'
  subst ej'
  subst ej
  split at w3
  · rename_i hz
    obtain ⟨a, xs, q1, q2, q3, q4⟩ := r'.get1 hm hds
    refine ⟨_, q1, .inl ⟨rfl, _, .inl (.inl q3)⟩, .to (r.rel b) e1 fun v H1 k1 j1 dv f => ?_⟩
    obtain ⟨dv', f'⟩ := r.val b c dv f
    have r2 := r'.stp k1 j1.toJ
    obtain ⟨a2, xs2, p1, p2, p3, p4⟩ := r2.get1 hm hds
    rw [q1] at p1; cases p1
    have ed : d = .list es := by cases d <;> first | (cases hes; rfl) | cases hes
    rw [ed] at dv'
    obtain ⟨a3, ys, rfl, s1, n1, z1⟩ := dv'.inj_list
    exact ⟨a, a3, xs2, ys, rfl, rfl, p3, s1, by rw [p4.length, z1.length]; exact hz, w3 σv _ ow' jo (r2.wr hm p2 p3 q1 (p4.append z1))⟩
  · exact w3.elim
theorem ixN_len {n m : Nat} {k : Int} {j : Nat} (h : n = m) (e : ixN n k = some j) : ixN m k = some j := by rw [← h]; exact e
theorem setI_tS {i : Nat} {b : Bool} {ix e : Ex} (hm : M.getD i 0 ≠ 0) (h : tS K M jx jf fr (evS Φ fuel M (.setI i b ix e)) D σv H) :
    tV K jx (isFresh e) (evE Φ e) σv H fun x H1 => gSub (tVar i) (tV K jx (isFresh ix) (evE Φ ix)) rSetL x σv H1 D.nx := by
  obtain ⟨O0, jo0, He, Fs, ow, jo, σd, J, m, jO, r, w⟩ := h
  obtain ⟨d, J1, e1, w1⟩ := Mo.bind_ok w
  obtain ⟨kd, J2, e2, w2⟩ := Mo.bind_ok w1
  obtain ⟨ds, J3, g, w3⟩ := Mo.bind_ok w2
  obtain ⟨hds, ej⟩ := Mo.opt_eq g
  obtain ⟨n, J4, g', w4⟩ := Mo.bind_ok w3
  obtain ⟨hk, ej'⟩ := Mo.opt_eq g'
  obtain ⟨j, J5, g'', w5⟩ := Mo.bind_ok w4
  obtain ⟨hz, ej''⟩ := Mo.opt_eq g''
  clear w w1 w2 w3 w4 g g' g''
  subst ej''
  subst ej'
  subst ej
  have ek := intD_some hk
  subst ek
  obtain ⟨ow', r', sub, c⟩ := r.keepR b (okR e d)
  refine .to (r.rel b) e1 fun v H1 k1 j1 dv f => ?_
  obtain ⟨dv', f'⟩ := r.val b c dv f
  have r2 := r'.stp k1 j1.toJ
  obtain ⟨a, xs, q1, q2, q3, q4⟩ := r2.get1 hm hds
  refine ⟨_, q1, .to ((r.stp k1 j1.toJ).rel true) e2 fun u H2 k2 j2 du _ => ?_⟩
  have r3 := r2.stp k2 j2.toJ
  obtain ⟨a2, xs2, p1, p2, p3, p4⟩ := r3.get1 hm hds
  rw [q1] at p1; cases p1
  have kO : Kp (OO O0 jo ow') H1 H2 := k2.mono fun x z => .inl (.inr z)
  exact ⟨a, xs2, n, j, rfl, du.inj_int, p3, ixN_len p4.length.symm hz, w5 σv _ ow' jo (r3.wr hm p2 p3 q1 (p4.set j (dv'.keep kO)))⟩
theorem last_get {α : Type} {l : List α} (h : l ≠ []) : ∃ y, l[l.length - 1]? = some y := by
  cases l with
  | nil => exact absurd rfl h
  | cons x xs => exact ⟨_, List.getElem?_eq_getElem (by simp)⟩
theorem popS_tS {i : Nat} (hm : M.getD i 0 ≠ 0) (h : tS K M jx jf fr (evS Φ fuel M (.popS i)) D σv H) : tBM0 K "list" rPop (tVar i) σv H fun _ H1 => D.nx σv H1 := by
  obtain ⟨O0, jo0, He, Fs, ow, jo, σd, J, m, jO, r, w⟩ := h
  obtain ⟨ds, J1, g, w1⟩ := Mo.bind_ok w
  obtain ⟨hds, ej⟩ := Mo.opt_eq g
  clear w g
  subst ej
  split at w1
  · exact w1.elim
  · rename_i he
    obtain ⟨a, xs, q1, q2, q3, q4⟩ := r.get1 hm hds
    have hx : xs ≠ [] := fun z => by subst z; cases q4; simp at he
    obtain ⟨y, hy⟩ := last_get hx
    exact ⟨_, q1, .inl ⟨rfl, _, .inl (.inl q3)⟩, a, xs, y, rfl, rfl, q3, hy, w1 σv _ ow jo (r.wr hm q2 q3 q1 q4.dropLast)⟩
theorem popA_tS {i j : Nat} (hm : M.getD i 0 ≠ 0) (hm2 : M.getD j 0 = 0) (hj : jx ≠ some j) (h : tS K M jx jf fr (evS Φ fuel M (.popA j i)) D σv H) : tBM0 K "list" rPop (tVar i) σv H fun x H1 => D.nx (σv.set j (some x)) H1 := by
  obtain ⟨O0, jo0, He, Fs, ow, jo, σd, J, m, jO, r, w⟩ := h
  obtain ⟨ds, J1, g, w1⟩ := Mo.bind_ok w
  obtain ⟨hds, ej⟩ := Mo.opt_eq g
  obtain ⟨d, J2, g', w2⟩ := Mo.bind_ok w1
  obtain ⟨hl, ej'⟩ := Mo.opt_eq g'
  clear w w1 g g'
  subst ej'
  subst ej
  split at w2
  · rename_i hn
    obtain ⟨a, xs, q1, q2, q3, q4⟩ := r.get1 hm hds
    rw [List.getLast?_eq_getElem?] at hl
    obtain ⟨y, hy, dy⟩ := q4.get hl
    rw [← q4.length] at hy
    exact ⟨_, q1, .inl ⟨rfl, _, .inl (.inl q3)⟩, a, xs, y, rfl, rfl, q3, hy, w2 _ _ ow jo ((r.wr hm q2 q3 q1 q4.dropLast).set0 hm2 hj (dy.keep (.write (.inr ⟨i, q2⟩) q3 trivial)))⟩
  · exact w2.elim

/-! ### the jar -/
theorem RS.wrJ {O0 : Addr → Prop} {jo0 : Option Addr} {Fs : List ((Addr → Prop) × Hp)} {ow : Nat → Option Addr} {σd : Sd} {ns ns' : List Int} {j : Addr} (r : RS K M jx jf O0 jo0 Fs ow (some j) H σv σd (some ns)) : RS K M jx jf O0 jo0 Fs ow (some j) (upd H j (.lst (ns'.map V.int))) σv σd (some ns') := by
  have hj : H j = some (.lst (ns.map V.int)) := r.jar.2
  have k : Kp (Jo (some j)) H (upd H j (.lst (ns'.map V.int))) := .write rfl hj trivial
  exact r.stp k ⟨.inr rfl, upd_same⟩
theorem jset_tS {k i : Nat} {e : Ex} (hx : jx = some i) (h : tS K M jx jf fr (evS Φ fuel M (.jset k e)) D σv H) : tV K jx (isFresh e) (evE Φ e) σv H fun x H1 => gSub (tVar i) (tC (.int (k : Int))) rSetL x σv H1 D.nx := by
  obtain ⟨O0, jo0, He, Fs, ow, jo, σd, J, m, jO, r, w⟩ := h
  obtain ⟨d, J1, e1, w1⟩ := Mo.bind_ok w
  obtain ⟨n, J1', g, w2⟩ := Mo.bind_ok w1
  obtain ⟨e2, ej⟩ := Mo.opt_eq g
  clear w w1 g
  subst ej
  have ex := intD_some e2
  subst ex
  refine .to (r.rel true) e1 fun v H1 k1 j1 dv f => ?_
  cases J1' with
  | none => exact w2.elim
  | some ns =>
    cases jo with
    | none => exact j1.elim
    | some j =>
      have w3 : (if k < ns.length then Rs.ok (Out.nx σd) (some (ns.set k n)) else Rs.no : Rs Out).Ok (EndOk K M jx jf fr O0 jo0 He Fs D) := w2
      split at w3
      · rename_i hk
        obtain ⟨i', ei, q1⟩ := r.js j rfl
        rw [hx] at ei; cases ei
        have r2 := r.stp k1 j1.toJ
        have hl : ixN (ns.map V.int).length (k : Int) = some k := by
          unfold ixN
          rw [List.length_map, if_pos (by omega), if_pos (by omega)]; simp
        refine ⟨_, q1, j, ns.map V.int, k, k, rfl, rfl, r2.jar.2, hl, ?_⟩
        rw [dv.inj_int, ← List.map_set]
        exact w3 σv _ ow _ r2.wrJ
      · exact w3.elim
theorem RS.newJar {O0 : Addr → Prop} {jo0 jo : Option Addr} {Fs : List ((Addr → Prop) × Hp)} {ow : Nat → Option Addr} {H' : Hp} {σd : Sd} {J J' : Jr} (r : RS K M jx jf O0 jo0 Fs ow jo H σv σd J) (k : Kp (Jo jo) H H') (hjf : jf = false) {i : Nat} {a : Addr} {ns : List Int} (hx : jx = some i) (hi : i < σv.length) (hd : σd[i]? = some none) (hn : H a = none) (hl : H' a = some (.lst (ns.map V.int))) :
    RS K M jx jf O0 jo0 Fs ow (some a) H' (σv.set i (some (.ref a))) σd (some ns) := by
  have k' : Kp (OO O0 jo ow) H H' := k.mono fun a z => .inl (.inr z)
  have l : ∀ x, OO O0 (some a) ow x → OO O0 jo ow x ∨ H x = none := fun x z => by
    rcases z with (z | z) | z
    · exact .inl (.inl (.inl z))
    · cases z; exact .inr hn
    · exact .inl (.inr z)
  have sk : ∀ (m : Nat) (e : PyData) (v : V), σd[m]? = some (some e) → σv[m]? = some (some v) → (σv.set i (some (.ref a)))[m]? = some (some v) := fun m e v h1 h2 => by
    have : i ≠ m := fun z => by subst z; rw [hd] at h1; cases h1
    rw [List.getElem?_set_ne this]; exact h2
  refine ⟨by rw [List.length_set]; exact r.len, r.mlen, fun m e hk he => ?_, fun m e hk he => ?_, r.inj, fun m x h z => ?_, fun m x h => k.there x (r.live m x h), fun x z => k.there x (r.own0 x z), ⟨.inr rfl, hl⟩, fun j' ej => ?_, fun z => (by rw [hjf] at z; cases z), r.jf0, fun p hp => ⟨(r.fr p hp).1.trans' k fun x z => (r.fr p hp).2 x (.inl z), fun x z => ?_⟩⟩
  · obtain ⟨w, h1, h2⟩ := r.plain m e hk he
    exact ⟨w, sk m e w he h1, h2.move k' l⟩
  · obtain ⟨w, h1, h2⟩ := r.owned m e hk he
    refine ⟨w, sk m e w he h1, h2.imp (fun ⟨q1, q2⟩ => ⟨q1, q2.move k' l⟩) fun ⟨b, ys, es, q1, q2, q3, q4, q5⟩ => ⟨b, ys, es, q1, q2, q3, ?_, q5.move k' l⟩⟩
    exact k.at_ b _ q4 (.inl fun z => r.dis m b q3 (.inr z))
  · rcases z with z | z
    · exact r.dis m x h (.inl z)
    · cases z; exact r.live m _ h hn
  · cases ej
    exact ⟨i, hx, by rw [List.getElem?_set_self hi]⟩
  · rcases z with z | ⟨m, z⟩
    · cases z; exact .inr ((r.fr p hp).1.gone hn)
    · exact (r.fr p hp).2 x (.inr ⟨m, z⟩)
end
end Ev
end

section
set_option maxRecDepth 100000
set_option maxHeartbeats 1000000
/-! Readings of blocks, tests, loops. -/
namespace Ev
open PySem PySem.Spec PyProof.Rows L2
section
variable {K : PySem.W.Frag} {M : List Nat} {jx : Option Nat} {jf fr : Bool} {D : Ends} {σv : L2.St} {H : Hp} {Φ : Fns} {fuel : Nat}

theorem nil_tS (h : tS K M jx jf fr (evSs Φ fuel M []) D σv H) : D.nx σv H := by
  obtain ⟨O0, jo0, He, Fs, ow, jo, σd, J, m, jO, r, w⟩ := h
  exact w σv H ow jo r
theorem pass_tS (h : tS K M jx jf fr (evS Φ fuel M .pass) D σv H) : D.nx σv H := by
  obtain ⟨O0, jo0, He, Fs, ow, jo, σd, J, m, jO, r, w⟩ := h
  exact w σv H ow jo r
theorem brk_tS (h : tS K M jx jf fr (evS Φ fuel M .brk) D σv H) : D.bk σv H := by
  obtain ⟨O0, jo0, He, Fs, ow, jo, σd, J, m, jO, r, w⟩ := h
  exact w σv H ow jo r
theorem cnt_tS (h : tS K M jx jf fr (evS Φ fuel M .cnt) D σv H) : D.ct σv H := by
  obtain ⟨O0, jo0, He, Fs, ow, jo, σd, J, m, jO, r, w⟩ := h
  exact w σv H ow jo r
theorem seq_tS {s : Sm} {ss : List Sm} (h : tS K M jx jf fr (evSs Φ fuel M (s :: ss)) D σv H) : tSeq (tS K M jx jf fr (evS Φ fuel M s)) (tS K M jx jf fr (evSs Φ fuel M ss)) D σv H := by
  obtain ⟨O0, jo0, He, Fs, ow, jo, σd, J, m, jO, r, w⟩ := h
  obtain ⟨o, J1, e1, w1⟩ := Mo.bind_ok w
  refine ⟨O0, jo0, He, Fs, ow, jo, σd, J, m, jO, r, ?_⟩
  rw [e1]
  cases o with
  | nx σ1 => exact fun σv' H' ow' jo' r' => ⟨O0, jo0, He, Fs, ow', jo', σ1, J1, m, jO, r', w1⟩
  | rt d => exact w1
  | bk σ1 => exact w1
  | ct σ1 => exact w1
theorem ite_tS {c : Ex} {a b : List Sm} (h : tS K M jx jf fr (evS Φ fuel M (.ite c a b)) D σv H) : tIfS (tT K jx (mT (evE Φ c))) (tS K M jx jf fr (evSs Φ fuel M a)) (tS K M jx jf fr (evSs Φ fuel M b)) D σv H := by
  obtain ⟨O0, jo0, He, Fs, ow, jo, σd, J, m, jO, r, w⟩ := h
  obtain ⟨x, J1, e1, w1⟩ := Mo.bind_ok w
  obtain ⟨k, J2, g, w2⟩ := Mo.bind_ok w1
  obtain ⟨e2, ej⟩ := Mo.opt_eq g
  clear w w1 g
  subst ej
  refine tT.to (r.rel true) (k := k) (J1 := J2) (by show mT (evE Φ c) σd J = _; unfold mT Mo.bind; rw [e1]; show Mo.opt (truthD x) _ = _; rw [e2]; rfl) fun H1 k1 j1 => ?_
  have r1 := r.stp k1 j1.toJ
  cases k with
  | true => rw [if_pos rfl]; exact ⟨O0, jo0, He, Fs, ow, jo, σd, J2, m, jO, r1, w2⟩
  | false => rw [if_neg Bool.false_ne_true]; exact ⟨O0, jo0, He, Fs, ow, jo, σd, J2, m, jO, r1, w2⟩
theorem whl_tS {c : Ex} {body : List Sm} (h : tS K M jx jf fr (evS Φ fuel M (.whl c body)) D σv H) : tWhile (tT K jx (mT (evE Φ c))) (tS K M jx jf fr (evSs Φ fuel M body)) D σv H := by
  obtain ⟨O0, jo0, He, Fs, ow, jo, σd, J, m, jO, r, w⟩ := h
  refine ⟨fun n σv H => ∃ ow jo σd J, RS K M jx jf O0 jo0 Fs ow jo H σv σd J ∧ (whlLoop (fun σ => Mo.bind (evE Φ c σ) fun x => Mo.opt (truthD x)) (fun σ => evSs Φ fuel M body σ) n σd J).Ok (EndOk K M jx jf fr O0 jo0 He Fs D), ⟨fuel, ow, jo, σd, J, r, w⟩, ?_⟩
  rintro n σv H ⟨ow, jo, σd, J, r, w⟩
  cases n with
  | zero => exact w.elim
  | succ n =>
    obtain ⟨k, J1, e1, w1⟩ := Mo.bind_ok (show (Mo.bind (mT (evE Φ c) σd) (fun k => match k with
      | false => Mo.pure (.nx σd)
      | true => Mo.bind (evSs Φ fuel M body σd) fun o => match o with
        | .nx σ1 => whlLoop (fun σ => Mo.bind (evE Φ c σ) fun x => Mo.opt (truthD x)) (fun σ => evSs Φ fuel M body σ) n σ1
        | .ct σ1 => whlLoop (fun σ => Mo.bind (evE Φ c σ) fun x => Mo.opt (truthD x)) (fun σ => evSs Φ fuel M body σ) n σ1
        | .bk σ1 => Mo.pure (.nx σ1)
        | .rt d => Mo.pure (.rt d)) J).Ok _ from w)
    refine tT.to (r.rel true) e1 fun H1 k1 j1 => ?_
    have r1 := r.stp k1 j1.toJ
    cases k with
    | false => rw [if_neg Bool.false_ne_true]; exact w1 σv H1 ow jo r1
    | true =>
      rw [if_pos rfl]
      obtain ⟨o, J2, e2, w2⟩ := Mo.bind_ok w1
      refine ⟨fun σ' H' => ∃ ow jo σd J, RS K M jx jf O0 jo0 Fs ow jo H' σ' σd J ∧ (whlLoop (fun σ => Mo.bind (evE Φ c σ) fun x => Mo.opt (truthD x)) (fun σ => evSs Φ fuel M body σ) n σd J).Ok (EndOk K M jx jf fr O0 jo0 He Fs D), fun σ' H' z => ⟨n, Nat.lt_succ_self n, z⟩, ?_⟩
      refine ⟨O0, jo0, He, Fs, ow, jo, σd, J1, m, jO, r1, ?_⟩
      rw [e2]
      cases o with
      | nx σ1 => exact fun σv' H' ow' jo' r' => ⟨ow', jo', σ1, J2, r', w2⟩
      | ct σ1 => exact fun σv' H' ow' jo' r' => ⟨ow', jo', σ1, J2, r', w2⟩
      | bk σ1 => exact w2
      | rt d => exact w2
/-- one more thing kept -/
theorem RS.push {O0 : Addr → Prop} {jo0 jo : Option Addr} {Fs : List ((Addr → Prop) × Hp)} {ow : Nat → Option Addr} {σd : Sd} {J : Jr} (r : RS K M jx jf O0 jo0 Fs ow jo H σv σd J) : RS K M jx jf O0 jo0 ((OO O0 jo ow, H) :: Fs) ow jo H σv σd J :=
  ⟨r.len, r.mlen, r.plain, r.owned, r.inj, r.dis, r.live, r.own0, r.jar, r.js, r.jf1, r.jf0, fun p hp => by
    rcases List.mem_cons.mp hp with e | hp
    · rw [e]
      exact ⟨.refl, fun a z => .inl (z.elim (fun q => .inl (.inr q)) .inr)⟩
    · exact r.fr p hp⟩
theorem RS.pop {O0 : Addr → Prop} {jo0 jo : Option Addr} {p : (Addr → Prop) × Hp} {Fs : List ((Addr → Prop) × Hp)} {ow : Nat → Option Addr} {σd : Sd} {J : Jr} (r : RS K M jx jf O0 jo0 (p :: Fs) ow jo H σv σd J) : RS K M jx jf O0 jo0 Fs ow jo H σv σd J :=
  ⟨r.len, r.mlen, r.plain, r.owned, r.inj, r.dis, r.live, r.own0, r.jar, r.js, r.jf1, r.jf0, fun p hp => r.fr p (List.mem_cons_of_mem _ hp)⟩
/-- something new, or nothing -/
theorem RS.grow {O0 : Addr → Prop} {jo0 jo : Option Addr} {Fs : List ((Addr → Prop) × Hp)} {ow : Nat → Option Addr} {H' : Hp} {σd : Sd} {J : Jr} (r : RS K M jx jf O0 jo0 Fs ow jo H σv σd J) (h : H' = H ∨ ∃ T xs, H T = none ∧ H' = upd H T (.tup xs)) : RS K M jx jf O0 jo0 Fs ow jo H' σv σd J := by
  rcases h with e | ⟨T, xs, hT, e⟩
  · rw [e]; exact r
  · rw [e]
    have k : Kp No H (upd H T (.tup xs)) := .new hT
    exact r.stp k.no (r.jar.keepNo k)
theorem for_tS {b : Bool} {t : Tg} {it : Itr} {body : List Sm} (hp : plainT M jx t = true) (h : tS K M jx jf fr (evS Φ fuel M (.forS b t it body)) D σv H) :
    tFor (tI K jx (okIt it) (evIt Φ it)) (gT K t) (tS K M jx jf fr (evSs Φ fuel M body)) D σv H := by
  obtain ⟨O0, jo0, He, Fs, ow, jo, σd, J, m, jO, r, w⟩ := h
  obtain ⟨ds, J1, e1, w1⟩ := Mo.bind_ok w
  refine ⟨_, jo, view b M σd, J, r.rel b, ?_⟩
  rw [e1]
  intro It H1 k1 j1 wk wk2
  obtain ⟨ow', r', _, c⟩ := r.keepR b (okIt it ds)
  have r1 := r'.stp k1 j1.toJ
  have wk3 : Wk K (OO O0 jo ow') It ds H1 := by
    rcases c with ⟨⟨hb, ho⟩, e⟩ | ⟨z, e⟩
    · subst hb
      subst e
      obtain ⟨Y, wy, hy⟩ := wk
      have same : OO O0 jo noOw = OJ O0 jo := by
        funext a
        apply propext
        exact ⟨fun z => z.elim id fun ⟨i, q⟩ => (by cases q), .inl⟩
      rw [same]
      exact ⟨Y, wy, hy⟩
    · cases b with
      | false => rw [e]; exact wk
      | true =>
        rcases z with z | z
        · cases z
        · exact wk2 z _ r'.liveO
  clear wk wk2 c
  obtain ⟨Y, wy, hy⟩ := wk3
  have r2 := r1.push
  have fin : ∀ {o J}, EndOk K M jx jf fr O0 jo0 He Fs D o J → EndOk K M jx jf fr O0 jo0 He ((OO O0 jo ow', H1) :: Fs) D o J := fun {o J} q => by
    cases o with
    | nx σ1 => exact fun σv' H' ow' jo' r' => q σv' H' ow' jo' r'.pop
    | ct σ1 => exact fun σv' H' ow' jo' r' => q σv' H' ow' jo' r'.pop
    | bk σ1 => exact fun σv' H' ow' jo' r' => q σv' H' ow' jo' r'.pop
    | rt d => exact q
  let f : PyData → Sd → Mo Out := fun d σ => Mo.bind (Mo.opt (setTg t d σ)) fun σ1 => evSs Φ fuel M body σ1
  refine for_it wy (fun i σv H => ∃ ow2 jo2 σd J, RS K M jx jf O0 jo0 ((OO O0 jo ow', H1) :: Fs) ow2 jo2 H σv σd J ∧ (forLoop f (ds.drop i) σd J).Ok (EndOk K M jx jf fr O0 jo0 He Fs D))
    ⟨ow', jo, _, J1, r2, by rw [List.drop_zero]; exact w1⟩ (fun i σ H _ ⟨ow2, jo2, σd, J, rr, _⟩ => (rr.fr _ (List.mem_cons_self ..)).1) (fun i x σ H H' hi ⟨ow2, jo2, σd2, J2, rr, q⟩ y => ?_) fun σ H ⟨ow2, jo2, σd2, J2, rr, q⟩ => ?_
  · have fr1 := rr.fr _ (List.mem_cons_self ..)
    obtain ⟨hh, hd⟩ := hy i H x H' hi fr1.1 y
    rw [drop_get hi] at q
    obtain ⟨o, J3, e3, q2⟩ := Mo.bind_ok (show (Mo.bind (f ds[i] σd2) (fun o => match o with
      | .nx σ1 => forLoop f (ds.drop (i + 1)) σ1
      | .ct σ1 => forLoop f (ds.drop (i + 1)) σ1
      | .bk σ1 => Mo.pure (.nx σ1)
      | .rt d => Mo.pure (.rt d)) J2).Ok _ from q)
    obtain ⟨σ1, J4, g, e5⟩ := Mo.bind_ok (ok_of e3)
    obtain ⟨e4, ej⟩ := Mo.opt_eq g
    clear g e3
    subst ej
    have dx := hd ds[i] (OO O0 jo2 ow2) (List.getElem?_eq_getElem hi) fun a z => by
      rcases z with (z | z) | z
      · exact .inl (.inl (.inl z))
      · exact fr1.2 a (.inl z)
      · exact fr1.2 a (.inr z)
    refine (rr.grow hh).tgt hp dx e4 fun σv' r3 => ?_
    refine ⟨O0, jo0, He, _, ow2, jo2, σ1, J4, List.mem_cons_of_mem _ m, jO, r3, e5.imp fun o' J' ⟨z1, z2⟩ => ?_⟩
    subst z1 z2
    cases o' with
    | nx σ1 => exact fun σv' H' ow' jo' r' => ⟨ow', jo', σ1, _, r', q2⟩
    | ct σ1 => exact fun σv' H' ow' jo' r' => ⟨ow', jo', σ1, _, r', q2⟩
    | bk σ1 => exact fun σv' H' ow' jo' r' => q2 σv' H' ow' jo' r'.pop
    | rt d => exact q2
  · rw [List.drop_length] at q
    exact q σ H ow2 jo2 rr.pop
end
end Ev
end

section
set_option maxRecDepth 100000
set_option maxHeartbeats 1000000
/-! Statements: checked, sound. -/
namespace Ev
open PySem PySem.Spec PyProof.Rows L2
section
variable {K : PySem.W.Frag} {M : List Nat} {jx : Option Nat} {jf fr : Bool} {D : Ends} {σv : L2.St} {H : Hp} {Φ : Fns} {fuel : Nat}
/-! ### several names at once -/
def tPs (K : PySem.W.Frag) (jx : Option Nat) (Φ : Fns) : List Ex → TA
  | [] => tNil
  | e :: es => tCons (tV K jx (isFresh e) (evE Φ e)) (tPs K jx Φ es)
def sets : List Nat → List V → L2.St → L2.St
  | i :: is, v :: vs, σ => sets is vs (σ.set i (some v))
  | _, _, σ => σ
theorem par_go {b : Bool} {O0 : Addr → Prop} {jo0 jo : Option Addr} {He H0 : Hp} {Fs : List ((Addr → Prop) × Hp)} {ow0 : Nat → Option Addr} {σd : Sd} {J0 : Jr} (r0 : RS K M jx jf O0 jo0 Fs ow0 jo H0 σv σd J0) :
    ∀ (is : List Nat) (es : List Ex) {Hk : Hp} {Jk : Jr} {owk : Nat → Option Addr} {σvk : L2.St} {σdk : Sd}, (∀ i ∈ is, jx ≠ some i) → Kp (Jo jo) H0 Hk → RS K M jx jf O0 jo0 Fs owk jo Hk σvk σdk Jk → (∀ x, OO O0 jo owk x → OO O0 jo ow0 x ∨ H0 x = none) →
      (parGo (fun e => evE Φ e (view b M σd)) b M is es σdk Jk).Ok (EndOk K M jx jf fr O0 jo0 He Fs D) → tPs K jx Φ es σv Hk fun vs H' => is.length = vs.length ∧ D.nx (sets is vs σvk) H'
  | [], [], Hk, Jk, owk, σvk, σdk, _, _, rk, _, w => ⟨rfl, w σvk Hk owk jo rk⟩
  | [], _ :: _, _, _, _, _, _, _, _, _, _, w => w.elim
  | _ :: _, [], _, _, _, _, _, _, _, _, _, w => w.elim
  | i :: is, e :: es, Hk, Jk, owk, σvk, σdk, hj, k0, rk, sub, w => by
    obtain ⟨d, J1, e1, w1⟩ := Mo.bind_ok (show (Mo.bind (evE Φ e (view b M σd)) (fun d => if ownOk (M.getD i 0) e d && (!b || okR e d) then parGo (fun e => evE Φ e (view b M σd)) b M is es (σdk.set i (some d)) else Mo.fail) Jk).Ok _ from w)
    have rl : Rel K Hk (vO b O0 jo owk) jx jo σv (view b M σd) Jk := by
      cases b with
      | true => exact (r0.stp k0 rk.jar).rel true
      | false =>
        refine ⟨(hide_len r0.mlen).trans r0.len, fun m e he => ?_, rk.liveO, rk.jar.re fun j e => .inl (.inr e), r0.js⟩
        obtain ⟨e1, e2⟩ := hide_get he
        obtain ⟨v, e3, e4⟩ := r0.plain m e e2 e1
        exact ⟨v, e3, e4.move (k0.mono fun a z => .inl (.inr z)) sub⟩
    split at w1
    · rename_i hok
      rw [Bool.and_eq_true] at hok
      refine .to rl e1 fun v H1 k1 j1 dv f => ?_
      obtain ⟨dv', f'⟩ := rk.val b (ow' := owk) (.inr ⟨by
        cases b with
        | false => exact .inl rfl
        | true => exact .inr (by simpa using hok.2), rfl⟩) dv f
      obtain ⟨ow2, r2, s2⟩ := rk.give k1 j1.toJ (hj i (List.mem_cons_self ..)) hok.1 dv' f'
      have := par_go r0 is es (fun m hm => hj m (List.mem_cons_of_mem _ hm)) (k0.trans k1) r2 (fun x z => (s2 x z).elim (sub x) fun q => .inr (k0.gone q)) w1
      exact tPs_mono es this fun vs H' ⟨q1, q2⟩ => ⟨by rw [List.length_cons, List.length_cons, q1], q2⟩
    · exact w1.elim
where
  tPs_mono : ∀ (es : List Ex) {σ : L2.St} {H : Hp} {Q Q' : List V → Hp → Prop}, tPs K jx Φ es σ H Q → (∀ vs H', Q vs H' → Q' vs H') → tPs K jx Φ es σ H Q'
  | [], _, _, _, _, h, q => q _ _ h
  | e :: es, σ, H, Q, Q', ⟨O, jo, σd, J, r, w⟩, q => ⟨O, jo, σd, J, r, w.imp fun d J' w v H' k j dv f => tPs_mono es (w v H' k j dv f) fun vs H'' z => q _ _ z⟩
theorem par_tS {is : List Nat} {es : List Ex} {b : Bool} (hj : ∀ i ∈ is, jx ≠ some i) (h : tS K M jx jf fr (evS Φ fuel M (.par is b es)) D σv H) : tPs K jx Φ es σv H fun vs H' => is.length = vs.length ∧ D.nx (sets is vs σv) H' := by
  obtain ⟨O0, jo0, He, Fs, ow, jo, σd, J, m, jO, r, w⟩ := h
  exact par_go r is es hj .refl r (fun x z => .inl z) w
theorem jnew_tS {i f : Nat} {as : List Ex} (hjf : jf = false) (hx : jx = some i) (h : tS K M jx jf fr (evS Φ fuel M (.jnew i f as)) D σv H) : tV K jx true (evE Φ (.call f as)) σv H fun x H1 => D.nx (σv.set i (some x)) H1 := by
  obtain ⟨O0, jo0, He, Fs, ow, jo, σd, J, m, jO, r, w⟩ := h
  obtain ⟨_, J0, g0, w0⟩ := Mo.bind_ok w
  obtain ⟨hfree, ej0⟩ := Mo.opt_eq g0
  obtain ⟨ds, J1, e1, w1⟩ := Mo.bind_ok w0
  obtain ⟨d, J2, e2, w2⟩ := Mo.bind_ok w1
  obtain ⟨xs, J3, g, w3⟩ := Mo.bind_ok w2
  obtain ⟨hl, ej⟩ := Mo.opt_eq g
  obtain ⟨ns, J4, g', w4⟩ := Mo.bind_ok w3
  obtain ⟨hn, ej'⟩ := Mo.opt_eq g'
  clear w w0 w1 w2 w3 g g' g0
  subst ej' ej ej0
  have ed : d = .list xs := by cases d <;> first | (cases hl; rfl) | cases hl
  subst ed
  have ee : evE Φ (.call f as) σd J0 = .ok (.list xs) J4 := by
    show Mo.bind (evEs Φ as σd) _ J0 = _
    unfold Mo.bind
    rw [e1]
    exact e2
  refine .to (r.rel true) ee fun v H1 k1 j1 dv fv => ?_
  obtain ⟨a, ys, rfl, s1, n1, r1⟩ := dv.inj_list
  obtain ⟨g1, _⟩ := fv rfl xs a rfl rfl
  rw [intsD_eq hn] at r1
  rw [r1.intsOf] at s1
  have hd : σd[i]? = some none := by
    unfold freeAt at hfree
    split at hfree
    · assumption
    · cases hfree
  have hi : i < σv.length := by
    rw [← r.len]
    exact (List.getElem?_eq_some_iff.mp hd).1
  exact w4 _ H1 ow (some a) (r.newJar (J' := J4) k1 hjf hx hi hd g1 s1)
end

/-! ### stores that take each other's places -/
def lineOf (ts : List Expr) : Nat := (ts.head?.map (·.pos.line)).getD 0
def nameAt (S : Ss) (line : Nat) : Expr → Bool
  | .Name x p => decide (S.sc.names.lookup x = some .local) && decide (p.line = line)
  | _ => false
/-- the stores are in their own order -/
def noSwap (S : Ss) (tg v : Expr) : Bool := match tg with
  | .Tuple ts _ _ => (match v with
    | .Tuple _ _ _ => ts.any fun t => !nameAt S (lineOf ts) t
    | _ => true)
  | _ => false
def notComp : Expr → Bool
  | .ListComp .. => false
  | .SetComp .. => false
  | .DictComp .. => false
  | _ => true
theorem swaps_nc {e : Expr} {t : Option Expr} {l : Nat} {env : Env} (h : notComp e = true) : swapsWith e t l env = pure false := by
  cases e <;> first | rfl | cases h
theorem swaps_nn {e t : Expr} {l : Nat} {env : Env} (h : ∀ x p, t ≠ .Name x p) : swapsWith e (some t) l env = pure false := by
  cases e <;> first
    | rfl
    | (cases t <;> first | rfl | exact absurd rfl (h _ _))
theorem filterMap_lt {α β : Type} {f : α → Option β} : ∀ {l : List α}, (∃ a ∈ l, f a = none) → (l.filterMap f).length < l.length
  | [], ⟨a, h, _⟩ => by cases h
  | x :: l, ⟨a, h, e⟩ => by
    rw [List.length_cons, List.filterMap_cons]
    rcases List.mem_cons.mp h with q | q
    · subst q
      rw [e]
      exact Nat.lt_succ_of_le (List.length_filterMap_le _ _)
    · have ih := filterMap_lt ⟨a, q, e⟩
      cases f x with
      | none => exact Nat.lt_succ_of_lt ih
      | some y => rw [List.length_cons]; exact Nat.succ_lt_succ ih
section
variable {T : Tb} {Φ : Fns} {lv : Nat} {S : Ss} {X : Cx}
theorem noSwap_ok (c : Cf T Φ lv S X) {tg v : Expr} (h : noSwap S tg v = true) : swappedStores [tg] v X.env = pure none ∧ ∀ x p, tg ≠ .Name x p := by
  have k1 : ∀ x, X.env.kindOf x = S.sc.names.lookup x := fun x => by show X.env.scope.names.lookup x = _; rw [c.sc]
  cases tg <;> first | (cases h; done) | skip
  rename_i ts k p
  refine ⟨?_, nofun⟩
  cases v <;> first | rfl | skip
  rename_i vs k2 p2
  have h1 : (ts.any fun t => !nameAt S (lineOf ts) t) = true := h
  rw [List.any_eq_true] at h1
  obtain ⟨t, ht, hn⟩ := h1
  unfold swappedStores
  show (if _ then _ else _) = _
  split
  · rfl
  · show (if _ then _ else _) = _
    split
    · rfl
    · show (if _ then _ else _) = _
      rw [if_pos]
      rw [Bool.or_eq_true]
      refine .inl ?_
      rw [bne_iff_ne]
      refine Nat.ne_of_lt (filterMap_lt ⟨t, ht, ?_⟩)
      rw [Bool.not_eq_true'] at hn
      cases t <;> first | rfl | skip
      rename_i x px
      have hn' : (decide (S.sc.names.lookup x = some .local) && decide (px.line = lineOf ts)) = false := hn
      rw [Bool.and_eq_false_iff] at hn'
      show (if (X.env.kindOf x == some .local && px.line == lineOf ts) = true then some x else none) = none
      rw [if_neg]
      intro z
      rw [Bool.and_eq_true, beq_iff_eq, beq_iff_eq, k1] at z
      rcases hn' with q | q
      · exact of_decide_eq_false q z.1
      · exact of_decide_eq_false q z.2
end
end Ev
end

section
set_option maxRecDepth 100000
set_option maxHeartbeats 1000000
/-! Statements: the check, its soundness. -/
namespace Ev
open PySem PySem.Spec PyProof.Rows L2

/-- where a comprehension gives its list to the name itself -/
def swapB (S : Ss) (x : Str) (px : Pos) : Expr → Bool
  | .ListComp _ _ scope p => decide (S.sc.names.lookup x = some .local) && decide (px.line = p.line) && !(scope.names.any fun (n, k) => n == x && (k == .local || k == .cell))
  | _ => false
def okVal : Expr → Bool
  | .SetComp .. => false
  | .DictComp .. => false
  | _ => true
def foldB (vs : List Expr) : Bool := vs.all (foldedForSure 8) || vs.all (constantsAlone 8)
def parN (S : Ss) (M : List Nat) (i : Nat) (x : Str) : Bool := decide (S.N[i]? = some x) && decide (S.sc.names.lookup x = some .local) && decide (S.jx ≠ some i)
mutual
def ckS (T : Tb) (S : Ss) (M : List Nat) (jf fr : Bool) : Sm → Stmt → Bool
  | .asg i own b e, st => (match st with
    | .Assign [.Name x px] v _ => decide (S.N[i]? = some x) && locB S x && decide (own = M.getD i 0) && decide (S.jx ≠ some i) && okVal v && ckE T e S v
    | _ => false)
  | .asgT t b e, st => (match st with
    | .Assign [tg] v _ => noSwap S tg v && ckTg t S tg && plainT M S.jx t && ckE T e S v
    | _ => false)
  | .par is b es, st => (match st, is, es with
    | .Assign [.Tuple [.Name x px, .Name y py] _ _] (.Tuple [v, w] _ _) _, [i, j], [e1, e2] => parN S M i x && parN S M j y && decide (i ≠ j) && decide (x ≠ y) && decide (px.line = py.line) && notStar v && notStar w && !foldB [v, w] && ckE T e1 S v && ckE T e2 S w
    | .Assign [.Tuple [.Name x px, .Name y py, .Name z pz] _ _] (.Tuple [u, v, w] _ _) _, [i, j, k], [e1, e2, e3] => parN S M i x && parN S M j y && parN S M k z && decide (i ≠ j) && decide (i ≠ k) && decide (j ≠ k) && decide (x ≠ y) && decide (x ≠ z) && decide (y ≠ z) && decide (px.line = py.line) && decide (px.line = pz.line) &&
        notStar u && notStar v && notStar w && !foldB [u, v, w] && ckE T e1 S u && ckE T e2 S v && ckE T e3 S w
    | _, _, _ => false)
  | .app i b e, st => (match st with
    | .Expr (.Call (.Attribute (.Name x _) m ap) [v] [] cp) _ => decide (m = ("append" : Str)) && atN S i x && decide (M.getD i 0 ≠ 0) && decide (ap.endLine = cp.line) && notStar v && ckE T e S v
    | _ => false)
  | .ext i b e, st => (match st with
    | .Expr (.Call (.Attribute (.Name x _) m ap) [v] [] cp) _ => decide (m = ("extend" : Str)) && atN S i x && decide (M.getD i 0 ≠ 0) && decide (ap.endLine = cp.line) && notStar v && ckE T e S v
    | _ => false)
  | .setI i b ix e, st => (match st with
    | .Assign [.Subscript (.Name x _) iv _] v _ => atN S i x && decide (M.getD i 0 ≠ 0) && notSlice iv && ckE T ix S iv && ckE T e S v
    | _ => false)
  | .popS i, st => (match st with
    | .Expr (.Call (.Attribute (.Name x _) m ap) [] [] cp) _ => decide (m = ("pop" : Str)) && atN S i x && decide (M.getD i 0 ≠ 0) && decide (ap.endLine = cp.line)
    | _ => false)
  | .popA j i, st => (match st with
    | .Assign [.Name y _] (.Call (.Attribute (.Name x _) m ap) [] [] cp) _ => decide (m = ("pop" : Str)) && atN S i x && decide (M.getD i 0 ≠ 0) && decide (ap.endLine = cp.line) && decide (S.N[j]? = some y) && locB S y && decide (M.getD j 0 = 0) && decide (S.jx ≠ some j)
    | _ => false)
  | .jset k e, st => (match st with
    | .Assign [.Subscript (.Name x _) (.Constant (.int n) _ _) _] v _ => (match S.jx with
      | some i => atN S i x && decide (n = (k : Int)) && ckE T e S v
      | none => false)
    | _ => false)
  | .jnew i f as, st => (match st with
    | .Assign [.Name y _] (.Call (.Name x cx) xs [] cp) _ => !jf && decide (S.jx = some i) && decide (S.N[i]? = some y) && locB S y && (match T.fs[f]? with
      | some (x', j, r) => decide (x = x') && !j && r && glB S x && (xs.all notStar) && ckEs T as S xs
      | none => false)
    | _ => false)
  | .ex e, st => (match st with
    | .Expr v _ => notComp v && ckE T e S v
    | _ => false)
  | .ret e, st => (match st with
    | .Return (some v) _ => (!fr || isFresh e) && ckE T e S v
    | _ => false)
  | .retN, st => (match st with
    | .Return none _ => true
    | _ => false)
  | .ite c a b, st => (match st with
    | .If t x y _ => tstOk t && ckE T c S t && ckSs T S M jf fr a x && ckSs T S M jf fr b y
    | _ => false)
  | .whl c body, st => (match st with
    | .While t x [] _ => tstOk t && ckE T c S t && ckSs T S M jf fr body x
    | _ => false)
  | .forS b t it body, st => (match st with
    | .For tg iter x [] _ => notSet iter && plainT M S.jx t && ckTg t S tg && ckIt T it S tg iter && ckSs T S M jf fr body x
    | _ => false)
  | .brk, st => (match st with
    | .Break _ => true
    | _ => false)
  | .cnt, st => (match st with
    | .Continue _ => true
    | _ => false)
  | .pass, st => (match st with
    | .Pass _ => true
    | _ => false)
  | .raise_, _ => true
def ckSs (T : Tb) (S : Ss) (M : List Nat) (jf fr : Bool) : List Sm → List Stmt → Bool
  | [], sts => (match sts with | [] => true | _ => false)
  | s :: ss, sts => (match sts with
    | st :: sts => ckS T S M jf fr s st && ckSs T S M jf fr ss sts
    | [] => false)
end

section
variable {T : Tb} {Φ : Fns} {lv fuel : Nat} {S : Ss} {X : Cx} {M : List Nat} {jf fr : Bool}
def isSt : Expr → Bool
  | .Starred .. => true
  | _ => false
theorem isSt_of {a : Expr} (h : notStar a = true) : isSt a = false := by cases a <;> first | rfl | cases h
theorem blockKind_of (c : Cf T Φ lv S X) (kd : S.sc.kind = .function) : X.env.blockKind = .function := by
  unfold Env.blockKind
  rw [c.sc, kd]; rfl
theorem swap2 (c : Cf T Φ lv S X) (kd : S.sc.kind = .function) {x y : Str} {px py pt pt2 : Pos} {k k2 : Nat} {v w : Expr} (hx : S.sc.names.lookup x = some .local) (hy : S.sc.names.lookup y = some .local) (hxy : x ≠ y) (hl : px.line = py.line) (nv : notStar v = true) (nw : notStar w = true) (hf : foldB [v, w] = false) :
    swappedStores [.Tuple [.Name x px, .Name y py] k pt] (.Tuple [v, w] k2 pt2) X.env = pure (some [x, y]) := by
  have bk := blockKind_of c kd
  have kx : X.env.kindOf x = some .local := by show X.env.scope.names.lookup x = _; rw [c.sc]; exact hx
  have ky : X.env.kindOf y = some .local := by show X.env.scope.names.lookup y = _; rw [c.sc]; exact hy
  unfold foldB at hf
  rw [Bool.or_eq_false_iff] at hf
  have hb : (y == x) = false := beq_eq_false_iff_ne.mpr (Ne.symm hxy)
  unfold swappedStores
  simp only [bk, kx, ky, hl, hf.1, hf.2, List.filterMap_cons, List.filterMap_nil, List.any_cons, List.any_nil, List.length_cons, List.length_nil, List.head?_cons, Option.map_some, Option.getD_some, Expr.pos, beq_self_eq_true, Bool.and_self, if_true, List.eraseDups_cons, List.eraseDups_nil, List.filter_cons, List.filter_nil, hb]
  have e2 : (isSt v || (isSt w || false)) = false := by rw [isSt_of nv, isSt_of nw]; rfl
  refine (if_neg (by decide)).trans ((if_neg (fun z => Bool.false_ne_true (e2.symm.trans z))).trans ?_)
  simp [List.eraseDups_cons]
theorem swap3 (c : Cf T Φ lv S X) (kd : S.sc.kind = .function) {x y z : Str} {px py pz pt pt2 : Pos} {k k2 : Nat} {u v w : Expr} (hx : S.sc.names.lookup x = some .local) (hy : S.sc.names.lookup y = some .local) (hz : S.sc.names.lookup z = some .local) (hxy : x ≠ y) (hxz : x ≠ z) (hyz : y ≠ z) (hl : px.line = py.line) (hl2 : px.line = pz.line)
    (nu : notStar u = true) (nv : notStar v = true) (nw : notStar w = true) (hf : foldB [u, v, w] = false) :
    swappedStores [.Tuple [.Name x px, .Name y py, .Name z pz] k pt] (.Tuple [u, v, w] k2 pt2) X.env = pure (some [x, y, z]) := by
  have bk := blockKind_of c kd
  have kx : X.env.kindOf x = some .local := by show X.env.scope.names.lookup x = _; rw [c.sc]; exact hx
  have ky : X.env.kindOf y = some .local := by show X.env.scope.names.lookup y = _; rw [c.sc]; exact hy
  have kz : X.env.kindOf z = some .local := by show X.env.scope.names.lookup z = _; rw [c.sc]; exact hz
  have l1 : py.line = px.line := hl.symm
  have l2 : pz.line = px.line := hl2.symm
  unfold foldB at hf
  rw [Bool.or_eq_false_iff] at hf
  have hb : (y == x) = false := beq_eq_false_iff_ne.mpr (Ne.symm hxy)
  have hb2 : (z == x) = false := beq_eq_false_iff_ne.mpr (Ne.symm hxz)
  have hb3 : (z == y) = false := beq_eq_false_iff_ne.mpr (Ne.symm hyz)
  unfold swappedStores
  simp only [bk, kx, ky, kz, l1, l2, hf.1, hf.2, List.filterMap_cons, List.filterMap_nil, List.any_cons, List.any_nil, List.length_cons, List.length_nil, List.head?_cons, Option.map_some, Option.getD_some, Expr.pos, beq_self_eq_true, Bool.and_self, if_true]
  have e2 : (isSt u || (isSt v || (isSt w || false))) = false := by rw [isSt_of nu, isSt_of nv, isSt_of nw]; rfl
  refine (if_neg (by decide)).trans ((if_neg (fun z => Bool.false_ne_true (e2.symm.trans z))).trans ?_)
  simp [List.eraseDups_cons, hb, hb2, hb3]
end
end Ev
end

section
set_option maxRecDepth 100000
set_option maxHeartbeats 1000000
/-! Statements: soundness. -/
namespace Ev
open PySem PySem.Spec PyProof.Rows L2
section
variable {T : Tb} {Φ : Fns} {lv fuel : Nat} {S : Ss} {X : Cx} {M : List Nat} {jf fr : Bool}
theorem swaps_lc (c : Cf T Φ lv S X) (kd : S.sc.kind = .function) {el : Expr} {gs : List Comprehension} {scope : Scope} {p px : Pos} {x : Str} {l : Nat} : swapsWith (.ListComp el gs scope p) (some (.Name x px)) l X.env = pure (swapB S x px (.ListComp el gs scope p)) := by
  have bk := blockKind_of c kd
  have kx : X.env.kindOf x = S.sc.names.lookup x := by show X.env.scope.names.lookup x = _; rw [c.sc]
  unfold swapsWith swapB
  simp only [bk, kx, Expr.pos]
  have e1 : (S.sc.names.lookup x == some NameKind.local) = decide (S.sc.names.lookup x = some .local) := by
    rw [Bool.eq_iff_iff]; simp
  have e2 : (px.line == p.line) = decide (px.line = p.line) := by
    rw [Bool.eq_iff_iff]; simp
  rw [e1, e2]
  rfl
/-- an assignment of one name -/
theorem s_asg {i own : Nat} {b : Bool} {e : Ex} {x : Str} {px pos : Pos} {v : Expr} (c : Cf T Φ lv S X) (kd : S.sc.kind = .function) (h1 : S.N[i]? = some x) (h2 : locB S x = true) (h3 : own = M.getD i 0) (h4 : S.jx ≠ some i) (h5 : okVal v = true) (h6 : ckE T e S v = true) :
    PS X (.Assign [.Name x px] v pos) (tS X.K M S.jx jf fr (evS Φ fuel M (.asg i own b e))) := by
  obtain ⟨l1, l2⟩ := c.loc h2
  have hN : X.N[i]? = some x := by rw [c.N]; exact h1
  by_cases hsw : swapsWith v (some (.Name x px)) pos.line X.env = pure false
  · exact (ps_set c.nd hN l1 (sE e h6 c).pe hsw l2).imp fun D σ H h => asg_tS h3 h4 h
  · have hv : ∃ el gs scope p, v = .ListComp el gs scope p := by
      cases v <;> first
        | exact ⟨_, _, _, _, rfl⟩
        | exact absurd (swaps_nc rfl) hsw
        | cases h5
    obtain ⟨el, gs, scope, p, rfl⟩ := hv
    have hb : swapB S x px (.ListComp el gs scope p) = true := by
      cases q : swapB S x px (.ListComp el gs scope p) with
      | true => rfl
      | false => exact absurd (by rw [swaps_lc c kd, q]) hsw
    have hsw2 : swapsWith (.ListComp el gs scope p) (some (.Name x px)) pos.line X.env = pure true := by rw [swaps_lc c kd, hb]
    have hloc : X.env.scope.names.lookup x = some .local := by
      unfold swapB at hb
      simp only [Bool.and_eq_true, decide_eq_true_eq] at hb
      rw [c.sc]; exact hb.1.1
    cases e <;> first | (unfold ckE at h6; cases h6; done) | skip
    · rename_i elt t it ifs own'
      unfold ckE at h6
      dsimp only at h6
      · split at h6
        · simp only [Bool.and_eq_true, decide_eq_true_eq] at h6
          obtain ⟨⟨⟨⟨⟨⟨⟨⟨g1, g2⟩, g3⟩, g4⟩, g5⟩, g6⟩, g7⟩, g8⟩, g9⟩ := h6
          subst g1
          obtain ⟨k1, k2⟩ := own_ok g3 g4
          refine (ps_setLc (wi := tI X.K S.jx (okIt it) (evIt Φ it)) (g := gT X.K t) (tt := tT X.K S.jx (evIf Φ ifs)) (te := tV X.K S.jx (isFresh elt) (evE Φ elt)) c.calm c.nd hN hloc hsw2 (sIt it g7 c) (blkOk_by (own := ownOf S own') (by rw [c.N, c.sc]; exact g2))
            (fun s H C cl fp => by have q := pg_ok t g6 (c.blk s H C cl fp _); exact q) (fun s H C cl fp => by have q := sIf ifs g8 (c.blk s H C cl fp _); exact q) (fun s H C cl fp => by have q := (sE elt g9 (c.blk s H C cl fp _)).pe; exact q) (nset_of g5)).imp fun D σ H h => ?_
          rw [ownOf_map]
          exact lc_tV k2 k1 (asg_tS h3 h4 h)
        · cases h6
    · rename_i elt t it ifs t1 it1 ifs1 own' own1
      unfold ckE at h6
      dsimp only at h6
      · split at h6
        · simp only [Bool.and_eq_true, decide_eq_true_eq] at h6
          obtain ⟨⟨⟨⟨⟨⟨⟨⟨⟨⟨⟨⟨⟨⟨⟨⟨g1, g2⟩, g3⟩, g4⟩, g5⟩, g6⟩, g7⟩, g8⟩, g9⟩, g10⟩, g11⟩, g12⟩, g13⟩, g14⟩, g15⟩, g16⟩, g17⟩ := h6
          subst g1
          subst g2
          obtain ⟨k1, k2⟩ := own_ok g4 g7
          obtain ⟨k3, k4⟩ := own_ok g5 g8
          have hv : ∀ i ∈ own1, i ∈ (ownOf S own').map (·.2) := fun i hi => by
            rw [ownOf_map]
            have := List.all_eq_true.mp g6 i hi
            simpa using this
          refine (ps_setLc2 (wi := tI X.K S.jx (okIt it) (evIt Φ it)) (g := gT X.K t) (tt := tT X.K S.jx (evIf Φ ifs)) (wi1 := tI X.K S.jx (okIt it1) (evIt Φ it1)) (g1 := gT X.K t1) (tt1 := tT X.K S.jx (evIf Φ ifs1)) (te := tV X.K S.jx (isFresh elt) (evE Φ elt)) c.calm c.nd hN hloc hsw2 (sIt it g12 c) (blkOk_by (own := ownOf S own') (by rw [c.N, c.sc]; exact g3)) hv
            (fun s H C cl fp => by have q := pg_ok t g11 (c.blk s H C cl fp _); exact q) (fun s H C cl fp => by have q := sIf ifs g13 (c.blk s H C cl fp _); exact q) (fun s H C cl fp => by have q := sIt it1 g15 (c.blk s H C cl fp _); exact q) (fun s H C cl fp => by have q := pg_ok t1 g14 (c.blk s H C cl fp _); exact q)
            (fun s H C cl fp => by have q := sIf ifs1 g16 (c.blk s H C cl fp _); exact q) (fun s H C cl fp => by have q := (sE elt g17 (c.blk s H C cl fp _)).pe; exact q) (nset_of g9) (fun env => nset_of g10)).imp fun D σ H h => ?_
          rw [ownOf_map]
          exact lc2_tV k2 k1 k4 k3 (asg_tS h3 h4 h)
        · cases h6
theorem few_one {a : Expr} {env : Env} {pos : Pos} (h : notStar a = true) : ((backTo pos (starEach [a] env)).all (fun x => !x.1) && (backToKw pos (keywordEach [] env)).all (fun x => x.1.isSome) && decide (([a] : List Expr).length + ([] : List Keyword).length + (if ([] : List Keyword).isEmpty then 0 else 1) < 30)) = true := by
  rw [starEach_ns h]; rfl
/-- a list's method with one value -/
theorem s_meth1 {i : Nat} {e : Ex} {x m : Str} {px ap cp pos : Pos} {v : Expr} {id : String} {r : V → List V → Hp → VK → Prop} (c : Cf T Φ lv S X) (slot : Slot "list" m id) (hty : typeOf (.builtin id) = pure (.type "method_descriptor")) (hm : MtM X id r) (h2 : atN S i x = true) (h4 : ap.endLine = cp.line) (h5 : notStar v = true) (h6 : ckE T e S v = true) :
    PS X (.Expr (.Call (.Attribute (.Name x px) m ap) [v] [] cp) pos) (fun D σ H => tBM X.K "list" r (tVar i) (tCons (tV X.K S.jx (isFresh e) (evE Φ e)) tNil) σ H fun _ H1 => D.nx σ H1) := by
  obtain ⟨n1, n2, n3, n4⟩ := c.atN h2
  exact ps_expr (pe_bm PySem.F.plainAttrs_list slot hty hm (pe_var n1 n2 n3 n4) (pa_cons (sE e h6 c).pe pa_nil (starEach_ns h5)) rfl (few_one h5) (by rw [h4]; exact beq_self_eq_true _) (starEach_ns h5) rfl) (swaps_nc rfl)
end
end Ev
end

section
set_option maxRecDepth 100000
set_option maxHeartbeats 1000000
/-! Statements: soundness, all together. -/
namespace Ev
open PySem PySem.Spec PyProof.Rows L2
section
variable {T : Tb} {Φ : Fns} {lv fuel : Nat} {S : Ss} {X : Cx} {M : List Nat} {jf fr : Bool}
theorem parN_ok {i : Nat} {x : Str} (h : parN S M i x = true) : S.N[i]? = some x ∧ S.sc.names.lookup x = some .local ∧ S.jx ≠ some i := by
  unfold parN at h
  simp only [Bool.and_eq_true, decide_eq_true_eq] at h
  exact ⟨h.1.1, h.1.2, h.2⟩
theorem swaps_tup {ts : List Expr} {k : Nat} {p : Pos} {e : Expr} {l : Nat} {env : Env} : swapsWithSole [.Tuple ts k p] e l env = pure false := by
  show swapsWith e (some (.Tuple ts k p)) l env = _
  exact swaps_nn fun x p q => by cases q
theorem swaps_sub {o i : Expr} {p : Pos} {e : Expr} {l : Nat} {env : Env} : swapsWithSole [.Subscript o i p] e l env = pure false := by
  show swapsWith e (some (.Subscript o i p)) l env = _
  exact swaps_nn fun x p q => by cases q
theorem sub_assign {o i : Expr} {pos : Pos} {env : Env} (h : notSlice i = true) : ∀ v, assign (.Subscript o i pos) env v = (do
      let ov ← holding [v] (eval o env)
      let iv ← holding [v, ov] (eval i env)
      standAt pos
      holding [v, ov, iv] (setItem ov iv v)
      release [v, ov, iv] []) := by
  intro v
  cases i <;> first | rfl | cases h
theorem never_tS {D : Ends} {σ : L2.St} {H : Hp} (h : tS X.K M S.jx jf fr (evS Φ fuel M .raise_) D σ H) : False := by
  obtain ⟨O0, jo0, He, Fs, ow, jo, σd, J, m, jO, r, w⟩ := h
  exact w
mutual
theorem sS : ∀ (s : Sm) {st : Stmt}, ckS T S M jf fr s st = true → Cf T Φ lv S X → S.sc.kind = .function → PassesOwn (model X.prog X.w) X.A X.env X.xe → PS X st (tS X.K M S.jx jf fr (evS Φ fuel M s))
  | .asg i own b e, st, h, c, kd, px => by
    unfold ckS at h
    split at h
    · simp only [Bool.and_eq_true, decide_eq_true_eq] at h
      obtain ⟨⟨⟨⟨⟨h1, h2⟩, h3⟩, h4⟩, h5⟩, h6⟩ := h
      exact s_asg c kd h1 h2 h3 h4 h5 h6
    · cases h
  | .asgT t b e, st, h, c, kd, px => by
    unfold ckS at h
    split at h
    · simp only [Bool.and_eq_true] at h
      obtain ⟨⟨⟨h1, h2⟩, h3⟩, h4⟩ := h
      obtain ⟨n1, n2⟩ := noSwap_ok c h1
      have ns : ∀ {tg : Expr}, ckTg t S tg = true → notStar tg = true := fun {tg} q => by
        cases tg <;> first | rfl | (cases t <;> (unfold ckTg at q; cases q))
      exact (ps_asg (sE e h4 c).pe (pg_ok t h2 c) (swaps_nn n2) n1 (by rw [assignEach_ns (ns h2)]; rfl)).imp fun D σ H h => asgT_tS h3 h
    · cases h
  | .par is b es, st, h, c, kd, px => by
    unfold ckS at h
    split at h
    · simp only [Bool.and_eq_true, decide_eq_true_eq, Bool.not_eq_true'] at h
      obtain ⟨⟨⟨⟨⟨⟨⟨⟨⟨h1, h2⟩, h3⟩, h4⟩, h5⟩, h6⟩, h7⟩, h8⟩, h9⟩, h10⟩ := h
      obtain ⟨a1, a2, a3⟩ := parN_ok h1
      obtain ⟨b1, b2, b3⟩ := parN_ok h2
      refine (ps_par c.calm c.nd (by rw [c.N]; exact a1) (by rw [c.N]; exact b1) h3 (by rw [c.sc]; exact a2) (by rw [c.sc]; exact b2) (pa_cons (sE _ h9 c).pe (pa_cons (sE _ h10 c).pe pa_nil (starEach_ns h7)) (starEach_ns h6)) (swap2 c kd a2 b2 h4 h5 h6 h7 h8) swaps_tup).imp fun D σ H h => ?_
      refine par_go.tPs_mono [_, _] (par_tS (fun i hi => ?_) h) fun vs H' ⟨q1, q2⟩ => ?_
      · rcases List.mem_cons.mp hi with e | hi
        · rw [e]; exact a3
        · rw [List.mem_singleton.mp hi]; exact b3
      · match vs, q1, q2 with
        | [v, w], _, q2 => exact ⟨v, w, rfl, q2⟩
    · simp only [Bool.and_eq_true, decide_eq_true_eq, Bool.not_eq_true'] at h
      obtain ⟨⟨⟨⟨⟨⟨⟨⟨⟨⟨⟨⟨⟨⟨⟨⟨⟨h1, h2⟩, h3⟩, h4⟩, h5⟩, h6⟩, h7⟩, h8⟩, h9⟩, h10⟩, h11⟩, h12⟩, h13⟩, h14⟩, h15⟩, h16⟩, h17⟩, h18⟩ := h
      obtain ⟨a1, a2, a3⟩ := parN_ok h1
      obtain ⟨b1, b2, b3⟩ := parN_ok h2
      obtain ⟨d1, d2, d3⟩ := parN_ok h3
      refine (ps_par3 c.calm c.nd (by rw [c.N]; exact a1) (by rw [c.N]; exact b1) (by rw [c.N]; exact d1) h4 h5 h6 (by rw [c.sc]; exact a2) (by rw [c.sc]; exact b2) (by rw [c.sc]; exact d2) (pa_cons (sE _ h16 c).pe (pa_cons (sE _ h17 c).pe (pa_cons (sE _ h18 c).pe pa_nil (starEach_ns h14)) (starEach_ns h13)) (starEach_ns h12))
        (swap3 c kd a2 b2 d2 h7 h8 h9 h10 h11 h12 h13 h14 h15) swaps_tup).imp fun D σ H h => ?_
      refine par_go.tPs_mono [_, _, _] (par_tS (fun i hi => ?_) h) fun vs H' ⟨q1, q2⟩ => ?_
      · rcases List.mem_cons.mp hi with e | hi
        · rw [e]; exact a3
        · rcases List.mem_cons.mp hi with e | hi
          · rw [e]; exact b3
          · rw [List.mem_singleton.mp hi]; exact d3
      · match vs, q1, q2 with
        | [u, v, w], _, q2 => exact ⟨u, v, w, rfl, q2⟩
    · cases h
  | .app i b e, st, h, c, kd, px => by
    unfold ckS at h
    split at h
    · simp only [Bool.and_eq_true, decide_eq_true_eq] at h
      obtain ⟨⟨⟨⟨⟨rfl, h2⟩, h3⟩, h4⟩, h5⟩, h6⟩ := h
      exact (s_meth1 c PySem.F.slot_list_append PySem.F.type_list_append mt_append h2 h4 h5 h6).imp fun D σ H h => app_tS h3 h
    · cases h
  | .ext i b e, st, h, c, kd, px => by
    unfold ckS at h
    split at h
    · simp only [Bool.and_eq_true, decide_eq_true_eq] at h
      obtain ⟨⟨⟨⟨⟨rfl, h2⟩, h3⟩, h4⟩, h5⟩, h6⟩ := h
      exact (s_meth1 c PySem.F.slot_list_extend PySem.F.type_list_extend mt_extend h2 h4 h5 h6).imp fun D σ H h => ext_tS h3 h
    · cases h
  | .setI i b ix e, st, h, c, kd, px => by
    unfold ckS at h
    split at h
    · simp only [Bool.and_eq_true, decide_eq_true_eq] at h
      obtain ⟨⟨⟨⟨h1, h2⟩, h3⟩, h4⟩, h5⟩ := h
      obtain ⟨n1, n2, n3, n4⟩ := c.atN h1
      exact (ps_asg (sE e h5 c).pe (pg_sub (pe_var n1 n2 n3 n4) (sE ix h4 c).pe set_list (sub_assign h3)) swaps_sub rfl rfl).imp fun D σ H h => setI_tS h2 h
    · cases h
  | .popS i, st, h, c, kd, px => by
    unfold ckS at h
    split at h
    · simp only [Bool.and_eq_true, decide_eq_true_eq] at h
      obtain ⟨⟨⟨rfl, h2⟩, h3⟩, h4⟩ := h
      obtain ⟨n1, n2, n3, n4⟩ := c.atN h2
      exact (ps_expr (pe_bm0 PySem.F.plainAttrs_list PySem.F.slot_list_pop PySem.F.type_list_pop mt_pop (pe_var n1 n2 n3 n4) rfl (by rw [h4]; exact beq_self_eq_true _)) (swaps_nc rfl)).imp fun D σ H h => popS_tS h3 h
    · cases h
  | .popA j i, st, h, c, kd, px => by
    unfold ckS at h
    split at h
    · simp only [Bool.and_eq_true, decide_eq_true_eq] at h
      obtain ⟨⟨⟨⟨⟨⟨⟨rfl, h2⟩, h3⟩, h4⟩, h5⟩, h6⟩, h7⟩, h8⟩ := h
      obtain ⟨n1, n2, n3, n4⟩ := c.atN h2
      obtain ⟨l1, l2⟩ := c.loc h6
      exact (ps_set c.nd (by rw [c.N]; exact h5) l1 (pe_bm0 PySem.F.plainAttrs_list PySem.F.slot_list_pop PySem.F.type_list_pop mt_pop (pe_var n1 n2 n3 n4) rfl (by rw [h4]; exact beq_self_eq_true _)) (swaps_nc rfl) l2).imp fun D σ H h => popA_tS h3 h7 h8 h
    · cases h
  | .jset k e, st, h, c, kd, px => by
    unfold ckS at h
    split at h
    · split at h
      · rename_i hx
        simp only [Bool.and_eq_true, decide_eq_true_eq] at h
        obtain ⟨⟨h1, rfl⟩, h3⟩ := h
        obtain ⟨n1, n2, n3, n4⟩ := c.atN h1
        exact (ps_asg (sE e h3 c).pe (pg_sub (pe_var n1 n2 n3 n4) pe_int set_list (sub_assign rfl)) swaps_sub rfl rfl).imp fun D σ H h => jset_tS hx h
      · cases h
    · cases h
  | .jnew i f as, st, h, c, kd, px => by
    unfold ckS at h
    split at h
    · simp only [Bool.and_eq_true, decide_eq_true_eq, Bool.not_eq_true'] at h
      obtain ⟨⟨⟨⟨h1, h2⟩, h3⟩, h4⟩, h5⟩ := h
      obtain ⟨l1, l2⟩ := c.loc h4
      split at h5
      · rename_i hf
        simp only [Bool.and_eq_true, decide_eq_true_eq, Bool.not_eq_true'] at h5
        obtain ⟨⟨⟨⟨⟨g1, g2⟩, g3⟩, g4⟩, g5⟩, g6⟩ := h5
        subst g1 g2 g3
        exact (ps_set c.nd (by rw [c.N]; exact h3) l1 (call_all c hf g4 g5 g6 (sEs as g6 c)) (swaps_nc rfl) l2).imp fun D σ H h => jnew_tS h1 h2 h
      · cases h5
    · cases h
  | .ex e, st, h, c, kd, px => by
    unfold ckS at h
    split at h
    · rw [Bool.and_eq_true] at h
      exact (ps_expr (sE e h.2 c).pe (swaps_nc h.1)).imp fun D σ H h => ex_tS h
    · cases h
  | .ret e, st, h, c, kd, px => by
    unfold ckS at h
    split at h
    · rw [Bool.and_eq_true] at h
      exact (ps_ret (sE e h.2 c).pe).imp fun D σ H h' => ret_tS (fun z => by rw [z] at h; simpa using h.1) h'
    · cases h
  | .retN, st, h, c, kd, px => by
    unfold ckS at h
    split at h
    · exact ps_retN.imp fun D σ H h => retN_tS h
    · cases h
  | .ite d a b, st, h, c, kd, px => by
    unfold ckS at h
    split at h
    · simp only [Bool.and_eq_true] at h
      exact (ps_if ((sE d h.1.1.2 c).pt h.1.1.1) (sSs a h.1.2 c kd px) (sSs b h.2 c kd px)).imp fun D σ H h => ite_tS h
    · cases h
  | .whl d body, st, h, c, kd, px => by
    unfold ckS at h
    split at h
    · simp only [Bool.and_eq_true] at h
      exact (ps_while px ((sE d h.1.2 c).pt h.1.1) (sSs body h.2 c kd px)).imp fun D σ H h => whl_tS h
    · cases h
  | .forS b t it body, st, h, c, kd, px => by
    unfold ckS at h
    split at h
    · simp only [Bool.and_eq_true] at h
      exact (ps_for px c.calm (sIt it h.1.2 c) (pg_ok t h.1.1.2 c) (sSs body h.2 c kd px) (nset_of h.1.1.1.1)).imp fun D σ H h' => for_tS h.1.1.1.2 h'
    · cases h
  | .brk, st, h, c, kd, px => by
    unfold ckS at h
    split at h
    · exact ps_break.imp fun D σ H h => brk_tS h
    · cases h
  | .cnt, st, h, c, kd, px => by
    unfold ckS at h
    split at h
    · exact ps_continue.imp fun D σ H h => cnt_tS h
    · cases h
  | .pass, st, h, c, kd, px => by
    unfold ckS at h
    split at h
    · exact ps_pass.imp fun D σ H h => pass_tS h
    · cases h
  | .raise_, st, h, c, kd, px => ps_never.imp fun D σ H h => (never_tS h).elim
theorem sSs : ∀ (ss : List Sm) {sts : List Stmt}, ckSs T S M jf fr ss sts = true → Cf T Φ lv S X → S.sc.kind = .function → PassesOwn (model X.prog X.w) X.A X.env X.xe → PSs X sts (tS X.K M S.jx jf fr (evSs Φ fuel M ss))
  | [], sts, h, c, kd, px => by
    unfold ckSs at h
    split at h
    · exact pss_nil.imp fun D σ H h => nil_tS h
    · cases h
  | s :: ss, sts, h, c, kd, px => by
    unfold ckSs at h
    split at h
    · rw [Bool.and_eq_true] at h
      exact (pss_cons (sS s h.1 c kd px) (sSs ss h.2 c kd px)).imp fun D σ H h => seq_tS h
    · cases h
end
end
end Ev
end

section
set_option maxRecDepth 100000
set_option maxHeartbeats 1000000
/-! Defs. -/
namespace Ev
open PySem PySem.Spec PyProof.Rows L2

/-- what is known of the module -/
structure Ft (T : Tb) (Φ : Fns) (lv : Nat) (P : Program) (w : World) (K : PySem.W.Frag) (mg : Str → Option Value) (base : Heap) : Prop where
  bl : ∀ x ∈ blts, mg x = none
  cs : ∀ x d, (x, d) ∈ T.cs → ∃ u v, mg x = some u ∧ RelV v u ∧ (∀ H O, DF K H O v d) ∧ noL d = true
  fs : ∀ f x j r, T.fs[f]? = some (x, j, r) → (∀ ds J, Φ f ds J = .no) ∨ ∃ a, mg x = some (.ref a) ∧ PySem.W.keepIn K (.ref a) = true ∧ FnG P w K mg base CX0 lv a (spF K (Φ f) j r)
/-- a def: its name, what it computes, its names (the parameters first), its parameters, the jar's place, whether it gives a new list -/
structure FD where
  name : Str
  F : Fn
  N : List Str
  ps : List Str
  jx : Option Nat
  fr : Bool
def FD.S (d : FD) (sc : Scope) : Ss := ⟨d.N, sc, d.jx, none⟩
def ckFn (T : Tb) (d : FD) (sc : Scope) (body : List Stmt) : Bool :=
  decide (sc.kind = .function) && !sc.isCoroutine && !sc.isGenerator && decide d.N.Nodup && decide (d.N.take d.ps.length = d.ps) &&
  (d.ps.all fun x => decide (sc.names.lookup x = some .local) || decide (sc.names.lookup x = some .cell)) && (sc.names.all fun y => decide (y.2 ≠ .free)) &&
  decide (d.N.length = d.F.nN) && decide (d.ps.length = d.F.np) && decide (d.F.np ≤ d.F.nN) && decide (d.F.M.length = d.F.nN) && ((List.range d.F.np).all fun i => decide (d.F.M.getD i 0 = 0)) &&
  (!d.F.jar || (decide (d.jx = some 0) && decide (0 < d.F.np))) && (!(d.F.jar && d.F.va)) && ckSs T (d.S sc) d.F.M d.F.jar d.fr d.F.body body
structure FnC (T : Tb) (d : FD) (sc : Scope) (body : List Stmt) : Prop where
  scope : FnScope d.N d.ps sc
  nN : d.N.length = d.F.nN
  np : d.ps.length = d.F.np
  le : d.F.np ≤ d.F.nN
  M : d.F.M.length = d.F.nN
  pM : ∀ i, i < d.F.np → d.F.M.getD i 0 = 0
  jx : d.F.jar = true → d.jx = some 0 ∧ 0 < d.F.np
  nb : ¬ (d.F.jar = true ∧ d.F.va = true)
  ck : ckSs T (d.S sc) d.F.M d.F.jar d.fr d.F.body body = true
theorem ckFn_ok {T : Tb} {d : FD} {sc : Scope} {body : List Stmt} (h : ckFn T d sc body = true) : FnC T d sc body := by
  unfold ckFn at h
  simp only [Bool.and_eq_true, decide_eq_true_eq, Bool.not_eq_true'] at h
  obtain ⟨⟨⟨⟨⟨⟨⟨⟨⟨⟨⟨⟨⟨⟨h1, h2⟩, h3⟩, h4⟩, h5⟩, h6⟩, h7⟩, h8⟩, h9⟩, h10⟩, h11⟩, h12⟩, h13⟩, h14⟩, h15⟩ := h
  refine ⟨⟨h1, h2, h3, h4, h5, fun x hx => ?_, fun y hy => ?_⟩, h8, h9, h10, h11, fun i hi => ?_, fun hj => ?_, fun ⟨z1, z2⟩ => ?_, h15⟩
  · have := List.all_eq_true.mp h6 x hx
    rw [Bool.or_eq_true, decide_eq_true_eq, decide_eq_true_eq] at this
    exact this
  · exact of_decide_eq_true (List.all_eq_true.mp h7 y hy)
  · exact of_decide_eq_true (List.all_eq_true.mp h12 i (List.mem_range.mpr hi))
  · rw [hj] at h13
    simpa using h13
  · rw [z1, z2] at h14; cases h14
section
variable {P : Program} {w : World} {K : PySem.W.Frag} {mg : Str → Option Value} {base : Heap} {T : Tb} {Φ : Fns} {lv fuel : Nat}
theorem deeper_gd {A : Around} {env : Env} (h : A.guards = some []) : (A.deeper env).guards = some [] := h
/-- the context of a body -/
theorem cf_body {d : FD} {sc : Scope} {f : Addr} {cdv : Value} {A : Around} {outer : List Env} {s : Shared} {H : Hp} {E : XK} {qual : Str} (ft : Ft T Φ lv P w K mg base) (hn : d.N.Nodup) (hr : Room lv (A.deeper (envOfC qual sc s.heap.objs.size f cdv))) (hg : A.guards = some []) :
    Cf T Φ lv (d.S sc) (cxOf CX0 P w K mg base d.N qual sc f cdv A outer s H E).nox :=
  ⟨rfl, rfl, rfl, hn, hr, deeper_gd hg, fun _ _ => rfl, ft.bl, ft.cs, ft.fs⟩
/-- the values at the entry -/
theorem start_get {N : List Str} {vs : List V} {i : Nat} {v : V} (h : vs[i]? = some v) : (L2.start N vs)[i]? = some (some v) := by
  unfold L2.start
  have hi : i < vs.length := (List.getElem?_eq_some_iff.mp h).1
  rw [List.getElem?_append_left (by simpa using hi), List.getElem?_map, h]; rfl
theorem app_rep {as : Sd} {n i : Nat} {d : PyData} (h : (as ++ List.replicate n none)[i]? = some (some d)) : as[i]? = some (some d) := by
  rw [List.getElem?_append] at h
  split at h
  · exact h
  · rw [List.getElem?_replicate] at h
    split at h <;> cases h
theorem map_some_get {ds : List PyData} {i : Nat} {d : PyData} (h : (ds.map some)[i]? = some (some d)) : ds[i]? = some d := by
  rw [List.getElem?_map] at h
  cases e : ds[i]? with
  | none => rw [e] at h; cases h
  | some x => rw [e] at h; cases h; rfl
theorem runFn_ok {F : Fn} {ds : List PyData} {J : Jr} {Q : PyData → Jr → Prop} (h : (runFn Φ fuel F ds J).Ok Q) : ∃ as, argsD F ds = some as ∧ (F.jar = true → J ≠ none) ∧ (F.jar = false → J = none) ∧
    (evSs Φ fuel F.M F.body (as ++ List.replicate (F.nN - F.np) none) J).Ok fun o J1 => match o with
      | .rt d => Q d (if F.jar then J1 else none)
      | .nx _ => Q .none (if F.jar then J1 else none)
      | _ => False := by
  unfold runFn at h
  split at h
  · exact h.elim
  · exact h.elim
  · rename_i J x2 x1 J0 as h0 h1 h2
    refine ⟨as, h0, fun hj e => h1 hj e, fun hj => ?_, ?_⟩
    · cases J with
      | none => rfl
      | some ns => exact (h2 ns hj rfl).elim
    · cases e : evSs Φ fuel F.M F.body (as ++ List.replicate (F.nN - F.np) none) J with
      | ok o J1 => rw [e] at h; cases o <;> exact h
      | ex x J1 => rw [e] at h; exact h.elim
      | no => rw [e] at h; exact h.elim
  · exact h.elim
/-- the body's reading at the entry -/
theorem entry_tS {d : FD} {sc : Scope} {body : List Stmt} (c : FnC T d sc body) {O : Addr → Prop} {jo : Option Addr} {H : Hp} {J : Jr} {vs : List V} {as : Sd} {Q : VK} (hl : vs.length = d.F.np) (hal : as.length = d.F.np) (hv : ∀ (i : Nat) (e : PyData), as[i]? = some (some e) → ∃ v, vs[i]? = some v ∧ DF K H O v e) (own : Ow H O) (jr : JRel H O jo J)
    (hj : ∀ j, jo = some j → d.F.jar = true ∧ vs[0]? = some (.ref j)) (hj2 : d.F.jar = false → jo = none)
    (h : (evSs Φ fuel d.F.M d.F.body (as ++ List.replicate (d.F.nN - d.F.np) none) J).Ok fun o J1 => match o with
      | .rt e => Vw K O jo H d.fr e (if d.F.jar then J1 else none) Q
      | .nx _ => Vw K O jo H d.fr .none (if d.F.jar then J1 else none) Q
      | _ => False) :
    tS K d.F.M d.jx d.F.jar d.fr (evSs Φ fuel d.F.M d.F.body) { nx := fun _ H' => Q .non H', rt := Q } (L2.start d.N vs) H := by
  have ll : ∀ a, OO O jo noOw a → O a := fun a z => by
    rcases z with (z | z) | ⟨i, z⟩
    · exact z
    · exact jr.sub a z
    · cases z
  have ai : ∀ {i : Nat} {e : PyData}, as[i]? = some (some e) → i < d.F.np := fun {i e} q => by
    rw [← hal]
    exact (List.getElem?_eq_some_iff.mp q).1
  have r : RS K d.F.M d.jx d.F.jar O jo [(Jo jo, H)] noOw jo H (L2.start d.N vs) (as ++ List.replicate (d.F.nN - d.F.np) none) J := by
    have le := c.le
    refine ⟨?_, ?_, fun i e hm he => ?_, fun i e hm he => ?_, fun i j a z => (by cases z), fun i a z => (by cases z), fun i a z => (by cases z), own, jr.toJ, fun j ej => ?_, fun _ => rfl, hj2, fun p hp => ?_⟩
    · unfold L2.start
      simp only [List.length_append, List.length_map, List.length_replicate, hal, hl, c.nN]
    · simp only [List.length_append, List.length_replicate, hal, c.M]
      omega
    · obtain ⟨v, e1, e2⟩ := hv i e (app_rep he)
      exact ⟨v, start_get e1, e2.less fun a z => .inl (ll a z)⟩
    · exact absurd (c.pM i (ai (app_rep he))) hm
    · obtain ⟨q1, q2⟩ := hj j ej
      exact ⟨0, (c.jx q1).1, start_get q2⟩
    · rw [List.mem_singleton.mp hp]
      exact ⟨.refl, fun a z => z.elim .inl fun ⟨i, y⟩ => by cases y⟩
  refine ⟨O, jo, H, _, noOw, jo, _, J, List.mem_singleton.mpr rfl, fun j e => jr.sub j e, r, h.imp fun o J1 q => ?_⟩
  cases o with
  | rt e => exact fun v H' k j dv f => q v H' k j dv f
  | nx σ1 =>
    intro σv' H' ow' jo' r'
    have kp := (r'.fr _ (List.mem_singleton.mpr rfl)).1
    refine q .non H' kp ?_ .non fun _ _ _ e => nomatch e
    cases hjf : d.F.jar with
    | true =>
      have ej := r'.jf1 hjf
      subst ej
      exact r'.jar.re fun j e => jr.sub j e
    | false =>
      have ej := r'.jf0 hjf
      subst ej
      exact trivial
  | bk σ1 => exact q.elim
  | ct σ1 => exact q.elim
/-- a def with plain parameters -/
theorem fn_sound {d : FD} {params : Arguments} {body : List Stmt} {sc : Scope} {a : Addr} {fd : FuncData} (ft : Ft T Φ lv P w K mg base) (FDn : FunD K d.name d.name params body sc [] [] a fd) (c : FnC T d sc body) (hva : d.F.va = false) (hb : Binds K fd d.ps []) :
    FnG P w K mg base CX0 (lv + 1) a (spF K (runFn Φ fuel d.F) d.F.jar d.fr) := by
  obtain ⟨oc, od, dV, kV, doc, pm, an, cdv, ct, osl, rfl, lk, hcd, _, _⟩ := FDn.ex
  intro A outer s H us vs Q E hr hg e0 rv ⟨O, jo, J, ds, vs', own, jr, dfs, hvs, ok⟩
  obtain ⟨as, ha, hJ1, hJ2, hev⟩ := runFn_ok ok
  have args : vs.length = d.F.np ∧ as.length = d.F.np ∧ (∀ (i : Nat) (e : PyData), as[i]? = some (some e) → ∃ v, vs[i]? = some v ∧ DF K H O v e) ∧ (∀ j, jo = some j → d.F.jar = true ∧ vs[0]? = some (.ref j)) ∧ (d.F.jar = false → jo = none) := by
    unfold argsD at ha
    rw [hva] at ha
    cases hj : d.F.jar with
    | false =>
      rw [hj] at ha hvs
      obtain ⟨h1, h2⟩ := ite_some ha
      subst h2
      cases jo with
      | some j => exact hvs.elim
      | none =>
        have hvs : vs = vs' := hvs
        subst hvs
        refine ⟨dfs.length.trans h1, by rw [List.length_map]; exact h1, fun i e he => ?_, (fun j e => by cases e), fun _ => rfl⟩
        exact dfs.get (map_some_get he)
    | true =>
      rw [hj] at ha hvs
      obtain ⟨h1, h2⟩ := ite_some ha
      subst h2
      cases jo with
      | none => exact hvs.elim
      | some j =>
        have hvs : vs = .ref j :: vs' := hvs
        subst hvs
        refine ⟨by rw [List.length_cons, dfs.length]; exact h1, by rw [List.length_cons, List.length_map]; exact h1, fun i e he => ?_, fun j' e => ⟨rfl, by cases e; rfl⟩, (fun z => by cases z)⟩
        cases i with
        | zero => cases he
        | succ i => exact dfs.get (map_some_get (show (ds.map some)[i]? = _ from he))
  obtain ⟨l1, l2, hv, hj, hj2⟩ := args
  have hlu : us.length = d.ps.length := by rw [← rv.length, l1, c.np]
  have KX : K.In s.heap := e0.mod.kin.keeps fun b o e => (e0.bs b o e).1
  refine StX.run_bnd (k := lv) (N := d.N) (ps := d.ps) (G := fun xs H2 => xs = vs ∧ H2 = H) lk hcd c.scope hr e0 (fun A' Ex Q' h => ?_) fun s2 H2 xs ⟨e1, e2⟩ hr' => ?_
  · have z := hb s us KX (by rw [List.append_nil]; exact hlu)
    rw [List.append_nil] at z
    exact z _ A' Ex Q' (h s H vs us e0 Un.refl rfl (fun _ _ q => q) rv (by rw [l1, c.np]) ⟨rfl, rfl⟩)
  · subst e1 e2
    have cf := cf_body (d := d) (E := E) (outer := outer) (H := H2) ft c.scope.nd hr' hg
    refine ⟨_, PSs.nox (sSs (fuel := fuel) d.F.body c.ck cf c.scope.kind PassesOwn.never), ?_⟩
    exact entry_tS c l1 l2 hv own jr hj hj2 hev
/-- a def whose last parameter takes what is left over -/
theorem fn_soundV {d : FD} {params : Arguments} {body : List Stmt} {sc : Scope} {a : Addr} {fd : FuncData} {ps0 : List Str} {pv : Str} (ft : Ft T Φ lv P w K mg base) (FDn : FunD K d.name d.name params body sc [] [] a fd) (c : FnC T d sc body) (hva : d.F.va = true) (hps : d.ps = ps0 ++ [pv])
    (hb : ∀ us rest : List Value, us.length = ps0.length → bindArgs fd ⟨us ++ rest, []⟩ = (newTuple rest >>= fun t => pure (ps0.zip us ++ [(pv, t)]))) : FnG P w K mg base CX0 (lv + 1) a (spF K (runFn Φ fuel d.F) d.F.jar d.fr) := by
  obtain ⟨oc, od, dV, kV, doc, pm, an, cdv, ct, osl, rfl, lk, hcd, _, _⟩ := FDn.ex
  have hjar : d.F.jar = false := by
    cases h : d.F.jar with
    | false => rfl
    | true => exact absurd ⟨h, hva⟩ c.nb
  intro A outer s H us vs Q E hr hg e0 rv ⟨O, jo, J, ds, vs', own, jr, dfs, hvs, ok⟩
  obtain ⟨as, ha, hJ1, hJ2, hev⟩ := runFn_ok ok
  unfold argsD at ha
  rw [hva, hjar] at ha
  rw [hjar] at hvs
  obtain ⟨⟨h1, h2, h3⟩, h4⟩ := ite_some ha
  subst h4
  cases jo with
  | some j => exact hvs.elim
  | none =>
    have hvs : vs = vs' := hvs
    subst hvs
    have hp0 : ps0.length = d.F.np - 1 := by
      have := c.np
      rw [hps, List.length_append] at this
      simp at this
      omega
    have hl := dfs.length
    have l3 := sizeLine_eq
    have KX : K.In s.heap := e0.mod.kin.keeps fun b o e => (e0.bs b o e).1
    have rv1 : Vals (vs.take (d.F.np - 1)) (us.take (d.F.np - 1)) := rv.take _
    have rv2 : Vals (vs.drop (d.F.np - 1)) (us.drop (d.F.np - 1)) := rv.drop _
    have hn : H s.heap.objs.size = none := e0.hok.fresh (Nat.le_refl _)
    have hz : (vs.drop (d.F.np - 1)).length ≤ sizeLine := by rw [List.length_drop]; omega
    have hz2 : (us.drop (d.F.np - 1)).length ≤ sizeLine := by rw [← rv2.length]; exact hz
    have hlt : (us.take (d.F.np - 1)).length = ps0.length := by
      rw [← rv1.length, List.length_take, hp0]; omega
    refine StX.run_bnd (k := lv) (N := d.N) (ps := d.ps) (G := fun xs H2 => ∃ p, H p = none ∧ xs = vs.take (d.F.np - 1) ++ [V.ref p] ∧ H2 = upd H p (.tup (vs.drop (d.F.np - 1)))) lk hcd c.scope hr e0 (fun A' Ex Q' h => ?_) fun s2 H2 xs ⟨p, hp, e1, e2⟩ hr' => ?_
    · have eb := hb (us.take (d.F.np - 1)) (us.drop (d.F.np - 1)) hlt
      rw [List.take_append_drop] at eb
      rw [eb]
      refine wpAny_bind (wpAny_newTuple (wpAny_pure ?_) hz2)
      have new : ObjOk P w (upd H s.heap.objs.size (.tup (vs.drop (d.F.np - 1)))) (s.heap.push ({ cls := .type "tuple", data := .seq (us.drop (d.F.np - 1)).toArray } : Obj)) s.heap.objs.size (.tup (vs.drop (d.F.np - 1))) := ⟨hz, _, rv2, ⟨_, Heap.get?_push_size _ rfl, rfl, _, rfl⟩⟩
      have un := StX.un_laid (fs := frs outer) (s := s) (o := ({ cls := .type "tuple", data := .seq (us.drop (d.F.np - 1)).toArray } : Obj)) (u := .tup (vs.drop (d.F.np - 1))) hn
      have z := h _ _ (vs.take (d.F.np - 1) ++ [V.ref s.heap.objs.size]) (us.take (d.F.np - 1) ++ [Value.ref s.heap.objs.size]) (StX.env0_laid e0 new) un rfl (fun e s' q => q) (rv1.append (.cons rfl .nil))
        (by rw [hps, List.length_append, List.length_append, rv1.length, hlt] <;> rfl) ⟨_, hn, rfl, rfl⟩
      rw [hps, List.zip_append hlt.symm] at z
      exact z
    · subst e1 e2
      have cf := cf_body (d := d) (E := E) (outer := outer) (H := upd H p (.tup (vs.drop (d.F.np - 1)))) ft c.scope.nd hr' hg
      refine ⟨_, PSs.nox (sSs (fuel := fuel) d.F.body c.ck cf c.scope.kind PassesOwn.never), ?_⟩
      have kn : Kp No H (upd H p (.tup (vs.drop (d.F.np - 1)))) := .new hp
      have lt : (vs.take (d.F.np - 1)).length = d.F.np - 1 := by rw [List.length_take]; omega
      have lt2 : ((ds.take (d.F.np - 1)).map some).length = d.F.np - 1 := by rw [List.length_map, List.length_take]; omega
      refine entry_tS (jo := none) (J := J) (O := O) c ?_ ?_ (fun i e he => ?_) (own.keepNo kn) (jr.keepNo kn) (fun j e => nomatch e) (fun _ => rfl) (hev.imp fun o J1 q => ?_)
      · rw [List.length_append, lt]; simp; omega
      · rw [List.length_append, lt2]; simp; omega
      · rw [List.getElem?_append] at he ⊢
        rw [lt]
        rw [lt2] at he
        by_cases hi : i < d.F.np - 1
        · rw [if_pos hi] at he ⊢
          obtain ⟨v, e1, e2⟩ := (dfs.take (d.F.np - 1)).get (map_some_get he)
          exact ⟨v, e1, e2.keep kn.no⟩
        · rw [if_neg hi] at he ⊢
          cases hk : i - (d.F.np - 1) with
          | zero =>
            rw [hk] at he
            cases he
            exact ⟨_, rfl, .tup (.inl (.inl upd_same)) ((dfs.drop _).keep kn.no)⟩
          | succ m => rw [hk] at he; cases he
      · cases o with
        | rt e => exact Vw.step q kn.no
        | nx _ => exact Vw.step q kn.no
        | bk _ => exact q
        | ct _ => exact q
end
end Ev
end

section
set_option maxRecDepth 100000
set_option maxHeartbeats 1000000
/-! The table of defs; the law. -/
namespace Ev
open PySem PySem.Spec PyProof.Rows L2

/-- a def stands in the written part, checked -/
def DOk (T : Tb) (K : PySem.W.Frag) (mg : Str → Option Value) (d : FD) : Prop := ∃ (a : Addr) (params : Arguments) (body : List Stmt) (sc : Scope) (fd : FuncData), mg d.name = some (.ref a) ∧ FunD K d.name d.name params body sc [] [] a fd ∧ FnC T d sc body ∧
  ((d.F.va = false ∧ Binds K fd d.ps []) ∨ (d.F.va = true ∧ ∃ ps0 pv, d.ps = ps0 ++ [pv] ∧ ∀ us rest : List Value, us.length = ps0.length → bindArgs fd ⟨us ++ rest, []⟩ = (newTuple rest >>= fun t => pure (ps0.zip us ++ [(pv, t)]))))
def tbOf (Ds : List FD) (cs : List (Str × PyData)) : Tb := ⟨Ds.map fun d => (d.name, d.F.jar, d.fr), cs⟩
def fnsOf (Ds : List FD) : List Fn := Ds.map FD.F
section
variable {P : Program} {w : World} {K : PySem.W.Frag} {mg : Str → Option Value} {base : Heap} {fuel : Nat} {Ds : List FD} {cs : List (Str × PyData)}
theorem phi_ne {Q : List Fn} {n f : Nat} (h : f ≠ n) : phi fuel Q (n + 1) f = phi fuel Q n f := by
  funext ds
  show (if f = n then _ else _) = _
  rw [if_neg h]
theorem phi_at {Q : List Fn} {n : Nat} {F : Fn} (h : Q[n]? = some F) : phi fuel Q (n + 1) n = runFn (phi fuel Q n) fuel F := by
  funext ds
  show (if n = n then (match Q[n]? with
    | some F => runFn (phi fuel Q n) fuel F ds
    | none => Mo.fail) else _) = _
  rw [if_pos rfl, h]
theorem table (hD : ∀ d ∈ Ds, DOk (tbOf Ds cs) K mg d) (bl : ∀ x ∈ blts, mg x = none) (hcs : ∀ x d, (x, d) ∈ cs → ∃ u v, mg x = some u ∧ RelV v u ∧ (∀ H O, DF K H O v d) ∧ noL d = true) : ∀ n, n ≤ Ds.length → Ft (tbOf Ds cs) (phi fuel (fnsOf Ds) n) n P w K mg base
  | 0, _ => ⟨bl, hcs, fun f x j r _ => .inl fun ds J => rfl⟩
  | n + 1, hn => by
    have ih := table hD bl hcs n (Nat.le_of_succ_le hn)
    refine ⟨bl, hcs, fun f x j r hf => ?_⟩
    by_cases e : f = n
    · subst e
      have hl : f < Ds.length := hn
      have hd : Ds[f]? = some Ds[f] := List.getElem?_eq_getElem hl
      have hF : (fnsOf Ds)[f]? = some Ds[f].F := by unfold fnsOf; rw [List.getElem?_map, hd]; rfl
      have ht : (tbOf Ds cs).fs[f]? = some (Ds[f].name, Ds[f].F.jar, Ds[f].fr) := by unfold tbOf; rw [List.getElem?_map, hd]; rfl
      rw [ht] at hf
      cases hf
      obtain ⟨a, params, body, sc, fd, m, FDn, c, hb⟩ := hD Ds[f] (List.getElem_mem hl)
      refine .inr ⟨a, m, FDn.kp, ?_⟩
      rw [phi_at hF]
      rcases hb with ⟨v, b⟩ | ⟨v, ps0, pv, e1, b⟩
      · exact fn_sound ih FDn c v b
      · exact fn_soundV ih FDn c v e1 b
    · rw [phi_ne e]
      rcases ih.fs f x j r hf with st | ⟨a, m, kp, F⟩
      · exact .inl st
      · exact .inr ⟨a, m, kp, F.mono (Nat.le_succ n)⟩
end

/-- a law's call, its def's promise given where no repr is under way -/
theorem law_G {P : Program} {w : World} {K : PySem.W.Frag} {mg mb : Str → Option Value} {k : Nat} {fa a : Addr} {sp : Sp} {s₁ : Shared} {vs : List Value} {ns : List Int} (KX : K.In s₁.heap) (hgl : s₁.heap.Ns mainGlobals mg) (hbl : s₁.heap.Ns builtinsNs mb)
    (hbb : ∀ x : Str, x ≠ "__name__" → mb x = bootBuiltins x) (hli : s₁.heap.NoLimit) (hge : s₁.gens = #[]) (hob : s₁.heap.get? a = some { cls := .type "list", data := .seq vs.toArray }) (hin : IntsAre vs ns) (hsz : ns.length ≤ sizeLine) (hro : Room k callerA)
    (F : ∀ base : Heap, K.In base → base.Ns mainGlobals mg → FnG P w K mg base CX0 k fa sp) (hsp : ∀ H : Hp, Only H → SqL K H a (ns.map V.int) → sp [.ref a] H (fun v _ => v = .bl true) E0) :
    codeAny (model P w) callerA (.call (.ref fa) ⟨[.ref a], []⟩) (fun r s' => r = .ok (.ret (.bool true)) ∧ OldK s₁.heap s'.heap ∧ s'.os = s₁.os ∧ AllBare s'.gens) s₁ := by
  have rel := vals_ints hin
  have hlen := hin.length
  have go : ∀ H : Hp, Only H → SqL K H a (ns.map V.int) → HOk P w H s₁.heap → (∀ b u, H b = some u → b = a) → (H a ≠ none → K.lookup a = none) →
      codeAny (model P w) callerA (.call (.ref fa) ⟨[.ref a], []⟩) (fun r s' => r = .ok (.ret (.bool true)) ∧ OldK s₁.heap s'.heap ∧ s'.os = s₁.os ∧ AllBare s'.gens) s₁ := by
    intro H only seq ok one apart
    have free : ∀ {b : Addr}, b ≠ a → H b = none := fun {b} ne => by
      cases q : H b with
      | none => rfl
      | some u => exact absurd (one b u q) ne
    have ns' : ∀ {b : Addr} {m : Str → Option Value}, s₁.heap.Ns b m → (hidT s₁.heap H).Ns b m := fun {b m} ⟨o, es, ep, e, d, r⟩ => by
      refine ⟨o, es, ep, hidT_get e (free fun z => ?_), d, r⟩
      rw [z, hob] at e
      cases e
      exact absurd (show Data.seq vs.toArray _ = Data.dict es ep from d) (fun z => by cases z)
    have kin : K.In (hidT s₁.heap H) := fun b o e => by
      refine hidT_get (KX b o e) ?_
      by_cases hb : b = a
      · cases q : H b with
        | none => rfl
        | some u =>
          have z := apart (by rw [← hb, q]; exact fun z => nomatch z)
          rw [← hb, e] at z
          cases z
      · exact free hb
    obtain ⟨mc, c1, c2⟩ := hli
    have e0 : Env0 P w K mg (hidT s₁.heap H) callerA [] s₁ H :=
      ⟨rfl, ⟨kin, ns' hgl, ⟨mb, ns' hbl, hbb⟩, mc, ns' c1, c2⟩, fun b o e => of_hidT e, Nat.le_of_eq (hidT_size _ _), trivial, fun b hb => (by cases hb), ok, .of_eq hge⟩
    refine codeAny_mono (F _ kin (ns' hgl) callerA [] s₁ H [.ref a] [.ref a] _ _ hro rfl e0 (.cons rfl .nil) (hsp H only seq)) fun r s' h => ?_
    cases r with
    | error e => exact h.elim
    | ok fl =>
      cases fl with
      | ret u =>
        obtain ⟨v, H', os, bare, un, ok', rv, ev⟩ := h
        have ev' : v = .bl true := ev
        subst ev'
        obtain rfl : u = Value.bool true := rv
        refine ⟨rfl, OldK.of_keep fun b o e => ?_, os, bare⟩
        rcases only b with z | ⟨ob, xs, z⟩
        · exact un.keep b o e z (by intro q; cases q) (by simp)
        · obtain ⟨e1, _⟩ := ok b _ z
          obtain ⟨e2, _⟩ := ok' b _ (un.frzs b ob _ z)
          rw [e] at e1
          cases e1
          exact e2
      | _ => exact h.elim
  cases hk : K.lookup a with
  | some o =>
    have e := KX a o hk
    rw [hob] at e
    cases e
    refine go (fun _ => none) (fun _ => .inl rfl) (.inr ⟨_, vs.toArray, _, hk, rfl, rfl, rfl, ?_, ?_⟩) (fun b u z => by cases (show (none : Option HO) = some u from z)) (fun b u z => by cases (show (none : Option HO) = some u from z)) fun z => absurd rfl z
    · rw [List.size_toArray, hlen]; exact hsz
    · exact rel
  | none =>
    let H1 : Hp := upd (fun _ => none) a (.frz { cls := .type "list", data := .seq vs.toArray } (.lst (ns.map V.int)))
    have at_ : H1 a = some (.frz { cls := .type "list", data := .seq vs.toArray } (.lst (ns.map V.int))) := upd_same
    have off : ∀ {b}, b ≠ a → H1 b = none := fun ne => upd_ne ne
    refine go H1 (fun b => ?_) (.inl (.inr ⟨_, at_⟩)) (fun b u z => ?_) (fun b u z => ?_) fun _ => hk
    · by_cases hb : b = a
      · exact .inr ⟨_, _, hb ▸ at_⟩
      · exact .inl (off hb)
    · by_cases hb : b = a
      · subst hb
        rw [at_] at z
        cases z
        exact ⟨hob, by rw [List.length_map]; exact hsz, vs, _, rel, hob⟩
      · rw [off hb] at z
        cases z
    · by_cases hb : b = a
      · exact hb
      · rw [off hb] at z
        cases z
/-- the law's goal behind a head by facts: from what the law's def computes -/
theorem walk_G {l : PySem.W.OpenLaw} {n k : Nat} {q : Program} {loose : List Str} {XP : (Str → Option Value) → Heap → Prop} {YP : World → Heap → Prop} {d : DefRec} (hn : l.most = some n) (hn2 : n ≤ sizeLine) (hdf : d.params.defaults = []) (hro : Room k callerA)
    (F : ∀ (w : World) (mg : Str → Option Value) (fa : Addr) (h : Heap), YP w h → h.Ns mainGlobals mg → mg d.name = some (.ref fa) → ∃ (K : PySem.W.Frag) (G : List PyData → Mo PyData) (r : Bool), K.In h ∧ (∀ ns : List Int, ns.length ≤ n → G [scrD ns] none = .ok (.bool true) none) ∧
      ∀ base : Heap, K.In base → base.Ns mainGlobals mg → FnG l.prog w K mg base CX0 k fa (spF K G false r)) : PySem.W.WalkO q loose XP YP l.row.toRowW d [] (fun f vs => PySem.call f vs) := by
  refine Att.attach_call hn hdf fun w s₀ s₁ mg mb fa o pm cd doc a vs ns G Y ho hd hcd hmg hobj hints hlen hg => ?_
  obtain ⟨K, Gf, r, KX, hG, hF⟩ := F w mg fa _ Y G.T.g hmg
  refine law_G KX G.T.g G.T.b G.T.builtins G.T.nolimit hg hobj hints (Nat.le_trans hlen hn2) hro hF fun H only seq => ?_
  refine ⟨No, none, none, [scrD ns], [.ref a], fun _ z => z.elim, trivial, .cons (.scr ?_) .nil, rfl, ?_⟩
  · rcases seq with (z | ⟨ob, z⟩) | z
    · exact .inl ⟨z, fun y => y⟩
    · exact .inr (.inl ⟨ob, z⟩)
    · exact .inr (.inr z)
  · rw [hG ns hlen]
    exact fun v H' _ _ dv _ => dv.inj_bool
end Ev
end

section
set_option maxRecDepth 100000
set_option maxHeartbeats 1000000
/-! Plain: what the evaluator gives. -/
namespace Ev
open PySem PySem.Spec PyProof.Rows L2
theorem phi_ge {fuel : Nat} {Q : List Fn} {f : Nat} : ∀ {n : Nat}, n ≤ f → ∀ ds J, phi fuel Q n f ds J = .no
  | 0, _, _, _ => rfl
  | n + 1, h, ds, J => by rw [phi_ne (by omega)]; exact phi_ge (Nat.le_of_succ_le h) ds J
theorem phi_lt {fuel : Nat} {Q : List Fn} {f : Nat} {F : Fn} (hF : Q[f]? = some F) : ∀ {n : Nat}, f < n → phi fuel Q n f = runFn (phi fuel Q f) fuel F
  | n + 1, h => by
    by_cases e : f = n
    · subst e; exact phi_at hF
    · rw [phi_ne e]; exact phi_lt hF (by omega)

/-! ### what holds of a result -/
section
variable {α β : Type} {P : α → Jr → Prop} {R : β → Jr → Prop} {J J1 : Jr}
theorem ok_bind {m : Mo α} {f : α → Mo β} : (Mo.bind m f J).Ok R ↔ (m J).Ok fun a J1 => (f a J1).Ok R := by
  unfold Mo.bind
  cases m J with
  | ok a J1 => exact Iff.rfl
  | ex x J1 => exact Iff.rfl
  | no => exact Iff.rfl
theorem ok_pure {a : α} : (Mo.pure a J).Ok P ↔ P a J := Iff.rfl
theorem ok_opt {o : Option α} : (Mo.opt o J).Ok P ↔ ∃ a, o = some a ∧ P a J := by
  cases o with
  | none => exact ⟨fun z => z.elim, fun ⟨_, e, _⟩ => by cases e⟩
  | some a => exact ⟨fun z => ⟨a, rfl, z⟩, fun ⟨_, e, z⟩ => by cases e; exact z⟩
theorem ok_some {a : α} : (Mo.opt (some a) J).Ok P ↔ P a J := Iff.rfl
theorem ok_ok {a : α} : (Rs.ok a J : Rs α).Ok P ↔ P a J := Iff.rfl
theorem bind_ok' {m : Mo α} {f : α → Mo β} {a : α} (h : m J = .ok a J1) : Mo.bind m f J = f a J1 := by unfold Mo.bind; rw [h]
theorem bind_pure {f : α → Mo β} {a : α} : Mo.bind (Mo.pure a) f J = f a J := rfl
theorem bind_some {f : α → Mo β} {a : α} : Mo.bind (Mo.opt (some a)) f J = f a J := rfl
theorem eq_of_ok {m : Rs α} {a : α} (h : m.Ok fun b J2 => b = a ∧ J2 = J1) : m = .ok a J1 := by
  cases m with
  | ok b J2 => obtain ⟨e1, e2⟩ := h; subst e1 e2; rfl
  | ex x J2 => exact h.elim
  | no => exact h.elim
theorem callP_eq {Φ : Fns} {f : Nat} {ds : List PyData} {d : PyData} {J2 : Jr} (h : Φ f ds none = .ok d J2) : callP Φ f ds J = .ok d J := by unfold callP; rw [h]
theorem noX_eq {m : Mo α} {a : α} (h : m J = .ok a J1) : noX m J = .ok a J1 := by unfold noX; rw [h]
end
/-! ### comprehensions, loops -/
theorem lc_pure {f : PyData → Mo (Option PyData)} {g : PyData → Option PyData} {J : Jr} : ∀ {ds : List PyData}, (∀ d ∈ ds, f d J = .ok (g d) J) → lcLoop f ds J = .ok (ds.filterMap g) J
  | [], _ => rfl
  | d :: ds, h => by
    have h1 := h d (List.mem_cons_self ..)
    have h2 := lc_pure (f := f) (g := g) (J := J) (ds := ds) fun x hx => h x (List.mem_cons_of_mem _ hx)
    rw [lcLoop, bind_ok' h1, bind_ok' h2, List.filterMap_cons]
    cases g d <;> rfl
theorem lc_cons {f : PyData → Mo (Option PyData)} {d : PyData} {ds r : List PyData} {o : Option PyData} {J J1 J2 : Jr} (h1 : f d J = .ok o J1) (h2 : lcLoop f ds J1 = .ok r J2) : lcLoop f (d :: ds) J = .ok (o.toList ++ r) J2 := by
  rw [lcLoop, bind_ok' h1, bind_ok' h2]
  cases o <;> rfl
/-- every item a value, the jar as it may be -/
theorem lc_ok {f : PyData → Mo (Option PyData)} {I : Jr → Prop} {R : PyData → Prop} : ∀ {ds : List PyData} {J : Jr}, I J → (∀ d ∈ ds, ∀ J, I J → (f d J).Ok fun o J' => I J' ∧ ∃ x, o = some x ∧ R x) → (lcLoop f ds J).Ok fun r J' => I J' ∧ r.length = ds.length ∧ ∀ x ∈ r, R x
  | [], J, hI, _ => ⟨hI, rfl, fun _ z => by cases z⟩
  | d :: ds, J, hI, h => by
    rw [lcLoop, ok_bind]
    refine (h d (List.mem_cons_self ..) J hI).imp fun o J1 ⟨i1, x, e, rx⟩ => ?_
    subst e
    rw [ok_bind]
    refine (lc_ok i1 fun d hd => h d (List.mem_cons_of_mem _ hd)).imp fun r J2 ⟨i2, l2, r2⟩ => ?_
    exact ⟨i2, by rw [List.length_cons, List.length_cons, l2], fun y hy => by
      rcases List.mem_cons.mp hy with q | q
      · rw [q]; exact rx
      · exact r2 y q⟩
theorem for_nil {f : PyData → Sd → Mo Out} {σ : Sd} {J : Jr} : forLoop f [] σ J = .ok (.nx σ) J := rfl
theorem for_cons {f : PyData → Sd → Mo Out} {d : PyData} {ds : List PyData} {σ σ1 : Sd} {J J1 : Jr} (h : f d σ J = .ok (.nx σ1) J1) : forLoop f (d :: ds) σ J = forLoop f ds σ1 J1 := by
  rw [forLoop, bind_ok' h]
/-- a loop that goes through: an invariant of the state by what is left -/
theorem for_inv {f : PyData → Sd → Mo Out} {Inv : List PyData → Sd → Jr → Prop} {R : Out → Jr → Prop} (hd : ∀ σ J, Inv [] σ J → R (.nx σ) J) (hs : ∀ d ds σ J, Inv (d :: ds) σ J → (f d σ J).Ok fun o J1 => match o with
    | .nx σ1 => Inv ds σ1 J1
    | .ct σ1 => Inv ds σ1 J1
    | .bk σ1 => R (.nx σ1) J1
    | .rt d => R (.rt d) J1) : ∀ (ds : List PyData) (σ : Sd) (J : Jr), Inv ds σ J → (forLoop f ds σ J).Ok R
  | [], σ, J, h => hd σ J h
  | d :: ds, σ, J, h => by
    rw [forLoop, ok_bind]
    refine (hs d ds σ J h).imp fun o J1 q => ?_
    cases o with
    | nx σ1 => exact for_inv hd hs ds σ1 J1 q
    | ct σ1 => exact for_inv hd hs ds σ1 J1 q
    | bk σ1 => exact q
    | rt d => exact q
theorem seqS_nx {Φ : Fns} {fuel : Nat} {M : List Nat} {s : Sm} {ss : List Sm} {σ σ1 : Sd} {J J1 : Jr} (h : evS Φ fuel M s σ J = .ok (.nx σ1) J1) : evSs Φ fuel M (s :: ss) σ J = evSs Φ fuel M ss σ1 J1 := by
  rw [evSs, bind_ok' h]
theorem seqS_rt {Φ : Fns} {fuel : Nat} {M : List Nat} {s : Sm} {ss : List Sm} {σ : Sd} {d : PyData} {J J1 : Jr} (h : evS Φ fuel M s σ J = .ok (.rt d) J1) : evSs Φ fuel M (s :: ss) σ J = .ok (.rt d) J1 := by
  rw [evSs, bind_ok' h]; rfl
theorem seqS_ok {Φ : Fns} {fuel : Nat} {M : List Nat} {s : Sm} {ss : List Sm} {σ : Sd} {J : Jr} {R : Out → Jr → Prop} : (evSs Φ fuel M (s :: ss) σ J).Ok R ↔ (evS Φ fuel M s σ J).Ok fun o J1 => match o with
    | .nx σ1 => (evSs Φ fuel M ss σ1 J1).Ok R
    | o => R o J1 := by
  rw [evSs, ok_bind]
  refine ⟨fun h => h.imp fun o J1 q => ?_, fun h => h.imp fun o J1 q => ?_⟩ <;> cases o <;> exact q

/-! ### sizes -/
def W (k : Nat) (a : Int) : Prop := a.natAbs < 2 ^ k
theorem W.mono {j k : Nat} {a : Int} (h : W j a) (l : j ≤ k) : W k a := Nat.lt_of_lt_of_le h (Nat.pow_le_pow_right (by decide) l)
theorem W.mul {j k : Nat} {a b : Int} (h : W j a) (l : W k b) : W (j + k) (a * b) := wide_lt h l
theorem W.add {j k : Nat} {a b : Int} (h : W j a) (l : W k b) : W (max j k + 1) (a + b) := by
  have h1 := h.mono (Nat.le_max_left j k)
  have h2 := l.mono (Nat.le_max_right j k)
  unfold W at *
  rw [Nat.pow_succ]
  omega
theorem W.neg {k : Nat} {a : Int} (h : W k a) : W k (-a) := by unfold W at *; omega
theorem W.sub {j k : Nat} {a b : Int} (h : W j a) (l : W k b) : W (max j k + 1) (a - b) := by rw [Int.sub_eq_add_neg]; exact h.add l.neg
theorem W.of {k : Nat} {a : Int} (h1 : -(2 ^ k : Nat) < a) (h2 : a < (2 ^ k : Nat)) : W k a := by unfold W; omega
theorem mulI_W {j k : Nat} {a b : Int} (h : W j a) (l : W k b) (s : j + k ≤ 999990 := by decide) : mulI a b = some (.int (a * b)) := by
  have h1 := h.mono (Nat.le_succ j)
  have h2 := l.mono (Nat.le_succ k)
  have q := wide_mul (i := a) (j := b) h1 h2 (Nat.succ_pos _) (Nat.succ_pos _) (by omega)
  unfold mulI
  exact if_pos q
theorem W.log {k : Nat} {a : Int} (h : W k a) (s : k ≤ 8000 := by decide) : a.natAbs.log2 < 9000 := by
  have := PySem.Flt.log2_lt_of (k := k + 1) (Nat.succ_pos k) (h.mono (Nat.le_succ k))
  omega
theorem fdiv_W {k : Nat} {a b : Int} (hb : 0 < b) (h : W k b) (s : k ≤ 8000 := by decide) : binE .fdiv (.int a) (.int b) = some (.int (a / b)) := by
  show (if _ then _ else _) = _
  rw [if_pos ⟨hb, h.log s⟩]
theorem mod_W {a b : Int} (hb : 0 < b) : binE .mod (.int a) (.int b) = some (.int (a % b)) := by
  show (if _ then _ else _) = _
  rw [if_pos hb]
theorem binE_mul {a b : Int} : binE .mul (.int a) (.int b) = mulI a b := rfl
end Ev
end

section
set_option maxRecDepth 100000
set_option maxHeartbeats 1000000
/-! The evaluator's equations, each with its jar; for simp. -/
namespace Ev
open PySem PySem.Spec PyProof.Rows L2
def Rs.bind {α β : Type} (r : Rs α) (f : α → Mo β) : Rs β := match r with
  | .ok a J => f a J
  | .ex x J => .ex x J
  | .no => .no
def Rs.call (r : Rs PyData) (J : Jr) : Rs PyData := match r with
  | .ok d _ => .ok d J
  | .ex x _ => .ex x J
  | .no => .no
def Rs.noX {α : Type} (r : Rs α) : Rs α := match r with
  | .ex _ _ => .no
  | r => r
def selM {α : Type} (k : Bool) (a b : Mo α) : Mo α := match k with
  | true => a
  | false => b
def seqO (f : Sd → Mo Out) (o : Out) : Mo Out := match o with
  | .nx σ1 => f σ1
  | o => Mo.pure o
section
variable {α β : Type} {Φ : Fns} {σ : Sd} {J J1 : Jr} {M : List Nat} {fuel : Nat}
theorem x_bind {m : Mo α} {f : α → Mo β} : Mo.bind m f J = Rs.bind (m J) f := rfl
theorem x_ok {a : α} {f : α → Mo β} : Rs.bind (.ok a J) f = f a J := rfl
theorem x_pure {a : α} : Mo.pure a J = .ok a J := rfl
theorem x_opt {a : α} : Mo.opt (some a) J = .ok a J := rfl
theorem x_selT {a b : Mo α} : selM true a b J = a J := rfl
theorem x_selF {a b : Mo α} : selM false a b J = b J := rfl
theorem x_seqO {f : Sd → Mo Out} : seqO f (.nx σ) J = f σ J := rfl
theorem x_seqR {f : Sd → Mo Out} {d : PyData} : seqO f (.rt d) J = .ok (.rt d) J := rfl
theorem x_seqB {f : Sd → Mo Out} : seqO f (.bk σ) J = .ok (.bk σ) J := rfl
theorem x_seqC {f : Sd → Mo Out} : seqO f (.ct σ) J = .ok (.ct σ) J := rfl
theorem x_rcall {d : PyData} : Rs.call (.ok d J1) J = .ok d J := rfl
theorem x_callP {f : Nat} {ds : List PyData} : callP Φ f ds J = Rs.call (Φ f ds none) J := rfl
-- expressions
theorem x_var {i : Nat} : evE Φ (.var i) σ J = Mo.opt (σ.getD i none) J := by rw [evE]
theorem x_lit {d : PyData} : evE Φ (.lit d) σ J = .ok d J := by rw [evE]; rfl
theorem x_tup {es : List Ex} : evE Φ (.tup es) σ J = Rs.bind (evEs Φ es σ J) fun ds => Mo.opt ((fitD ds).map .tuple) := by rw [evE]; rfl
theorem x_lst {es : List Ex} : evE Φ (.lst es) σ J = Rs.bind (evEs Φ es σ J) fun ds => Mo.opt ((fitD ds).map .list) := by rw [evE]; rfl
theorem x_bin {o : BOp} {a b : Ex} : evE Φ (.bin o a b) σ J = Rs.bind (evE Φ a σ J) fun x => Mo.bind (evE Φ b σ) fun y => Mo.opt (binE o x y) := by rw [evE]; rfl
theorem x_neg {a : Ex} : evE Φ (.neg a) σ J = Rs.bind (evE Φ a σ J) fun x => Mo.opt ((intD x).map fun i => .int (-i)) := by rw [evE]; rfl
theorem x_not {a : Ex} : evE Φ (.not a) σ J = Rs.bind (evE Φ a σ J) fun x => Mo.opt ((truthD x).map fun b => .bool (!b)) := by rw [evE]; rfl
theorem x_cmp {o : COp} {a b : Ex} : evE Φ (.cmp o a b) σ J = Rs.bind (evE Φ a σ J) fun x => Mo.bind (evE Φ b σ) fun y => Mo.opt ((cmpE o x y).map .bool) := by rw [evE]; rfl
theorem x_chain {o o' : COp} {a b c : Ex} : evE Φ (.chain o o' a b c) σ J = Rs.bind (evE Φ a σ J) fun x => Mo.bind (evE Φ b σ) fun y => Mo.bind (Mo.opt (cmpE o x y)) fun k => selM k (Mo.bind (evE Φ c σ) fun z => Mo.opt ((cmpE o' y z).map .bool)) (Mo.pure (.bool false)) := by rw [evE]; rfl
theorem x_and {a b : Ex} : evE Φ (.and a b) σ J = Rs.bind (evE Φ a σ J) fun x => Mo.bind (Mo.opt (boolD x)) fun k => selM k (evE Φ b σ) (Mo.pure (.bool false)) := by rw [evE]; rfl
theorem x_or {a b : Ex} : evE Φ (.or a b) σ J = Rs.bind (evE Φ a σ J) fun x => Mo.bind (Mo.opt (boolD x)) fun k => selM k (Mo.pure (.bool true)) (evE Φ b σ) := by rw [evE]; rfl
theorem x_ite {c a b : Ex} : evE Φ (.ite c a b) σ J = Rs.bind (evE Φ c σ J) fun x => Mo.bind (Mo.opt (truthD x)) fun k => selM k (evE Φ a σ) (evE Φ b σ) := by rw [evE]; rfl
theorem x_idx {a i : Ex} : evE Φ (.idx a i) σ J = Rs.bind (evE Φ a σ J) fun x => Mo.bind (evE Φ i σ) fun y => Mo.opt (idxE x y) := by rw [evE]; rfl
theorem x_slc {a : Ex} {lo hi : List Ex} : evE Φ (.slc a lo hi) σ J = Rs.bind (evE Φ a σ J) fun x => Mo.bind (evO Φ lo σ) fun l => Mo.bind (evO Φ hi σ) fun h => Mo.opt (slcE x l h) := by rw [evE]; rfl
theorem x_rev {a : Ex} : evE Φ (.rev a) σ J = Rs.bind (evE Φ a σ J) fun x => Mo.opt (revE x) := by rw [evE]; rfl
theorem x_call {f : Nat} {as : List Ex} : evE Φ (.call f as) σ J = Rs.bind (evEs Φ as σ J) fun ds => callP Φ f ds := by rw [evE]; rfl
theorem x_bi {b : Bi} {as : List Ex} : evE Φ (.bi b as) σ J = Rs.bind (evEs Φ as σ J) fun ds => Mo.opt (biE b ds) := by rw [evE]; rfl
theorem x_callJ {f : Nat} {as : List Ex} {ns : List Int} : evE Φ (.callJ f as) σ (some ns) = Rs.bind (evEs Φ as σ (some ns)) fun ds => callQ Φ f ds := by rw [evE]; rfl
theorem x_callQ {f : Nat} {ds : List PyData} {ns : List Int} : callQ Φ f ds (some ns) = Φ f ds (some ns) := rfl
theorem x_nil : evEs Φ [] σ J = .ok [] J := by rw [evEs]; rfl
theorem x_cons {e : Ex} {es : List Ex} (h : ∀ x, e ≠ .star x) : evEs Φ (e :: es) σ J = Rs.bind (evE Φ e σ J) fun d => Mo.bind (evEs Φ es σ) fun ds => Mo.pure (d :: ds) := by
  rw [evEs]
  · rfl
  · exact h
theorem x_star {e : Ex} {es : List Ex} : evEs Φ (.star e :: es) σ J = Rs.bind (evE Φ e σ J) fun d => Mo.bind (Mo.opt (seqD d)) fun xs => Mo.bind (evEs Φ es σ) fun ds => Mo.pure (xs ++ ds) := by rw [evEs]; rfl
theorem x_o0 : evO Φ [] σ J = .ok none J := by rw [evO]; rfl
theorem x_o1 {e : Ex} {es : List Ex} : evO Φ (e :: es) σ J = Rs.bind (evE Φ e σ J) fun d => Mo.bind (Mo.opt (intD d)) fun i => Mo.pure (some i) := by rw [evO]; rfl
theorem x_if0 : evIf Φ [] σ J = .ok true J := by rw [evIf]; rfl
theorem x_if1 {e : Ex} {es : List Ex} : evIf Φ (e :: es) σ J = Rs.bind (evE Φ e σ J) fun x => Mo.opt (truthD x) := by rw [evIf]; rfl
theorem x_seq {e : Ex} : evIt Φ (.seq e) σ J = Rs.bind (evE Φ e σ J) fun d => Mo.opt (seqD d) := by rw [evIt]; rfl
theorem x_rng1 {e : Ex} : evIt Φ (.rng1 e) σ J = Rs.bind (evE Φ e σ J) fun d => Mo.bind (Mo.opt (intD d)) fun j => Mo.opt (rngD 0 j) := by rw [evIt]; rfl
theorem x_enum {e : Ex} : evIt Φ (.enum e) σ J = Rs.bind (evE Φ e σ J) fun d => Mo.bind (Mo.opt (seqD d)) fun xs => Mo.pure (enumD 0 xs) := by rw [evIt]; rfl
theorem x_zip {a b : Ex} : evIt Φ (.zip a b) σ J = Rs.bind (evE Φ a σ J) fun x => Mo.bind (evE Φ b σ) fun y => Mo.opt (zipE x y) := by rw [evIt]; rfl
theorem x_turn {t : Tg} {Ff : Sd → Mo Bool} {Fe : Sd → Mo PyData} {d : PyData} : lcTurn t Ff Fe σ d J = Rs.bind (Mo.opt (setTg t d σ) J) fun σ1 => Mo.bind (Ff σ1) fun k => selM k (Mo.bind (Fe σ1) fun x => Mo.pure (some x)) (Mo.pure none) := rfl
-- statements
theorem x_asg {i own : Nat} {b : Bool} {e : Ex} : evS Φ fuel M (.asg i own b e) σ J = Rs.bind (evE Φ e (view b M σ) J) fun d => if ownOk own e d then Mo.pure (.nx ((keepR b M (okR e d) σ).set i (some d))) else Mo.fail := by rw [evS]; rfl
theorem x_asgT {t : Tg} {b : Bool} {e : Ex} : evS Φ fuel M (.asgT t b e) σ J = Rs.bind (evE Φ e (view b M σ) J) fun d => Mo.bind (Mo.opt (setTg t d (keepR b M (okR e d) σ))) fun σ1 => Mo.pure (.nx σ1) := by rw [evS]; rfl
theorem x_par {is : List Nat} {b : Bool} {es : List Ex} : evS Φ fuel M (.par is b es) σ J = parGo (fun e => evE Φ e (view b M σ)) b M is es σ J := by rw [evS]
theorem x_par0 {f : Ex → Mo PyData} {b : Bool} : parGo f b M [] [] σ J = .ok (.nx σ) J := rfl
theorem x_par1 {f : Ex → Mo PyData} {b : Bool} {i : Nat} {is : List Nat} {e : Ex} {es : List Ex} : parGo f b M (i :: is) (e :: es) σ J = Rs.bind (f e J) fun d => if ownOk (M.getD i 0) e d && (!b || okR e d) then parGo f b M is es (σ.set i (some d)) else Mo.fail := rfl
theorem x_app {i : Nat} {b : Bool} {e : Ex} : evS Φ fuel M (.app i b e) σ J = Rs.bind (evE Φ e (view b M σ) J) fun d => Mo.bind (Mo.opt (listAt (keepR b M (okR e d) σ) i)) fun ds => if ds.length < sizeLine then Mo.pure (.nx ((keepR b M (okR e d) σ).set i (some (.list (ds ++ [d]))))) else Mo.fail := by rw [evS]; rfl
theorem x_setI {i : Nat} {b : Bool} {ix e : Ex} : evS Φ fuel M (.setI i b ix e) σ J = Rs.bind (evE Φ e (view b M σ) J) fun d => Mo.bind (evE Φ ix σ) fun k => Mo.bind (Mo.opt (listAt (keepR b M (okR e d) σ) i)) fun ds => Mo.bind (Mo.opt (intD k)) fun n => Mo.bind (Mo.opt (ixN ds.length n)) fun j =>
      Mo.pure (.nx ((keepR b M (okR e d) σ).set i (some (.list (ds.set j d))))) := by rw [evS]; rfl
theorem x_popS {i : Nat} : evS Φ fuel M (.popS i) σ J = Rs.bind (Mo.opt (listAt σ i) J) fun ds => if ds.isEmpty then Mo.fail else Mo.pure (.nx (σ.set i (some (.list ds.dropLast)))) := by rw [evS]; rfl
theorem x_ex {e : Ex} : evS Φ fuel M (.ex e) σ J = Rs.bind (evE Φ e σ J) fun _ => Mo.pure (.nx σ) := by rw [evS]; rfl
theorem x_ret {e : Ex} : evS Φ fuel M (.ret e) σ J = Rs.bind (evE Φ e σ J) fun d => Mo.pure (.rt d) := by rw [evS]; rfl
theorem x_retN : evS Φ fuel M .retN σ J = .ok (.rt .none) J := by rw [evS]; rfl
theorem x_pass : evS Φ fuel M .pass σ J = .ok (.nx σ) J := by rw [evS]; rfl
theorem x_brk : evS Φ fuel M .brk σ J = .ok (.bk σ) J := by rw [evS]; rfl
theorem x_cnt : evS Φ fuel M .cnt σ J = .ok (.ct σ) J := by rw [evS]; rfl
theorem x_if {c : Ex} {t e : List Sm} : evS Φ fuel M (.ite c t e) σ J = Rs.bind (evE Φ c σ J) fun x => Mo.bind (Mo.opt (truthD x)) fun k => selM k (evSs Φ fuel M t σ) (evSs Φ fuel M e σ) := by rw [evS]; rfl
theorem x_ss0 : evSs Φ fuel M [] σ J = .ok (.nx σ) J := by rw [evSs]; rfl
theorem x_ss {s : Sm} {ss : List Sm} : evSs Φ fuel M (s :: ss) σ J = Rs.bind (evS Φ fuel M s σ J) (seqO (evSs Φ fuel M ss)) := by rw [evSs]; rfl
/-- the turn of a for -/
def forT (Φ : Fns) (fuel : Nat) (M : List Nat) (t : Tg) (body : List Sm) : PyData → Sd → Mo Out := fun d σ => Mo.bind (Mo.opt (setTg t d σ)) fun σ1 => evSs Φ fuel M body σ1
theorem x_forT {t : Tg} {body : List Sm} {d : PyData} : forT Φ fuel M t body d σ J = Rs.bind (Mo.opt (setTg t d σ) J) fun σ1 => evSs Φ fuel M body σ1 := rfl
theorem e_for {b : Bool} {t : Tg} {it : Itr} {body : List Sm} {ds : List PyData} {r : Rs Out} (h1 : evIt Φ it (view b M σ) J = .ok ds J1) (h2 : forLoop (forT Φ fuel M t body) ds (keepR b M (okIt it ds) σ) J1 = r) : evS Φ fuel M (.forS b t it body) σ J = r := by
  rw [evS, bind_ok' h1]; exact h2
theorem e_whl {c : Ex} {body : List Sm} {r : Rs Out} (h2 : whlLoop (fun σ => Mo.bind (evE Φ c σ) fun x => Mo.opt (truthD x)) (fun σ => evSs Φ fuel M body σ) fuel σ J = r) : evS Φ fuel M (.whl c body) σ J = r := by
  rw [evS]; exact h2
theorem e_lc {elt : Ex} {t : Tg} {it : Itr} {ifs : List Ex} {own : List Nat} {ds : List PyData} {g : PyData → Option PyData} (h1 : evIt Φ it σ J = .ok ds J) (h2 : ∀ d ∈ ds, lcTurn t (evIf Φ ifs) (evE Φ elt) (wipeD σ own) d J = .ok (g d) J) (h3 : ds.length ≤ 1000) : evE Φ (.lc elt t it ifs own) σ J = .ok (.list (ds.filterMap g)) J := by
  have s : 1000 ≤ sizeLine := by decide +kernel
  rw [evE]
  unfold mLc
  rw [bind_ok' h1, bind_ok' (noX_eq (lc_pure h2))]
  have : (ds.filterMap g).length ≤ sizeLine := Nat.le_trans (List.length_filterMap_le ..) (Nat.le_trans h3 s)
  unfold fitD
  rw [if_pos this]
  rfl
theorem whl_stop {c : Sd → Mo Bool} {f : Sd → Mo Out} {n : Nat} (h : c σ J = .ok false J1) : whlLoop c f (n + 1) σ J = .ok (.nx σ) J1 := by
  rw [whlLoop, bind_ok' h]; rfl
theorem whl_go {c : Sd → Mo Bool} {f : Sd → Mo Out} {n : Nat} {σ1 : Sd} {J2 : Jr} (h : c σ J = .ok true J1) (h2 : f σ J1 = .ok (.nx σ1) J2) : whlLoop c f (n + 1) σ J = whlLoop c f n σ1 J2 := by
  rw [whlLoop, bind_ok' h]
  show Mo.bind (f σ) _ J1 = _
  rw [bind_ok' h2]
-- views
theorem x_view : view true M σ = σ := rfl
theorem x_viewF : view false M σ = hide M σ := rfl
theorem x_keepF {ok : Bool} : keepR false M ok σ = σ := by cases ok <;> rfl
theorem x_keepT : keepR true M true σ = σ := rfl
theorem x_hide0 {ds : List (Option PyData)} {o : Option PyData} {ms : List Nat} : hide (0 :: ms) (o :: ds) = o :: hide ms ds := rfl
theorem x_hide1 {ds : List (Option PyData)} {o : Option PyData} {ms : List Nat} : hide (1 :: ms) (o :: ds) = none :: hide ms ds := rfl
theorem x_hideN {ds : List (Option PyData)} : hide [] ds = [] := by cases ds <;> rfl
theorem x_own0 {e : Ex} {d : PyData} : ownOk 0 e d = true := rfl
theorem x_own1n {e : Ex} {d : PyData} (h : noL d = true) : ownOk 1 e d = true := by unfold ownOk; rw [h]; rfl
theorem x_own1l {e : Ex} {ds : List PyData} (h : isFresh e = true) : ownOk 1 e (.list ds) = true := by unfold ownOk; rw [h]; simp
theorem x_wipe0 : wipeD σ [] = σ := rfl
theorem x_wipe1 {v : Nat} {vs : List Nat} : wipeD σ (v :: vs) = (wipeD σ vs).set v none := rfl
theorem x_tg {i : Nat} {d : PyData} : setTg (.name i) d σ = some (σ.set i (some d)) := by rw [setTg]
theorem x_tgT {ts : List Tg} {ds : List PyData} : setTg (.tup ts) (.tuple ds) σ = setTgs ts ds σ := by rw [setTg]
theorem x_tg0 : setTgs [] [] σ = some σ := by rw [setTgs]
theorem x_tg1 {t : Tg} {ts : List Tg} {d : PyData} {ds : List PyData} : setTgs (t :: ts) (d :: ds) σ = (setTg t d σ).bind fun σ1 => setTgs ts ds σ1 := by rw [setTgs]
theorem run_rt {F : Fn} {ds : List PyData} {as : List (Option PyData)} {d : PyData} (hj : F.jar = false) (ha : argsD F ds = some as) (h : evSs Φ fuel F.M F.body (as ++ List.replicate (F.nN - F.np) none) none = .ok (.rt d) J1) : runFn Φ fuel F ds none = .ok d none := by
  unfold runFn
  simp [ha, hj, h]
theorem run_nx {F : Fn} {ds : List PyData} {as : List (Option PyData)} (hj : F.jar = false) (ha : argsD F ds = some as) (h : evSs Φ fuel F.M F.body (as ++ List.replicate (F.nN - F.np) none) none = .ok (.nx σ) J1) : runFn Φ fuel F ds none = .ok .none none := by
  unfold runFn
  simp [ha, hj, h]
-- data
variable {a b : Int} {k l : Bool} {xs ys : List PyData} {d : PyData}
theorem x_add : binE .add (.int a) (.int b) = some (.int (a + b)) := rfl
theorem x_sub : binE .sub (.int a) (.int b) = some (.int (a - b)) := rfl
theorem x_mul : binE .mul (.int a) (.int b) = mulI a b := rfl
theorem x_lt : cmpE .lt (.int a) (.int b) = some (decide (a < b)) := rfl
theorem x_le : cmpE .le (.int a) (.int b) = some (decide (a ≤ b)) := rfl
theorem x_gt : cmpE .gt (.int a) (.int b) = some (decide (b < a)) := rfl
theorem x_ge : cmpE .ge (.int a) (.int b) = some (decide (b ≤ a)) := rfl
theorem x_eq : cmpE .eq (.int a) (.int b) = some (decide (a = b)) := rfl
theorem x_ne : cmpE .ne (.int a) (.int b) = some (!decide (a = b)) := rfl
theorem x_isN : cmpE .is_ .none .none = some true := rfl
theorem x_isI : cmpE .is_ (.int a) .none = some false := rfl
theorem x_isT : cmpE .is_ (.tuple xs) .none = some false := rfl
theorem x_isnN : cmpE .isn .none .none = some false := rfl
theorem x_isnI : cmpE .isn (.int a) .none = some true := rfl
theorem x_isnT : cmpE .isn (.tuple xs) .none = some true := rfl
theorem x_tr : truthD (.bool k) = some k := rfl
theorem x_bl : boolD (.bool k) = some k := rfl
theorem x_intD : intD (.int a) = some a := rfl
theorem x_seqT : seqD (.tuple xs) = some xs := rfl
theorem x_seqL : seqD (.list xs) = some xs := rfl
theorem x_lenT : biE .len [.tuple xs] = some (.int xs.length) := rfl
theorem x_lenL : biE .len [.list xs] = some (.int xs.length) := rfl
theorem x_abs : biE .abs [.int a] = some (.int (if a < 0 then -a else a)) := rfl
theorem x_int : biE .int [.int a] = some (.int a) := rfl
theorem x_intB : biE .int [.bool k] = some (.int (if k then 1 else 0)) := rfl
theorem x_tupL : biE .tuple [.list xs] = some (.tuple xs) := rfl
theorem x_lstT : biE .list [.tuple xs] = some (.list xs) := rfl
theorem x_max2 : biE .max2 [.int a, .int b] = some (.int (if b > a then b else a)) := rfl
theorem x_min2 : biE .min2 [.int a, .int b] = some (.int (if b < a then b else a)) := rfl
theorem x_isiI : biE (.isi .int) [.int a] = some (.bool true) := rfl
theorem x_isiB : biE (.isi .bool) [.int a] = some (.bool false) := rfl
theorem x_isiT (h : noDs xs = true) : biE (.isi .tup) [.tuple xs] = some (.bool true) := by
  show (if noD (.tuple xs) then _ else _) = _
  rw [noD, h]; rfl
theorem x_idxT : idxE (.tuple xs) (.int a) = atI xs a := rfl
theorem x_idxL : idxE (.list xs) (.int a) = atI xs a := rfl
theorem x_fit (h : xs.length ≤ 1000) : fitD xs = some xs := by
  unfold fitD
  rw [if_pos (Nat.le_trans h (by decide +kernel))]
theorem x_slcL {lo hi : Option Int} : slcE (.list xs) lo hi = some (.list (cutD xs lo hi)) := rfl
theorem x_zipL : zipE (.list xs) (.list ys) = some (List.zipWith (fun x y => .tuple [x, y]) xs ys) := rfl
end
theorem bools_true {l : List PyData} (h : ∀ x ∈ l, x = .bool true) : biE .all [.list l] = some (.bool true) := by
  obtain ⟨k, e⟩ : ∃ k, l = List.replicate k (.bool true) := ⟨l.length, List.eq_replicate_iff.mpr ⟨rfl, h⟩⟩
  subst e
  have z : ∀ k, boolsD (List.replicate k (.bool true)) = some (List.replicate k true) := by
    intro k
    induction k with
    | zero => rfl
    | succ k ih => rw [List.replicate_succ, boolsD, ih]; rfl
  show (boolsD (List.replicate k (.bool true))).map _ = _
  rw [z]
  simp
end Ev
end

section
set_option maxRecDepth 100000
set_option maxHeartbeats 1000000
/-! Plain: fractions, polys (no program in sight). -/
namespace Ev
open PySem PySem.Spec PyProof.Rows L2
def encE : Option Int → PyData
  | none => .none
  | some i => .int i
def encP (p : Int × Int) : PyData := .tuple [.int p.1, .int p.2]
def poly (P : List (Option Int)) : PyData := .tuple (P.map encE)
structure POk (P : List (Option Int)) : Prop where
  lo : 1 ≤ P.length
  hi : P.length ≤ 12
  ent : ∀ i, some i ∈ P → -999 ≤ i ∧ i ≤ 999
  last : P.getLast? ≠ some none
def gcdI (a b : Int) : Int := (Int.gcd a b : Nat)
def low (a b : Int) : Int × Int := (a / gcdI a b, b / gcdI a b)
theorem gcd_pos {a b : Int} (h : 0 < b) : 0 < gcdI a b := by
  unfold gcdI
  have : Int.gcd a b ≠ 0 := by
    intro z
    rw [Int.gcd_eq_zero_iff] at z
    omega
  omega
/-- the fraction told and the fraction given -/
theorem low_eq {a b : Int} (h : 0 < b) : (low a b).1 * gcdI a b = a ∧ (low a b).2 * gcdI a b = b := by
  unfold low gcdI
  exact ⟨Int.ediv_mul_cancel (Int.gcd_dvd_left ..), Int.ediv_mul_cancel (Int.gcd_dvd_right ..)⟩
theorem low_pos {a b : Int} (h : 0 < b) : 0 < (low a b).2 := by
  have := (low_eq (a := a) h).2
  have g := gcd_pos (a := a) h
  rcases Int.lt_or_le 0 (low a b).2 with q | q
  · exact q
  · have : (low a b).2 * gcdI a b ≤ 0 := Int.mul_nonpos_of_nonpos_of_nonneg q (by omega)
    omega
/-- cross products of fractions may be taken with the given numbers -/
theorem low_lt {a b c d : Int} (h : 0 < b) (k : 0 < d) : ((low a b).1 * (low c d).2 < (low c d).1 * (low a b).2) ↔ a * d < c * b := by
  obtain ⟨e1, e2⟩ := low_eq (a := a) h
  obtain ⟨e3, e4⟩ := low_eq (a := c) k
  have g1 := gcd_pos (a := a) h
  have g2 := gcd_pos (a := c) k
  have g := Int.mul_pos g1 g2
  have x1 : a * d = ((low a b).1 * (low c d).2) * (gcdI a b * gcdI c d) := by grind
  have x2 : c * b = ((low c d).1 * (low a b).2) * (gcdI a b * gcdI c d) := by grind
  rw [x1, x2]
  exact ⟨fun z => Int.mul_lt_mul_of_pos_right z g, fun z => Int.lt_of_mul_lt_mul_right z (Int.le_of_lt g)⟩
theorem low_lt1 {a b p q : Int} (h : 0 < b) : ((low a b).1 * q < p * (low a b).2) ↔ a * q < p * b := by
  obtain ⟨e1, e2⟩ := low_eq (a := a) h
  have g1 := gcd_pos (a := a) h
  have x1 : a * q = ((low a b).1 * q) * gcdI a b := by grind
  have x2 : p * b = (p * (low a b).2) * gcdI a b := by grind
  rw [x1, x2]
  exact ⟨fun z => Int.mul_lt_mul_of_pos_right z g1, fun z => Int.lt_of_mul_lt_mul_right z (Int.le_of_lt g1)⟩
theorem low_lt2 {a b p q : Int} (h : 0 < b) : (p * (low a b).2 < (low a b).1 * q) ↔ p * b < a * q := by
  obtain ⟨e1, e2⟩ := low_eq (a := a) h
  have g1 := gcd_pos (a := a) h
  have x1 : a * q = ((low a b).1 * q) * gcdI a b := by grind
  have x2 : p * b = (p * (low a b).2) * gcdI a b := by grind
  rw [x1, x2]
  exact ⟨fun z => Int.mul_lt_mul_of_pos_right z g1, fun z => Int.lt_of_mul_lt_mul_right z (Int.le_of_lt g1)⟩
theorem gcd_low {a b : Int} (h : 0 < b) : gcdI (low a b).1 (low a b).2 = 1 := by
  unfold low gcdI
  have : 0 < Int.gcd a b := by have := gcd_pos (a := a) h; unfold gcdI at this; omega
  show ((Int.gcd (a / (Int.gcd a b : Nat)) (b / (Int.gcd a b : Nat)) : Nat) : Int) = 1
  have e : Int.gcd (a / (Int.gcd a b : Nat)) (b / (Int.gcd a b : Nat)) = 1 := by
    rw [Int.gcd_ediv (Int.gcd_dvd_left ..) (Int.gcd_dvd_right ..), Int.natAbs_natCast]
    exact Nat.div_self this
  rw [e]; rfl
theorem low_low {a b : Int} (h : 0 < b) : low (low a b).1 (low a b).2 = low a b := by
  have e := gcd_low (a := a) h
  show ((low a b).1 / gcdI (low a b).1 (low a b).2, (low a b).2 / gcdI (low a b).1 (low a b).2) = _
  rw [e, Int.ediv_one, Int.ediv_one]
/-- equal fractions are told alike -/
theorem low_uniq {a b p q : Int} (h : 0 < b) (k : 0 < q) (g : gcdI p q = 1) (e : a * q = p * b) : low a b = (p, q) := by
  obtain ⟨e1, e2⟩ := low_eq (a := a) h
  have g1 := gcd_pos (a := a) h
  have hb := low_pos (a := a) h
  have gl := gcd_low (a := a) h
  generalize hl : low a b = l at *
  obtain ⟨u, v⟩ := l
  simp only at *
  -- u * q = p * v, both without a common divisor
  have x : u * q = p * v := by
    have : (u * q) * gcdI a b = (p * v) * gcdI a b := by grind
    exact Int.eq_of_mul_eq_mul_right (by omega) this
  have c1 : v ∣ q := by
    have d : v ∣ q * u := ⟨p, by rw [Int.mul_comm, x, Int.mul_comm]⟩
    have gg : Int.gcd v u = 1 := by unfold gcdI at gl; rw [Int.gcd_comm]; omega
    have y := Int.dvd_mul_gcd_iff_dvd_mul.mpr d
    rw [gg] at y
    simpa using y
  have c2 : q ∣ v := by
    have d : q ∣ v * p := ⟨u, by rw [Int.mul_comm, ← x, Int.mul_comm]⟩
    have gg : Int.gcd q p = 1 := by unfold gcdI at g; rw [Int.gcd_comm]; omega
    have y := Int.dvd_mul_gcd_iff_dvd_mul.mpr d
    rw [gg] at y
    simpa using y
  have ev : v = q := Int.dvd_antisymm (by omega) (by omega) c1 c2
  subst ev
  have : u = p := Int.eq_of_mul_eq_mul_right (by omega) x
  rw [this]
theorem low_one (a : Int) : low a 1 = (a, 1) := low_uniq (by omega) (by omega) (by unfold gcdI; rw [Int.gcd_one_right]; rfl) (by omega)
theorem W.ediv {k : Nat} {a b : Int} (h : W k a) (hb : 0 < b) : W k (a / b) := by
  unfold W at *
  refine Nat.lt_of_le_of_lt ?_ h
  exact Int.natAbs_ediv_le_natAbs a b
theorem low_W {j k : Nat} {a b : Int} (h : 0 < b) (x : W j a) (y : W k b) : W j (low a b).1 ∧ W k (low a b).2 := ⟨x.ediv (gcd_pos h), y.ediv (gcd_pos h)⟩
/-- Euclid's loop -/
theorem gcd_loop {c : Sd → Mo Bool} {f : Sd → Mo Out} {S : Int → Int → Sd} {J : Jr} (hc : ∀ x y : Int, 0 ≤ x → 0 ≤ y → c (S x y) J = .ok (decide (y ≠ 0)) J) (hf : ∀ x y : Int, 0 ≤ x → 0 < y → f (S x y) J = .ok (.nx (S y (x % y))) J) :
    ∀ (k fuel : Nat) (x y : Nat), y < 2 ^ k → 2 * k + 1 ≤ fuel → whlLoop c f fuel (S x y) J = .ok (.nx (S (Nat.gcd x y : Nat) 0)) J := by
  have stop : ∀ (fuel x : Nat), whlLoop c f (fuel + 1) (S x (0 : Nat)) J = .ok (.nx (S (Nat.gcd x 0 : Nat) 0)) J := by
    intro fuel x
    have e := hc x (0 : Nat) (by omega) (by omega)
    rw [whlLoop, bind_ok' e, Nat.gcd_zero_right]
    rfl
  have go : ∀ (fuel x y : Nat), 0 < y → whlLoop c f (fuel + 1) (S x y) J = whlLoop c f fuel (S y (x % y : Nat)) J := by
    intro fuel x y hy
    have e := hc x y (by omega) (by omega)
    have d : decide ((y : Int) ≠ 0) = true := by simp; omega
    rw [d] at e
    have e2 := hf x y (by omega) (by omega)
    rw [whlLoop, bind_ok' e]
    show Mo.bind (f (S x y)) _ J = _
    rw [bind_ok' e2]
    rfl
  intro k
  induction k with
  | zero =>
    intro fuel x y hy hf
    have : y = 0 := by simpa using hy
    subst this
    obtain ⟨m, rfl⟩ : ∃ m, fuel = m + 1 := ⟨fuel - 1, by omega⟩
    exact stop m x
  | succ k ih =>
    intro fuel x y hy hf
    obtain ⟨m, rfl⟩ : ∃ m, fuel = m + 2 := ⟨fuel - 2, by omega⟩
    by_cases h0 : y = 0
    · subst h0; exact stop _ x
    · rw [go _ _ _ (by omega)]
      have g1 : Nat.gcd x y = Nat.gcd y (x % y) := by rw [Nat.gcd_comm x y, Nat.gcd_rec y x, Nat.gcd_comm]
      rw [g1]
      have r1 : x % y < y := Nat.mod_lt _ (by omega)
      generalize x % y = r at *
      by_cases h1 : r = 0
      · subst h1; exact stop _ y
      · rw [go _ _ _ (by omega)]
        have g2 : Nat.gcd y r = Nat.gcd r (y % r) := by rw [Nat.gcd_comm y r, Nat.gcd_rec r y, Nat.gcd_comm]
        rw [g2]
        refine ih m r (y % r) ?_ (by omega)
        have r2 : y % r < r := Nat.mod_lt _ (by omega)
        have r3 : y % r ≤ y - r := by
          rw [Nat.mod_eq_sub_mod (by omega)]
          exact Nat.mod_le _ _
        rw [Nat.pow_succ] at hy
        omega
theorem abs_nat (a : Int) : (if a < 0 then -a else a) = (a.natAbs : Int) := by split <;> omega
theorem gcdI_W {k : Nat} {a b : Int} (h : 0 < b) (y : W k b) : W k (gcdI a b) := by
  have : gcdI a b ≤ b := Int.le_of_dvd h (by unfold gcdI; exact Int.gcd_dvd_right ..)
  have p := gcd_pos (a := a) h
  unfold W at *
  omega
/-- the terms of a poly -/
def tms (i : Int) : List (Option Int) → List (Int × Int)
  | [] => []
  | none :: r => tms (i + 1) r
  | some e :: r => (i, e) :: tms (i + 1) r
theorem tms_mem {P : List (Option Int)} : ∀ {i : Int} {t : Int × Int}, t ∈ tms i P → i ≤ t.1 ∧ t.1 < i + P.length ∧ some t.2 ∈ P := by
  induction P with
  | nil => intro i t h; cases h
  | cons o r ih =>
    intro i t h
    cases o with
    | none =>
      have ⟨a, b, c⟩ := ih (i := i + 1) h
      exact ⟨by omega, by rw [List.length_cons]; omega, List.mem_cons_of_mem _ c⟩
    | some e =>
      rcases List.mem_cons.mp h with q | q
      · subst q
        exact ⟨Int.le_refl _, by rw [List.length_cons]; show i < _; omega, List.mem_cons_self ..⟩
      · have ⟨a, b, c⟩ := ih (i := i + 1) q
        exact ⟨by omega, by rw [List.length_cons]; omega, List.mem_cons_of_mem _ c⟩
/-- ascending by place -/
theorem tms_asc {P : List (Option Int)} : ∀ {i : Int}, (tms i P).Pairwise fun s t => s.1 < t.1 := by
  induction P with
  | nil => intro i; exact .nil
  | cons o r ih =>
    intro i
    cases o with
    | none => exact ih
    | some e =>
      refine List.pairwise_cons.mpr ⟨fun t ht => ?_, ih⟩
      have := (tms_mem ht).1
      show i < t.1
      omega
def gTerm : PyData → Option PyData
  | .tuple [i, .none] => none
  | d => some d
theorem tms_enum {P : List (Option Int)} : ∀ {i : Nat}, (enumD i (P.map encE)).filterMap gTerm = (tms i P).map encP := by
  induction P with
  | nil => intro i; rfl
  | cons o r ih =>
    intro i
    have h := ih (i := i + 1)
    cases o with
    | none =>
      show List.filterMap gTerm (.tuple [.int i, .none] :: enumD (i + 1) (r.map encE)) = _
      rw [List.filterMap_cons]
      exact h
    | some e =>
      show List.filterMap gTerm (.tuple [.int i, .int e] :: enumD (i + 1) (r.map encE)) = _
      rw [List.filterMap_cons]
      exact congrArg (List.cons _) h
theorem enum_mem {P : List (Option Int)} : ∀ {i : Nat} {d : PyData}, d ∈ enumD i (P.map encE) → ∃ (j : Int) (o : Option Int), d = .tuple [.int j, encE o] ∧ (i : Int) ≤ j ∧ j < i + P.length ∧ o ∈ P := by
  induction P with
  | nil => intro i d h; cases h
  | cons o r ih =>
    intro i d h
    rcases List.mem_cons.mp h with q | q
    · exact ⟨i, o, q, Int.le_refl _, by rw [List.length_cons]; omega, List.mem_cons_self ..⟩
    · obtain ⟨j, u, e, a, b, c⟩ := ih q
      exact ⟨j, u, e, by omega, by rw [List.length_cons]; omega, List.mem_cons_of_mem _ c⟩
theorem enum_len {xs : List PyData} : ∀ {i : Nat}, (enumD i xs).length = xs.length := by
  induction xs with
  | nil => intro i; rfl
  | cons x r ih => intro i; rw [enumD, List.length_cons, List.length_cons, ih]
def tv (p q : Int) (t : Int × Int) : Int := t.2 * q + t.1 * p
def vstep (p q : Int) : Option Int → Int × Int → Option Int
  | none, t => some (tv p q t)
  | some m, t => some (if m < tv p q t then tv p q t else m)
theorem vfold_spec {p q : Int} : ∀ {T : List (Int × Int)} {m0 : Int}, ∃ m, T.foldl (vstep p q) (some m0) = some m ∧ (m = m0 ∨ ∃ t ∈ T, tv p q t = m) ∧ m0 ≤ m ∧ ∀ t ∈ T, tv p q t ≤ m
  | [], m0 => ⟨m0, rfl, .inl rfl, Int.le_refl _, fun _ h => by cases h⟩
  | t :: T, m0 => by
    obtain ⟨m, e, a, b, c⟩ := vfold_spec (p := p) (q := q) (T := T) (m0 := if m0 < tv p q t then tv p q t else m0)
    refine ⟨m, e, ?_, ?_, ?_⟩
    · rcases a with a | ⟨s, hs, a⟩
      · split at a
        · exact .inr ⟨t, List.mem_cons_self .., a.symm⟩
        · exact .inl a
      · exact .inr ⟨s, List.mem_cons_of_mem _ hs, a⟩
    · split at b <;> omega
    · intro s hs
      rcases List.mem_cons.mp hs with z | z
      · subst z; split at b <;> omega
      · exact c s z
/-- the greatest value of the terms -/
theorem vmax_spec {p q : Int} {T : List (Int × Int)} (h : T ≠ []) : ∃ m, T.foldl (vstep p q) none = some m ∧ (∃ t ∈ T, tv p q t = m) ∧ ∀ t ∈ T, tv p q t ≤ m := by
  cases T with
  | nil => exact absurd rfl h
  | cons t T =>
    obtain ⟨m, e, a, b, c⟩ := vfold_spec (p := p) (q := q) (T := T) (m0 := tv p q t)
    refine ⟨m, e, ?_, ?_⟩
    · rcases a with a | ⟨s, hs, a⟩
      · exact ⟨t, List.mem_cons_self .., a.symm⟩
      · exact ⟨s, List.mem_cons_of_mem _ hs, a⟩
    · intro s hs
      rcases List.mem_cons.mp hs with z | z
      · subst z; exact b
      · exact c s z
theorem tms_ne {P : List (Option Int)} (ok : POk P) : tms 0 P ≠ [] := by
  obtain ⟨i, hi⟩ : ∃ i, P.getLast? = some (some i) := by
    have h1 := ok.lo
    have h2 := ok.last
    cases e : P.getLast? with
    | none => rw [List.getLast?_eq_none_iff] at e; subst e; simp at h1
    | some o =>
      cases o with
      | none => exact absurd e h2
      | some i => exact ⟨i, rfl⟩
  have hm : some i ∈ P := List.mem_of_getLast? hi
  clear hi ok
  generalize (0 : Int) = j
  induction P generalizing j with
  | nil => cases hm
  | cons o r ih =>
    cases o with
    | none =>
      rcases List.mem_cons.mp hm with q | q
      · cases q
      · exact ih q _
    | some e => exact fun z => by cases z
/-- a point: a fraction without a common divisor -/
structure PtOk (x : Int × Int) : Prop where
  pos : 0 < x.2
  one : gcdI x.1 x.2 = 1
  w1 : W 150 x.1
  w2 : W 150 x.2
theorem low_pt {a b : Int} (h : 0 < b) (x : W 150 a) (y : W 150 b) : PtOk (low a b) := ⟨low_pos h, gcd_low h, (low_W h x y).1, (low_W h x y).2⟩
theorem POk.term {P : List (Option Int)} (ok : POk P) {t : Int × Int} (h : t ∈ tms 0 P) : 0 ≤ t.1 ∧ t.1 ≤ 11 ∧ -999 ≤ t.2 ∧ t.2 ≤ 999 := by
  obtain ⟨a, b, c⟩ := tms_mem h
  have := ok.hi
  have := ok.ent t.2 c
  exact ⟨a, by omega, this.1, this.2⟩
theorem tv_W {p q : Int} {t : Int × Int} (h1 : 0 ≤ t.1) (h2 : t.1 ≤ 11) (h3 : -999 ≤ t.2) (h4 : t.2 ≤ 999) (hp : W 150 p) (hq : W 150 q) : W 161 (tv p q t) := by
  have a : W 10 t.2 := W.of (by simp; omega) (by simp; omega)
  have b : W 4 t.1 := W.of (by simp; omega) (by simp; omega)
  exact (a.mul hq).add (b.mul hp)
end Ev
end

section
set_option maxRecDepth 100000
set_option maxHeartbeats 1000000
/-! Plain: repr of small data; min and max of lists of ints. -/
namespace Ev
open PySem PySem.Spec PyProof.Rows L2
def sOk (x : Str) : Prop := ∀ c ∈ x.cps.toList, c < 0x110000
theorem sOk.ok {x : Str} (h : sOk x) : PyData.strOk x = true := by
  unfold PyData.strOk
  rw [Array.all_eq_true_iff_forall_mem]
  intro c hc
  exact decide_eq_true (h c (Array.mem_toList_iff.mpr hc))
theorem sOk_lit (s : String) : sOk (Str.ofString s) := by
  intro c hc
  rw [Str.ofString_eq_toList] at hc
  simp only [List.mem_map] at hc
  obtain ⟨a, _, e⟩ := hc
  have := a.valid
  unfold UInt32.isValidChar Nat.isValidChar at this
  have e2 : a.toNat = a.val.toNat := rfl
  omega
theorem sOk.app {x y : Str} (h : sOk x) (k : sOk y) : sOk (x ++ y) := by
  intro c hc
  have e : (x ++ y).cps = x.cps ++ y.cps := rfl
  rw [e, Array.toList_append, List.mem_append] at hc
  rcases hc with q | q
  · exact h c q
  · exact k c q
theorem sOk_join {sep : Str} (hs : sOk sep) : ∀ ts : List Str, (∀ t ∈ ts, sOk t) → sOk (Str.join sep ts)
  | [], _ => fun c h => by cases (show c ∈ ([] : List Nat) from h)
  | [x], h => h x (List.mem_cons_self ..)
  | x :: y :: r, h => (((h x (List.mem_cons_self ..)).app hs).app (sOk_join hs (y :: r) fun t ht => h t (List.mem_cons_of_mem _ ht)))
theorem sOk_from : ∀ (ts : List Str) (k : Nat) (acc : Str), sOk acc → (∀ t ∈ ts, sOk t) → sOk (textFrom k acc ts)
  | [], _, _, h, _ => h
  | t :: ts, k, acc, h, ht => sOk_from ts (k + 1) _ ((h.app (by split <;> exact sOk_lit _)).app (ht t (List.mem_cons_self ..))) fun t q => ht t (List.mem_cons_of_mem _ q)
mutual
/-- data whose text is small -/
def tinyD : PyData → Prop
  | .none => True
  | .bool _ => True
  | .int i => i.natAbs < 10 ^ 12
  | .str x => sOk (reprText x) ∧ ∀ c ∈ x.cps.toList, c < 16 ^ 8
  | .list xs => tinyDs xs
  | .tuple xs => tinyDs xs
  | .dict _ => False
def tinyDs : List PyData → Prop
  | [] => True
  | x :: xs => tinyD x ∧ tinyDs xs
end
mutual
theorem tiny_text : ∀ {d : PyData}, tinyD d → sOk d.shown
  | .none, _ => sOk_lit _
  | .bool b, _ => by cases b <;> exact sOk_lit _
  | .int i, _ => sOk_lit _
  | .str x, h => h.1
  | .list xs, h => (sOk_from _ _ _ (sOk_lit _) (tiny_texts (by simpa [tinyD] using h))).app (sOk_lit _)
  | .tuple xs, h => ((sOk_lit "(").app (sOk_join (sOk_lit ", ") _ (tiny_texts (by simpa [tinyD] using h)))).app (by split <;> exact sOk_lit _)
theorem tiny_texts : ∀ {xs : List PyData}, tinyDs xs → ∀ t ∈ PyData.shownAll xs, sOk t
  | [], _, t, q => by cases q
  | x :: xs, h, t, q => by
    rw [tinyDs] at h
    rw [PyData.shownAll] at q
    rcases List.mem_cons.mp q with z | z
    · rw [z]; exact tiny_text h.1
    · exact tiny_texts h.2 t z
end
mutual
theorem tiny_show : ∀ {d : PyData}, tinyD d → d.showable = true ∧ noD d = true ∧ d.leavesShort 13 = true
  | .none, _ => ⟨rfl, rfl, rfl⟩
  | .bool b, _ => ⟨rfl, rfl, rfl⟩
  | .int i, h => by
    rw [tinyD] at h
    refine ⟨?_, rfl, ?_⟩
    · rw [PyData.showable]
      apply decide_eq_true
      have h2 : i.natAbs < 2 ^ 1920 := Nat.lt_of_lt_of_le h (by decide +kernel)
      exact PySem.Flt.log2_lt_of (by decide) h2
    · rw [PyData.leavesShort]
      exact decide_eq_true (PyData.shown_int_le h)
  | .str x, h => ⟨rfl, rfl, by
    rw [tinyD] at h
    rw [PyData.leavesShort, List.all_eq_true]
    exact fun c hc => decide_eq_true (h.2 c hc)⟩
  | .list xs, h => by
    obtain ⟨a, b, c⟩ := tiny_shows (xs := xs) (by simpa [tinyD] using h)
    exact ⟨by rw [PyData.showable]; exact a, by rw [noD]; exact b, by rw [PyData.leavesShort]; exact c⟩
  | .tuple xs, h => by
    obtain ⟨a, b, c⟩ := tiny_shows (xs := xs) (by simpa [tinyD] using h)
    exact ⟨by rw [PyData.showable]; exact a, by rw [noD]; exact b, by rw [PyData.leavesShort]; exact c⟩
theorem tiny_shows : ∀ {xs : List PyData}, tinyDs xs → PyData.showableAll xs = true ∧ noDs xs = true ∧ PyData.leavesShortAll 13 xs = true
  | [], _ => ⟨rfl, rfl, rfl⟩
  | x :: xs, h => by
    rw [tinyDs] at h
    obtain ⟨a, b, c⟩ := tiny_show h.1
    obtain ⟨a', b', c'⟩ := tiny_shows h.2
    exact ⟨by rw [PyData.showableAll, a, a']; rfl, by rw [noDs, b, b']; rfl, by rw [PyData.leavesShortAll, c, c']; rfl⟩
end
theorem repr_tiny {d : PyData} (h : tinyD d) (h1 : d.depth ≤ 60) (h2 : d.weight ≤ 2 ^ 20) : biE .repr [d] = some (.str d.shown) := by
  obtain ⟨a, b, c⟩ := tiny_show h
  have l := PyData.shown_fits (B := 13) (by decide) (by decide) c h2
  show (if _ then _ else _) = _
  rw [a, b, decide_eq_true h1, decide_eq_true l]
  rfl
theorem repr_same {d : PyData} (h : tinyD d) : cmpE .ne (.str d.shown) (.str d.shown) = some false ∧ cmpE .eq (.str d.shown) (.str d.shown) = some true := by
  have s : shapedB (.str d.shown) = true := by
    have := (tiny_text h).ok
    simp [shapedB, SeqAt.shaped, PyData.canLay0, this, PyData.depth]
  have e : eqD (.str d.shown) (.str d.shown) = some true := by
    unfold eqD
    rw [s]
    simp [PyData.eqv]
  constructor
  · show (eqD _ _).map _ = _
    rw [e]; rfl
  · exact e
/-! ### min and max -/
theorem best_ints (l : List Int) : bestB (l.map PyData.int) = true := by
  have a : alikeB (l.map PyData.int) = true := by
    unfold alikeB
    rw [List.all_eq_true]
    intro x hx
    rw [List.all_eq_true]
    intro y hy
    obtain ⟨i, _, e⟩ := List.mem_map.mp hx
    obtain ⟨j, _, e'⟩ := List.mem_map.mp hy
    subst e e'
    rfl
  have b : sortB (l.map PyData.int) = true := by
    unfold sortB
    rw [Bool.or_eq_true]
    right
    rw [List.all_eq_true]
    intro x hx
    obtain ⟨i, _, e⟩ := List.mem_map.mp hx
    subst e
    rfl
  have c : PyData.depthAll (l.map PyData.int) ≤ 60 := by
    have : PyData.depthAll (l.map PyData.int) = 0 := by
      clear a b
      induction l with
      | nil => rfl
      | cons x r ih => rw [List.map_cons, PyData.depthAll, ih]; rfl
    omega
  have d : noDs (l.map PyData.int) = true := by
    clear a b c
    induction l with
    | nil => rfl
    | cons x r ih => rw [List.map_cons, noDs, ih]; rfl
  unfold bestB
  rw [a, b, decide_eq_true c, d]
  rfl
theorem min_ints {a : Int} {l : List Int} : biE .min [.list ((a :: l).map PyData.int)] = some (.int (l.foldl (fun m x => if x < m then x else m) a)) := by
  show (if bestB ((a :: l).map PyData.int) then _ else _) = _
  rw [if_pos (best_ints (a :: l))]
  congr 1
  show W.minD (.int a) (l.map PyData.int) = _
  unfold W.minD
  induction l generalizing a with
  | nil => rfl
  | cons x r ih =>
    rw [List.map_cons, List.foldl_cons, List.foldl_cons, W.dataLt_int]
    by_cases c : x < a
    · rw [decide_eq_true c, if_pos rfl, if_pos c]; exact ih
    · rw [decide_eq_false c, if_neg (by decide), if_neg c]; exact ih
theorem max_ints {a : Int} {l : List Int} : biE .max [.list ((a :: l).map PyData.int)] = some (.int (l.foldl (fun m x => if m < x then x else m) a)) := by
  show (if bestB ((a :: l).map PyData.int) then _ else _) = _
  rw [if_pos (best_ints (a :: l))]
  congr 1
  show W.maxD (.int a) (l.map PyData.int) = _
  unfold W.maxD
  induction l generalizing a with
  | nil => rfl
  | cons x r ih =>
    rw [List.map_cons, List.foldl_cons, List.foldl_cons, W.dataLt_int]
    by_cases c : a < x
    · rw [decide_eq_true c, if_pos rfl, if_pos c]; exact ih
    · rw [decide_eq_false c, if_neg (by decide), if_neg c]; exact ih
theorem best_pairs (l : List (Int × Int)) : bestB (l.map encP) = true := by
  have a : alikeB (l.map encP) = true := by
    unfold alikeB
    rw [List.all_eq_true]
    intro x hx
    rw [List.all_eq_true]
    intro y hy
    obtain ⟨i, _, e⟩ := List.mem_map.mp hx
    obtain ⟨j, _, e'⟩ := List.mem_map.mp hy
    subst e e'
    rfl
  have b : sortB (l.map encP) = true := by
    unfold sortB
    rw [Bool.or_eq_true]
    left
    rw [List.all_eq_true]
    intro x hx
    obtain ⟨i, _, e⟩ := List.mem_map.mp hx
    subst e
    rfl
  have c : PyData.depthAll (l.map encP) ≤ 60 := by
    have : PyData.depthAll (l.map encP) ≤ 1 := by
      clear a b
      induction l with
      | nil => decide
      | cons x r ih =>
        rw [List.map_cons, PyData.depthAll]
        have : (encP x).depth = 1 := by simp [encP, PyData.depth, PyData.depthAll]
        omega
    omega
  have d : noDs (l.map encP) = true := by
    clear a b c
    induction l with
    | nil => rfl
    | cons x r ih => rw [List.map_cons, noDs, ih]; rfl
  unfold bestB
  rw [a, b, decide_eq_true c, d]
  rfl
theorem max_pairs {a : Int × Int} {l : List (Int × Int)} : ∃ b, biE .max [.list ((a :: l).map encP)] = some (encP b) ∧ b ∈ a :: l ∧ ∀ c ∈ a :: l, c.1 ≤ b.1 := by
  have e : biE .max [.list ((a :: l).map encP)] = some (W.maxD (encP a) (l.map encP)) := by
    show (if bestB ((a :: l).map encP) then _ else _) = _
    rw [if_pos (best_pairs (a :: l))]
  rw [e]
  clear e
  unfold W.maxD
  induction l generalizing a with
  | nil => exact ⟨a, rfl, List.mem_cons_self .., fun c hc => by rw [List.mem_singleton] at hc; rw [hc]; exact Int.le_refl _⟩
  | cons x r ih =>
    rw [List.map_cons, List.foldl_cons]
    have dl : W.dataLt (encP a) (encP x) = decide (a.1 < x.1 ∨ (a.1 = x.1 ∧ a.2 < x.2)) := W.dataLt_ii ..
    rw [dl]
    by_cases c : a.1 < x.1 ∨ (a.1 = x.1 ∧ a.2 < x.2)
    · rw [decide_eq_true c, if_pos rfl]
      obtain ⟨b, e, m, h⟩ := ih (a := x)
      refine ⟨b, e, List.mem_cons_of_mem _ m, fun u hu => ?_⟩
      rcases List.mem_cons.mp hu with q | q
      · have := h x (List.mem_cons_self ..)
        rw [q]; omega
      · exact h u q
    · rw [decide_eq_false c, if_neg (by decide)]
      obtain ⟨b, e, m, h⟩ := ih (a := a)
      refine ⟨b, e, ?_, fun u hu => ?_⟩
      · rcases List.mem_cons.mp m with q | q
        · rw [q]; exact List.mem_cons_self ..
        · exact List.mem_cons_of_mem _ (List.mem_cons_of_mem _ q)
      · rcases List.mem_cons.mp hu with q | q
        · exact h u (q ▸ List.mem_cons_self ..)
        · rcases List.mem_cons.mp q with z | z
          · have := h a (List.mem_cons_self ..)
            rw [z]; omega
          · exact h u (List.mem_cons_of_mem _ z)
theorem fmin_head {a : Int} : ∀ {l : List Int}, (∀ x ∈ l, a < x) → l.foldl (fun m x => if x < m then x else m) a = a
  | [], _ => rfl
  | x :: r, h => by
    have := h x (List.mem_cons_self ..)
    rw [List.foldl_cons, if_neg (by omega)]
    exact fmin_head fun y hy => h y (List.mem_cons_of_mem _ hy)
theorem fmax_last : ∀ {l : List Int} {a : Int}, (a :: l).Pairwise (· < ·) → l.foldl (fun m x => if m < x then x else m) a = (a :: l).getLast (by simp)
  | [], a, _ => rfl
  | x :: r, a, h => by
    have h1 := List.pairwise_cons.mp h
    have := h1.1 x (List.mem_cons_self ..)
    rw [List.foldl_cons, if_pos this, fmax_last h1.2]
    simp
/-! ### comprehensions over encoded lists -/
theorem e_lcm {Φ : Fns} {σ : Sd} {J : Jr} {α : Type} {elt : Ex} {t : Tg} {it : Itr} {ifs : List Ex} {own : List Nat} {T : List α} {enc : α → PyData} {g : α → Option PyData} (h1 : evIt Φ it σ J = .ok (T.map enc) J) (h2 : ∀ u ∈ T, lcTurn t (evIf Φ ifs) (evE Φ elt) (wipeD σ own) (enc u) J = .ok (g u) J) (h3 : T.length ≤ 1000) : evE Φ (.lc elt t it ifs own) σ J = .ok (.list (T.filterMap g)) J := by
  have s : 1000 ≤ sizeLine := by decide +kernel
  have lp : ∀ T : List α, (∀ u ∈ T, lcTurn t (evIf Φ ifs) (evE Φ elt) (wipeD σ own) (enc u) J = .ok (g u) J) → lcLoop (lcTurn t (evIf Φ ifs) (evE Φ elt) (wipeD σ own)) (T.map enc) J = .ok (T.filterMap g) J := by
    intro T
    induction T with
    | nil => intro _; rfl
    | cons u T ih =>
      intro h
      rw [List.map_cons, lcLoop, bind_ok' (h u (List.mem_cons_self ..)), bind_ok' (ih fun v hv => h v (List.mem_cons_of_mem _ hv)), List.filterMap_cons]
      cases g u <;> rfl
  rw [evE]
  unfold mLc
  rw [bind_ok' h1, bind_ok' (noX_eq (lp T h2))]
  have : (T.filterMap g).length ≤ sizeLine := Nat.le_trans (List.length_filterMap_le ..) (Nat.le_trans h3 s)
  unfold fitD
  rw [if_pos this]
  rfl
/-- over the places and entries of a poly, None among them -/
theorem e_lce {Φ : Fns} {σ : Sd} {J : Jr} {elt : Ex} {t : Tg} {it : Itr} {ifs : List Ex} {own : List Nat} {P : List (Option Int)} {g : Int × Int → Option PyData} (h1 : evIt Φ it σ J = .ok (enumD 0 (P.map encE)) J) (hn : ∀ i : Int, lcTurn t (evIf Φ ifs) (evE Φ elt) (wipeD σ own) (.tuple [.int i, .none]) J = .ok none J)
    (h2 : ∀ u ∈ tms 0 P, lcTurn t (evIf Φ ifs) (evE Φ elt) (wipeD σ own) (.tuple [.int u.1, .int u.2]) J = .ok (g u) J) (h3 : P.length ≤ 1000) : evE Φ (.lc elt t it ifs own) σ J = .ok (.list ((tms 0 P).filterMap g)) J := by
  have s : 1000 ≤ sizeLine := by decide +kernel
  have lp : ∀ (P : List (Option Int)) (i : Nat), (∀ u ∈ tms i P, lcTurn t (evIf Φ ifs) (evE Φ elt) (wipeD σ own) (.tuple [.int u.1, .int u.2]) J = .ok (g u) J) → lcLoop (lcTurn t (evIf Φ ifs) (evE Φ elt) (wipeD σ own)) (enumD i (P.map encE)) J = .ok ((tms i P).filterMap g) J := by
    intro P
    induction P with
    | nil => intro i _; rfl
    | cons o P ih =>
      intro i h
      cases o with
      | none =>
        show lcLoop _ (.tuple [.int i, .none] :: enumD (i + 1) (P.map encE)) J = _
        rw [lcLoop, bind_ok' (hn i), bind_ok' (ih (i + 1) fun v hv => h v hv)]
        rfl
      | some e =>
        show lcLoop _ (.tuple [.int i, .int e] :: enumD (i + 1) (P.map encE)) J = _
        rw [lcLoop, bind_ok' (h (i, e) (List.mem_cons_self ..)), bind_ok' (ih (i + 1) fun v hv => h v (List.mem_cons_of_mem _ hv))]
        show _ = Rs.ok (List.filterMap g ((↑i, e) :: tms (↑i + 1) P)) J
        rw [List.filterMap_cons]
        cases g (↑i, e) <;> rfl
  rw [evE]
  unfold mLc
  have z : lcLoop (lcTurn t (evIf Φ ifs) (evE Φ elt) (wipeD σ own)) (enumD 0 (P.map encE)) J = .ok ((tms 0 P).filterMap g) J := lp P 0 h2
  rw [bind_ok' h1, bind_ok' (noX_eq z)]
  have l2 : ∀ (P : List (Option Int)) (i : Int), (tms i P).length ≤ P.length := by
    intro P
    induction P with
    | nil => intro i; exact Nat.le_refl _
    | cons o P ih =>
      intro i
      cases o with
      | none => exact Nat.le_succ_of_le (ih _)
      | some e => exact Nat.succ_le_succ (ih _)
  have : ((tms 0 P).filterMap g).length ≤ sizeLine := Nat.le_trans (List.length_filterMap_le ..) (Nat.le_trans (l2 P 0) (Nat.le_trans h3 s))
  unfold fitD
  rw [if_pos this]
  rfl
theorem eq_encP {x y : Int × Int} : cmpE .eq (encP x) (encP y) = some (decide (x = y)) := by
  have s : ∀ z : Int × Int, shapedB (encP z) = true := by
    intro z
    simp [shapedB, SeqAt.shaped, encP, PyData.canLay0, PyData.canLayAll0, PyData.depth, PyData.depthAll]
  show eqD (encP x) (encP y) = _
  unfold eqD
  rw [s x, s y]
  have : PyData.eqv (encP x) (encP y) = decide (x = y) := by
    obtain ⟨a, b⟩ := x
    obtain ⟨c, d⟩ := y
    simp only [encP, PyData.eqv, PyData.eqvAll, Bool.and_true, Prod.mk.injEq, Bool.decide_and]
    rfl
  rw [this]
  rfl
theorem ne_encP {x y : Int × Int} : cmpE .ne (encP x) (encP y) = some (!decide (x = y)) := by
  show (cmpE .eq (encP x) (encP y)).map _ = _
  rw [eq_encP]; rfl
theorem shaped_pairs (l : List (Int × Int)) : shapedB (.list (l.map encP)) = true := by
  have c : PyData.depthAll (l.map encP) ≤ 1 := by
    induction l with
    | nil => decide
    | cons x r ih =>
      rw [List.map_cons, PyData.depthAll]
      have : (encP x).depth = 1 := by simp [encP, PyData.depth, PyData.depthAll]
      omega
  have d : PyData.canLayAll0 (l.map encP) = true := by
    clear c
    induction l with
    | nil => rfl
    | cons x r ih => rw [List.map_cons, PyData.canLayAll0, ih]; rfl
  unfold shapedB SeqAt.shaped
  rw [PyData.canLay0, d, PyData.depth]
  simp
  omega
theorem shaped_ints (l : List Int) : shapedB (.list (l.map .int)) = true := by
  have c : PyData.depthAll (l.map .int) = 0 := by
    induction l with
    | nil => rfl
    | cons x r ih => rw [List.map_cons, PyData.depthAll, ih]; rfl
  have d : PyData.canLayAll0 (l.map .int) = true := by
    clear c
    induction l with
    | nil => rfl
    | cons x r ih => rw [List.map_cons, PyData.canLayAll0, ih]; rfl
  unfold shapedB SeqAt.shaped
  rw [PyData.canLay0, d, PyData.depth, c]
  simp
theorem eq_nilP {l : List (Int × Int)} : cmpE .eq (.list (l.map encP)) (.list []) = some l.isEmpty := by
  show eqD _ _ = _
  unfold eqD
  rw [shaped_pairs l]
  cases l <;> rfl
theorem ne_nilP {l : List (Int × Int)} : cmpE .ne (.list (l.map encP)) (.list []) = some (!l.isEmpty) := by
  show (eqD _ _).map _ = _
  unfold eqD
  rw [shaped_pairs l]
  cases l <;> rfl
theorem ne_nilI {l : List Int} : cmpE .ne (.list (l.map .int)) (.list []) = some (!l.isEmpty) := by
  show (eqD _ _).map _ = _
  unfold eqD
  rw [shaped_ints l]
  cases l <;> rfl
theorem ne_nil0 : cmpE .ne (.list []) (.list []) = some false := rfl
/-! ### values -/
def vm (T : List (Int × Int)) (p q : Int) : Int := (T.foldl (vstep p q) none).getD 0
theorem vm_spec {p q : Int} {T : List (Int × Int)} (h : T ≠ []) : T.foldl (vstep p q) none = some (vm T p q) ∧ (∃ t ∈ T, tv p q t = vm T p q) ∧ ∀ t ∈ T, tv p q t ≤ vm T p q := by
  obtain ⟨m, e, a, b⟩ := vmax_spec (p := p) (q := q) h
  have : vm T p q = m := by unfold vm; rw [e]; rfl
  rw [this]
  exact ⟨e, a, b⟩
def tops (T : List (Int × Int)) (p q : Int) : List (Int × Int) := T.filter fun t => decide (tv p q t = vm T p q)
theorem tops_ne {p q : Int} {T : List (Int × Int)} (h : T ≠ []) : tops T p q ≠ [] := by
  obtain ⟨_, ⟨t, ht, e⟩, _⟩ := vm_spec (p := p) (q := q) h
  intro z
  have : t ∈ tops T p q := List.mem_filter.mpr ⟨ht, decide_eq_true e⟩
  rw [z] at this
  cases this
def fv (P : List (Option Int)) (x : Int × Int) : Int × Int := low (vm (tms 0 P) x.1 x.2) x.2
theorem low_inj {a b q : Int} (h : 0 < q) : low a q = low b q ↔ a = b := by
  constructor
  · intro e
    obtain ⟨a1, a2⟩ := low_eq (a := a) h
    obtain ⟨b1, b2⟩ := low_eq (a := b) h
    rw [← e] at b1 b2
    have p := low_pos (a := a) h
    have g : gcdI a q = gcdI b q := by
      have : (low a q).2 * gcdI a q = (low a q).2 * gcdI b q := by rw [a2, b2]
      exact Int.eq_of_mul_eq_mul_left (by omega) this
    rw [← a1, ← b1, g]
  · intro e; rw [e]
def fless (x y : Int × Int) : Bool := decide (x.1 * y.2 < y.1 * x.2)
def fbest (a : Int × Int) (l : List (Int × Int)) : Int × Int := l.foldl (fun m x => if fless x m then x else m) a
/-- from where on each later term reaches the number -/
def reachL (P : List (Option Int)) (N : Int) : List (Int × Int) := ((tms 0 P).filter fun t => decide (0 < t.1)).map fun t => low (N - t.2) t.1
def alw (P : List (Option Int)) (N : Int) : Bool := match P with
  | some e :: _ => decide (N ≤ e)
  | _ => false
def reachD (P : List (Option Int)) (N : Int) : PyData := match alw P N with
  | true => .tuple [.str (Str.ofString "always")]
  | false => match reachL P N with
    | [] => .tuple [.str (Str.ofString "never")]
    | a :: l => .tuple [.str (Str.ofString "from"), encP (fbest a (a :: l))]
end Ev
end

section
set_option maxRecDepth 100000
set_option maxHeartbeats 1000000
/-! Plain: the chain of vertices. -/
namespace Ev
open PySem PySem.Spec PyProof.Rows L2
def over (f m t : Int × Int) : Bool := decide ((t.2 - f.2) * (m.1 - f.1) < (m.2 - f.2) * (t.1 - f.1))
/-- the chain, its last one ahead -/
def popW (t : Int × Int) : List (Int × Int) → List (Int × Int)
  | m :: f :: r => if over f m t then m :: f :: r else popW t (f :: r)
  | s => s
def hull (T : List (Int × Int)) : List (Int × Int) := T.foldl (fun st t => t :: popW t st) []
def verts (P : List (Option Int)) : List (Int × Int) := (hull (tms 0 P)).reverse
theorem popW_suf {t : Int × Int} : ∀ {L : List (Int × Int)}, popW t L <:+ L
  | [] => List.suffix_refl _
  | [m] => List.suffix_refl _
  | m :: f :: r => by
    rw [popW]
    split
    · exact List.suffix_refl _
    · exact List.IsSuffix.trans popW_suf (List.suffix_cons ..)
theorem popW_nil {t : Int × Int} : ∀ {L : List (Int × Int)}, popW t L = [] → L = []
  | [], _ => rfl
  | [m], h => by cases h
  | m :: f :: r, h => by
    rw [popW] at h
    split at h
    · cases h
    · have := popW_nil h; cases this
/-- what stands in the chain: terms done, descending from its head -/
theorem hull_inv {T : List (Int × Int)} : ∀ {L : List (Int × Int)}, (∀ u ∈ L, ∀ t ∈ T, u.1 < t.1) → T.Pairwise (fun s t => s.1 < t.1) → L.Pairwise (fun s t => t.1 < s.1) →
    (T.foldl (fun st t => t :: popW t st) L).Pairwise (fun s t => t.1 < s.1) ∧ ∀ u ∈ T.foldl (fun st t => t :: popW t st) L, u ∈ L ∨ u ∈ T := by
  induction T with
  | nil => intro L _ _ h; exact ⟨h, fun u hu => .inl hu⟩
  | cons t T ih =>
    intro L hL hT h
    have hT' := List.pairwise_cons.mp hT
    have s := popW_suf (t := t) (L := L)
    have hp : (t :: popW t L).Pairwise (fun s t => t.1 < s.1) := List.pairwise_cons.mpr ⟨fun u hu => hL u (s.subset hu) t (List.mem_cons_self ..), h.sublist s.sublist⟩
    obtain ⟨a, b⟩ := ih (L := t :: popW t L) (fun u hu v hv => by
      rcases List.mem_cons.mp hu with q | q
      · rw [q]; exact hT'.1 v hv
      · exact hL u (s.subset q) v (List.mem_cons_of_mem _ hv)) hT'.2 hp
    refine ⟨a, fun u hu => ?_⟩
    rcases b u hu with q | q
    · rcases List.mem_cons.mp q with z | z
      · exact .inr (z ▸ List.mem_cons_self ..)
      · exact .inl (s.subset z)
    · exact .inr (List.mem_cons_of_mem _ q)
theorem verts_inv {P : List (Option Int)} : (verts P).Pairwise (fun s t => s.1 < t.1) ∧ ∀ u ∈ verts P, u ∈ tms 0 P := by
  obtain ⟨a, b⟩ := hull_inv (T := tms 0 P) (L := []) (fun u hu => by cases hu) tms_asc .nil
  exact ⟨List.pairwise_reverse.mpr a, fun u hu => (b u (List.mem_reverse.mp hu)).resolve_left fun z => by cases z⟩
theorem hull_len {T : List (Int × Int)} : ∀ {L : List (Int × Int)}, (T.foldl (fun st t => t :: popW t st) L).length ≤ L.length + T.length := by
  induction T with
  | nil => intro L; exact Nat.le_refl _
  | cons t T ih =>
    intro L
    have := ih (L := t :: popW t L)
    have s := (popW_suf (t := t) (L := L)).sublist.length_le
    rw [List.foldl_cons, List.length_cons]
    rw [List.length_cons] at this
    omega
theorem verts_len {P : List (Option Int)} : (verts P).length ≤ (tms 0 P).length := by
  have := hull_len (T := tms 0 P) (L := [])
  unfold verts hull
  rw [List.length_reverse]
  simpa using this
/-- the corners -/
def corns : List (Int × Int) → List ((Int × Int) × Int)
  | u :: v :: r => (low (u.2 - v.2) (v.1 - u.1), v.1 - u.1) :: corns (v :: r)
  | _ => []
def encC (c : (Int × Int) × Int) : PyData := .tuple [encP c.1, .int c.2]
def encPP (c : (Int × Int) × (Int × Int)) : PyData := .tuple [encP c.1, encP c.2]
theorem corns_zip : ∀ V : List (Int × Int), corns V = (V.zip V.tail).map fun c => (low (c.1.2 - c.2.2) (c.2.1 - c.1.1), c.2.1 - c.1.1)
  | [] => rfl
  | [u] => rfl
  | u :: v :: r => by
    rw [corns, corns_zip (v :: r)]; rfl
theorem zip_enc : ∀ V U : List (Int × Int), List.zipWith (fun x y => PyData.tuple [x, y]) (V.map encP) (U.map encP) = (V.zip U).map encPP
  | [], _ => rfl
  | _ :: _, [] => rfl
  | u :: V, v :: U => by
    rw [List.map_cons, List.map_cons, List.zipWith_cons_cons, zip_enc V U]; rfl
theorem cut1 {xs : List PyData} : cutD xs (some 1) none = xs.tail := by
  unfold cutD HT.sIx
  cases xs with
  | nil => rfl
  | cons x xs =>
    simp
theorem at_m1 {xs : List PyData} {a : PyData} : atI (xs ++ [a]) (-1) = some a := by
  simp only [atI, ixN, List.length_append, List.length_singleton]
  rw [if_neg (by omega), if_pos (by omega)]
  have e : (-1 + ((xs.length + 1 : Nat) : Int)).toNat = xs.length := by omega
  rw [e]
  simp
theorem at_m2 {xs : List PyData} {a b : PyData} : atI (xs ++ [a, b]) (-2) = some a := by
  simp only [atI, ixN, List.length_append, List.length_cons, List.length_nil]
  rw [if_neg (by omega), if_pos (by omega)]
  have e : (-2 + ((xs.length + (0 + 1 + 1) : Nat) : Int)).toNat = xs.length := by omega
  rw [e]
  simp
theorem x_la0 {ds : List PyData} {σ : Sd} : listAt (some (.list ds) :: σ) 0 = some ds := rfl
theorem x_la1 {o : Option PyData} {i : Nat} {σ : Sd} : listAt (o :: σ) (i + 1) = listAt σ i := rfl
end Ev
end

section
set_option maxRecDepth 100000
set_option maxHeartbeats 1000000
/-! Plain law: the chain of vertices is the hull. -/
namespace Ev
def cr (a b c : Int × Int) : Int := (b.1 - a.1) * (c.2 - a.2) - (b.2 - a.2) * (c.1 - a.1)
theorem neg_of {p x : Int} (hp : 0 < p) (h : p * x < 0) : x < 0 := by
  rcases Int.lt_or_le x 0 with q | q
  · exact q
  · have := Int.mul_nonneg (Int.le_of_lt hp) q; omega
theorem npos_of {p x : Int} (hp : 0 < p) (h : p * x ≤ 0) : x ≤ 0 := by
  rcases Int.lt_or_le 0 x with q | q
  · have := Int.mul_pos hp q; omega
  · exact q
theorem mul_np {a b : Int} (h : 0 ≤ a) (k : b ≤ 0) : a * b ≤ 0 := by
  have := Int.mul_nonneg h (show 0 ≤ -b by omega)
  rw [Int.mul_neg] at this
  omega
theorem mul_pn {a b : Int} (h : 0 < a) (k : b < 0) : a * b < 0 := by
  have := Int.mul_pos h (show 0 < -b by omega)
  rw [Int.mul_neg] at this
  omega
theorem over_cr {f m t : Int × Int} : over f m t = true ↔ cr f m t < 0 := by
  unfold over cr
  rw [decide_eq_true_eq, Int.mul_comm (m.1 - f.1)]
  omega
theorem cr_swap {a b c : Int × Int} : cr a c b = -cr a b c := by unfold cr; grind
theorem cr_cyc {a b c : Int × Int} : cr b c a = cr a b c := by unfold cr; grind
theorem cr_end {a b : Int × Int} : cr a b b = 0 := by unfold cr; grind
theorem cr_beg {a b : Int × Int} : cr a b a = 0 := by unfold cr; grind
theorem l_a {e f m t : Int × Int} (h1 : e.1 < f.1) (h2 : f.1 < m.1) (h3 : m.1 < t.1) (a : cr e f m < 0) (b : cr f m t < 0) : cr e f t < 0 := by
  have i : (m.1 - f.1) * cr e f t = (t.1 - f.1) * cr e f m + (f.1 - e.1) * cr f m t := by unfold cr; grind
  refine neg_of (p := m.1 - f.1) (by omega) ?_
  rw [i]
  have := mul_pn (a := t.1 - f.1) (by omega) a
  have := mul_pn (a := f.1 - e.1) (by omega) b
  omega
theorem l_b {f m t d : Int × Int} (h1 : f.1 < m.1) (h2 : m.1 < t.1) (h4 : d.1 ≤ t.1) (a : cr m t d ≤ 0) (b : 0 ≤ cr f m t) : cr f t d ≤ 0 := by
  have i : (t.1 - m.1) * cr f t d = (t.1 - d.1) * cr f t m + (t.1 - f.1) * cr m t d := by unfold cr; grind
  refine npos_of (p := t.1 - m.1) (by omega) ?_
  rw [i]
  have := mul_np (a := t.1 - d.1) (by omega) (show cr f t m ≤ 0 by rw [cr_swap]; omega)
  have := mul_np (a := t.1 - f.1) (by omega) a
  omega
theorem l_c {f m t d : Int × Int} (h1 : f.1 < m.1) (h2 : m.1 < t.1) (h3 : f.1 ≤ d.1) (a : cr f m d ≤ 0) (b : 0 ≤ cr f m t) : cr f t d ≤ 0 := by
  have i : (m.1 - f.1) * cr f t d = (d.1 - f.1) * cr f t m + (t.1 - f.1) * cr f m d := by unfold cr; grind
  refine npos_of (p := m.1 - f.1) (by omega) ?_
  rw [i]
  have := mul_np (a := d.1 - f.1) (by omega) (show cr f t m ≤ 0 by rw [cr_swap]; omega)
  have := mul_np (a := t.1 - f.1) (by omega) a
  omega
theorem l_d {f m t d : Int × Int} (h1 : f.1 < m.1) (h2 : m.1 < t.1) (h3 : d.1 < m.1) (a : cr f m d ≤ 0) (b : cr f m t < 0) : cr m t d < 0 := by
  have i : (m.1 - f.1) * cr m t d = (m.1 - d.1) * cr m t f + (t.1 - m.1) * cr f m d := by unfold cr; grind
  refine neg_of (p := m.1 - f.1) (by omega) ?_
  rw [i]
  have := mul_pn (a := m.1 - d.1) (by omega) (show cr m t f < 0 by rw [cr_cyc]; exact b)
  have := mul_np (a := t.1 - m.1) (by omega) a
  omega
def EdgeOk (D : List (Int × Int)) (u v : Int × Int) : Prop := u.1 < v.1 ∧ ∀ d ∈ D, cr u v d ≤ 0 ∧ (cr u v d = 0 → u.1 ≤ d.1 ∧ d.1 ≤ v.1)
def Chain (D : List (Int × Int)) : List (Int × Int) → Prop
  | v :: u :: r => EdgeOk D u v ∧ Chain D (u :: r)
  | _ => True
/-- the greatest one is added below all edges -/
theorem Chain.add {D : List (Int × Int)} {t : Int × Int} : ∀ {L : List (Int × Int)} {m : Int × Int}, Chain D (m :: L) → (∀ u ∈ m :: L, u ∈ D) → m.1 < t.1 → (∀ f r, L = f :: r → cr f m t < 0) → Chain (t :: D) (m :: L)
  | [], m, _, _, _, _ => trivial
  | f :: r, m, h, hs, hm, ht => by
    obtain ⟨⟨e1, e2⟩, h2⟩ := h
    have c := ht f r rfl
    refine ⟨⟨e1, fun d hd => ?_⟩, ?_⟩
    · rcases List.mem_cons.mp hd with q | q
      · subst q
        exact ⟨by omega, fun z => by omega⟩
      · exact e2 d q
    · refine Chain.add h2 (fun u hu => hs u (List.mem_cons_of_mem _ hu)) (by omega) fun e r' er => ?_
      subst er
      obtain ⟨⟨g1, g2⟩, _⟩ := h2
      obtain ⟨g3, g4⟩ := g2 m (hs m (List.mem_cons_self ..))
      have g5 : cr e f m < 0 := by
        rcases Int.lt_or_le (cr e f m) 0 with q | q
        · exact q
        · have := g4 (by omega); omega
      exact l_a g1 e1 hm g5 c
/-- popping -/
theorem pop_ok {D : List (Int × Int)} {t : Int × Int} (ht : ∀ d ∈ D, d.1 < t.1) : ∀ {L : List (Int × Int)} {m : Int × Int}, Chain D (m :: L) → (∀ u ∈ m :: L, u ∈ D) → (∀ d ∈ D, m.1 ≤ d.1 → cr m t d ≤ 0) →
    ∃ (m' : Int × Int) (L' : List (Int × Int)), popW t (m :: L) = m' :: L' ∧ Chain D (m' :: L') ∧ (∀ d ∈ D, m'.1 ≤ d.1 → cr m' t d ≤ 0) ∧ (∀ f r, L' = f :: r → cr f m' t < 0) ∧ (m' :: L').getLast? = (m :: L).getLast?
  | [], m, h, hs, hq => ⟨m, [], rfl, trivial, hq, fun f r z => (by cases z), rfl⟩
  | f :: r, m, h, hs, hq => by
    rw [popW]
    by_cases c : over f m t = true
    · rw [if_pos c]
      refine ⟨m, f :: r, rfl, h, hq, fun f' r' z => ?_, rfl⟩
      cases z
      exact over_cr.mp c
    · rw [if_neg c]
      have c' : 0 ≤ cr f m t := by
        rcases Int.lt_or_le (cr f m t) 0 with q | q
        · exact absurd (over_cr.mpr q) c
        · exact q
      obtain ⟨⟨e1, e2⟩, h2⟩ := h
      have hm := ht m (hs m (List.mem_cons_self ..))
      obtain ⟨m', L', g1, g2, g3, g4, g5⟩ := pop_ok ht (L := r) (m := f) h2 (fun u hu => hs u (List.mem_cons_of_mem _ hu)) (fun d hd hf => by
        rcases Int.lt_or_le d.1 m.1 with q | q
        · exact l_c e1 hm hf (e2 d hd).1 c'
        · exact l_b e1 hm (Int.le_of_lt (ht d hd)) (hq d hd q) c')
      exact ⟨m', L', g1, g2, g3, g4, by rw [g5, List.getLast?_cons_cons]⟩
structure HInv (D L : List (Int × Int)) : Prop where
  ch : Chain D L
  sub : ∀ u ∈ L, u ∈ D
  top : ∃ m, L.head? = some m ∧ ∀ d ∈ D, d.1 ≤ m.1 ∧ (d.1 = m.1 → d = m)
  bot : ∃ b, L.getLast? = some b ∧ ∀ d ∈ D, b.1 ≤ d.1
theorem HInv.step {D L : List (Int × Int)} {t : Int × Int} (i : HInv D L) (ht : ∀ d ∈ D, d.1 < t.1) : HInv (t :: D) (t :: popW t L) := by
  obtain ⟨ch, sub, ⟨m, hm, tp⟩, ⟨b, hb, bt⟩⟩ := i
  obtain ⟨r, rfl⟩ : ∃ r, L = m :: r := by
    cases L with
    | nil => cases hm
    | cons a r => cases hm; exact ⟨r, rfl⟩
  obtain ⟨m', L', e, c1, c2, c3, c4⟩ := pop_ok ht ch sub (fun d hd h => by
    have := (tp d hd).2 (by have := (tp d hd).1; omega)
    rw [this, cr_beg]; exact Int.le_refl _)
  have suf := popW_suf (t := t) (L := m :: r)
  rw [e] at suf ⊢
  have sub' : ∀ u ∈ m' :: L', u ∈ D := fun u hu => sub u (suf.subset hu)
  have hm' := ht m' (sub' m' (List.mem_cons_self ..))
  refine ⟨⟨⟨hm', fun d hd => ?_⟩, Chain.add c1 sub' hm' c3⟩, fun u hu => ?_, ⟨t, rfl, fun d hd => ?_⟩, ⟨b, ?_, fun d hd => ?_⟩⟩
  · rcases List.mem_cons.mp hd with q | q
    · subst q
      rw [cr_end]
      exact ⟨Int.le_refl _, fun _ => ⟨by omega, Int.le_refl _⟩⟩
    · have hdt := ht d q
      rcases Int.lt_or_le d.1 m'.1 with z | z
      · cases L' with
        | nil =>
          have eb : m' = b := by
            rw [hb] at c4
            exact Option.some.inj c4
          have := bt d q
          rw [← eb] at this
          omega
        | cons f r' =>
          obtain ⟨⟨e1, e2⟩, _⟩ := c1
          have := l_d e1 hm' z (e2 d q).1 (c3 f r' rfl)
          exact ⟨by omega, fun y => by omega⟩
      · exact ⟨c2 d q z, fun _ => ⟨z, by omega⟩⟩
  · rcases List.mem_cons.mp hu with q | q
    · rw [q]; exact List.mem_cons_self ..
    · exact List.mem_cons_of_mem _ (sub' u q)
  · rcases List.mem_cons.mp hd with q | q
    · rw [q]; exact ⟨Int.le_refl _, fun _ => rfl⟩
    · have := ht d q
      exact ⟨by omega, fun z => by omega⟩
  · rw [List.getLast?_cons_cons, c4, hb]
  · rcases List.mem_cons.mp hd with q | q
    · rw [q]
      have := bt m' (sub' m' (List.mem_cons_self ..))
      omega
    · exact bt d q
theorem HInv.fold {T : List (Int × Int)} : ∀ {D L : List (Int × Int)}, HInv D L → (∀ d ∈ D, ∀ t ∈ T, d.1 < t.1) → T.Pairwise (fun s t => s.1 < t.1) → HInv (T.reverse ++ D) (T.foldl (fun st t => t :: popW t st) L) := by
  induction T with
  | nil => intro D L i _ _; exact i
  | cons t T ih =>
    intro D L i h hp
    have hp' := List.pairwise_cons.mp hp
    have := ih (i.step fun d hd => h d hd t (List.mem_cons_self ..)) (fun d hd s hs => by
      rcases List.mem_cons.mp hd with q | q
      · rw [q]; exact hp'.1 s hs
      · exact h d q s (List.mem_cons_of_mem _ hs)) hp'.2
    rw [List.reverse_cons, List.append_assoc]
    exact this
theorem hull_ok {T : List (Int × Int)} (hT : T.Pairwise (fun s t => s.1 < t.1)) (ne : T ≠ []) : HInv T.reverse (hull T) := by
  cases T with
  | nil => exact absurd rfl ne
  | cons t T =>
    have hp' := List.pairwise_cons.mp hT
    have i0 : HInv [t] [t] := ⟨trivial, fun u hu => hu, ⟨t, rfl, fun d hd => by rw [List.mem_singleton] at hd; rw [hd]; exact ⟨Int.le_refl _, fun _ => rfl⟩⟩, ⟨t, rfl, fun d hd => by rw [List.mem_singleton] at hd; rw [hd]; exact Int.le_refl _⟩⟩
    have := i0.fold (T := T) (fun d hd s hs => by rw [List.mem_singleton] at hd; rw [hd]; exact hp'.1 s hs) hp'.2
    rw [List.reverse_cons]
    exact this
theorem Chain.adj {D : List (Int × Int)} {u v : Int × Int} {r : List (Int × Int)} : ∀ {l : List (Int × Int)}, Chain D (l ++ v :: u :: r) → EdgeOk D u v
  | [], h => h.1
  | [a], h => h.2.1
  | a :: b :: l, h => Chain.adj (l := b :: l) h.2
theorem corns_adj : ∀ {V : List (Int × Int)} {c : (Int × Int) × Int}, c ∈ corns V → ∃ (l r : List (Int × Int)) (u v : Int × Int), V = l ++ u :: v :: r ∧ c = (low (u.2 - v.2) (v.1 - u.1), v.1 - u.1)
  | [], c, h => by cases h
  | [u], c, h => by cases h
  | u :: v :: r, c, h => by
    rw [corns] at h
    rcases List.mem_cons.mp h with q | q
    · exact ⟨[], r, u, v, rfl, q⟩
    · obtain ⟨l, r', u', v', e, ec⟩ := corns_adj q
      exact ⟨u :: l, r', u', v', by rw [e]; rfl, ec⟩
/-- a corner's edge: all terms lie below it, and those on it lie between its ends -/
theorem corner_edge {P : List (Option Int)} (ok : POk P) {c : (Int × Int) × Int} (h : c ∈ corns (verts P)) : ∃ u v : Int × Int, u ∈ tms 0 P ∧ v ∈ tms 0 P ∧ EdgeOk (tms 0 P) u v ∧ c = (low (u.2 - v.2) (v.1 - u.1), v.1 - u.1) := by
  obtain ⟨l, r, u, v, e, ec⟩ := corns_adj h
  have i := hull_ok (T := tms 0 P) tms_asc (tms_ne ok)
  have er : hull (tms 0 P) = r.reverse ++ v :: u :: l.reverse := by
    have : verts P = (hull (tms 0 P)).reverse := rfl
    rw [this] at e
    have := congrArg List.reverse e
    rw [List.reverse_reverse] at this
    rw [this]
    simp
  have ch := i.ch
  rw [er] at ch
  obtain ⟨a, b⟩ := ch.adj
  have mu : ∀ w ∈ hull (tms 0 P), w ∈ tms 0 P := fun w hw => List.mem_reverse.mp (i.sub w hw)
  refine ⟨u, v, mu u (by rw [er]; simp), mu v (by rw [er]; simp), ⟨a, fun d hd => b d (List.mem_reverse.mpr hd)⟩, ec⟩
theorem tops_mem {T : List (Int × Int)} {p q : Int} {t : Int × Int} : t ∈ tops T p q ↔ t ∈ T ∧ tv p q t = vm T p q := by
  unfold tops
  rw [List.mem_filter, decide_eq_true_eq]
/-- at a corner the greatest terms lie from one end of its edge to the other -/
theorem corner_tops {P : List (Option Int)} (ok : POk P) {u v : Int × Int} (hu : u ∈ tms 0 P) (hv : v ∈ tms 0 P) (e : EdgeOk (tms 0 P) u v) :
    ((tops (tms 0 P) (low (u.2 - v.2) (v.1 - u.1)).1 (low (u.2 - v.2) (v.1 - u.1)).2).head?.getD (0, 0)).1 = u.1 ∧ ((tops (tms 0 P) (low (u.2 - v.2) (v.1 - u.1)).1 (low (u.2 - v.2) (v.1 - u.1)).2).getLast?.getD (0, 0)).1 = v.1 := by
  obtain ⟨e1, e2⟩ := e
  have w : 0 < v.1 - u.1 := by omega
  obtain ⟨q1, q2⟩ := low_eq (a := u.2 - v.2) w
  have qp := low_pos (a := u.2 - v.2) w
  have gp := gcd_pos (a := u.2 - v.2) w
  generalize low (u.2 - v.2) (v.1 - u.1) = x at *
  generalize gcdI (u.2 - v.2) (v.1 - u.1) = g at *
  have cross : x.1 * (v.1 - u.1) = (u.2 - v.2) * x.2 := by
    have : g * (x.1 * (v.1 - u.1)) = g * ((u.2 - v.2) * x.2) := by
      rw [← q1, ← q2]; grind
    exact Int.eq_of_mul_eq_mul_left (by omega) this
  have key : ∀ d : Int × Int, (v.1 - u.1) * (tv x.1 x.2 d - tv x.1 x.2 u) = x.2 * cr u v d := by
    intro d
    unfold tv cr
    have : (v.1 - u.1) * (d.2 * x.2 + d.1 * x.1 - (u.2 * x.2 + u.1 * x.1)) = (d.2 - u.2) * x.2 * (v.1 - u.1) + (d.1 - u.1) * (x.1 * (v.1 - u.1)) := by grind
    rw [this, cross]
    grind
  have le : ∀ d ∈ tms 0 P, tv x.1 x.2 d ≤ tv x.1 x.2 u := by
    intro d hd
    have := mul_np (Int.le_of_lt qp) (e2 d hd).1
    rw [← key d] at this
    have := npos_of w this
    omega
  have eqv : ∀ d ∈ tms 0 P, tv x.1 x.2 d = tv x.1 x.2 u ↔ cr u v d = 0 := by
    intro d hd
    have k := key d
    constructor
    · intro z
      rw [z, Int.sub_self, Int.mul_zero] at k
      rcases Int.mul_eq_zero.mp k.symm with y | y
      · omega
      · exact y
    · intro z
      rw [z, Int.mul_zero] at k
      rcases Int.mul_eq_zero.mp k with y | y <;> omega
  have hm : vm (tms 0 P) x.1 x.2 = tv x.1 x.2 u := by
    obtain ⟨_, ⟨t, ht, et⟩, mx⟩ := vm_spec (p := x.1) (q := x.2) (tms_ne ok)
    have := mx u hu
    have := le t ht
    omega
  have mt : ∀ d, d ∈ tops (tms 0 P) x.1 x.2 ↔ d ∈ tms 0 P ∧ cr u v d = 0 := by
    intro d
    rw [tops_mem, hm]
    exact ⟨fun ⟨a, b⟩ => ⟨a, (eqv d a).mp b⟩, fun ⟨a, b⟩ => ⟨a, (eqv d a).mpr b⟩⟩
  have mu : u ∈ tops (tms 0 P) x.1 x.2 := (mt u).mpr ⟨hu, cr_beg⟩
  have mv : v ∈ tops (tms 0 P) x.1 x.2 := (mt v).mpr ⟨hv, cr_end⟩
  have asc : (tops (tms 0 P) x.1 x.2).Pairwise fun s t => s.1 < t.1 := tms_asc.sublist List.filter_sublist
  have bd : ∀ d ∈ tops (tms 0 P) x.1 x.2, u.1 ≤ d.1 ∧ d.1 ≤ v.1 := fun d hd => (e2 d ((mt d).mp hd).1).2 ((mt d).mp hd).2
  generalize tops (tms 0 P) x.1 x.2 = L at *
  constructor
  · cases L with
    | nil => cases mu
    | cons a L =>
      show a.1 = u.1
      have := (bd a (List.mem_cons_self ..)).1
      rcases List.mem_cons.mp mu with z | z
      · rw [z]
      · have := (List.pairwise_cons.mp asc).1 u z
        omega
  · have ne : L ≠ [] := by intro z; rw [z] at mu; cases mu
    have e : L = L.dropLast ++ [L.getLast ne] := (List.dropLast_concat_getLast ne).symm
    rw [List.getLast?_eq_some_getLast ne]
    show (L.getLast ne).1 = v.1
    have := (bd _ (List.getLast_mem ne)).2
    rw [e] at mv asc
    rcases List.mem_append.mp mv with z | z
    · have := (List.pairwise_append.mp asc).2.2 v z (L.getLast ne) (by simp)
      omega
    · rw [List.mem_singleton] at z
      rw [z]
/-- the ends of the chain -/
theorem verts_ends {P : List (Option Int)} (ok : POk P) : ∃ a b : Int × Int, (verts P).head? = some a ∧ (verts P).getLast? = some b ∧ a.1 = ((tms 0 P).head?.getD (0, 0)).1 ∧ b.1 = (P.length : Int) - 1 := by
  obtain ⟨ch, sub, ⟨m, hm, tp⟩, ⟨b, hb, bt⟩⟩ := hull_ok (T := tms 0 P) tms_asc (tms_ne ok)
  have mm : m ∈ tms 0 P := List.mem_reverse.mp (sub m (List.mem_of_head? hm))
  have mb : b ∈ tms 0 P := List.mem_reverse.mp (sub b (List.mem_of_getLast? hb))
  refine ⟨b, m, ?_, ?_, ?_, ?_⟩
  · show (hull (tms 0 P)).reverse.head? = _
    rw [List.head?_reverse, hb]
  · show (hull (tms 0 P)).reverse.getLast? = _
    rw [List.getLast?_reverse, hm]
  · have asc := tms_asc (P := P) (i := 0)
    have bt' : ∀ d ∈ tms 0 P, b.1 ≤ d.1 := fun d hd => bt d (List.mem_reverse.mpr hd)
    generalize tms 0 P = T at *
    cases T with
    | nil => cases mb
    | cons t T =>
      show b.1 = t.1
      have := bt' t (List.mem_cons_self ..)
      rcases List.mem_cons.mp mb with z | z
      · rw [z]
      · have := (List.pairwise_cons.mp asc).1 b z
        omega
  · obtain ⟨i, hi⟩ : ∃ i, P.getLast? = some (some i) := by
      have h1 := ok.lo
      have h2 := ok.last
      cases e : P.getLast? with
      | none => rw [List.getLast?_eq_none_iff] at e; subst e; simp at h1
      | some o =>
        cases o with
        | none => exact absurd e h2
        | some i => exact ⟨i, rfl⟩
    have key : ∀ (Q : List (Option Int)) (j : Int), Q.getLast? = some (some i) → (j + Q.length - 1, i) ∈ tms j Q := by
      intro Q
      induction Q with
      | nil => intro j h; cases h
      | cons o Q ih =>
        intro j h
        cases Q with
        | nil =>
          cases h
          have : j + (([some i] : List (Option Int)).length : Int) - 1 = j := by simp
          rw [this]
          exact List.mem_cons_self ..
        | cons o' Q =>
          rw [List.getLast?_cons_cons] at h
          have := ih (j + 1) h
          have e : j + ((o :: o' :: Q).length : Int) - 1 = j + 1 + ((o' :: Q).length : Int) - 1 := by rw [List.length_cons (a := o)]; omega
          rw [e]
          cases o with
          | none => exact this
          | some a => exact List.mem_cons_of_mem _ this
    have k := key P 0 hi
    have k2 := (tp _ (List.mem_reverse.mpr k)).1
    have k3 := (tms_mem mm).2.1
    simp only at k2
    omega
/-! ### fractions -/
def fle (x y : Int × Int) : Prop := x.1 * y.2 ≤ y.1 * x.2
theorem fle_of {x y : Int × Int} (h : fless y x = false) : fle x y := by
  unfold fless at h
  have := of_decide_eq_false h
  unfold fle
  omega
theorem fless_of {x y : Int × Int} (h : fle x y) : fless y x = false := by
  unfold fless
  unfold fle at h
  exact decide_eq_false (by omega)
theorem fle_trans {x y z : Int × Int} (hx : 0 < x.2) (hy : 0 < y.2) (hz : 0 < z.2) (a : fle x y) (b : fle y z) : fle x z := by
  unfold fle at *
  have h1 := Int.mul_le_mul_of_nonneg_right a (Int.le_of_lt hz)
  have h2 := Int.mul_le_mul_of_nonneg_right b (Int.le_of_lt hx)
  have e1 : x.1 * y.2 * z.2 = y.2 * (x.1 * z.2) := by grind
  have e2 : y.1 * x.2 * z.2 = y.1 * z.2 * x.2 := by grind
  have e3 : z.1 * y.2 * x.2 = y.2 * (z.1 * x.2) := by grind
  exact Int.le_of_mul_le_mul_left (a := y.2) (by omega) hy
theorem fbest_min : ∀ {l : List (Int × Int)} {a : Int × Int}, (∀ u ∈ a :: l, 0 < u.2) → ∀ u ∈ a :: l, fle (fbest a l) u
  | [], a, h, u, hu => by
    rw [List.mem_singleton] at hu
    subst hu
    exact Int.le_refl _
  | x :: l, a, h, u, hu => by
    show fle (fbest (if fless x a then x else a) l) u
    have ha := h a (List.mem_cons_self ..)
    have hx := h x (List.mem_cons_of_mem _ (List.mem_cons_self ..))
    have hp : 0 < (if fless x a then x else a).2 := by split <;> assumption
    have ih := fbest_min (l := l) (a := if fless x a then x else a) (fun w hw => by
      rcases List.mem_cons.mp hw with q | q
      · rw [q]; exact hp
      · exact h w (List.mem_cons_of_mem _ (List.mem_cons_of_mem _ q)))
    have bp : 0 < (fbest (if fless x a then x else a) l).2 := by
      have : ∀ (l : List (Int × Int)) (a : Int × Int), (∀ u ∈ a :: l, 0 < u.2) → 0 < (fbest a l).2 := by
        intro l
        induction l with
        | nil => intro a h; exact h a (List.mem_cons_self ..)
        | cons x l ih =>
          intro a h
          show 0 < (fbest (if fless x a then x else a) l).2
          refine ih _ fun w hw => ?_
          rcases List.mem_cons.mp hw with q | q
          · rw [q]; split
            · exact h x (List.mem_cons_of_mem _ (List.mem_cons_self ..))
            · exact h a (List.mem_cons_self ..)
          · exact h w (List.mem_cons_of_mem _ (List.mem_cons_of_mem _ q))
      exact this _ _ fun w hw => by
        rcases List.mem_cons.mp hw with q | q
        · rw [q]; exact hp
        · exact h w (List.mem_cons_of_mem _ (List.mem_cons_of_mem _ q))
    have base := ih _ (List.mem_cons_self ..)
    have lea : fle (if fless x a then x else a) a := by
      cases c : fless x a with
      | true =>
        rw [if_pos rfl]
        unfold fless at c
        have := of_decide_eq_true c
        unfold fle
        omega
      | false => rw [if_neg (by decide)]; exact Int.le_refl _
    have lex : fle (if fless x a then x else a) x := by
      cases c : fless x a with
      | true => rw [if_pos rfl]; exact Int.le_refl _
      | false => rw [if_neg (by decide)]; exact fle_of c
    rcases List.mem_cons.mp hu with q | q
    · rw [q]; exact fle_trans bp hp ha base lea
    · rcases List.mem_cons.mp q with q | q
      · rw [q]; exact fle_trans bp hp hx base lex
      · exact ih u (List.mem_cons_of_mem _ q)
/-- the value at a point, in cross products -/
theorem fv_cross {P : List (Option Int)} {x : Int × Int} (hx : 0 < x.2) : (fv P x).1 * x.2 = vm (tms 0 P) x.1 x.2 * (fv P x).2 ∧ 0 < (fv P x).2 := by
  obtain ⟨a, b⟩ := low_eq (a := vm (tms 0 P) x.1 x.2) hx
  have p := low_pos (a := vm (tms 0 P) x.1 x.2) hx
  have g := gcd_pos (a := vm (tms 0 P) x.1 x.2) hx
  unfold fv
  generalize low (vm (tms 0 P) x.1 x.2) x.2 = y at *
  generalize gcdI (vm (tms 0 P) x.1 x.2) x.2 = k at *
  refine ⟨?_, p⟩
  rw [← a, ← b]
  have : vm (tms 0 P) x.1 x.2 = y.1 * k := a.symm
  grind
theorem tv_le {P : List (Option Int)} (ok : POk P) {x t : Int × Int} (hx : 0 < x.2) (ht : t ∈ tms 0 P) : tv x.1 x.2 t * (fv P x).2 ≤ (fv P x).1 * x.2 := by
  obtain ⟨e, p⟩ := fv_cross (P := P) hx
  rw [e]
  exact Int.mul_le_mul_of_nonneg_right ((vm_spec (tms_ne ok)).2.2 t ht) (Int.le_of_lt p)
/-- values never fall -/
theorem fv_mono {P : List (Option Int)} (ok : POk P) {x y : Int × Int} (hx : 0 < x.2) (hy : 0 < y.2) (h : fle x y) : fle (fv P x) (fv P y) := by
  obtain ⟨e, p⟩ := fv_cross (P := P) hx
  obtain ⟨_, p2⟩ := fv_cross (P := P) hy
  obtain ⟨_, ⟨t, ht, et⟩, _⟩ := vm_spec (p := x.1) (q := x.2) (tms_ne ok)
  have l := tv_le ok hy ht
  have t0 := (ok.term ht).1
  unfold fle at *
  rw [← et] at e
  have s1 : tv x.1 x.2 t * y.2 ≤ tv y.1 y.2 t * x.2 := by
    unfold tv
    have := Int.mul_le_mul_of_nonneg_left h t0
    have e1 : (t.2 * x.2 + t.1 * x.1) * y.2 = t.2 * x.2 * y.2 + t.1 * (x.1 * y.2) := by grind
    have e2 : (t.2 * y.2 + t.1 * y.1) * x.2 = t.2 * x.2 * y.2 + t.1 * (y.1 * x.2) := by grind
    omega
  generalize fv P x = f at *
  generalize fv P y = s at *
  generalize tv x.1 x.2 t = A at *
  generalize tv y.1 y.2 t = B at *
  have k1 : f.1 * s.2 * (x.2 * y.2) = (A * y.2) * (f.2 * s.2) := by
    have : f.1 * s.2 * (x.2 * y.2) = (f.1 * x.2) * (s.2 * y.2) := by grind
    rw [this, e]; grind
  have k2 : (A * y.2) * (f.2 * s.2) ≤ (B * x.2) * (f.2 * s.2) := Int.mul_le_mul_of_nonneg_right s1 (Int.le_of_lt (Int.mul_pos p p2))
  have k3 : (B * s.2) * (f.2 * x.2) ≤ (s.1 * y.2) * (f.2 * x.2) := Int.mul_le_mul_of_nonneg_right l (Int.le_of_lt (Int.mul_pos p hx))
  have k4 : (B * x.2) * (f.2 * s.2) = (B * s.2) * (f.2 * x.2) := by grind
  have k5 : (s.1 * y.2) * (f.2 * x.2) = s.1 * f.2 * (x.2 * y.2) := by grind
  exact Int.le_of_mul_le_mul_right (a := x.2 * y.2) (by omega) (Int.mul_pos hx hy)
/-- middles lie below -/
theorem fv_mid {P : List (Option Int)} (ok : POk P) {a b : Int × Int} (ha : 0 < a.2) (hb : 0 < b.2) : fle (fv P (low (a.1 * b.2 + b.1 * a.2) (2 * a.2 * b.2))) (low ((fv P a).1 * (fv P b).2 + (fv P b).1 * (fv P a).2) (2 * (fv P a).2 * (fv P b).2)) := by
  have hab : 0 < 2 * a.2 * b.2 := Int.mul_pos (by omega) hb
  obtain ⟨q1, q2⟩ := low_eq (a := a.1 * b.2 + b.1 * a.2) hab
  have qp := low_pos (a := a.1 * b.2 + b.1 * a.2) hab
  have gp := gcd_pos (a := a.1 * b.2 + b.1 * a.2) hab
  generalize low (a.1 * b.2 + b.1 * a.2) (2 * a.2 * b.2) = m at *
  generalize gcdI (a.1 * b.2 + b.1 * a.2) (2 * a.2 * b.2) = g at *
  have cross : m.1 * (2 * a.2 * b.2) = (a.1 * b.2 + b.1 * a.2) * m.2 := by
    rw [← q1, ← q2]; grind
  obtain ⟨_, p1⟩ := fv_cross (P := P) ha
  obtain ⟨_, p2⟩ := fv_cross (P := P) hb
  have hfs : 0 < 2 * (fv P a).2 * (fv P b).2 := Int.mul_pos (by omega) p2
  obtain ⟨_, ⟨t, ht, et⟩, _⟩ := vm_spec (p := m.1) (q := m.2) (tms_ne ok)
  have l1 := tv_le ok ha ht
  have l2 := tv_le ok hb ht
  apply fle_of
  unfold fless
  apply decide_eq_false
  unfold fv at p1 p2 l1 l2 hfs ⊢
  rw [low_lt hfs qp]
  rw [← et]
  generalize low (vm (tms 0 P) a.1 a.2) a.2 = f at *
  generalize low (vm (tms 0 P) b.1 b.2) b.2 = s at *
  unfold tv at *
  have k1 : (t.2 * a.2 + t.1 * a.1) * f.2 * (2 * m.2 * (s.2 * b.2)) ≤ f.1 * a.2 * (2 * m.2 * (s.2 * b.2)) := Int.mul_le_mul_of_nonneg_right l1 (Int.le_of_lt (Int.mul_pos (by omega) (Int.mul_pos p2 hb)))
  have k2 : (t.2 * b.2 + t.1 * b.1) * s.2 * (2 * m.2 * (f.2 * a.2)) ≤ s.1 * b.2 * (2 * m.2 * (f.2 * a.2)) := Int.mul_le_mul_of_nonneg_right l2 (Int.le_of_lt (Int.mul_pos (by omega) (Int.mul_pos p1 ha)))
  have k3 : (t.2 * m.2 + t.1 * m.1) * (2 * f.2 * s.2) * (2 * a.2 * b.2) = (t.2 * a.2 + t.1 * a.1) * f.2 * (2 * m.2 * (s.2 * b.2)) + (t.2 * b.2 + t.1 * b.1) * s.2 * (2 * m.2 * (f.2 * a.2)) := by
    have : (t.2 * m.2 + t.1 * m.1) * (2 * f.2 * s.2) * (2 * a.2 * b.2) = t.2 * m.2 * (2 * f.2 * s.2) * (2 * a.2 * b.2) + t.1 * (2 * f.2 * s.2) * (m.1 * (2 * a.2 * b.2)) := by grind
    rw [this, cross]; grind
  have k4 : (f.1 * s.2 + s.1 * f.2) * m.2 * (2 * a.2 * b.2) = f.1 * a.2 * (2 * m.2 * (s.2 * b.2)) + s.1 * b.2 * (2 * m.2 * (f.2 * a.2)) := by grind
  intro z
  have := Int.mul_lt_mul_of_pos_right z hab
  omega
/-- where the poly begins to reach the number -/
theorem reach_at {P : List (Option Int)} (ok : POk P) {N : Int} (ha : alw P N = false) {z : Int × Int} (hz : z ∈ reachL P N) (hp : ∀ u ∈ reachL P N, 0 < u.2) (hm : ∀ u ∈ reachL P N, fle z u) : N * (fv P z).2 ≤ (fv P z).1 ∧ (fv P (low (z.1 * 7 - 1) (z.2 * 7))).1 < N * (fv P (low (z.1 * 7 - 1) (z.2 * 7))).2 := by
  have zp := hp z hz
  constructor
  · obtain ⟨t, ht, e⟩ := List.mem_map.mp hz
    obtain ⟨ht, hpos⟩ := List.mem_filter.mp ht
    have hpos := of_decide_eq_true hpos
    have l := tv_le ok zp ht
    obtain ⟨q1, q2⟩ := low_eq (a := N - t.2) hpos
    rw [e] at q1 q2
    have cross : z.1 * t.1 = (N - t.2) * z.2 := by rw [← q1]; grind
    have tvz : tv z.1 z.2 t = N * z.2 := by
      unfold tv
      have : t.1 * z.1 = (N - t.2) * z.2 := by rw [Int.mul_comm]; exact cross
      rw [this]; grind
    rw [tvz] at l
    have : (N * (fv P z).2) * z.2 ≤ (fv P z).1 * z.2 := by
      have e : N * z.2 * (fv P z).2 = (N * (fv P z).2) * z.2 := by grind
      omega
    exact Int.le_of_mul_le_mul_right this zp
  · have h7 : 0 < z.2 * 7 := by omega
    obtain ⟨q1, q2⟩ := low_eq (a := z.1 * 7 - 1) h7
    have yp := low_pos (a := z.1 * 7 - 1) h7
    have gp := gcd_pos (a := z.1 * 7 - 1) h7
    generalize low (z.1 * 7 - 1) (z.2 * 7) = y at *
    generalize gcdI (z.1 * 7 - 1) (z.2 * 7) = g at *
    have cross : y.1 * (z.2 * 7) = (z.1 * 7 - 1) * y.2 := by rw [← q1, ← q2]; grind
    obtain ⟨e, p⟩ := fv_cross (P := P) yp
    obtain ⟨_, ⟨t, ht, et⟩, _⟩ := vm_spec (p := y.1) (q := y.2) (tms_ne ok)
    rw [← et] at e
    have t0 := (ok.term ht).1
    have key : tv y.1 y.2 t < N * y.2 := by
      unfold tv
      rcases Int.lt_or_le 0 t.1 with c | c
      · have hu : low (N - t.2) t.1 ∈ reachL P N := List.mem_map.mpr ⟨t, List.mem_filter.mpr ⟨ht, decide_eq_true c⟩, rfl⟩
        have l := hm _ hu
        obtain ⟨w1, w2⟩ := low_eq (a := N - t.2) c
        have gp2 := gcd_pos (a := N - t.2) c
        unfold fle at l
        generalize low (N - t.2) t.1 = u at *
        generalize gcdI (N - t.2) t.1 = k at *
        have l2 : z.1 * t.1 ≤ (N - t.2) * z.2 := by
          have := Int.mul_le_mul_of_nonneg_right l (Int.le_of_lt gp2)
          have e1 : z.1 * u.2 * k = z.1 * t.1 := by rw [← w2]; grind
          have e2 : u.1 * z.2 * k = (N - t.2) * z.2 := by rw [← w1]; grind
          omega
        -- 7 z.2 times the difference
        have l3 : z.1 * t.1 * (7 * y.2) ≤ (N - t.2) * z.2 * (7 * y.2) := Int.mul_le_mul_of_nonneg_right l2 (by omega)
        have e3 : t.1 * y.1 * (z.2 * 7) = z.1 * t.1 * (7 * y.2) - t.1 * y.2 := by
          have : t.1 * y.1 * (z.2 * 7) = t.1 * (y.1 * (z.2 * 7)) := by grind
          rw [this, cross]; grind
        have e4 : (N - t.2) * y.2 * (z.2 * 7) = (N - t.2) * z.2 * (7 * y.2) := by grind
        have pos : 0 < t.1 * y.2 := Int.mul_pos c yp
        have l4 : t.1 * y.1 * (z.2 * 7) < (N - t.2) * y.2 * (z.2 * 7) := by omega
        have l5 : t.1 * y.1 < (N - t.2) * y.2 := Int.lt_of_mul_lt_mul_right l4 (Int.le_of_lt h7)
        have e5 : (N - t.2) * y.2 = N * y.2 - t.2 * y.2 := by grind
        omega
      · have t1 : t.1 = 0 := by omega
        have tl : t.2 < N := by
          cases P with
          | nil => cases ht
          | cons o r =>
            cases o with
            | none =>
              have := (tms_mem (P := r) (i := 0 + 1) ht).1
              omega
            | some e0 =>
              have ha' : decide (N ≤ e0) = false := ha
              have := of_decide_eq_false ha'
              rcases List.mem_cons.mp ht with q | q
              · rw [q]; show e0 < N; omega
              · have := (tms_mem q).1
                omega
        rw [t1, Int.zero_mul, Int.add_zero]
        exact Int.mul_lt_mul_of_pos_right tl yp
    have k : (fv P y).1 * y.2 < (N * (fv P y).2) * y.2 := by
      rw [e]
      have := Int.mul_lt_mul_of_pos_right key p
      have e6 : N * y.2 * (fv P y).2 = N * (fv P y).2 * y.2 := by grind
      omega
    exact Int.lt_of_mul_lt_mul_right k (Int.le_of_lt yp)
end Ev
end

section
set_option maxRecDepth 100000
set_option maxHeartbeats 1000000
/-! The jar, for simp. -/
namespace Ev
open PySem PySem.Spec PyProof.Rows L2
section
variable {α β : Type} {Φ : Fns} {σ : Sd} {J J1 : Jr} {M : List Nat} {fuel : Nat}
theorem x_jg0 {g : Int} {r : List Int} : evE Φ (.jget 0) σ (some (g :: r)) = .ok (.int g) (some (g :: r)) := by rw [evE]; rfl
theorem x_jg1 {g s : Int} {r : List Int} : evE Φ (.jget 1) σ (some (g :: s :: r)) = .ok (.int s) (some (g :: s :: r)) := by rw [evE]; rfl
theorem x_jset {k : Nat} {e : Ex} : evS Φ fuel M (.jset k e) σ J = Rs.bind (evE Φ e σ J) fun d => Mo.bind (Mo.opt (intD d)) fun n => jSet k n σ := by rw [evS]; rfl
theorem x_js0 {g n : Int} {r : List Int} : jSet 0 n σ (some (g :: r)) = .ok (.nx σ) (some (n :: r)) := by
  unfold jSet
  simp
theorem x_js1 {g s n : Int} {r : List Int} : jSet 1 n σ (some (g :: s :: r)) = .ok (.nx σ) (some (g :: n :: r)) := by
  unfold jSet
  simp
theorem run_rtJ {F : Fn} {ds : List PyData} {as : List (Option PyData)} {d : PyData} {ns : List Int} (hj : F.jar = true) (ha : argsD F ds = some as) (h : evSs Φ fuel F.M F.body (as ++ List.replicate (F.nN - F.np) none) (some ns) = .ok (.rt d) J1) : runFn Φ fuel F ds (some ns) = .ok d J1 := by
  unfold runFn
  simp [ha, hj, h]
theorem x_okn {e : Ex} {d : PyData} (h : noL d = true) : okR e d = true := by unfold okR; rw [h]; rfl
theorem x_okl {e : Ex} {ds : List PyData} (h : isFresh e = true) (h2 : noLs ds = true) : okR e (.list ds) = true := by
  have q : (isFresh e && noLs ds) = true := by rw [h, h2]; rfl
  show (noL (.list ds) || (isFresh e && noLs ds)) = true
  rw [q]; simp
theorem x_ownlc {a : Ex} {b : Tg} {c : Itr} {d : List Ex} {e : List Nat} {ds : List PyData} : ownOk 1 (.lc a b c d e) (.list ds) = true := x_own1l rfl
theorem x_ownlst {es : List Ex} {ds : List PyData} : ownOk 1 (.lst es) (.list ds) = true := x_own1l rfl
theorem x_oklc {a : Ex} {b : Tg} {c : Itr} {d : List Ex} {e : List Nat} {ds : List PyData} (h2 : noLs ds = true) : okR (.lc a b c d e) (.list ds) = true := x_okl rfl h2
theorem x_okI {e : Ex} {a : Int} : okR e (.int a) = true := rfl
theorem x_gD0 {a : Nat} {r : List Nat} {d : Nat} : (a :: r).getD 0 d = a := rfl
theorem rng_eq {j : Int} (h0 : 0 ≤ j) (h : j < 2 ^ 40) : rngD 0 j = some ((List.range j.toNat).map fun (k : Nat) => PyData.int k) := by
  unfold rngD
  rw [if_pos (by omega)]
  simp
end
theorem noLs_enc : ∀ P : List (Option Int), noLs (P.map encE) = true
  | [] => rfl
  | none :: P => by simp [encE, noLs, noL, noLs_enc P]
  | some a :: P => by simp [encE, noLs, noL, noLs_enc P]
/-- a comprehension that draws -/
theorem lc_jar {f : PyData → Mo (Option PyData)} {I : Jr → Prop} {α : Type} {R : α → Prop} {enc : α → PyData} : ∀ {ds : List PyData} {J : Jr}, I J → (∀ d ∈ ds, ∀ J, I J → ∃ a J', f d J = .ok (some (enc a)) J' ∧ R a ∧ I J') → ∃ (l : List α) (J' : Jr), lcLoop f ds J = .ok (l.map enc) J' ∧ l.length = ds.length ∧ (∀ a ∈ l, R a) ∧ I J'
  | [], J, hI, _ => ⟨[], J, rfl, rfl, fun _ h => (by cases h), hI⟩
  | d :: ds, J, hI, h => by
    obtain ⟨a, J1, e1, r1, i1⟩ := h d (List.mem_cons_self ..) J hI
    obtain ⟨l, J2, e2, n2, r2, i2⟩ := lc_jar i1 fun d hd => h d (List.mem_cons_of_mem _ hd)
    refine ⟨a :: l, J2, ?_, by rw [List.length_cons, List.length_cons, n2], ?_, i2⟩
    · rw [lcLoop, bind_ok' e1, bind_ok' e2]; rfl
    · intro b hb
      rcases List.mem_cons.mp hb with q | q
      · rw [q]; exact r1
      · exact r2 b q
theorem e_lcj {Φ : Fns} {σ : Sd} {J J1 : Jr} {I : Jr → Prop} {α : Type} {R : α → Prop} {enc : α → PyData} {elt : Ex} {t : Tg} {it : Itr} {ifs : List Ex} {own : List Nat} {ds : List PyData} (h1 : evIt Φ it σ J = .ok ds J1) (hI : I J1) (h2 : ∀ d ∈ ds, ∀ J, I J → ∃ a J', lcTurn t (evIf Φ ifs) (evE Φ elt) (wipeD σ own) d J = .ok (some (enc a)) J' ∧ R a ∧ I J') (h3 : ds.length ≤ 1000) :
    ∃ (l : List α) (J' : Jr), evE Φ (.lc elt t it ifs own) σ J = .ok (.list (l.map enc)) J' ∧ l.length = ds.length ∧ (∀ a ∈ l, R a) ∧ I J' := by
  obtain ⟨l, J2, e, n, r, i⟩ := lc_jar hI h2
  refine ⟨l, J2, ?_, n, r, i⟩
  have s : 1000 ≤ sizeLine := by decide +kernel
  rw [evE]
  unfold mLc
  rw [bind_ok' h1, bind_ok' (noX_eq e)]
  unfold fitD
  rw [if_pos (by rw [List.length_map, n]; omega)]
  rfl
/-- the jar: two numbers, the second one not too great -/
def JI (J : Jr) : Prop := ∃ g s, J = some [g, s] ∧ 0 ≤ s ∧ s < 2 ^ 62
end Ev
end

section
set_option maxRecDepth 100000
set_option maxHeartbeats 0
namespace Ev
namespace K52
open PySem PySem.Spec PyProof.Rows L2
def top (i : Nat) : Stmt := PySem.Challenge.pw_mostsums_k52_whole_polys_that_reach.main.body.getD i (.Pass ⟨0, 0, 0, 0⟩)
def mkD (i : Nat) (n : String) : He.DefD := ⟨(Str.ofString n, none), Str.ofString n, Str.ofString n, defArgs (top i), defBody (top i), defScope (top i), [], []⟩
def fn : List He.DefD := [mkD 40 "_law_bag", mkD 8 "is_int", mkD 9 "is_whole", mkD 10 "is_within", mkD 11 "is_entry", mkD 21 "is_poly_in", mkD 29 "require_poly", mkD 31 "require_number", mkD 12 "common_of", mkD 13 "lowest", mkD 23 "terms_in", mkD 14 "less", mkD 37 "reaches", mkD 22 "is_point_in", mkD 30 "require_point", mkD 24 "term_at", mkD 25 "value_in", mkD 38 "steps_at", mkD 43 "_law_lowest", mkD 41 "_law_draw", mkD 42 "_law_one_of", mkD 45 "_law_point", mkD 47 "_law_less", mkD 26 "is_over", mkD 27 "vertices_in", mkD 35 "vertices", mkD 44 "_law_poly", mkD 46 "_law_value", mkD 34 "value_at", mkD 48 "_law_reaches", mkD 28 "corners_in", mkD 36 "corners", mkD 33 "low_degree", mkD 32 "degree", mkD 49 "_law_right", mkD 50 "law"]
def fa : List He.Fa := [.glo (Str.ofString "_law_bag"), .glo (Str.ofString "is_int"), .glo (Str.ofString "is_whole"), .glo (Str.ofString "is_within"), .glo (Str.ofString "is_entry"), .glo (Str.ofString "is_poly_in"), .glo (Str.ofString "require_poly"), .glo (Str.ofString "require_number"), .glo (Str.ofString "common_of"), .glo (Str.ofString "lowest"), .glo (Str.ofString "terms_in"), .glo (Str.ofString "less"), .glo (Str.ofString "reaches"), .glo (Str.ofString "is_point_in"), .glo (Str.ofString "require_point"), .glo (Str.ofString "term_at"), .glo (Str.ofString "value_in"), .glo (Str.ofString "steps_at"), .glo (Str.ofString "_law_lowest"), .glo (Str.ofString "_law_draw"), .glo (Str.ofString "_law_one_of"), .glo (Str.ofString "_law_point"), .glo (Str.ofString "_law_less"), .glo (Str.ofString "is_over"), .glo (Str.ofString "vertices_in"), .glo (Str.ofString "vertices"), .glo (Str.ofString "_law_poly"), .glo (Str.ofString "_law_value"), .glo (Str.ofString "value_at"), .glo (Str.ofString "_law_reaches"), .glo (Str.ofString "corners_in"), .glo (Str.ofString "corners"), .glo (Str.ofString "low_degree"), .glo (Str.ofString "degree"), .glo (Str.ofString "_law_right"), .glo (Str.ofString "law"), .free (Str.ofString "len"), .free (Str.ofString "abs"), .free (Str.ofString "int"), .free (Str.ofString "list"), .free (Str.ofString "tuple"), .free (Str.ofString "sum"), .free (Str.ofString "max"), .free (Str.ofString "min"), .free (Str.ofString "sorted"), .free (Str.ofString "all"), .free (Str.ofString "any"), .free (Str.ofString "repr"), .free (Str.ofString "isinstance"), .free (Str.ofString "range"), .free (Str.ofString "enumerate"), .free (Str.ofString "zip"), .free (Str.ofString "bool"), .free (Str.ofString "str"), .str (Str.ofString "ALWAYS") (Str.ofString "always"), .str (Str.ofString "FROM") (Str.ofString "from"), .int (Str.ofString "GREAT") (1000000000000000000000000000000000000000000000000000000000000), .int (Str.ofString "MOST_ENTRY_corners") (999), .int (Str.ofString "MOST_ENTRY_sums") (999), .int (Str.ofString "MOST_TERMS") (12), .str (Str.ofString "NEVER") (Str.ofString "never")]
abbrev R : PySem.W.OpenRow := PySem.W.OpenLaw.row PySem.Challenge.rw_mostsums_k52_whole_polys_that_reach
abbrev hk : PySem.W.Hook := He.hookD 4 fa fn
def ob (s : PySem.W.SharedT) : He.AlD := He.obsDG 4 fa fn (HandSHeadRun.getT s)
theorem ob_eq (s : PySem.W.SharedT) : ob s = hk.obs s.abs := He.obsDG_eq (HandSHeadRun.getT_eq s)
def ls1 : List Str := [Str.ofString "__name__", Str.ofString "SumError", Str.ofString "InvalidReport", Str.ofString "InvalidOperation", Str.ofString "InvalidNumber", Str.ofString "MOST_ENTRY_sums", Str.ofString "GREAT", Str.ofString "is_int", Str.ofString "is_whole", Str.ofString "is_within", Str.ofString "is_entry", Str.ofString "common_of", Str.ofString "lowest", Str.ofString "less", Str.ofString "MOST_TERMS", Str.ofString "MOST_ENTRY_corners", Str.ofString "ALWAYS", Str.ofString "NEVER", Str.ofString "FROM", Str.ofString "is_poly_in", Str.ofString "is_point_in", Str.ofString "terms_in", Str.ofString "term_at", Str.ofString "value_in", Str.ofString "is_over", Str.ofString "vertices_in", Str.ofString "corners_in", Str.ofString "require_poly", Str.ofString "require_point", Str.ofString "require_number", Str.ofString "degree", Str.ofString "low_degree", Str.ofString "value_at", Str.ofString "vertices", Str.ofString "corners"]
def ls2 : List Str := [Str.ofString "reaches", Str.ofString "steps_at", Str.ofString "_law_bag", Str.ofString "_law_draw", Str.ofString "_law_one_of", Str.ofString "_law_lowest", Str.ofString "_law_poly", Str.ofString "_law_point", Str.ofString "_law_value", Str.ofString "_law_less", Str.ofString "_law_reaches", Str.ofString "_law_right"]
def ls3 : List Str := []
theorem run (w : World) : HandSHeadRun.RunEq R (PySem.W.view R.prog [50]) hk ob 6000 (ls1 ++ ls2 ++ ls3) w := by
  intro os
  kernel_rfl
/-- _law_bag -/
abbrev i__law_bag : Nat := 0
def b__law_bag : List Sm := [.asg 2 0 false (.ite (.cmp .lt (.var 1) (.bi .len [(.var 0)])) (.bi .int [(.idx (.var 0) (.var 1))]) (.bin .add (.bin .mul (.lit (.int (89))) (.var 1)) (.lit (.int (41))))), .asg 3 0 false (.bin .mod (.bi .max2 [(.lit (.int (0))), (.bin .sub (.bi .abs [(.var 2)]) (.bin .pow (.lit (.int (10))) (.lit (.int (18)))))]) (.bin .mul (.bin .pow (.lit (.int (10))) (.lit (.int (60)))) (.bin .pow (.lit (.int (10))) (.lit (.int (60)))))), .asg 4 0 false (.bin .add (.bin .add (.bin .add (.bin .mul (.bin .mod (.bi .int [(.bi .abs [(.var 2)])]) (.bin .add (.bin .pow (.lit (.int (10))) (.lit (.int (12)))) (.lit (.int (39))))) (.lit (.int (10007)))) (.bin .mul (.lit (.int (509))) (.var 1))) (.bin .mul (.lit (.int (17))) (.bi .int [(.cmp .lt (.var 2) (.lit (.int (0))))]))) (.lit (.int (1)))), .ret (.lst [(.var 3), (.bin .mod (.bi .int [(.var 4)]) (.bin .sub (.bin .pow (.lit (.int (2))) (.lit (.int (61)))) (.lit (.int (1)))))])]
def d__law_bag : FD := ⟨Str.ofString "_law_bag", ⟨2, 5, false, false, [0, 0, 0, 0, 0], b__law_bag⟩, [Str.ofString "script", Str.ofString "spot", Str.ofString "cell", Str.ofString "great", Str.ofString "blend"], [Str.ofString "script", Str.ofString "spot"], none, true⟩
/-- is_int -/
abbrev i_is_int : Nat := 1
def b_is_int : List Sm := [.ret (.and (.bi (.isi .int) [(.var 0)]) (.not (.bi (.isi .bool) [(.var 0)])))]
def d_is_int : FD := ⟨Str.ofString "is_int", ⟨1, 1, false, false, [0], b_is_int⟩, [Str.ofString "value"], [Str.ofString "value"], none, false⟩
/-- is_whole -/
abbrev i_is_whole : Nat := 2
def b_is_whole : List Sm := [.ret (.and (.call 1 [(.var 0)]) (.chain .lt .lt (.neg (.lit (.int (1000000000000000000000000000000000000000000000000000000000000)))) (.var 0) (.lit (.int (1000000000000000000000000000000000000000000000000000000000000)))))]
def d_is_whole : FD := ⟨Str.ofString "is_whole", ⟨1, 1, false, false, [0], b_is_whole⟩, [Str.ofString "value"], [Str.ofString "value"], none, false⟩
/-- is_within -/
abbrev i_is_within : Nat := 3
def b_is_within : List Sm := [.ret (.and (.call 2 [(.var 0)]) (.chain .le .le (.var 1) (.var 0) (.var 2)))]
def d_is_within : FD := ⟨Str.ofString "is_within", ⟨3, 3, false, false, [0, 0, 0], b_is_within⟩, [Str.ofString "value", Str.ofString "low", Str.ofString "high"], [Str.ofString "value", Str.ofString "low", Str.ofString "high"], none, false⟩
/-- is_entry -/
abbrev i_is_entry : Nat := 4
def b_is_entry : List Sm := [.ret (.or (.cmp .is_ (.var 0) (.lit .none)) (.call 3 [(.var 0), (.neg (.lit (.int (999)))), (.lit (.int (999)))]))]
def d_is_entry : FD := ⟨Str.ofString "is_entry", ⟨1, 1, false, false, [0], b_is_entry⟩, [Str.ofString "value"], [Str.ofString "value"], none, false⟩
/-- is_poly_in -/
abbrev i_is_poly_in : Nat := 5
def b_is_poly_in : List Sm := [.ite (.or (.not (.bi (.isi .tup) [(.var 0)])) (.not (.chain .le .le (.lit (.int (1))) (.bi .len [(.var 0)]) (.lit (.int (12)))))) [.ret (.lit (.bool false))] [], .ret (.and (.bi .all [(.lc (.call 4 [(.var 1)]) (.name 1) (.seq (.var 0)) [] [1])]) (.cmp .isn (.idx (.var 0) (.neg (.lit (.int (1))))) (.lit .none)))]
def d_is_poly_in : FD := ⟨Str.ofString "is_poly_in", ⟨1, 2, false, false, [0, 0], b_is_poly_in⟩, [Str.ofString "value", Str.ofString "entry"], [Str.ofString "value"], none, false⟩
/-- require_poly -/
abbrev i_require_poly : Nat := 6
def b_require_poly : List Sm := [.ite (.not (.bi .all [(.lc (.call 5 [(.var 1)]) (.name 1) (.seq (.var 0)) [] [1])])) [.raise_] []]
def d_require_poly : FD := ⟨Str.ofString "require_poly", ⟨1, 2, false, true, [0, 0], b_require_poly⟩, [Str.ofString "polys", Str.ofString "poly"], [Str.ofString "polys"], none, false⟩
/-- require_number -/
abbrev i_require_number : Nat := 7
def b_require_number : List Sm := [.ite (.not (.call 3 [(.var 0), (.neg (.lit (.int (999)))), (.lit (.int (999)))])) [.raise_] []]
def d_require_number : FD := ⟨Str.ofString "require_number", ⟨1, 1, false, false, [0], b_require_number⟩, [Str.ofString "number"], [Str.ofString "number"], none, false⟩
/-- common_of -/
abbrev i_common_of : Nat := 8
def b_common_of : List Sm := [.par [2, 3] false [(.bi .abs [(.var 0)]), (.bi .abs [(.var 1)])], .whl (.cmp .ne (.var 3) (.lit (.int (0)))) [.par [2, 3] false [(.var 3), (.bin .mod (.var 2) (.var 3))]], .ret (.var 2)]
def d_common_of : FD := ⟨Str.ofString "common_of", ⟨2, 4, false, false, [0, 0, 0, 0], b_common_of⟩, [Str.ofString "one", Str.ofString "other", Str.ofString "first", Str.ofString "second"], [Str.ofString "one", Str.ofString "other"], none, false⟩
/-- lowest -/
abbrev i_lowest : Nat := 9
def b_lowest : List Sm := [.asg 2 0 false (.call 8 [(.var 0), (.var 1)]), .asg 3 0 false (.ite (.cmp .gt (.var 1) (.lit (.int (0)))) (.lit (.int (1))) (.neg (.lit (.int (1))))), .ret (.tup [(.bin .fdiv (.bin .mul (.var 3) (.var 0)) (.var 2)), (.bin .fdiv (.bin .mul (.var 3) (.var 1)) (.var 2))])]
def d_lowest : FD := ⟨Str.ofString "lowest", ⟨2, 4, false, false, [0, 0, 0, 0], b_lowest⟩, [Str.ofString "above", Str.ofString "below", Str.ofString "great", Str.ofString "sign"], [Str.ofString "above", Str.ofString "below"], none, false⟩
/-- terms_in -/
abbrev i_terms_in : Nat := 10
def b_terms_in : List Sm := [.ret (.lc (.tup [(.var 1), (.var 2)]) (.tup [(.name 1), (.name 2)]) (.enum (.var 0)) [(.cmp .isn (.var 2) (.lit .none))] [1, 2])]
def d_terms_in : FD := ⟨Str.ofString "terms_in", ⟨1, 3, false, false, [0, 0, 0], b_terms_in⟩, [Str.ofString "poly", Str.ofString "at", Str.ofString "entry"], [Str.ofString "poly"], none, false⟩
/-- less -/
abbrev i_less : Nat := 11
def b_less : List Sm := [.ret (.cmp .lt (.bin .mul (.idx (.var 0) (.lit (.int (0)))) (.idx (.var 1) (.lit (.int (1))))) (.bin .mul (.idx (.var 1) (.lit (.int (0)))) (.idx (.var 0) (.lit (.int (1))))))]
def d_less : FD := ⟨Str.ofString "less", ⟨2, 2, false, false, [0, 0], b_less⟩, [Str.ofString "one", Str.ofString "other"], [Str.ofString "one", Str.ofString "other"], none, false⟩
/-- reaches -/
abbrev i_reaches : Nat := 12
def b_reaches : List Sm := [.ex (.call 6 [(.var 0)]), .ex (.call 7 [(.var 1)]), .ite (.and (.cmp .isn (.idx (.var 0) (.lit (.int (0)))) (.lit .none)) (.cmp .ge (.idx (.var 0) (.lit (.int (0)))) (.var 1))) [.ret (.tup [(.lit (.str (Str.ofString "always")))])] [], .asg 2 0 false (.lc (.call 9 [(.bin .sub (.var 1) (.var 6)), (.var 5)]) (.tup [(.name 5), (.name 6)]) (.seq (.call 10 [(.var 0)])) [(.cmp .gt (.var 5) (.lit (.int (0))))] [5, 6]), .ite (.cmp .eq (.var 2) (.lst [])) [.ret (.tup [(.lit (.str (Str.ofString "never")))])] [], .asg 3 0 false (.idx (.var 2) (.lit (.int (0)))), .forS false (.name 4) (.seq (.var 2)) [.asg 3 0 false (.ite (.call 11 [(.var 4), (.var 3)]) (.var 4) (.var 3))], .ret (.tup [(.lit (.str (Str.ofString "from"))), (.var 3)])]
def d_reaches : FD := ⟨Str.ofString "reaches", ⟨2, 7, false, false, [0, 0, 0, 0, 0, 0, 0], b_reaches⟩, [Str.ofString "poly", Str.ofString "number", Str.ofString "found", Str.ofString "least", Str.ofString "point", Str.ofString "at", Str.ofString "entry"], [Str.ofString "poly", Str.ofString "number"], none, false⟩
/-- is_point_in -/
abbrev i_is_point_in : Nat := 13
def b_is_point_in : List Sm := [.ite (.or (.not (.bi (.isi .tup) [(.var 0)])) (.or (.cmp .ne (.bi .len [(.var 0)]) (.lit (.int (2)))) (.not (.bi .all [(.lc (.call 2 [(.var 1)]) (.name 1) (.seq (.var 0)) [] [1])])))) [.ret (.lit (.bool false))] [], .ret (.and (.cmp .ge (.idx (.var 0) (.lit (.int (1)))) (.lit (.int (1)))) (.cmp .eq (.call 9 [(.idx (.var 0) (.lit (.int (0)))), (.idx (.var 0) (.lit (.int (1))))]) (.var 0)))]
def d_is_point_in : FD := ⟨Str.ofString "is_point_in", ⟨1, 2, false, false, [0, 0], b_is_point_in⟩, [Str.ofString "value", Str.ofString "one"], [Str.ofString "value"], none, false⟩
/-- require_point -/
abbrev i_require_point : Nat := 14
def b_require_point : List Sm := [.ite (.not (.call 13 [(.var 0)])) [.raise_] []]
def d_require_point : FD := ⟨Str.ofString "require_point", ⟨1, 1, false, false, [0], b_require_point⟩, [Str.ofString "point"], [Str.ofString "point"], none, false⟩
/-- term_at -/
abbrev i_term_at : Nat := 15
def b_term_at : List Sm := [.ret (.call 9 [(.bin .add (.bin .mul (.var 1) (.idx (.var 2) (.lit (.int (1))))) (.bin .mul (.var 0) (.idx (.var 2) (.lit (.int (0)))))), (.idx (.var 2) (.lit (.int (1))))])]
def d_term_at : FD := ⟨Str.ofString "term_at", ⟨3, 3, false, false, [0, 0, 0], b_term_at⟩, [Str.ofString "at", Str.ofString "entry", Str.ofString "point"], [Str.ofString "at", Str.ofString "entry", Str.ofString "point"], none, false⟩
/-- value_in -/
abbrev i_value_in : Nat := 16
def b_value_in : List Sm := [.asg 2 0 false (.lit .none), .forS false (.tup [(.name 3), (.name 4)]) (.seq (.call 10 [(.var 0)])) [.asg 5 0 false (.call 15 [(.var 3), (.var 4), (.var 1)]), .asg 2 0 false (.ite (.or (.cmp .is_ (.var 2) (.lit .none)) (.call 11 [(.var 2), (.var 5)])) (.var 5) (.var 2))], .ret (.var 2)]
def d_value_in : FD := ⟨Str.ofString "value_in", ⟨2, 6, false, false, [0, 0, 0, 0, 0, 0], b_value_in⟩, [Str.ofString "poly", Str.ofString "point", Str.ofString "found", Str.ofString "at", Str.ofString "entry", Str.ofString "here"], [Str.ofString "poly", Str.ofString "point"], none, false⟩
/-- steps_at -/
abbrev i_steps_at : Nat := 17
def b_steps_at : List Sm := [.ex (.call 6 [(.var 0)]), .ex (.call 14 [(.var 1)]), .asg 2 0 false (.lc (.var 3) (.tup [(.name 3), (.name 4)]) (.seq (.call 10 [(.var 0)])) [(.cmp .eq (.call 15 [(.var 3), (.var 4), (.var 1)]) (.call 16 [(.var 0), (.var 1)]))] [3, 4]), .ret (.tup [(.idx (.var 2) (.lit (.int (0)))), (.idx (.var 2) (.neg (.lit (.int (1)))))])]
def d_steps_at : FD := ⟨Str.ofString "steps_at", ⟨2, 5, false, false, [0, 0, 0, 0, 0], b_steps_at⟩, [Str.ofString "poly", Str.ofString "point", Str.ofString "found", Str.ofString "at", Str.ofString "entry"], [Str.ofString "poly", Str.ofString "point"], none, false⟩
/-- _law_lowest -/
abbrev i__law_lowest : Nat := 18
def b__law_lowest : List Sm := [.par [3, 4] false [(.bi .abs [(.var 0)]), (.bi .abs [(.var 1)])], .whl (.cmp .gt (.var 4) (.lit (.int (0)))) [.par [3, 4] false [(.var 4), (.bin .mod (.var 3) (.var 4))]], .asg 2 0 false (.ite (.cmp .gt (.var 1) (.lit (.int (0)))) (.lit (.int (1))) (.neg (.lit (.int (1))))), .ret (.tup [(.bin .fdiv (.bin .mul (.var 2) (.var 0)) (.var 3)), (.bin .fdiv (.bin .mul (.var 2) (.var 1)) (.var 3))])]
def d__law_lowest : FD := ⟨Str.ofString "_law_lowest", ⟨2, 5, false, false, [0, 0, 0, 0, 0], b__law_lowest⟩, [Str.ofString "above", Str.ofString "below", Str.ofString "sign", Str.ofString "one", Str.ofString "two"], [Str.ofString "above", Str.ofString "below"], none, false⟩
/-- _law_draw -/
abbrev i__law_draw : Nat := 19
def b__law_draw : List Sm := [.ite (.cmp .gt (.jget 0) (.lit (.int (0)))) [.asg 2 0 false (.bin .mod (.bi .int [(.jget 0)]) (.var 1)), .jset 0 (.bin .fdiv (.jget 0) (.var 1)), .ret (.var 2)] [], .jset 1 (.bin .mod (.bi .int [(.bin .add (.bin .mul (.jget 1) (.lit (.int (6364136223)))) (.lit (.int (1442695041))))]) (.bin .sub (.bin .pow (.lit (.int (2))) (.lit (.int (61)))) (.lit (.int (1))))), .ret (.bin .mod (.bi .int [(.bin .fdiv (.jget 1) (.lit (.int (65537))))]) (.var 1))]
def d__law_draw : FD := ⟨Str.ofString "_law_draw", ⟨2, 3, true, false, [0, 0, 0], b__law_draw⟩, [Str.ofString "bag", Str.ofString "many", Str.ofString "found"], [Str.ofString "bag", Str.ofString "many"], (some 0), false⟩
/-- _law_one_of -/
abbrev i__law_one_of : Nat := 20
def b__law_one_of : List Sm := [.ret (.idx (.var 1) (.callJ 19 [(.bi .len [(.var 1)])]))]
def d__law_one_of : FD := ⟨Str.ofString "_law_one_of", ⟨2, 2, true, false, [0, 0], b__law_one_of⟩, [Str.ofString "bag", Str.ofString "items"], [Str.ofString "bag", Str.ofString "items"], (some 0), false⟩
/-- _law_point -/
abbrev i__law_point : Nat := 21
def b__law_point : List Sm := [.ret (.call 18 [(.bin .sub (.callJ 19 [(.lit (.int (61)))]) (.lit (.int (30)))), (.bin .add (.lit (.int (1))) (.callJ 19 [(.callJ 20 [(.lst [(.lit (.int (1))), (.lit (.int (3))), (.lit (.int (7)))])])]))])]
def d__law_point : FD := ⟨Str.ofString "_law_point", ⟨1, 1, true, false, [0], b__law_point⟩, [Str.ofString "bag"], [Str.ofString "bag"], (some 0), false⟩
/-- _law_less -/
abbrev i__law_less : Nat := 22
def b__law_less : List Sm := [.ret (.cmp .lt (.bin .mul (.idx (.var 0) (.lit (.int (0)))) (.idx (.var 1) (.lit (.int (1))))) (.bin .mul (.idx (.var 1) (.lit (.int (0)))) (.idx (.var 0) (.lit (.int (1))))))]
def d__law_less : FD := ⟨Str.ofString "_law_less", ⟨2, 2, false, false, [0, 0], b__law_less⟩, [Str.ofString "one", Str.ofString "other"], [Str.ofString "one", Str.ofString "other"], none, false⟩
/-- is_over -/
abbrev i_is_over : Nat := 23
def b_is_over : List Sm := [.asgT (.tup [(.tup [(.name 3), (.name 4)]), (.tup [(.name 5), (.name 6)]), (.tup [(.name 7), (.name 8)])]) false (.tup [(.var 0), (.var 1), (.var 2)]), .ret (.cmp .gt (.bin .mul (.bin .sub (.var 6) (.var 4)) (.bin .sub (.var 7) (.var 3))) (.bin .mul (.bin .sub (.var 8) (.var 4)) (.bin .sub (.var 5) (.var 3))))]
def d_is_over : FD := ⟨Str.ofString "is_over", ⟨3, 9, false, false, [0, 0, 0, 0, 0, 0, 0, 0, 0], b_is_over⟩, [Str.ofString "first", Str.ofString "middle", Str.ofString "last", Str.ofString "low", Str.ofString "left", Str.ofString "here", Str.ofString "entry", Str.ofString "high", Str.ofString "right"], [Str.ofString "first", Str.ofString "middle", Str.ofString "last"], none, false⟩
/-- vertices_in -/
abbrev i_vertices_in : Nat := 24
def b_vertices_in : List Sm := [.asg 1 1 false (.lst []), .forS false (.name 2) (.seq (.call 10 [(.var 0)])) [.whl (.and (.cmp .gt (.bi .len [(.var 1)]) (.lit (.int (1)))) (.not (.call 23 [(.idx (.var 1) (.neg (.lit (.int (2))))), (.idx (.var 1) (.neg (.lit (.int (1))))), (.var 2)]))) [.popS 1], .app 1 false (.var 2)], .ret (.var 1)]
def d_vertices_in : FD := ⟨Str.ofString "vertices_in", ⟨1, 3, false, false, [0, 1, 0], b_vertices_in⟩, [Str.ofString "poly", Str.ofString "found", Str.ofString "term"], [Str.ofString "poly"], none, false⟩
/-- vertices -/
abbrev i_vertices : Nat := 25
def b_vertices : List Sm := [.ex (.call 6 [(.var 0)]), .ret (.bi .tuple [(.call 24 [(.var 0)])])]
def d_vertices : FD := ⟨Str.ofString "vertices", ⟨1, 1, false, false, [0], b_vertices⟩, [Str.ofString "poly"], [Str.ofString "poly"], none, false⟩
/-- _law_poly -/
abbrev i__law_poly : Nat := 26
def b__law_poly : List Sm := [.asgT (.tup [(.name 2), (.name 3), (.name 4)]) false (.tup [(.callJ 19 [(.lit (.int (5)))]), (.callJ 19 [(.lit (.int (12)))]), (.callJ 20 [(.lst [(.lit (.int (2))), (.lit (.int (4))), (.lit (.int (50)))])])]), .asg 1 1 false (.lc (.ite (.cmp .eq (.callJ 19 [(.var 4)]) (.lit (.int (0)))) (.lit .none) (.bin .sub (.callJ 19 [(.callJ 20 [(.lst [(.lit (.int (7))), (.lit (.int (41))), (.lit (.int (1999)))])])]) (.callJ 20 [(.lst [(.lit (.int (3))), (.lit (.int (20)))])]))) (.name 5) (.rng1 (.bin .add (.var 3) (.lit (.int (1))))) [] [5]), .ite (.cmp .eq (.var 2) (.lit (.int (1)))) [.asgT (.tup [(.name 6), (.name 7)]) false (.tup [(.bin .sub (.callJ 19 [(.lit (.int (13)))]) (.lit (.int (6)))), (.callJ 19 [(.lit (.int (3)))])]), .asg 1 1 true (.lc (.ite (.or (.cmp .lt (.var 5) (.var 7)) (.cmp .is_ (.var 9) (.lit .none))) (.lit .none) (.bin .add (.bin .mul (.var 6) (.var 5)) (.callJ 19 [(.lit (.int (2)))]))) (.tup [(.name 5), (.name 9)]) (.enum (.var 1)) [] [5, 9])] [], .ite (.cmp .eq (.var 2) (.lit (.int (2)))) [.par [1, 8] false [(.lst [(.callJ 19 [(.lit (.int (9)))])]), (.callJ 19 [(.lit (.int (9)))])], .forS false (.name 5) (.rng1 (.var 3)) [.asg 8 0 false (.bin .sub (.var 8) (.callJ 19 [(.lit (.int (4)))])), .app 1 true (.bin .add (.idx (.var 1) (.neg (.lit (.int (1))))) (.var 8))]] [], .setI 1 true (.neg (.lit (.int (1)))) (.ite (.cmp .is_ (.idx (.var 1) (.neg (.lit (.int (1))))) (.lit .none)) (.bin .sub (.callJ 19 [(.lit (.int (21)))]) (.lit (.int (10)))) (.idx (.var 1) (.neg (.lit (.int (1)))))), .ret (.bi .tuple [(.lc (.ite (.cmp .is_ (.var 9) (.lit .none)) (.lit .none) (.bi .max2 [(.neg (.lit (.int (999)))), (.bi .min2 [(.lit (.int (999))), (.var 9)])])) (.name 9) (.seq (.var 1)) [] [9])])]
def d__law_poly : FD := ⟨Str.ofString "_law_poly", ⟨1, 10, true, false, [0, 1, 0, 0, 0, 0, 0, 0, 0, 0], b__law_poly⟩, [Str.ofString "bag", Str.ofString "found", Str.ofString "kind", Str.ofString "top", Str.ofString "part", Str.ofString "at", Str.ofString "step", Str.ofString "low", Str.ofString "here", Str.ofString "one"], [Str.ofString "bag"], (some 0), false⟩
/-- _law_value -/
abbrev i__law_value : Nat := 27
def b__law_value : List Sm := [.asg 2 0 false (.lc (.tup [(.bin .add (.bin .mul (.var 4) (.idx (.var 1) (.lit (.int (1))))) (.bin .mul (.var 3) (.idx (.var 1) (.lit (.int (0)))))), (.var 3)]) (.tup [(.name 3), (.name 4)]) (.enum (.var 0)) [(.cmp .isn (.var 4) (.lit .none))] [3, 4]), .ret (.call 18 [(.idx (.bi .max [(.var 2)]) (.lit (.int (0)))), (.idx (.var 1) (.lit (.int (1))))])]
def d__law_value : FD := ⟨Str.ofString "_law_value", ⟨2, 5, false, false, [0, 0, 0, 0, 0], b__law_value⟩, [Str.ofString "poly", Str.ofString "point", Str.ofString "found", Str.ofString "at", Str.ofString "one"], [Str.ofString "poly", Str.ofString "point"], none, false⟩
/-- value_at -/
abbrev i_value_at : Nat := 28
def b_value_at : List Sm := [.ex (.call 6 [(.var 0)]), .ex (.call 14 [(.var 1)]), .ret (.call 16 [(.var 0), (.var 1)])]
def d_value_at : FD := ⟨Str.ofString "value_at", ⟨2, 2, false, false, [0, 0], b_value_at⟩, [Str.ofString "poly", Str.ofString "point"], [Str.ofString "poly", Str.ofString "point"], none, false⟩
/-- _law_reaches -/
abbrev i__law_reaches : Nat := 29
def b__law_reaches : List Sm := [.ite (.and (.cmp .isn (.idx (.var 0) (.lit (.int (0)))) (.lit .none)) (.cmp .ge (.idx (.var 0) (.lit (.int (0)))) (.var 1))) [.ret (.tup [(.lit (.str (Str.ofString "always")))])] [], .asg 2 0 false (.lc (.call 18 [(.bin .sub (.var 1) (.var 6)), (.var 5)]) (.tup [(.name 5), (.name 6)]) (.enum (.var 0)) [(.and (.cmp .isn (.var 6) (.lit .none)) (.cmp .gt (.var 5) (.lit (.int (0)))))] [5, 6]), .ite (.cmp .eq (.var 2) (.lst [])) [.ret (.tup [(.lit (.str (Str.ofString "never")))])] [], .asg 3 0 false (.idx (.var 2) (.lit (.int (0)))), .forS false (.name 4) (.seq (.var 2)) [.asg 3 0 false (.ite (.call 22 [(.var 4), (.var 3)]) (.var 4) (.var 3))], .ret (.tup [(.lit (.str (Str.ofString "from"))), (.var 3)])]
def d__law_reaches : FD := ⟨Str.ofString "_law_reaches", ⟨2, 7, false, false, [0, 0, 0, 0, 0, 0, 0], b__law_reaches⟩, [Str.ofString "poly", Str.ofString "number", Str.ofString "some", Str.ofString "best", Str.ofString "point", Str.ofString "at", Str.ofString "one"], [Str.ofString "poly", Str.ofString "number"], none, false⟩
/-- corners_in -/
abbrev i_corners_in : Nat := 30
def b_corners_in : List Sm := [.asg 1 0 false (.call 24 [(.var 0)]), .ret (.lc (.tup [(.call 9 [(.bin .sub (.var 3) (.var 5)), (.bin .sub (.var 4) (.var 2))]), (.bin .sub (.var 4) (.var 2))]) (.tup [(.tup [(.name 2), (.name 3)]), (.tup [(.name 4), (.name 5)])]) (.zip (.var 1) (.slc (.var 1) [(.lit (.int (1)))] [])) [] [2, 3, 4, 5])]
def d_corners_in : FD := ⟨Str.ofString "corners_in", ⟨1, 6, false, false, [0, 0, 0, 0, 0, 0], b_corners_in⟩, [Str.ofString "poly", Str.ofString "found", Str.ofString "low", Str.ofString "left", Str.ofString "high", Str.ofString "right"], [Str.ofString "poly"], none, false⟩
/-- corners -/
abbrev i_corners : Nat := 31
def b_corners : List Sm := [.ex (.call 6 [(.var 0)]), .ret (.bi .tuple [(.call 30 [(.var 0)])])]
def d_corners : FD := ⟨Str.ofString "corners", ⟨1, 1, false, false, [0], b_corners⟩, [Str.ofString "poly"], [Str.ofString "poly"], none, false⟩
/-- low_degree -/
abbrev i_low_degree : Nat := 32
def b_low_degree : List Sm := [.ex (.call 6 [(.var 0)]), .ret (.idx (.idx (.call 10 [(.var 0)]) (.lit (.int (0)))) (.lit (.int (0))))]
def d_low_degree : FD := ⟨Str.ofString "low_degree", ⟨1, 1, false, false, [0], b_low_degree⟩, [Str.ofString "poly"], [Str.ofString "poly"], none, false⟩
/-- degree -/
abbrev i_degree : Nat := 33
def b_degree : List Sm := [.ex (.call 6 [(.var 0)]), .ret (.bin .sub (.bi .len [(.var 0)]) (.lit (.int (1))))]
def d_degree : FD := ⟨Str.ofString "degree", ⟨1, 1, false, false, [0], b_degree⟩, [Str.ofString "poly"], [Str.ofString "poly"], none, false⟩
/-- _law_right -/
abbrev i__law_right : Nat := 34
def b__law_right : List Sm := [.asgT (.tup [(.name 7), (.name 1), (.name 8)]) false (.tup [(.callJ 26 []), (.bin .sub (.callJ 19 [(.callJ 20 [(.lst [(.lit (.int (21))), (.lit (.int (1999)))])])]) (.callJ 20 [(.lst [(.lit (.int (10))), (.lit (.int (999)))])])), (.callJ 21 [])]), .asg 1 0 false (.bi .max2 [(.neg (.lit (.int (999)))), (.bi .min2 [(.lit (.int (999))), (.var 1)])]), .asg 2 0 false (.call 12 [(.var 7), (.var 1)]), .ite (.cmp .ne (.bi .repr [(.var 2)]) (.bi .repr [(.call 29 [(.var 7), (.var 1)])])) [.ret (.lit (.bool false))] [], .ite (.cmp .eq (.idx (.var 2) (.lit (.int (0)))) (.lit (.str (Str.ofString "from")))) [.asg 9 0 false (.idx (.var 2) (.lit (.int (1)))), .ite (.and (.cmp .ne (.call 28 [(.var 7), (.var 9)]) (.tup [(.var 1), (.lit (.int (1)))])) (.not (.call 22 [(.tup [(.var 1), (.lit (.int (1)))]), (.call 28 [(.var 7), (.var 9)])]))) [.ret (.lit (.bool false))] [], .ite (.not (.call 22 [(.call 28 [(.var 7), (.call 18 [(.bin .sub (.bin .mul (.idx (.var 9) (.lit (.int (0)))) (.lit (.int (7)))) (.lit (.int (1)))), (.bin .mul (.idx (.var 9) (.lit (.int (1)))) (.lit (.int (7))))])]), (.tup [(.var 1), (.lit (.int (1)))])])) [.ret (.lit (.bool false))] []] [], .forS false (.name 3) (.seq (.bin .add (.lst [(.var 8)]) (.lc (.var 16) (.tup [(.name 16), (.name 17)]) (.seq (.call 31 [(.var 7)])) [] [16, 17]))) [.asg 10 0 false (.call 27 [(.var 7), (.var 3)]), .asg 11 0 false (.lc (.var 9) (.tup [(.name 9), (.name 18)]) (.enum (.var 7)) [(.and (.cmp .isn (.var 18) (.lit .none)) (.cmp .eq (.call 18 [(.bin .add (.bin .mul (.var 18) (.idx (.var 3) (.lit (.int (1))))) (.bin .mul (.var 9) (.idx (.var 3) (.lit (.int (0)))))), (.idx (.var 3) (.lit (.int (1))))]) (.var 10)))] [9, 18]), .ite (.cmp .ne (.bi .repr [(.call 17 [(.var 7), (.var 3)])]) (.bi .repr [(.tup [(.bi .min [(.var 11)]), (.bi .max [(.var 11)])])])) [.ret (.lit (.bool false))] []], .ite (.cmp .ne (.lc (.var 16) (.tup [(.name 16), (.name 17)]) (.seq (.call 31 [(.var 7)])) [(.cmp .ne (.bin .sub (.idx (.call 17 [(.var 7), (.var 16)]) (.lit (.int (1)))) (.idx (.call 17 [(.var 7), (.var 16)]) (.lit (.int (0))))) (.var 17))] [16, 17]) (.lst [])) [.ret (.lit (.bool false))] [], .asg 4 0 false (.callJ 21 []), .asgT (.tup [(.name 12), (.name 13)]) false (.ite (.call 22 [(.var 8), (.var 4)]) (.tup [(.var 8), (.var 4)]) (.tup [(.var 4), (.var 8)])), .par [14, 15] false [(.call 28 [(.var 7), (.var 12)]), (.call 28 [(.var 7), (.var 13)])], .ite (.call 22 [(.var 15), (.var 14)]) [.ret (.lit (.bool false))] [], .asg 5 0 false (.call 18 [(.bin .add (.bin .mul (.idx (.var 12) (.lit (.int (0)))) (.idx (.var 13) (.lit (.int (1))))) (.bin .mul (.idx (.var 13) (.lit (.int (0)))) (.idx (.var 12) (.lit (.int (1)))))), (.bin .mul (.bin .mul (.lit (.int (2))) (.idx (.var 12) (.lit (.int (1))))) (.idx (.var 13) (.lit (.int (1)))))]), .ite (.call 22 [(.call 18 [(.bin .add (.bin .mul (.idx (.var 14) (.lit (.int (0)))) (.idx (.var 15) (.lit (.int (1))))) (.bin .mul (.idx (.var 15) (.lit (.int (0)))) (.idx (.var 14) (.lit (.int (1)))))), (.bin .mul (.bin .mul (.lit (.int (2))) (.idx (.var 14) (.lit (.int (1))))) (.idx (.var 15) (.lit (.int (1)))))]), (.call 28 [(.var 7), (.var 5)])]) [.ret (.lit (.bool false))] [], .asg 6 0 false (.call 25 [(.var 7)]), .ret (.and (.cmp .eq (.lst [(.idx (.idx (.var 6) (.lit (.int (0)))) (.lit (.int (0)))), (.idx (.idx (.var 6) (.neg (.lit (.int (1))))) (.lit (.int (0))))]) (.lst [(.call 32 [(.var 7)]), (.call 33 [(.var 7)])])) (.cmp .isin (.idx (.call 12 [(.var 7), (.var 1)]) (.lit (.int (0)))) (.tup [(.lit (.str (Str.ofString "always"))), (.lit (.str (Str.ofString "never"))), (.lit (.str (Str.ofString "from")))])))]
def d__law_right : FD := ⟨Str.ofString "_law_right", ⟨1, 19, true, false, [0, 0, 0, 0, 0, 0, 0, 0, 0, 0, 0, 0, 0, 0, 0, 0, 0, 0, 0], b__law_right⟩, [Str.ofString "bag", Str.ofString "number", Str.ofString "told", Str.ofString "x", Str.ofString "other", Str.ofString "middle", Str.ofString "ends", Str.ofString "poly", Str.ofString "point", Str.ofString "at", Str.ofString "here", Str.ofString "some", Str.ofString "low", Str.ofString "high", Str.ofString "first", Str.ofString "second", Str.ofString "far", Str.ofString "many", Str.ofString "one"], [Str.ofString "bag"], (some 0), false⟩
/-- law -/
abbrev i_law : Nat := 35
def b_law : List Sm := [.forS false (.name 1) (.rng1 (.bi .max2 [(.lit (.int (1))), (.bi .min2 [(.lit (.int (2))), (.bi .len [(.var 0)])])])) [.jnew 4 0 [(.var 0), (.var 1)], .ite (.cmp .ne (.lc (.lit (.int (1))) (.name 5) (.rng1 (.lit (.int (6)))) [(.not (.callJ 34 []))] [5]) (.lst [])) [.ret (.lit (.bool false))] []], .asg 2 0 false (.tup [(.lit (.int (5))), (.lit (.int (1))), (.lit (.int (3))), (.lit .none), (.neg (.lit (.int (1))))]), .asg 3 0 false (.lst [(.call 12 [(.var 2), (.lit (.int (7)))]), (.call 12 [(.tup [(.lit (.int (3)))]), (.lit (.int (4)))]), (.call 12 [(.tup [(.lit (.int (5))), (.lit (.int (2)))]), (.lit (.int (3)))]), (.call 17 [(.var 2), (.tup [(.lit (.int (1))), (.lit (.int (1)))])]), (.call 12 [(.tup [(.lit .none), (.lit (.int (4)))]), (.neg (.lit (.int (999))))]), (.call 17 [(.tup [(.lit (.int (0))), (.lit (.int (0)))]), (.tup [(.lit (.int (0))), (.lit (.int (1)))])]), (.call 12 [(.tup [(.lit (.int (3)))]), (.lit (.int (3)))])]), .ret (.cmp .eq (.bi .repr [(.var 3)]) (.bi .repr [(.lst [(.tup [(.lit (.str (Str.ofString "from"))), (.tup [(.lit (.int (2))), (.lit (.int (1)))])]), (.tup [(.lit (.str (Str.ofString "never")))]), (.tup [(.lit (.str (Str.ofString "always")))]), (.tup [(.lit (.int (0))), (.lit (.int (2)))]), (.tup [(.lit (.str (Str.ofString "from"))), (.tup [(.neg (.lit (.int (1003)))), (.lit (.int (1)))])]), (.tup [(.lit (.int (0))), (.lit (.int (1)))]), (.tup [(.lit (.str (Str.ofString "always")))])])]))]
def d_law : FD := ⟨Str.ofString "law", ⟨1, 6, false, false, [0, 0, 0, 0, 0, 0], b_law⟩, [Str.ofString "script", Str.ofString "spot", Str.ofString "poly", Str.ofString "told", Str.ofString "bag", Str.ofString "turn"], [Str.ofString "script"], (some 4), false⟩
def ds : List FD := [d__law_bag, d_is_int, d_is_whole, d_is_within, d_is_entry, d_is_poly_in, d_require_poly, d_require_number, d_common_of, d_lowest, d_terms_in, d_less, d_reaches, d_is_point_in, d_require_point, d_term_at, d_value_in, d_steps_at, d__law_lowest, d__law_draw, d__law_one_of, d__law_point, d__law_less, d_is_over, d_vertices_in, d_vertices, d__law_poly, d__law_value, d_value_at, d__law_reaches, d_corners_in, d_corners, d_low_degree, d_degree, d__law_right, d_law]
def cs : List (Str × PyData) := [(Str.ofString "ALWAYS", (.str (Str.ofString "always"))), (Str.ofString "FROM", (.str (Str.ofString "from"))), (Str.ofString "GREAT", (.int (1000000000000000000000000000000000000000000000000000000000000))), (Str.ofString "MOST_ENTRY_corners", (.int (999))), (Str.ofString "MOST_ENTRY_sums", (.int (999))), (Str.ofString "MOST_TERMS", (.int (12))), (Str.ofString "NEVER", (.str (Str.ofString "never")))]
abbrev tb : Tb := tbOf ds cs
abbrev pr : List Fn := fnsOf ds
theorem ck0 : ckFn tb d__law_bag (defScope (top 40)) (defBody (top 40)) = true := by kernel_rfl
theorem ck1 : ckFn tb d_is_int (defScope (top 8)) (defBody (top 8)) = true := by kernel_rfl
theorem ck2 : ckFn tb d_is_whole (defScope (top 9)) (defBody (top 9)) = true := by kernel_rfl
theorem ck3 : ckFn tb d_is_within (defScope (top 10)) (defBody (top 10)) = true := by kernel_rfl
theorem ck4 : ckFn tb d_is_entry (defScope (top 11)) (defBody (top 11)) = true := by kernel_rfl
theorem ck5 : ckFn tb d_is_poly_in (defScope (top 21)) (defBody (top 21)) = true := by kernel_rfl
theorem ck6 : ckFn tb d_require_poly (defScope (top 29)) (defBody (top 29)) = true := by kernel_rfl
theorem ck7 : ckFn tb d_require_number (defScope (top 31)) (defBody (top 31)) = true := by kernel_rfl
theorem ck8 : ckFn tb d_common_of (defScope (top 12)) (defBody (top 12)) = true := by kernel_rfl
theorem ck9 : ckFn tb d_lowest (defScope (top 13)) (defBody (top 13)) = true := by kernel_rfl
theorem ck10 : ckFn tb d_terms_in (defScope (top 23)) (defBody (top 23)) = true := by kernel_rfl
theorem ck11 : ckFn tb d_less (defScope (top 14)) (defBody (top 14)) = true := by kernel_rfl
theorem ck12 : ckFn tb d_reaches (defScope (top 37)) (defBody (top 37)) = true := by kernel_rfl
theorem ck13 : ckFn tb d_is_point_in (defScope (top 22)) (defBody (top 22)) = true := by kernel_rfl
theorem ck14 : ckFn tb d_require_point (defScope (top 30)) (defBody (top 30)) = true := by kernel_rfl
theorem ck15 : ckFn tb d_term_at (defScope (top 24)) (defBody (top 24)) = true := by kernel_rfl
theorem ck16 : ckFn tb d_value_in (defScope (top 25)) (defBody (top 25)) = true := by kernel_rfl
theorem ck17 : ckFn tb d_steps_at (defScope (top 38)) (defBody (top 38)) = true := by kernel_rfl
theorem ck18 : ckFn tb d__law_lowest (defScope (top 43)) (defBody (top 43)) = true := by kernel_rfl
theorem ck19 : ckFn tb d__law_draw (defScope (top 41)) (defBody (top 41)) = true := by kernel_rfl
theorem ck20 : ckFn tb d__law_one_of (defScope (top 42)) (defBody (top 42)) = true := by kernel_rfl
theorem ck21 : ckFn tb d__law_point (defScope (top 45)) (defBody (top 45)) = true := by kernel_rfl
theorem ck22 : ckFn tb d__law_less (defScope (top 47)) (defBody (top 47)) = true := by kernel_rfl
theorem ck23 : ckFn tb d_is_over (defScope (top 26)) (defBody (top 26)) = true := by kernel_rfl
theorem ck24 : ckFn tb d_vertices_in (defScope (top 27)) (defBody (top 27)) = true := by kernel_rfl
theorem ck25 : ckFn tb d_vertices (defScope (top 35)) (defBody (top 35)) = true := by kernel_rfl
theorem ck26 : ckFn tb d__law_poly (defScope (top 44)) (defBody (top 44)) = true := by kernel_rfl
theorem ck27 : ckFn tb d__law_value (defScope (top 46)) (defBody (top 46)) = true := by kernel_rfl
theorem ck28 : ckFn tb d_value_at (defScope (top 34)) (defBody (top 34)) = true := by kernel_rfl
theorem ck29 : ckFn tb d__law_reaches (defScope (top 48)) (defBody (top 48)) = true := by kernel_rfl
theorem ck30 : ckFn tb d_corners_in (defScope (top 28)) (defBody (top 28)) = true := by kernel_rfl
theorem ck31 : ckFn tb d_corners (defScope (top 36)) (defBody (top 36)) = true := by kernel_rfl
theorem ck32 : ckFn tb d_low_degree (defScope (top 33)) (defBody (top 33)) = true := by kernel_rfl
theorem ck33 : ckFn tb d_degree (defScope (top 32)) (defBody (top 32)) = true := by kernel_rfl
theorem ck34 : ckFn tb d__law_right (defScope (top 49)) (defBody (top 49)) = true := by kernel_rfl
theorem ck35 : ckFn tb d_law (defScope (top 50)) (defBody (top 50)) = true := by kernel_rfl
section
variable {K : PySem.W.Frag} {h : Heap} {mg : Str → Option Value}
theorem ok0 (X : K.In h) (G : h.Ns mainGlobals mg) (c : He.SaysD fa fn K) : DOk tb K mg d__law_bag := by
  obtain ⟨fd, F⟩ := c.def_ 0 (d := mkD 40 "_law_bag") rfl
  exact ⟨_, _, _, _, fd, He.glo_ok X G (c.fact 0 rfl), F, ckFn_ok ck0, .inl ⟨rfl, F.bindsN fun _ _ _ _ _ _ us hl => match us, hl with | [_, _], _ => rfl⟩⟩
theorem ok1 (X : K.In h) (G : h.Ns mainGlobals mg) (c : He.SaysD fa fn K) : DOk tb K mg d_is_int := by
  obtain ⟨fd, F⟩ := c.def_ 1 (d := mkD 8 "is_int") rfl
  exact ⟨_, _, _, _, fd, He.glo_ok X G (c.fact 1 rfl), F, ckFn_ok ck1, .inl ⟨rfl, F.bindsN fun _ _ _ _ _ _ us hl => match us, hl with | [_], _ => rfl⟩⟩
theorem ok2 (X : K.In h) (G : h.Ns mainGlobals mg) (c : He.SaysD fa fn K) : DOk tb K mg d_is_whole := by
  obtain ⟨fd, F⟩ := c.def_ 2 (d := mkD 9 "is_whole") rfl
  exact ⟨_, _, _, _, fd, He.glo_ok X G (c.fact 2 rfl), F, ckFn_ok ck2, .inl ⟨rfl, F.bindsN fun _ _ _ _ _ _ us hl => match us, hl with | [_], _ => rfl⟩⟩
theorem ok3 (X : K.In h) (G : h.Ns mainGlobals mg) (c : He.SaysD fa fn K) : DOk tb K mg d_is_within := by
  obtain ⟨fd, F⟩ := c.def_ 3 (d := mkD 10 "is_within") rfl
  exact ⟨_, _, _, _, fd, He.glo_ok X G (c.fact 3 rfl), F, ckFn_ok ck3, .inl ⟨rfl, F.bindsN fun _ _ _ _ _ _ us hl => match us, hl with | [_, _, _], _ => rfl⟩⟩
theorem ok4 (X : K.In h) (G : h.Ns mainGlobals mg) (c : He.SaysD fa fn K) : DOk tb K mg d_is_entry := by
  obtain ⟨fd, F⟩ := c.def_ 4 (d := mkD 11 "is_entry") rfl
  exact ⟨_, _, _, _, fd, He.glo_ok X G (c.fact 4 rfl), F, ckFn_ok ck4, .inl ⟨rfl, F.bindsN fun _ _ _ _ _ _ us hl => match us, hl with | [_], _ => rfl⟩⟩
theorem ok5 (X : K.In h) (G : h.Ns mainGlobals mg) (c : He.SaysD fa fn K) : DOk tb K mg d_is_poly_in := by
  obtain ⟨fd, F⟩ := c.def_ 5 (d := mkD 21 "is_poly_in") rfl
  exact ⟨_, _, _, _, fd, He.glo_ok X G (c.fact 5 rfl), F, ckFn_ok ck5, .inl ⟨rfl, F.bindsN fun _ _ _ _ _ _ us hl => match us, hl with | [_], _ => rfl⟩⟩
theorem ok6 (X : K.In h) (G : h.Ns mainGlobals mg) (c : He.SaysD fa fn K) : DOk tb K mg d_require_poly := by
  obtain ⟨fd, F⟩ := c.def_ 6 (d := mkD 29 "require_poly") rfl
  obtain ⟨oc, od, dV, kV, doc, pm, an, cdv, ct, osl, e, lk, hcd, hD, hK⟩ := id F.ex
  have hdv : dV = .none := by rcases hD with ⟨_, z⟩ | ⟨z, _⟩; exact z; exact absurd rfl z
  subst hdv
  subst e
  refine ⟨_, _, _, _, _, He.glo_ok X G (c.fact 6 rfl), F, ckFn_ok ck6, .inr ⟨rfl, [], Str.ofString "polys", rfl, fun us rest hl => ?_⟩⟩
  match us, rest, hl with
  | [], [], _ => rfl
  | [], _ :: _, _ => rfl
theorem ok7 (X : K.In h) (G : h.Ns mainGlobals mg) (c : He.SaysD fa fn K) : DOk tb K mg d_require_number := by
  obtain ⟨fd, F⟩ := c.def_ 7 (d := mkD 31 "require_number") rfl
  exact ⟨_, _, _, _, fd, He.glo_ok X G (c.fact 7 rfl), F, ckFn_ok ck7, .inl ⟨rfl, F.bindsN fun _ _ _ _ _ _ us hl => match us, hl with | [_], _ => rfl⟩⟩
theorem ok8 (X : K.In h) (G : h.Ns mainGlobals mg) (c : He.SaysD fa fn K) : DOk tb K mg d_common_of := by
  obtain ⟨fd, F⟩ := c.def_ 8 (d := mkD 12 "common_of") rfl
  exact ⟨_, _, _, _, fd, He.glo_ok X G (c.fact 8 rfl), F, ckFn_ok ck8, .inl ⟨rfl, F.bindsN fun _ _ _ _ _ _ us hl => match us, hl with | [_, _], _ => rfl⟩⟩
theorem ok9 (X : K.In h) (G : h.Ns mainGlobals mg) (c : He.SaysD fa fn K) : DOk tb K mg d_lowest := by
  obtain ⟨fd, F⟩ := c.def_ 9 (d := mkD 13 "lowest") rfl
  exact ⟨_, _, _, _, fd, He.glo_ok X G (c.fact 9 rfl), F, ckFn_ok ck9, .inl ⟨rfl, F.bindsN fun _ _ _ _ _ _ us hl => match us, hl with | [_, _], _ => rfl⟩⟩
theorem ok10 (X : K.In h) (G : h.Ns mainGlobals mg) (c : He.SaysD fa fn K) : DOk tb K mg d_terms_in := by
  obtain ⟨fd, F⟩ := c.def_ 10 (d := mkD 23 "terms_in") rfl
  exact ⟨_, _, _, _, fd, He.glo_ok X G (c.fact 10 rfl), F, ckFn_ok ck10, .inl ⟨rfl, F.bindsN fun _ _ _ _ _ _ us hl => match us, hl with | [_], _ => rfl⟩⟩
theorem ok11 (X : K.In h) (G : h.Ns mainGlobals mg) (c : He.SaysD fa fn K) : DOk tb K mg d_less := by
  obtain ⟨fd, F⟩ := c.def_ 11 (d := mkD 14 "less") rfl
  exact ⟨_, _, _, _, fd, He.glo_ok X G (c.fact 11 rfl), F, ckFn_ok ck11, .inl ⟨rfl, F.bindsN fun _ _ _ _ _ _ us hl => match us, hl with | [_, _], _ => rfl⟩⟩
theorem ok12 (X : K.In h) (G : h.Ns mainGlobals mg) (c : He.SaysD fa fn K) : DOk tb K mg d_reaches := by
  obtain ⟨fd, F⟩ := c.def_ 12 (d := mkD 37 "reaches") rfl
  exact ⟨_, _, _, _, fd, He.glo_ok X G (c.fact 12 rfl), F, ckFn_ok ck12, .inl ⟨rfl, F.bindsN fun _ _ _ _ _ _ us hl => match us, hl with | [_, _], _ => rfl⟩⟩
theorem ok13 (X : K.In h) (G : h.Ns mainGlobals mg) (c : He.SaysD fa fn K) : DOk tb K mg d_is_point_in := by
  obtain ⟨fd, F⟩ := c.def_ 13 (d := mkD 22 "is_point_in") rfl
  exact ⟨_, _, _, _, fd, He.glo_ok X G (c.fact 13 rfl), F, ckFn_ok ck13, .inl ⟨rfl, F.bindsN fun _ _ _ _ _ _ us hl => match us, hl with | [_], _ => rfl⟩⟩
theorem ok14 (X : K.In h) (G : h.Ns mainGlobals mg) (c : He.SaysD fa fn K) : DOk tb K mg d_require_point := by
  obtain ⟨fd, F⟩ := c.def_ 14 (d := mkD 30 "require_point") rfl
  exact ⟨_, _, _, _, fd, He.glo_ok X G (c.fact 14 rfl), F, ckFn_ok ck14, .inl ⟨rfl, F.bindsN fun _ _ _ _ _ _ us hl => match us, hl with | [_], _ => rfl⟩⟩
theorem ok15 (X : K.In h) (G : h.Ns mainGlobals mg) (c : He.SaysD fa fn K) : DOk tb K mg d_term_at := by
  obtain ⟨fd, F⟩ := c.def_ 15 (d := mkD 24 "term_at") rfl
  exact ⟨_, _, _, _, fd, He.glo_ok X G (c.fact 15 rfl), F, ckFn_ok ck15, .inl ⟨rfl, F.bindsN fun _ _ _ _ _ _ us hl => match us, hl with | [_, _, _], _ => rfl⟩⟩
theorem ok16 (X : K.In h) (G : h.Ns mainGlobals mg) (c : He.SaysD fa fn K) : DOk tb K mg d_value_in := by
  obtain ⟨fd, F⟩ := c.def_ 16 (d := mkD 25 "value_in") rfl
  exact ⟨_, _, _, _, fd, He.glo_ok X G (c.fact 16 rfl), F, ckFn_ok ck16, .inl ⟨rfl, F.bindsN fun _ _ _ _ _ _ us hl => match us, hl with | [_, _], _ => rfl⟩⟩
theorem ok17 (X : K.In h) (G : h.Ns mainGlobals mg) (c : He.SaysD fa fn K) : DOk tb K mg d_steps_at := by
  obtain ⟨fd, F⟩ := c.def_ 17 (d := mkD 38 "steps_at") rfl
  exact ⟨_, _, _, _, fd, He.glo_ok X G (c.fact 17 rfl), F, ckFn_ok ck17, .inl ⟨rfl, F.bindsN fun _ _ _ _ _ _ us hl => match us, hl with | [_, _], _ => rfl⟩⟩
theorem ok18 (X : K.In h) (G : h.Ns mainGlobals mg) (c : He.SaysD fa fn K) : DOk tb K mg d__law_lowest := by
  obtain ⟨fd, F⟩ := c.def_ 18 (d := mkD 43 "_law_lowest") rfl
  exact ⟨_, _, _, _, fd, He.glo_ok X G (c.fact 18 rfl), F, ckFn_ok ck18, .inl ⟨rfl, F.bindsN fun _ _ _ _ _ _ us hl => match us, hl with | [_, _], _ => rfl⟩⟩
theorem ok19 (X : K.In h) (G : h.Ns mainGlobals mg) (c : He.SaysD fa fn K) : DOk tb K mg d__law_draw := by
  obtain ⟨fd, F⟩ := c.def_ 19 (d := mkD 41 "_law_draw") rfl
  exact ⟨_, _, _, _, fd, He.glo_ok X G (c.fact 19 rfl), F, ckFn_ok ck19, .inl ⟨rfl, F.bindsN fun _ _ _ _ _ _ us hl => match us, hl with | [_, _], _ => rfl⟩⟩
theorem ok20 (X : K.In h) (G : h.Ns mainGlobals mg) (c : He.SaysD fa fn K) : DOk tb K mg d__law_one_of := by
  obtain ⟨fd, F⟩ := c.def_ 20 (d := mkD 42 "_law_one_of") rfl
  exact ⟨_, _, _, _, fd, He.glo_ok X G (c.fact 20 rfl), F, ckFn_ok ck20, .inl ⟨rfl, F.bindsN fun _ _ _ _ _ _ us hl => match us, hl with | [_, _], _ => rfl⟩⟩
theorem ok21 (X : K.In h) (G : h.Ns mainGlobals mg) (c : He.SaysD fa fn K) : DOk tb K mg d__law_point := by
  obtain ⟨fd, F⟩ := c.def_ 21 (d := mkD 45 "_law_point") rfl
  exact ⟨_, _, _, _, fd, He.glo_ok X G (c.fact 21 rfl), F, ckFn_ok ck21, .inl ⟨rfl, F.bindsN fun _ _ _ _ _ _ us hl => match us, hl with | [_], _ => rfl⟩⟩
theorem ok22 (X : K.In h) (G : h.Ns mainGlobals mg) (c : He.SaysD fa fn K) : DOk tb K mg d__law_less := by
  obtain ⟨fd, F⟩ := c.def_ 22 (d := mkD 47 "_law_less") rfl
  exact ⟨_, _, _, _, fd, He.glo_ok X G (c.fact 22 rfl), F, ckFn_ok ck22, .inl ⟨rfl, F.bindsN fun _ _ _ _ _ _ us hl => match us, hl with | [_, _], _ => rfl⟩⟩
theorem ok23 (X : K.In h) (G : h.Ns mainGlobals mg) (c : He.SaysD fa fn K) : DOk tb K mg d_is_over := by
  obtain ⟨fd, F⟩ := c.def_ 23 (d := mkD 26 "is_over") rfl
  exact ⟨_, _, _, _, fd, He.glo_ok X G (c.fact 23 rfl), F, ckFn_ok ck23, .inl ⟨rfl, F.bindsN fun _ _ _ _ _ _ us hl => match us, hl with | [_, _, _], _ => rfl⟩⟩
theorem ok24 (X : K.In h) (G : h.Ns mainGlobals mg) (c : He.SaysD fa fn K) : DOk tb K mg d_vertices_in := by
  obtain ⟨fd, F⟩ := c.def_ 24 (d := mkD 27 "vertices_in") rfl
  exact ⟨_, _, _, _, fd, He.glo_ok X G (c.fact 24 rfl), F, ckFn_ok ck24, .inl ⟨rfl, F.bindsN fun _ _ _ _ _ _ us hl => match us, hl with | [_], _ => rfl⟩⟩
theorem ok25 (X : K.In h) (G : h.Ns mainGlobals mg) (c : He.SaysD fa fn K) : DOk tb K mg d_vertices := by
  obtain ⟨fd, F⟩ := c.def_ 25 (d := mkD 35 "vertices") rfl
  exact ⟨_, _, _, _, fd, He.glo_ok X G (c.fact 25 rfl), F, ckFn_ok ck25, .inl ⟨rfl, F.bindsN fun _ _ _ _ _ _ us hl => match us, hl with | [_], _ => rfl⟩⟩
theorem ok26 (X : K.In h) (G : h.Ns mainGlobals mg) (c : He.SaysD fa fn K) : DOk tb K mg d__law_poly := by
  obtain ⟨fd, F⟩ := c.def_ 26 (d := mkD 44 "_law_poly") rfl
  exact ⟨_, _, _, _, fd, He.glo_ok X G (c.fact 26 rfl), F, ckFn_ok ck26, .inl ⟨rfl, F.bindsN fun _ _ _ _ _ _ us hl => match us, hl with | [_], _ => rfl⟩⟩
theorem ok27 (X : K.In h) (G : h.Ns mainGlobals mg) (c : He.SaysD fa fn K) : DOk tb K mg d__law_value := by
  obtain ⟨fd, F⟩ := c.def_ 27 (d := mkD 46 "_law_value") rfl
  exact ⟨_, _, _, _, fd, He.glo_ok X G (c.fact 27 rfl), F, ckFn_ok ck27, .inl ⟨rfl, F.bindsN fun _ _ _ _ _ _ us hl => match us, hl with | [_, _], _ => rfl⟩⟩
theorem ok28 (X : K.In h) (G : h.Ns mainGlobals mg) (c : He.SaysD fa fn K) : DOk tb K mg d_value_at := by
  obtain ⟨fd, F⟩ := c.def_ 28 (d := mkD 34 "value_at") rfl
  exact ⟨_, _, _, _, fd, He.glo_ok X G (c.fact 28 rfl), F, ckFn_ok ck28, .inl ⟨rfl, F.bindsN fun _ _ _ _ _ _ us hl => match us, hl with | [_, _], _ => rfl⟩⟩
theorem ok29 (X : K.In h) (G : h.Ns mainGlobals mg) (c : He.SaysD fa fn K) : DOk tb K mg d__law_reaches := by
  obtain ⟨fd, F⟩ := c.def_ 29 (d := mkD 48 "_law_reaches") rfl
  exact ⟨_, _, _, _, fd, He.glo_ok X G (c.fact 29 rfl), F, ckFn_ok ck29, .inl ⟨rfl, F.bindsN fun _ _ _ _ _ _ us hl => match us, hl with | [_, _], _ => rfl⟩⟩
theorem ok30 (X : K.In h) (G : h.Ns mainGlobals mg) (c : He.SaysD fa fn K) : DOk tb K mg d_corners_in := by
  obtain ⟨fd, F⟩ := c.def_ 30 (d := mkD 28 "corners_in") rfl
  exact ⟨_, _, _, _, fd, He.glo_ok X G (c.fact 30 rfl), F, ckFn_ok ck30, .inl ⟨rfl, F.bindsN fun _ _ _ _ _ _ us hl => match us, hl with | [_], _ => rfl⟩⟩
theorem ok31 (X : K.In h) (G : h.Ns mainGlobals mg) (c : He.SaysD fa fn K) : DOk tb K mg d_corners := by
  obtain ⟨fd, F⟩ := c.def_ 31 (d := mkD 36 "corners") rfl
  exact ⟨_, _, _, _, fd, He.glo_ok X G (c.fact 31 rfl), F, ckFn_ok ck31, .inl ⟨rfl, F.bindsN fun _ _ _ _ _ _ us hl => match us, hl with | [_], _ => rfl⟩⟩
theorem ok32 (X : K.In h) (G : h.Ns mainGlobals mg) (c : He.SaysD fa fn K) : DOk tb K mg d_low_degree := by
  obtain ⟨fd, F⟩ := c.def_ 32 (d := mkD 33 "low_degree") rfl
  exact ⟨_, _, _, _, fd, He.glo_ok X G (c.fact 32 rfl), F, ckFn_ok ck32, .inl ⟨rfl, F.bindsN fun _ _ _ _ _ _ us hl => match us, hl with | [_], _ => rfl⟩⟩
theorem ok33 (X : K.In h) (G : h.Ns mainGlobals mg) (c : He.SaysD fa fn K) : DOk tb K mg d_degree := by
  obtain ⟨fd, F⟩ := c.def_ 33 (d := mkD 32 "degree") rfl
  exact ⟨_, _, _, _, fd, He.glo_ok X G (c.fact 33 rfl), F, ckFn_ok ck33, .inl ⟨rfl, F.bindsN fun _ _ _ _ _ _ us hl => match us, hl with | [_], _ => rfl⟩⟩
theorem ok34 (X : K.In h) (G : h.Ns mainGlobals mg) (c : He.SaysD fa fn K) : DOk tb K mg d__law_right := by
  obtain ⟨fd, F⟩ := c.def_ 34 (d := mkD 49 "_law_right") rfl
  exact ⟨_, _, _, _, fd, He.glo_ok X G (c.fact 34 rfl), F, ckFn_ok ck34, .inl ⟨rfl, F.bindsN fun _ _ _ _ _ _ us hl => match us, hl with | [_], _ => rfl⟩⟩
theorem ok35 (X : K.In h) (G : h.Ns mainGlobals mg) (c : He.SaysD fa fn K) : DOk tb K mg d_law := by
  obtain ⟨fd, F⟩ := c.def_ 35 (d := mkD 50 "law") rfl
  exact ⟨_, _, _, _, fd, He.glo_ok X G (c.fact 35 rfl), F, ckFn_ok ck35, .inl ⟨rfl, F.bindsN fun _ _ _ _ _ _ us hl => match us, hl with | [_], _ => rfl⟩⟩
theorem all_ok (X : K.In h) (G : h.Ns mainGlobals mg) (c : He.SaysD fa fn K) : ∀ d ∈ ds, DOk tb K mg d :=
  List.forall_mem_cons.mpr ⟨ok0 X G c, List.forall_mem_cons.mpr ⟨ok1 X G c, List.forall_mem_cons.mpr ⟨ok2 X G c, List.forall_mem_cons.mpr ⟨ok3 X G c, List.forall_mem_cons.mpr ⟨ok4 X G c, List.forall_mem_cons.mpr ⟨ok5 X G c, List.forall_mem_cons.mpr ⟨ok6 X G c, List.forall_mem_cons.mpr ⟨ok7 X G c, List.forall_mem_cons.mpr ⟨ok8 X G c, List.forall_mem_cons.mpr ⟨ok9 X G c, List.forall_mem_cons.mpr ⟨ok10 X G c, List.forall_mem_cons.mpr ⟨ok11 X G c, List.forall_mem_cons.mpr ⟨ok12 X G c, List.forall_mem_cons.mpr ⟨ok13 X G c, List.forall_mem_cons.mpr ⟨ok14 X G c, List.forall_mem_cons.mpr ⟨ok15 X G c, List.forall_mem_cons.mpr ⟨ok16 X G c, List.forall_mem_cons.mpr ⟨ok17 X G c, List.forall_mem_cons.mpr ⟨ok18 X G c, List.forall_mem_cons.mpr ⟨ok19 X G c, List.forall_mem_cons.mpr ⟨ok20 X G c, List.forall_mem_cons.mpr ⟨ok21 X G c, List.forall_mem_cons.mpr ⟨ok22 X G c, List.forall_mem_cons.mpr ⟨ok23 X G c, List.forall_mem_cons.mpr ⟨ok24 X G c, List.forall_mem_cons.mpr ⟨ok25 X G c, List.forall_mem_cons.mpr ⟨ok26 X G c, List.forall_mem_cons.mpr ⟨ok27 X G c, List.forall_mem_cons.mpr ⟨ok28 X G c, List.forall_mem_cons.mpr ⟨ok29 X G c, List.forall_mem_cons.mpr ⟨ok30 X G c, List.forall_mem_cons.mpr ⟨ok31 X G c, List.forall_mem_cons.mpr ⟨ok32 X G c, List.forall_mem_cons.mpr ⟨ok33 X G c, List.forall_mem_cons.mpr ⟨ok34 X G c, List.forall_mem_cons.mpr ⟨ok35 X G c, fun _ z => nomatch z⟩⟩⟩⟩⟩⟩⟩⟩⟩⟩⟩⟩⟩⟩⟩⟩⟩⟩⟩⟩⟩⟩⟩⟩⟩⟩⟩⟩⟩⟩⟩⟩⟩⟩⟩⟩
theorem bl_ok (X : K.In h) (G : h.Ns mainGlobals mg) (c : He.SaysD fa fn K) : ∀ x ∈ blts, mg x = none :=
  List.forall_mem_cons.mpr ⟨He.free_ok X G (c.fact 36 rfl), List.forall_mem_cons.mpr ⟨He.free_ok X G (c.fact 37 rfl), List.forall_mem_cons.mpr ⟨He.free_ok X G (c.fact 38 rfl), List.forall_mem_cons.mpr ⟨He.free_ok X G (c.fact 39 rfl), List.forall_mem_cons.mpr ⟨He.free_ok X G (c.fact 40 rfl), List.forall_mem_cons.mpr ⟨He.free_ok X G (c.fact 41 rfl), List.forall_mem_cons.mpr ⟨He.free_ok X G (c.fact 42 rfl), List.forall_mem_cons.mpr ⟨He.free_ok X G (c.fact 43 rfl), List.forall_mem_cons.mpr ⟨He.free_ok X G (c.fact 44 rfl), List.forall_mem_cons.mpr ⟨He.free_ok X G (c.fact 45 rfl), List.forall_mem_cons.mpr ⟨He.free_ok X G (c.fact 46 rfl), List.forall_mem_cons.mpr ⟨He.free_ok X G (c.fact 47 rfl), List.forall_mem_cons.mpr ⟨He.free_ok X G (c.fact 48 rfl), List.forall_mem_cons.mpr ⟨He.free_ok X G (c.fact 49 rfl), List.forall_mem_cons.mpr ⟨He.free_ok X G (c.fact 50 rfl), List.forall_mem_cons.mpr ⟨He.free_ok X G (c.fact 51 rfl), List.forall_mem_cons.mpr ⟨He.free_ok X G (c.fact 52 rfl), List.forall_mem_cons.mpr ⟨He.free_ok X G (c.fact 53 rfl), fun _ z => nomatch z⟩⟩⟩⟩⟩⟩⟩⟩⟩⟩⟩⟩⟩⟩⟩⟩⟩⟩
theorem cs_ok (X : K.In h) (G : h.Ns mainGlobals mg) (c : He.SaysD fa fn K) : ∀ x d, (x, d) ∈ cs → ∃ u v, mg x = some u ∧ RelV v u ∧ (∀ H O, DF K H O v d) ∧ noL d = true := by
  have all : ∀ p ∈ cs, ∃ u v, mg p.1 = some u ∧ RelV v u ∧ (∀ H O, DF K H O v p.2) ∧ noL p.2 = true :=
    List.forall_mem_cons.mpr ⟨(let ⟨_, e⟩ := He.str_ok X G (c.fact 54 rfl); ⟨_, .str _, e, ⟨_, rfl⟩, fun _ _ => .str _, rfl⟩), List.forall_mem_cons.mpr ⟨(let ⟨_, e⟩ := He.str_ok X G (c.fact 55 rfl); ⟨_, .str _, e, ⟨_, rfl⟩, fun _ _ => .str _, rfl⟩), List.forall_mem_cons.mpr ⟨(let ⟨_, e⟩ := He.int_ok X G (c.fact 56 rfl); ⟨_, .int _, e, ⟨_, rfl⟩, fun _ _ => .int _, rfl⟩), List.forall_mem_cons.mpr ⟨(let ⟨_, e⟩ := He.int_ok X G (c.fact 57 rfl); ⟨_, .int _, e, ⟨_, rfl⟩, fun _ _ => .int _, rfl⟩), List.forall_mem_cons.mpr ⟨(let ⟨_, e⟩ := He.int_ok X G (c.fact 58 rfl); ⟨_, .int _, e, ⟨_, rfl⟩, fun _ _ => .int _, rfl⟩), List.forall_mem_cons.mpr ⟨(let ⟨_, e⟩ := He.int_ok X G (c.fact 59 rfl); ⟨_, .int _, e, ⟨_, rfl⟩, fun _ _ => .int _, rfl⟩), List.forall_mem_cons.mpr ⟨(let ⟨_, e⟩ := He.str_ok X G (c.fact 60 rfl); ⟨_, .str _, e, ⟨_, rfl⟩, fun _ _ => .str _, rfl⟩), fun _ z => nomatch z⟩⟩⟩⟩⟩⟩⟩
  exact fun x d hm => all (x, d) hm
end
end K52
end Ev
end

section
set_option maxRecDepth 100000
set_option maxHeartbeats 1000000
/-! The walk of k52: what each def gives. -/
namespace Ev
open PySem PySem.Spec PyProof.Rows L2
theorem noDs_enc : ∀ P : List (Option Int), noDs (P.map encE) = true
  | [] => rfl
  | none :: P => by simp [encE, noDs, noD, noDs_enc P]
  | some a :: P => by simp [encE, noDs, noD, noDs_enc P]
theorem POk.lastI {P : List (Option Int)} (ok : POk P) : ∃ i, P.getLast? = some (some i) := by
  have h1 := ok.lo
  have h2 := ok.last
  cases e : P.getLast? with
  | none => rw [List.getLast?_eq_none_iff] at e; subst e; simp at h1
  | some o =>
    cases o with
    | none => exact absurd e h2
    | some i => exact ⟨i, rfl⟩
theorem atI_last {xs : List PyData} : atI xs (-1) = xs.getLast? := by
  unfold atI ixN
  cases xs with
  | nil => rfl
  | cons x xs =>
    have h : (1 : Int) ≤ (xs.length : Int) + 1 := by omega
    have e : (-1 + ((xs.length : Int) + 1)).toNat = xs.length := by omega
    simp [List.getLast?_eq_getElem?, h, e]
theorem x_at0 {x : PyData} {xs : List PyData} : atI (x :: xs) 0 = some x := by simp [atI, ixN]
theorem x_at1 {x y : PyData} {xs : List PyData} : atI (x :: y :: xs) 1 = some y := by
  simp only [atI, ixN, List.length_cons]
  rw [if_pos (by omega), if_pos (by omega)]
  rfl
namespace K52
def Ph (n : Nat) : Fns := phi 1000 pr n
theorem Ph_lt {f : Nat} {F : Fn} (hF : pr[f]? = some F) {n : Nat} (h : f < n) : Ph n f = runFn (Ph f) 1000 F := phi_lt hF h
theorem s_is_int {n : Nat} (h : i_is_int < n) (a : Int) : Ph n i_is_int [.int a] none = .ok (.bool true) none := by
  rw [Ph_lt (F := d_is_int.F) rfl h]
  refine run_rt rfl rfl (J1 := none) ?_
  show evSs _ _ _ b_is_int [some (.int a)] none = _
  simp only [x_bind, x_ok, x_pure, x_opt, x_selT, x_selF, x_seqO, x_seqR, x_seqB, x_seqC, x_rcall, x_callP, x_var, x_lit, x_tup, x_lst, x_bin, x_neg, x_not, x_cmp, x_chain, x_and, x_or, x_ite, x_idx, x_slc, x_rev, x_call, x_bi, x_callJ, x_callQ, x_nil, x_cons, x_star, x_o0, x_o1, x_if0, x_if1, x_seq, x_rng1, x_enum, x_zip, x_turn, x_asg, x_asgT, x_par, x_par0, x_par1, x_app, x_setI, x_popS, x_ex, x_ret, x_retN, x_pass, x_brk, x_cnt, x_if, x_ss0, x_ss, x_forT, x_view, x_viewF, x_keepF, x_keepT, x_hide0, x_hide1, x_hideN, x_own0, x_own1l, x_wipe0, x_wipe1, x_tg, x_tgT, x_tg0, x_tg1, x_add, x_sub, x_mul, x_lt, x_le, x_gt, x_ge, x_eq, x_ne, x_isN, x_isI, x_isT, x_isnN, x_isnI, x_isnT, x_tr, x_bl, x_intD, x_seqT, x_seqL, x_lenT, x_lenL, x_abs, x_int, x_intB, x_tupL, x_lstT, x_max2, x_min2, x_isiI, x_isiB, x_idxT, x_idxL, x_slcL, x_zipL, List.getD_cons_zero, List.getD_cons_succ, List.set_cons_zero, List.set_cons_succ, Option.map_some, Option.bind_some, Bool.not_true, Bool.not_false, if_true, Bool.true_or, Bool.or_true, Bool.false_or, Bool.true_and, Bool.and_true, decide_true, decide_false, Bool.and_self, reduceIte, reduceCtorEq, ne_eq, not_false_eq_true, implies_true, x_fit, List.length_cons, List.length_nil, Nat.reduceAdd, Nat.reduceLeDiff, Bool.not_eq_true, decide_eq_true_eq, b_is_int]
theorem s_is_whole {n : Nat} (h : i_is_whole < n) {a : Int} (ha : a.natAbs < 10 ^ 60) : Ph n i_is_whole [.int a] none = .ok (.bool true) none := by
  rw [Ph_lt (F := d_is_whole.F) rfl h]
  refine run_rt rfl rfl (J1 := none) ?_
  show evSs _ _ _ b_is_whole [some (.int a)] none = _
  have e := s_is_int (n := i_is_whole) (by decide) a
  have h1 : (-1000000000000000000000000000000000000000000000000000000000000 : Int) < a := by omega
  have h2 : a < (1000000000000000000000000000000000000000000000000000000000000 : Int) := by omega
  simp only [x_bind, x_ok, x_pure, x_opt, x_selT, x_selF, x_seqO, x_seqR, x_seqB, x_seqC, x_rcall, x_callP, x_var, x_lit, x_tup, x_lst, x_bin, x_neg, x_not, x_cmp, x_chain, x_and, x_or, x_ite, x_idx, x_slc, x_rev, x_call, x_bi, x_callJ, x_callQ, x_nil, x_cons, x_star, x_o0, x_o1, x_if0, x_if1, x_seq, x_rng1, x_enum, x_zip, x_turn, x_asg, x_asgT, x_par, x_par0, x_par1, x_app, x_setI, x_popS, x_ex, x_ret, x_retN, x_pass, x_brk, x_cnt, x_if, x_ss0, x_ss, x_forT, x_view, x_viewF, x_keepF, x_keepT, x_hide0, x_hide1, x_hideN, x_own0, x_own1l, x_wipe0, x_wipe1, x_tg, x_tgT, x_tg0, x_tg1, x_add, x_sub, x_mul, x_lt, x_le, x_gt, x_ge, x_eq, x_ne, x_isN, x_isI, x_isT, x_isnN, x_isnI, x_isnT, x_tr, x_bl, x_intD, x_seqT, x_seqL, x_lenT, x_lenL, x_abs, x_int, x_intB, x_tupL, x_lstT, x_max2, x_min2, x_isiI, x_isiB, x_idxT, x_idxL, x_slcL, x_zipL, List.getD_cons_zero, List.getD_cons_succ, List.set_cons_zero, List.set_cons_succ, Option.map_some, Option.bind_some, Bool.not_true, Bool.not_false, if_true, Bool.true_or, Bool.or_true, Bool.false_or, Bool.true_and, Bool.and_true, decide_true, decide_false, Bool.and_self, reduceIte, reduceCtorEq, ne_eq, not_false_eq_true, implies_true, x_fit, List.length_cons, List.length_nil, Nat.reduceAdd, Nat.reduceLeDiff, Bool.not_eq_true, decide_eq_true_eq, b_is_whole, e, h1, h2]
theorem s_is_within {n : Nat} (h : i_is_within < n) {a lo hi : Int} (ha : a.natAbs < 10 ^ 60) (h1 : lo ≤ a) (h2 : a ≤ hi) : Ph n i_is_within [.int a, .int lo, .int hi] none = .ok (.bool true) none := by
  rw [Ph_lt (F := d_is_within.F) rfl h]
  refine run_rt rfl rfl (J1 := none) ?_
  show evSs _ _ _ b_is_within [some (.int a), some (.int lo), some (.int hi)] none = _
  have e := s_is_whole (n := i_is_within) (by decide) ha
  simp only [x_bind, x_ok, x_pure, x_opt, x_selT, x_selF, x_seqO, x_seqR, x_seqB, x_seqC, x_rcall, x_callP, x_var, x_lit, x_tup, x_lst, x_bin, x_neg, x_not, x_cmp, x_chain, x_and, x_or, x_ite, x_idx, x_slc, x_rev, x_call, x_bi, x_callJ, x_callQ, x_nil, x_cons, x_star, x_o0, x_o1, x_if0, x_if1, x_seq, x_rng1, x_enum, x_zip, x_turn, x_asg, x_asgT, x_par, x_par0, x_par1, x_app, x_setI, x_popS, x_ex, x_ret, x_retN, x_pass, x_brk, x_cnt, x_if, x_ss0, x_ss, x_forT, x_view, x_viewF, x_keepF, x_keepT, x_hide0, x_hide1, x_hideN, x_own0, x_own1l, x_wipe0, x_wipe1, x_tg, x_tgT, x_tg0, x_tg1, x_add, x_sub, x_mul, x_lt, x_le, x_gt, x_ge, x_eq, x_ne, x_isN, x_isI, x_isT, x_isnN, x_isnI, x_isnT, x_tr, x_bl, x_intD, x_seqT, x_seqL, x_lenT, x_lenL, x_abs, x_int, x_intB, x_tupL, x_lstT, x_max2, x_min2, x_isiI, x_isiB, x_idxT, x_idxL, x_slcL, x_zipL, List.getD_cons_zero, List.getD_cons_succ, List.set_cons_zero, List.set_cons_succ, Option.map_some, Option.bind_some, Bool.not_true, Bool.not_false, if_true, Bool.true_or, Bool.or_true, Bool.false_or, Bool.true_and, Bool.and_true, decide_true, decide_false, Bool.and_self, reduceIte, reduceCtorEq, ne_eq, not_false_eq_true, implies_true, x_fit, List.length_cons, List.length_nil, Nat.reduceAdd, Nat.reduceLeDiff, Bool.not_eq_true, decide_eq_true_eq, b_is_within, e, h1, h2]
theorem s_is_entry {n : Nat} (h : i_is_entry < n) {a : Option Int} (ha : ∀ i, a = some i → -999 ≤ i ∧ i ≤ 999) : Ph n i_is_entry [encE a] none = .ok (.bool true) none := by
  rw [Ph_lt (F := d_is_entry.F) rfl h]
  refine run_rt rfl rfl (J1 := none) ?_
  show evSs _ _ _ b_is_entry [some (encE a)] none = _
  cases a with
  | none => simp only [x_bind, x_ok, x_pure, x_opt, x_selT, x_selF, x_seqO, x_seqR, x_seqB, x_seqC, x_rcall, x_callP, x_var, x_lit, x_tup, x_lst, x_bin, x_neg, x_not, x_cmp, x_chain, x_and, x_or, x_ite, x_idx, x_slc, x_rev, x_call, x_bi, x_callJ, x_callQ, x_nil, x_cons, x_star, x_o0, x_o1, x_if0, x_if1, x_seq, x_rng1, x_enum, x_zip, x_turn, x_asg, x_asgT, x_par, x_par0, x_par1, x_app, x_setI, x_popS, x_ex, x_ret, x_retN, x_pass, x_brk, x_cnt, x_if, x_ss0, x_ss, x_forT, x_view, x_viewF, x_keepF, x_keepT, x_hide0, x_hide1, x_hideN, x_own0, x_own1l, x_wipe0, x_wipe1, x_tg, x_tgT, x_tg0, x_tg1, x_add, x_sub, x_mul, x_lt, x_le, x_gt, x_ge, x_eq, x_ne, x_isN, x_isI, x_isT, x_isnN, x_isnI, x_isnT, x_tr, x_bl, x_intD, x_seqT, x_seqL, x_lenT, x_lenL, x_abs, x_int, x_intB, x_tupL, x_lstT, x_max2, x_min2, x_isiI, x_isiB, x_idxT, x_idxL, x_slcL, x_zipL, List.getD_cons_zero, List.getD_cons_succ, List.set_cons_zero, List.set_cons_succ, Option.map_some, Option.bind_some, Bool.not_true, Bool.not_false, if_true, Bool.true_or, Bool.or_true, Bool.false_or, Bool.true_and, Bool.and_true, decide_true, decide_false, Bool.and_self, reduceIte, reduceCtorEq, ne_eq, not_false_eq_true, implies_true, x_fit, List.length_cons, List.length_nil, Nat.reduceAdd, Nat.reduceLeDiff, Bool.not_eq_true, decide_eq_true_eq, b_is_entry, encE]
  | some i =>
    have ⟨q1, q2⟩ := ha i rfl
    have e := s_is_within (n := i_is_entry) (by decide) (a := i) (lo := -999) (hi := 999) (by omega) (by omega) (by omega)
    simp only [x_bind, x_ok, x_pure, x_opt, x_selT, x_selF, x_seqO, x_seqR, x_seqB, x_seqC, x_rcall, x_callP, x_var, x_lit, x_tup, x_lst, x_bin, x_neg, x_not, x_cmp, x_chain, x_and, x_or, x_ite, x_idx, x_slc, x_rev, x_call, x_bi, x_callJ, x_callQ, x_nil, x_cons, x_star, x_o0, x_o1, x_if0, x_if1, x_seq, x_rng1, x_enum, x_zip, x_turn, x_asg, x_asgT, x_par, x_par0, x_par1, x_app, x_setI, x_popS, x_ex, x_ret, x_retN, x_pass, x_brk, x_cnt, x_if, x_ss0, x_ss, x_forT, x_view, x_viewF, x_keepF, x_keepT, x_hide0, x_hide1, x_hideN, x_own0, x_own1l, x_wipe0, x_wipe1, x_tg, x_tgT, x_tg0, x_tg1, x_add, x_sub, x_mul, x_lt, x_le, x_gt, x_ge, x_eq, x_ne, x_isN, x_isI, x_isT, x_isnN, x_isnI, x_isnT, x_tr, x_bl, x_intD, x_seqT, x_seqL, x_lenT, x_lenL, x_abs, x_int, x_intB, x_tupL, x_lstT, x_max2, x_min2, x_isiI, x_isiB, x_idxT, x_idxL, x_slcL, x_zipL, List.getD_cons_zero, List.getD_cons_succ, List.set_cons_zero, List.set_cons_succ, Option.map_some, Option.bind_some, Bool.not_true, Bool.not_false, if_true, Bool.true_or, Bool.or_true, Bool.false_or, Bool.true_and, Bool.and_true, decide_true, decide_false, Bool.and_self, reduceIte, reduceCtorEq, ne_eq, not_false_eq_true, implies_true, x_fit, List.length_cons, List.length_nil, Nat.reduceAdd, Nat.reduceLeDiff, Bool.not_eq_true, decide_eq_true_eq, b_is_entry, encE, e]
theorem s_is_poly_in {n : Nat} (h : i_is_poly_in < n) {P : List (Option Int)} (ok : POk P) : Ph n i_is_poly_in [poly P] none = .ok (.bool true) none := by
  rw [Ph_lt (F := d_is_poly_in.F) rfl h]
  refine run_rt rfl rfl (J1 := none) ?_
  show evSs _ _ _ b_is_poly_in [some (.tuple (P.map encE)), none] none = _
  have l1 := ok.lo
  have l2 := ok.hi
  have h1 : (1 : Int) ≤ (P.length : Int) := by omega
  have h2 : (P.length : Int) ≤ 12 := by omega
  obtain ⟨i, hi⟩ := ok.lastI
  have hl : atI (P.map encE) (-1) = some (.int i) := by rw [atI_last, List.getLast?_map, hi]; rfl
  have e := e_lc (Φ := Ph i_is_poly_in) (elt := .call i_is_entry [(.var 1)]) (t := .name 1) (it := .seq (.var 0)) (ifs := []) (own := [1]) (σ := [some (.tuple (P.map encE)), none]) (J := none) (ds := P.map encE) (g := fun _ => some (.bool true)) (by simp only [x_bind, x_ok, x_pure, x_opt, x_selT, x_selF, x_seqO, x_seqR, x_seqB, x_seqC, x_rcall, x_callP, x_var, x_lit, x_tup, x_lst, x_bin, x_neg, x_not, x_cmp, x_chain, x_and, x_or, x_ite, x_idx, x_slc, x_rev, x_call, x_bi, x_callJ, x_callQ, x_nil, x_cons, x_star, x_o0, x_o1, x_if0, x_if1, x_seq, x_rng1, x_enum, x_zip, x_turn, x_asg, x_asgT, x_par, x_par0, x_par1, x_app, x_setI, x_popS, x_ex, x_ret, x_retN, x_pass, x_brk, x_cnt, x_if, x_ss0, x_ss, x_forT, x_view, x_viewF, x_keepF, x_keepT, x_hide0, x_hide1, x_hideN, x_own0, x_own1l, x_wipe0, x_wipe1, x_tg, x_tgT, x_tg0, x_tg1, x_add, x_sub, x_mul, x_lt, x_le, x_gt, x_ge, x_eq, x_ne, x_isN, x_isI, x_isT, x_isnN, x_isnI, x_isnT, x_tr, x_bl, x_intD, x_seqT, x_seqL, x_lenT, x_lenL, x_abs, x_int, x_intB, x_tupL, x_lstT, x_max2, x_min2, x_isiI, x_isiB, x_idxT, x_idxL, x_slcL, x_zipL, List.getD_cons_zero, List.getD_cons_succ, List.set_cons_zero, List.set_cons_succ, Option.map_some, Option.bind_some, Bool.not_true, Bool.not_false, if_true, Bool.true_or, Bool.or_true, Bool.false_or, Bool.true_and, Bool.and_true, decide_true, decide_false, Bool.and_self, reduceIte, reduceCtorEq, ne_eq, not_false_eq_true, implies_true, x_fit, List.length_cons, List.length_nil, Nat.reduceAdd, Nat.reduceLeDiff, Bool.not_eq_true, decide_eq_true_eq]) (fun d hd => by
    obtain ⟨a, ha, e⟩ := List.mem_map.mp hd
    subst e
    have := s_is_entry (n := i_is_poly_in) (by decide) (a := a) (fun i e => ok.ent i (e ▸ ha))
    simp only [x_bind, x_ok, x_pure, x_opt, x_selT, x_selF, x_seqO, x_seqR, x_seqB, x_seqC, x_rcall, x_callP, x_var, x_lit, x_tup, x_lst, x_bin, x_neg, x_not, x_cmp, x_chain, x_and, x_or, x_ite, x_idx, x_slc, x_rev, x_call, x_bi, x_callJ, x_callQ, x_nil, x_cons, x_star, x_o0, x_o1, x_if0, x_if1, x_seq, x_rng1, x_enum, x_zip, x_turn, x_asg, x_asgT, x_par, x_par0, x_par1, x_app, x_setI, x_popS, x_ex, x_ret, x_retN, x_pass, x_brk, x_cnt, x_if, x_ss0, x_ss, x_forT, x_view, x_viewF, x_keepF, x_keepT, x_hide0, x_hide1, x_hideN, x_own0, x_own1l, x_wipe0, x_wipe1, x_tg, x_tgT, x_tg0, x_tg1, x_add, x_sub, x_mul, x_lt, x_le, x_gt, x_ge, x_eq, x_ne, x_isN, x_isI, x_isT, x_isnN, x_isnI, x_isnT, x_tr, x_bl, x_intD, x_seqT, x_seqL, x_lenT, x_lenL, x_abs, x_int, x_intB, x_tupL, x_lstT, x_max2, x_min2, x_isiI, x_isiB, x_idxT, x_idxL, x_slcL, x_zipL, List.getD_cons_zero, List.getD_cons_succ, List.set_cons_zero, List.set_cons_succ, Option.map_some, Option.bind_some, Bool.not_true, Bool.not_false, if_true, Bool.true_or, Bool.or_true, Bool.false_or, Bool.true_and, Bool.and_true, decide_true, decide_false, Bool.and_self, reduceIte, reduceCtorEq, ne_eq, not_false_eq_true, implies_true, x_fit, List.length_cons, List.length_nil, Nat.reduceAdd, Nat.reduceLeDiff, Bool.not_eq_true, decide_eq_true_eq, this]) (by simp; omega)
  have a := bools_true (l := List.filterMap (fun _ => some (PyData.bool true)) (P.map encE)) (fun x hx => by
    obtain ⟨_, _, z⟩ := List.mem_filterMap.mp hx
    exact (Option.some.inj z).symm)
  simp only [x_bind, x_ok, x_pure, x_opt, x_selT, x_selF, x_seqO, x_seqR, x_seqB, x_seqC, x_rcall, x_callP, x_var, x_lit, x_tup, x_lst, x_bin, x_neg, x_not, x_cmp, x_chain, x_and, x_or, x_ite, x_idx, x_slc, x_rev, x_call, x_bi, x_callJ, x_callQ, x_nil, x_cons, x_star, x_o0, x_o1, x_if0, x_if1, x_seq, x_rng1, x_enum, x_zip, x_turn, x_asg, x_asgT, x_par, x_par0, x_par1, x_app, x_setI, x_popS, x_ex, x_ret, x_retN, x_pass, x_brk, x_cnt, x_if, x_ss0, x_ss, x_forT, x_view, x_viewF, x_keepF, x_keepT, x_hide0, x_hide1, x_hideN, x_own0, x_own1l, x_wipe0, x_wipe1, x_tg, x_tgT, x_tg0, x_tg1, x_add, x_sub, x_mul, x_lt, x_le, x_gt, x_ge, x_eq, x_ne, x_isN, x_isI, x_isT, x_isnN, x_isnI, x_isnT, x_tr, x_bl, x_intD, x_seqT, x_seqL, x_lenT, x_lenL, x_abs, x_int, x_intB, x_tupL, x_lstT, x_max2, x_min2, x_isiI, x_isiB, x_idxT, x_idxL, x_slcL, x_zipL, List.getD_cons_zero, List.getD_cons_succ, List.set_cons_zero, List.set_cons_succ, Option.map_some, Option.bind_some, Bool.not_true, Bool.not_false, if_true, Bool.true_or, Bool.or_true, Bool.false_or, Bool.true_and, Bool.and_true, decide_true, decide_false, Bool.and_self, reduceIte, reduceCtorEq, ne_eq, not_false_eq_true, implies_true, x_fit, List.length_cons, List.length_nil, Nat.reduceAdd, Nat.reduceLeDiff, Bool.not_eq_true, decide_eq_true_eq, b_is_poly_in, x_isiT (noDs_enc P), List.length_map, h1, h2, e, a, hl]
theorem s_require_poly {n : Nat} (h : i_require_poly < n) {P : List (Option Int)} (ok : POk P) : Ph n i_require_poly [poly P] none = .ok .none none := by
  rw [Ph_lt (F := d_require_poly.F) rfl h]
  refine run_nx rfl rfl (J1 := none) (σ := [some (.tuple [poly P]), none]) ?_
  show evSs _ _ _ b_require_poly [some (.tuple [poly P]), none] none = _
  have e1 := s_is_poly_in (n := i_require_poly) (by decide) ok
  have e := e_lc (Φ := Ph i_require_poly) (elt := .call i_is_poly_in [(.var 1)]) (t := .name 1) (it := .seq (.var 0)) (ifs := []) (own := [1]) (σ := [some (.tuple [poly P]), none]) (J := none) (ds := [poly P]) (g := fun _ => some (.bool true)) (by simp only [x_bind, x_ok, x_pure, x_opt, x_selT, x_selF, x_seqO, x_seqR, x_seqB, x_seqC, x_rcall, x_callP, x_var, x_lit, x_tup, x_lst, x_bin, x_neg, x_not, x_cmp, x_chain, x_and, x_or, x_ite, x_idx, x_slc, x_rev, x_call, x_bi, x_callJ, x_callQ, x_nil, x_cons, x_star, x_o0, x_o1, x_if0, x_if1, x_seq, x_rng1, x_enum, x_zip, x_turn, x_asg, x_asgT, x_par, x_par0, x_par1, x_app, x_setI, x_popS, x_ex, x_ret, x_retN, x_pass, x_brk, x_cnt, x_if, x_ss0, x_ss, x_forT, x_view, x_viewF, x_keepF, x_keepT, x_hide0, x_hide1, x_hideN, x_own0, x_own1l, x_wipe0, x_wipe1, x_tg, x_tgT, x_tg0, x_tg1, x_add, x_sub, x_mul, x_lt, x_le, x_gt, x_ge, x_eq, x_ne, x_isN, x_isI, x_isT, x_isnN, x_isnI, x_isnT, x_tr, x_bl, x_intD, x_seqT, x_seqL, x_lenT, x_lenL, x_abs, x_int, x_intB, x_tupL, x_lstT, x_max2, x_min2, x_isiI, x_isiB, x_idxT, x_idxL, x_slcL, x_zipL, List.getD_cons_zero, List.getD_cons_succ, List.set_cons_zero, List.set_cons_succ, Option.map_some, Option.bind_some, Bool.not_true, Bool.not_false, if_true, Bool.true_or, Bool.or_true, Bool.false_or, Bool.true_and, Bool.and_true, decide_true, decide_false, Bool.and_self, reduceIte, reduceCtorEq, ne_eq, not_false_eq_true, implies_true, x_fit, List.length_cons, List.length_nil, Nat.reduceAdd, Nat.reduceLeDiff, Bool.not_eq_true, decide_eq_true_eq]) (fun d hd => by
    rw [List.mem_singleton] at hd
    subst hd
    simp only [x_bind, x_ok, x_pure, x_opt, x_selT, x_selF, x_seqO, x_seqR, x_seqB, x_seqC, x_rcall, x_callP, x_var, x_lit, x_tup, x_lst, x_bin, x_neg, x_not, x_cmp, x_chain, x_and, x_or, x_ite, x_idx, x_slc, x_rev, x_call, x_bi, x_callJ, x_callQ, x_nil, x_cons, x_star, x_o0, x_o1, x_if0, x_if1, x_seq, x_rng1, x_enum, x_zip, x_turn, x_asg, x_asgT, x_par, x_par0, x_par1, x_app, x_setI, x_popS, x_ex, x_ret, x_retN, x_pass, x_brk, x_cnt, x_if, x_ss0, x_ss, x_forT, x_view, x_viewF, x_keepF, x_keepT, x_hide0, x_hide1, x_hideN, x_own0, x_own1l, x_wipe0, x_wipe1, x_tg, x_tgT, x_tg0, x_tg1, x_add, x_sub, x_mul, x_lt, x_le, x_gt, x_ge, x_eq, x_ne, x_isN, x_isI, x_isT, x_isnN, x_isnI, x_isnT, x_tr, x_bl, x_intD, x_seqT, x_seqL, x_lenT, x_lenL, x_abs, x_int, x_intB, x_tupL, x_lstT, x_max2, x_min2, x_isiI, x_isiB, x_idxT, x_idxL, x_slcL, x_zipL, List.getD_cons_zero, List.getD_cons_succ, List.set_cons_zero, List.set_cons_succ, Option.map_some, Option.bind_some, Bool.not_true, Bool.not_false, if_true, Bool.true_or, Bool.or_true, Bool.false_or, Bool.true_and, Bool.and_true, decide_true, decide_false, Bool.and_self, reduceIte, reduceCtorEq, ne_eq, not_false_eq_true, implies_true, x_fit, List.length_cons, List.length_nil, Nat.reduceAdd, Nat.reduceLeDiff, Bool.not_eq_true, decide_eq_true_eq, e1]) (by simp)
  have a : biE .all [.list (List.filterMap (fun _ => some (PyData.bool true)) [poly P])] = some (.bool true) := rfl
  simp only [x_bind, x_ok, x_pure, x_opt, x_selT, x_selF, x_seqO, x_seqR, x_seqB, x_seqC, x_rcall, x_callP, x_var, x_lit, x_tup, x_lst, x_bin, x_neg, x_not, x_cmp, x_chain, x_and, x_or, x_ite, x_idx, x_slc, x_rev, x_call, x_bi, x_callJ, x_callQ, x_nil, x_cons, x_star, x_o0, x_o1, x_if0, x_if1, x_seq, x_rng1, x_enum, x_zip, x_turn, x_asg, x_asgT, x_par, x_par0, x_par1, x_app, x_setI, x_popS, x_ex, x_ret, x_retN, x_pass, x_brk, x_cnt, x_if, x_ss0, x_ss, x_forT, x_view, x_viewF, x_keepF, x_keepT, x_hide0, x_hide1, x_hideN, x_own0, x_own1l, x_wipe0, x_wipe1, x_tg, x_tgT, x_tg0, x_tg1, x_add, x_sub, x_mul, x_lt, x_le, x_gt, x_ge, x_eq, x_ne, x_isN, x_isI, x_isT, x_isnN, x_isnI, x_isnT, x_tr, x_bl, x_intD, x_seqT, x_seqL, x_lenT, x_lenL, x_abs, x_int, x_intB, x_tupL, x_lstT, x_max2, x_min2, x_isiI, x_isiB, x_idxT, x_idxL, x_slcL, x_zipL, List.getD_cons_zero, List.getD_cons_succ, List.set_cons_zero, List.set_cons_succ, Option.map_some, Option.bind_some, Bool.not_true, Bool.not_false, if_true, Bool.true_or, Bool.or_true, Bool.false_or, Bool.true_and, Bool.and_true, decide_true, decide_false, Bool.and_self, reduceIte, reduceCtorEq, ne_eq, not_false_eq_true, implies_true, x_fit, List.length_cons, List.length_nil, Nat.reduceAdd, Nat.reduceLeDiff, Bool.not_eq_true, decide_eq_true_eq, b_require_poly, e, a]
theorem s_require_number {n : Nat} (h : i_require_number < n) {a : Int} (h1 : -999 ≤ a) (h2 : a ≤ 999) : Ph n i_require_number [.int a] none = .ok .none none := by
  rw [Ph_lt (F := d_require_number.F) rfl h]
  refine run_nx rfl rfl (J1 := none) (σ := [some (.int a)]) ?_
  show evSs _ _ _ b_require_number [some (.int a)] none = _
  have e := s_is_within (n := i_require_number) (by decide) (a := a) (lo := -999) (hi := 999) (by omega) (by omega) (by omega)
  simp only [x_bind, x_ok, x_pure, x_opt, x_selT, x_selF, x_seqO, x_seqR, x_seqB, x_seqC, x_rcall, x_callP, x_var, x_lit, x_tup, x_lst, x_bin, x_neg, x_not, x_cmp, x_chain, x_and, x_or, x_ite, x_idx, x_slc, x_rev, x_call, x_bi, x_callJ, x_callQ, x_nil, x_cons, x_star, x_o0, x_o1, x_if0, x_if1, x_seq, x_rng1, x_enum, x_zip, x_turn, x_asg, x_asgT, x_par, x_par0, x_par1, x_app, x_setI, x_popS, x_ex, x_ret, x_retN, x_pass, x_brk, x_cnt, x_if, x_ss0, x_ss, x_forT, x_view, x_viewF, x_keepF, x_keepT, x_hide0, x_hide1, x_hideN, x_own0, x_own1l, x_wipe0, x_wipe1, x_tg, x_tgT, x_tg0, x_tg1, x_add, x_sub, x_mul, x_lt, x_le, x_gt, x_ge, x_eq, x_ne, x_isN, x_isI, x_isT, x_isnN, x_isnI, x_isnT, x_tr, x_bl, x_intD, x_seqT, x_seqL, x_lenT, x_lenL, x_abs, x_int, x_intB, x_tupL, x_lstT, x_max2, x_min2, x_isiI, x_isiB, x_idxT, x_idxL, x_slcL, x_zipL, List.getD_cons_zero, List.getD_cons_succ, List.set_cons_zero, List.set_cons_succ, Option.map_some, Option.bind_some, Bool.not_true, Bool.not_false, if_true, Bool.true_or, Bool.or_true, Bool.false_or, Bool.true_and, Bool.and_true, decide_true, decide_false, Bool.and_self, reduceIte, reduceCtorEq, ne_eq, not_false_eq_true, implies_true, x_fit, List.length_cons, List.length_nil, Nat.reduceAdd, Nat.reduceLeDiff, Bool.not_eq_true, decide_eq_true_eq, b_require_number, e]
theorem s_common_of {n : Nat} (h : i_common_of < n) {k : Nat} {a b : Int} (hk : k ≤ 400) (hb : W k b) : Ph n i_common_of [.int a, .int b] none = .ok (.int (gcdI a b)) none := by
  rw [Ph_lt (F := d_common_of.F) rfl h]
  refine run_rt rfl rfl (J1 := none) ?_
  show evSs _ _ _ b_common_of [some (.int a), some (.int b), none, none] none = _
  have l := gcd_loop (J := none) (c := fun σ => Mo.bind (evE (Ph i_common_of) (.cmp .ne (.var 3) (.lit (.int (0)))) σ) fun x => Mo.opt (truthD x)) (f := fun σ => evSs (Ph i_common_of) 1000 d_common_of.F.M [.par [2, 3] false [(.var 3), (.bin .mod (.var 2) (.var 3))]] σ) (S := fun x y => [some (.int a), some (.int b), some (.int x), some (.int y)])
    (fun x y h1 h2 => by simp only [x_bind, x_ok, x_pure, x_opt, x_selT, x_selF, x_seqO, x_seqR, x_seqB, x_seqC, x_rcall, x_callP, x_var, x_lit, x_tup, x_lst, x_bin, x_neg, x_not, x_cmp, x_chain, x_and, x_or, x_ite, x_idx, x_slc, x_rev, x_call, x_bi, x_callJ, x_callQ, x_nil, x_cons, x_star, x_o0, x_o1, x_if0, x_if1, x_seq, x_rng1, x_enum, x_zip, x_turn, x_asg, x_asgT, x_par, x_par0, x_par1, x_app, x_setI, x_popS, x_ex, x_ret, x_retN, x_pass, x_brk, x_cnt, x_if, x_ss0, x_ss, x_forT, x_view, x_viewF, x_keepF, x_keepT, x_hide0, x_hide1, x_hideN, x_own0, x_own1l, x_wipe0, x_wipe1, x_tg, x_tgT, x_tg0, x_tg1, x_add, x_sub, x_mul, x_lt, x_le, x_gt, x_ge, x_eq, x_ne, x_isN, x_isI, x_isT, x_isnN, x_isnI, x_isnT, x_tr, x_bl, x_intD, x_seqT, x_seqL, x_lenT, x_lenL, x_abs, x_int, x_intB, x_tupL, x_lstT, x_max2, x_min2, x_isiI, x_isiB, x_idxT, x_idxL, x_slcL, x_zipL, List.getD_cons_zero, List.getD_cons_succ, List.set_cons_zero, List.set_cons_succ, Option.map_some, Option.bind_some, Bool.not_true, Bool.not_false, if_true, Bool.true_or, Bool.or_true, Bool.false_or, Bool.true_and, Bool.and_true, decide_true, decide_false, Bool.and_self, reduceIte, reduceCtorEq, ne_eq, not_false_eq_true, implies_true, x_fit, List.length_cons, List.length_nil, Nat.reduceAdd, Nat.reduceLeDiff, Bool.not_eq_true, decide_eq_true_eq, decide_not]) (fun x y h1 h2 => by
      have e : binE .mod (.int x) (.int y) = some (.int (x % y)) := mod_W h2
      show evSs _ _ [0, 0, 0, 0] _ _ _ = _
      simp only [x_bind, x_ok, x_pure, x_opt, x_selT, x_selF, x_seqO, x_seqR, x_seqB, x_seqC, x_rcall, x_callP, x_var, x_lit, x_tup, x_lst, x_bin, x_neg, x_not, x_cmp, x_chain, x_and, x_or, x_ite, x_idx, x_slc, x_rev, x_call, x_bi, x_callJ, x_callQ, x_nil, x_cons, x_star, x_o0, x_o1, x_if0, x_if1, x_seq, x_rng1, x_enum, x_zip, x_turn, x_asg, x_asgT, x_par, x_par0, x_par1, x_app, x_setI, x_popS, x_ex, x_ret, x_retN, x_pass, x_brk, x_cnt, x_if, x_ss0, x_ss, x_forT, x_view, x_viewF, x_keepF, x_keepT, x_hide0, x_hide1, x_hideN, x_own0, x_own1l, x_wipe0, x_wipe1, x_tg, x_tgT, x_tg0, x_tg1, x_add, x_sub, x_mul, x_lt, x_le, x_gt, x_ge, x_eq, x_ne, x_isN, x_isI, x_isT, x_isnN, x_isnI, x_isnT, x_tr, x_bl, x_intD, x_seqT, x_seqL, x_lenT, x_lenL, x_abs, x_int, x_intB, x_tupL, x_lstT, x_max2, x_min2, x_isiI, x_isiB, x_idxT, x_idxL, x_slcL, x_zipL, List.getD_cons_zero, List.getD_cons_succ, List.set_cons_zero, List.set_cons_succ, Option.map_some, Option.bind_some, Bool.not_true, Bool.not_false, if_true, Bool.true_or, Bool.or_true, Bool.false_or, Bool.true_and, Bool.and_true, decide_true, decide_false, Bool.and_self, reduceIte, reduceCtorEq, ne_eq, not_false_eq_true, implies_true, x_fit, List.length_cons, List.length_nil, Nat.reduceAdd, Nat.reduceLeDiff, Bool.not_eq_true, decide_eq_true_eq, e]) k 1000 a.natAbs b.natAbs hb (by omega)
  have e := e_whl (M := d_common_of.F.M) l
  have e2 : evSs (Ph i_common_of) 1000 d_common_of.F.M b_common_of [some (.int a), some (.int b), none, none] none = Rs.bind (evS (Ph i_common_of) 1000 d_common_of.F.M (.whl (.cmp .ne (.var 3) (.lit (.int (0)))) [.par [2, 3] false [(.var 3), (.bin .mod (.var 2) (.var 3))]]) [some (.int a), some (.int b), some (.int a.natAbs), some (.int b.natAbs)] none) (seqO (evSs (Ph i_common_of) 1000 d_common_of.F.M [.ret (.var 2)])) := by
    show evSs _ _ [0, 0, 0, 0] _ _ _ = _
    simp only [x_bind, x_ok, x_pure, x_opt, x_selT, x_selF, x_seqO, x_seqR, x_seqB, x_seqC, x_rcall, x_callP, x_var, x_lit, x_tup, x_lst, x_bin, x_neg, x_not, x_cmp, x_chain, x_and, x_or, x_ite, x_idx, x_slc, x_rev, x_call, x_bi, x_callJ, x_callQ, x_nil, x_cons, x_star, x_o0, x_o1, x_if0, x_if1, x_seq, x_rng1, x_enum, x_zip, x_turn, x_asg, x_asgT, x_par, x_par0, x_par1, x_app, x_setI, x_popS, x_ex, x_ret, x_retN, x_pass, x_brk, x_cnt, x_if, x_ss0, x_ss, x_forT, x_view, x_viewF, x_keepF, x_keepT, x_hide0, x_hide1, x_hideN, x_own0, x_own1l, x_wipe0, x_wipe1, x_tg, x_tgT, x_tg0, x_tg1, x_add, x_sub, x_mul, x_lt, x_le, x_gt, x_ge, x_eq, x_ne, x_isN, x_isI, x_isT, x_isnN, x_isnI, x_isnT, x_tr, x_bl, x_intD, x_seqT, x_seqL, x_lenT, x_lenL, x_abs, x_int, x_intB, x_tupL, x_lstT, x_max2, x_min2, x_isiI, x_isiB, x_idxT, x_idxL, x_slcL, x_zipL, List.getD_cons_zero, List.getD_cons_succ, List.set_cons_zero, List.set_cons_succ, Option.map_some, Option.bind_some, Bool.not_true, Bool.not_false, if_true, Bool.true_or, Bool.or_true, Bool.false_or, Bool.true_and, Bool.and_true, decide_true, decide_false, Bool.and_self, reduceIte, reduceCtorEq, ne_eq, not_false_eq_true, implies_true, x_fit, List.length_cons, List.length_nil, Nat.reduceAdd, Nat.reduceLeDiff, Bool.not_eq_true, decide_eq_true_eq, b_common_of, abs_nat]
    rfl
  rw [e2, e]
  simp only [x_bind, x_ok, x_pure, x_opt, x_selT, x_selF, x_seqO, x_seqR, x_seqB, x_seqC, x_rcall, x_callP, x_var, x_lit, x_tup, x_lst, x_bin, x_neg, x_not, x_cmp, x_chain, x_and, x_or, x_ite, x_idx, x_slc, x_rev, x_call, x_bi, x_callJ, x_callQ, x_nil, x_cons, x_star, x_o0, x_o1, x_if0, x_if1, x_seq, x_rng1, x_enum, x_zip, x_turn, x_asg, x_asgT, x_par, x_par0, x_par1, x_app, x_setI, x_popS, x_ex, x_ret, x_retN, x_pass, x_brk, x_cnt, x_if, x_ss0, x_ss, x_forT, x_view, x_viewF, x_keepF, x_keepT, x_hide0, x_hide1, x_hideN, x_own0, x_own1l, x_wipe0, x_wipe1, x_tg, x_tgT, x_tg0, x_tg1, x_add, x_sub, x_mul, x_lt, x_le, x_gt, x_ge, x_eq, x_ne, x_isN, x_isI, x_isT, x_isnN, x_isnI, x_isnT, x_tr, x_bl, x_intD, x_seqT, x_seqL, x_lenT, x_lenL, x_abs, x_int, x_intB, x_tupL, x_lstT, x_max2, x_min2, x_isiI, x_isiB, x_idxT, x_idxL, x_slcL, x_zipL, List.getD_cons_zero, List.getD_cons_succ, List.set_cons_zero, List.set_cons_succ, Option.map_some, Option.bind_some, Bool.not_true, Bool.not_false, if_true, Bool.true_or, Bool.or_true, Bool.false_or, Bool.true_and, Bool.and_true, decide_true, decide_false, Bool.and_self, reduceIte, reduceCtorEq, ne_eq, not_false_eq_true, implies_true, x_fit, List.length_cons, List.length_nil, Nat.reduceAdd, Nat.reduceLeDiff, Bool.not_eq_true, decide_eq_true_eq]
  rfl
theorem s_lowest {n : Nat} (h : i_lowest < n) {a b : Int} (h0 : 0 < b) (ha : W 400 a) (hb : W 400 b) : Ph n i_lowest [.int a, .int b] none = .ok (encP (low a b)) none := by
  rw [Ph_lt (F := d_lowest.F) rfl h]
  refine run_rt rfl rfl (J1 := none) ?_
  show evSs _ _ [0, 0, 0, 0] b_lowest [some (.int a), some (.int b), none, none] none = _
  have e := s_common_of (n := i_lowest) (by decide) (k := 400) (a := a) (b := b) (by omega) hb
  have g := gcd_pos (a := a) h0
  have gw := gcdI_W (a := a) h0 hb
  have m1 : mulI 1 a = some (.int (1 * a)) := mulI_W (j := 1) (k := 400) (W.of (by decide) (by decide)) ha
  have m2 : mulI 1 b = some (.int (1 * b)) := mulI_W (j := 1) (k := 400) (W.of (by decide) (by decide)) hb
  have f1 : ∀ x : Int, binE .fdiv (.int x) (.int (gcdI a b)) = some (.int (x / gcdI a b)) := fun x => fdiv_W (k := 400) g gw
  simp only [x_bind, x_ok, x_pure, x_opt, x_selT, x_selF, x_seqO, x_seqR, x_seqB, x_seqC, x_rcall, x_callP, x_var, x_lit, x_tup, x_lst, x_bin, x_neg, x_not, x_cmp, x_chain, x_and, x_or, x_ite, x_idx, x_slc, x_rev, x_call, x_bi, x_callJ, x_callQ, x_nil, x_cons, x_star, x_o0, x_o1, x_if0, x_if1, x_seq, x_rng1, x_enum, x_zip, x_turn, x_asg, x_asgT, x_par, x_par0, x_par1, x_app, x_setI, x_popS, x_ex, x_ret, x_retN, x_pass, x_brk, x_cnt, x_if, x_ss0, x_ss, x_forT, x_view, x_viewF, x_keepF, x_keepT, x_hide0, x_hide1, x_hideN, x_own0, x_own1l, x_wipe0, x_wipe1, x_tg, x_tgT, x_tg0, x_tg1, x_add, x_sub, x_mul, x_lt, x_le, x_gt, x_ge, x_eq, x_ne, x_isN, x_isI, x_isT, x_isnN, x_isnI, x_isnT, x_tr, x_bl, x_intD, x_seqT, x_seqL, x_lenT, x_lenL, x_abs, x_int, x_intB, x_tupL, x_lstT, x_max2, x_min2, x_isiI, x_isiB, x_idxT, x_idxL, x_slcL, x_zipL, List.getD_cons_zero, List.getD_cons_succ, List.set_cons_zero, List.set_cons_succ, Option.map_some, Option.bind_some, Bool.not_true, Bool.not_false, if_true, Bool.true_or, Bool.or_true, Bool.false_or, Bool.true_and, Bool.and_true, decide_true, decide_false, Bool.and_self, reduceIte, reduceCtorEq, ne_eq, not_false_eq_true, implies_true, x_fit, List.length_cons, List.length_nil, Nat.reduceAdd, Nat.reduceLeDiff, Bool.not_eq_true, decide_eq_true_eq, b_lowest, e, h0, m1, m2, f1, Int.one_mul]
  rfl
theorem s_less {n : Nat} (h : i_less < n) {x y : Int × Int} (a1 : W 400 x.1) (a2 : W 400 x.2) (b1 : W 400 y.1) (b2 : W 400 y.2) : Ph n i_less [encP x, encP y] none = .ok (.bool (decide (x.1 * y.2 < y.1 * x.2))) none := by
  rw [Ph_lt (F := d_less.F) rfl h]
  refine run_rt rfl rfl (J1 := none) ?_
  show evSs _ _ [0, 0] b_less [some (encP x), some (encP y)] none = _
  have m1 : mulI x.1 y.2 = some (.int (x.1 * y.2)) := mulI_W (j := 400) (k := 400) a1 b2
  have m2 : mulI y.1 x.2 = some (.int (y.1 * x.2)) := mulI_W (j := 400) (k := 400) b1 a2
  simp only [x_bind, x_ok, x_pure, x_opt, x_selT, x_selF, x_seqO, x_seqR, x_seqB, x_seqC, x_rcall, x_callP, x_var, x_lit, x_tup, x_lst, x_bin, x_neg, x_not, x_cmp, x_chain, x_and, x_or, x_ite, x_idx, x_slc, x_rev, x_call, x_bi, x_callJ, x_callQ, x_nil, x_cons, x_star, x_o0, x_o1, x_if0, x_if1, x_seq, x_rng1, x_enum, x_zip, x_turn, x_asg, x_asgT, x_par, x_par0, x_par1, x_app, x_setI, x_popS, x_ex, x_ret, x_retN, x_pass, x_brk, x_cnt, x_if, x_ss0, x_ss, x_forT, x_view, x_viewF, x_keepF, x_keepT, x_hide0, x_hide1, x_hideN, x_own0, x_own1l, x_wipe0, x_wipe1, x_tg, x_tgT, x_tg0, x_tg1, x_add, x_sub, x_mul, x_lt, x_le, x_gt, x_ge, x_eq, x_ne, x_isN, x_isI, x_isT, x_isnN, x_isnI, x_isnT, x_tr, x_bl, x_intD, x_seqT, x_seqL, x_lenT, x_lenL, x_abs, x_int, x_intB, x_tupL, x_lstT, x_max2, x_min2, x_isiI, x_isiB, x_idxT, x_idxL, x_slcL, x_zipL, List.getD_cons_zero, List.getD_cons_succ, List.set_cons_zero, List.set_cons_succ, Option.map_some, Option.bind_some, Bool.not_true, Bool.not_false, if_true, Bool.true_or, Bool.or_true, Bool.false_or, Bool.true_and, Bool.and_true, decide_true, decide_false, Bool.and_self, reduceIte, reduceCtorEq, ne_eq, not_false_eq_true, implies_true, x_fit, List.length_cons, List.length_nil, Nat.reduceAdd, Nat.reduceLeDiff, Bool.not_eq_true, decide_eq_true_eq, b_less, encP, x_at0, x_at1, m1, m2]
theorem s_terms_in {n : Nat} (h : i_terms_in < n) {P : List (Option Int)} (ok : POk P) : Ph n i_terms_in [poly P] none = .ok (.list ((tms 0 P).map encP)) none := by
  rw [Ph_lt (F := d_terms_in.F) rfl h]
  refine run_rt rfl rfl (J1 := none) ?_
  show evSs _ _ [0, 0, 0] b_terms_in [some (.tuple (P.map encE)), none, none] none = _
  have e := e_lc (Φ := Ph i_terms_in) (elt := .tup [(.var 1), (.var 2)]) (t := .tup [(.name 1), (.name 2)]) (it := .enum (.var 0)) (ifs := [(.cmp .isn (.var 2) (.lit .none))]) (own := [1, 2]) (σ := [some (.tuple (P.map encE)), none, none]) (J := none) (ds := enumD 0 (P.map encE)) (g := gTerm) (by simp only [x_bind, x_ok, x_pure, x_opt, x_selT, x_selF, x_seqO, x_seqR, x_seqB, x_seqC, x_rcall, x_callP, x_var, x_lit, x_tup, x_lst, x_bin, x_neg, x_not, x_cmp, x_chain, x_and, x_or, x_ite, x_idx, x_slc, x_rev, x_call, x_bi, x_callJ, x_callQ, x_nil, x_cons, x_star, x_o0, x_o1, x_if0, x_if1, x_seq, x_rng1, x_enum, x_zip, x_turn, x_asg, x_asgT, x_par, x_par0, x_par1, x_app, x_setI, x_popS, x_ex, x_ret, x_retN, x_pass, x_brk, x_cnt, x_if, x_ss0, x_ss, x_forT, x_view, x_viewF, x_keepF, x_keepT, x_hide0, x_hide1, x_hideN, x_own0, x_own1l, x_wipe0, x_wipe1, x_tg, x_tgT, x_tg0, x_tg1, x_add, x_sub, x_mul, x_lt, x_le, x_gt, x_ge, x_eq, x_ne, x_isN, x_isI, x_isT, x_isnN, x_isnI, x_isnT, x_tr, x_bl, x_intD, x_seqT, x_seqL, x_lenT, x_lenL, x_abs, x_int, x_intB, x_tupL, x_lstT, x_max2, x_min2, x_isiI, x_isiB, x_idxT, x_idxL, x_slcL, x_zipL, List.getD_cons_zero, List.getD_cons_succ, List.set_cons_zero, List.set_cons_succ, Option.map_some, Option.bind_some, Bool.not_true, Bool.not_false, if_true, Bool.true_or, Bool.or_true, Bool.false_or, Bool.true_and, Bool.and_true, decide_true, decide_false, Bool.and_self, reduceIte, reduceCtorEq, ne_eq, not_false_eq_true, implies_true, x_fit, List.length_cons, List.length_nil, Nat.reduceAdd, Nat.reduceLeDiff, Bool.not_eq_true, decide_eq_true_eq]) (fun d hd => by
    obtain ⟨j, o, e, _⟩ := enum_mem hd
    subst e
    cases o with
    | none => simp only [x_bind, x_ok, x_pure, x_opt, x_selT, x_selF, x_seqO, x_seqR, x_seqB, x_seqC, x_rcall, x_callP, x_var, x_lit, x_tup, x_lst, x_bin, x_neg, x_not, x_cmp, x_chain, x_and, x_or, x_ite, x_idx, x_slc, x_rev, x_call, x_bi, x_callJ, x_callQ, x_nil, x_cons, x_star, x_o0, x_o1, x_if0, x_if1, x_seq, x_rng1, x_enum, x_zip, x_turn, x_asg, x_asgT, x_par, x_par0, x_par1, x_app, x_setI, x_popS, x_ex, x_ret, x_retN, x_pass, x_brk, x_cnt, x_if, x_ss0, x_ss, x_forT, x_view, x_viewF, x_keepF, x_keepT, x_hide0, x_hide1, x_hideN, x_own0, x_own1l, x_wipe0, x_wipe1, x_tg, x_tgT, x_tg0, x_tg1, x_add, x_sub, x_mul, x_lt, x_le, x_gt, x_ge, x_eq, x_ne, x_isN, x_isI, x_isT, x_isnN, x_isnI, x_isnT, x_tr, x_bl, x_intD, x_seqT, x_seqL, x_lenT, x_lenL, x_abs, x_int, x_intB, x_tupL, x_lstT, x_max2, x_min2, x_isiI, x_isiB, x_idxT, x_idxL, x_slcL, x_zipL, List.getD_cons_zero, List.getD_cons_succ, List.set_cons_zero, List.set_cons_succ, Option.map_some, Option.bind_some, Bool.not_true, Bool.not_false, if_true, Bool.true_or, Bool.or_true, Bool.false_or, Bool.true_and, Bool.and_true, decide_true, decide_false, Bool.and_self, reduceIte, reduceCtorEq, ne_eq, not_false_eq_true, implies_true, x_fit, List.length_cons, List.length_nil, Nat.reduceAdd, Nat.reduceLeDiff, Bool.not_eq_true, decide_eq_true_eq, encE]; rfl
    | some i => simp only [x_bind, x_ok, x_pure, x_opt, x_selT, x_selF, x_seqO, x_seqR, x_seqB, x_seqC, x_rcall, x_callP, x_var, x_lit, x_tup, x_lst, x_bin, x_neg, x_not, x_cmp, x_chain, x_and, x_or, x_ite, x_idx, x_slc, x_rev, x_call, x_bi, x_callJ, x_callQ, x_nil, x_cons, x_star, x_o0, x_o1, x_if0, x_if1, x_seq, x_rng1, x_enum, x_zip, x_turn, x_asg, x_asgT, x_par, x_par0, x_par1, x_app, x_setI, x_popS, x_ex, x_ret, x_retN, x_pass, x_brk, x_cnt, x_if, x_ss0, x_ss, x_forT, x_view, x_viewF, x_keepF, x_keepT, x_hide0, x_hide1, x_hideN, x_own0, x_own1l, x_wipe0, x_wipe1, x_tg, x_tgT, x_tg0, x_tg1, x_add, x_sub, x_mul, x_lt, x_le, x_gt, x_ge, x_eq, x_ne, x_isN, x_isI, x_isT, x_isnN, x_isnI, x_isnT, x_tr, x_bl, x_intD, x_seqT, x_seqL, x_lenT, x_lenL, x_abs, x_int, x_intB, x_tupL, x_lstT, x_max2, x_min2, x_isiI, x_isiB, x_idxT, x_idxL, x_slcL, x_zipL, List.getD_cons_zero, List.getD_cons_succ, List.set_cons_zero, List.set_cons_succ, Option.map_some, Option.bind_some, Bool.not_true, Bool.not_false, if_true, Bool.true_or, Bool.or_true, Bool.false_or, Bool.true_and, Bool.and_true, decide_true, decide_false, Bool.and_self, reduceIte, reduceCtorEq, ne_eq, not_false_eq_true, implies_true, x_fit, List.length_cons, List.length_nil, Nat.reduceAdd, Nat.reduceLeDiff, Bool.not_eq_true, decide_eq_true_eq, encE]; rfl) (by have := ok.hi; rw [enum_len]; simp; omega)
  rw [tms_enum] at e
  simp only [x_bind, x_ok, x_pure, x_opt, x_selT, x_selF, x_seqO, x_seqR, x_seqB, x_seqC, x_rcall, x_callP, x_var, x_lit, x_tup, x_lst, x_bin, x_neg, x_not, x_cmp, x_chain, x_and, x_or, x_ite, x_idx, x_slc, x_rev, x_call, x_bi, x_callJ, x_callQ, x_nil, x_cons, x_star, x_o0, x_o1, x_if0, x_if1, x_seq, x_rng1, x_enum, x_zip, x_turn, x_asg, x_asgT, x_par, x_par0, x_par1, x_app, x_setI, x_popS, x_ex, x_ret, x_retN, x_pass, x_brk, x_cnt, x_if, x_ss0, x_ss, x_forT, x_view, x_viewF, x_keepF, x_keepT, x_hide0, x_hide1, x_hideN, x_own0, x_own1l, x_wipe0, x_wipe1, x_tg, x_tgT, x_tg0, x_tg1, x_add, x_sub, x_mul, x_lt, x_le, x_gt, x_ge, x_eq, x_ne, x_isN, x_isI, x_isT, x_isnN, x_isnI, x_isnT, x_tr, x_bl, x_intD, x_seqT, x_seqL, x_lenT, x_lenL, x_abs, x_int, x_intB, x_tupL, x_lstT, x_max2, x_min2, x_isiI, x_isiB, x_idxT, x_idxL, x_slcL, x_zipL, List.getD_cons_zero, List.getD_cons_succ, List.set_cons_zero, List.set_cons_succ, Option.map_some, Option.bind_some, Bool.not_true, Bool.not_false, if_true, Bool.true_or, Bool.or_true, Bool.false_or, Bool.true_and, Bool.and_true, decide_true, decide_false, Bool.and_self, reduceIte, reduceCtorEq, ne_eq, not_false_eq_true, implies_true, x_fit, List.length_cons, List.length_nil, Nat.reduceAdd, Nat.reduceLeDiff, Bool.not_eq_true, decide_eq_true_eq, b_terms_in, e]
  rfl
end K52
end Ev
end

section
set_option maxRecDepth 100000
set_option maxHeartbeats 1000000
namespace Ev
open PySem PySem.Spec PyProof.Rows L2
theorem low_self {x : Int × Int} (h : gcdI x.1 x.2 = 1) : low x.1 x.2 = x := by
  unfold low
  rw [h, Int.ediv_one, Int.ediv_one]
theorem W.whole {a : Int} (h : W 150 a) : a.natAbs < 10 ^ 60 := Nat.lt_of_lt_of_le h (by decide +kernel)
theorem x_isiP {x : Int × Int} : biE (.isi .tup) [encP x] = some (.bool true) := x_isiT rfl
theorem x_lenP {x : Int × Int} : biE .len [encP x] = some (.int 2) := rfl
theorem x_seqP {x : Int × Int} : seqD (encP x) = some [.int x.1, .int x.2] := rfl
theorem x_idxP0 {x : Int × Int} : idxE (encP x) (.int 0) = some (.int x.1) := x_at0
theorem x_idxP1 {x : Int × Int} : idxE (encP x) (.int 1) = some (.int x.2) := x_at1
theorem x_isP {x : Int × Int} : cmpE .is_ (encP x) .none = some false := rfl
theorem x_tgP {x : Int × Int} {ts : List Tg} {σ : Sd} : setTg (.tup ts) (encP x) σ = setTgs ts [.int x.1, .int x.2] σ := x_tgT
namespace K52
theorem s_is_point_in {n : Nat} (h : i_is_point_in < n) {x : Int × Int} (ok : PtOk x) : Ph n i_is_point_in [encP x] none = .ok (.bool true) none := by
  rw [Ph_lt (F := d_is_point_in.F) rfl h]
  refine run_rt rfl rfl (J1 := none) ?_
  show evSs _ _ [0, 0] b_is_point_in [some (encP x), none] none = _
  have e1 := s_is_whole (n := i_is_point_in) (by decide) ok.w1.whole
  have e2 := s_is_whole (n := i_is_point_in) (by decide) ok.w2.whole
  have e := e_lc (Φ := Ph i_is_point_in) (elt := .call i_is_whole [(.var 1)]) (t := .name 1) (it := .seq (.var 0)) (ifs := []) (own := [1]) (σ := [some (encP x), none]) (J := none) (ds := [.int x.1, .int x.2]) (g := fun _ => some (.bool true)) (by simp only [x_bind, x_ok, x_pure, x_opt, x_selT, x_selF, x_seqO, x_seqR, x_seqB, x_seqC, x_rcall, x_callP, x_var, x_lit, x_tup, x_lst, x_bin, x_neg, x_not, x_cmp, x_chain, x_and, x_or, x_ite, x_idx, x_slc, x_rev, x_call, x_bi, x_callJ, x_callQ, x_nil, x_cons, x_star, x_o0, x_o1, x_if0, x_if1, x_seq, x_rng1, x_enum, x_zip, x_turn, x_asg, x_asgT, x_par, x_par0, x_par1, x_app, x_setI, x_popS, x_ex, x_ret, x_retN, x_pass, x_brk, x_cnt, x_if, x_ss0, x_ss, x_forT, x_view, x_viewF, x_keepF, x_keepT, x_hide0, x_hide1, x_hideN, x_own0, x_own1l, x_wipe0, x_wipe1, x_tg, x_tgT, x_tg0, x_tg1, x_add, x_sub, x_mul, x_lt, x_le, x_gt, x_ge, x_eq, x_ne, x_isN, x_isI, x_isT, x_isnN, x_isnI, x_isnT, x_tr, x_bl, x_intD, x_seqT, x_seqL, x_lenT, x_lenL, x_abs, x_int, x_intB, x_tupL, x_lstT, x_max2, x_min2, x_isiI, x_isiB, x_idxT, x_idxL, x_slcL, x_zipL, List.getD_cons_zero, List.getD_cons_succ, List.set_cons_zero, List.set_cons_succ, Option.map_some, Option.bind_some, Bool.not_true, Bool.not_false, if_true, Bool.true_or, Bool.or_true, Bool.false_or, Bool.true_and, Bool.and_true, decide_true, decide_false, Bool.and_self, reduceIte, reduceCtorEq, ne_eq, not_false_eq_true, implies_true, x_fit, List.length_cons, List.length_nil, Nat.reduceAdd, Nat.reduceLeDiff, Bool.not_eq_true, decide_eq_true_eq, x_seqP]) (fun d hd => by
    rcases List.mem_cons.mp hd with q | q
    · subst q; simp only [x_bind, x_ok, x_pure, x_opt, x_selT, x_selF, x_seqO, x_seqR, x_seqB, x_seqC, x_rcall, x_callP, x_var, x_lit, x_tup, x_lst, x_bin, x_neg, x_not, x_cmp, x_chain, x_and, x_or, x_ite, x_idx, x_slc, x_rev, x_call, x_bi, x_callJ, x_callQ, x_nil, x_cons, x_star, x_o0, x_o1, x_if0, x_if1, x_seq, x_rng1, x_enum, x_zip, x_turn, x_asg, x_asgT, x_par, x_par0, x_par1, x_app, x_setI, x_popS, x_ex, x_ret, x_retN, x_pass, x_brk, x_cnt, x_if, x_ss0, x_ss, x_forT, x_view, x_viewF, x_keepF, x_keepT, x_hide0, x_hide1, x_hideN, x_own0, x_own1l, x_wipe0, x_wipe1, x_tg, x_tgT, x_tg0, x_tg1, x_add, x_sub, x_mul, x_lt, x_le, x_gt, x_ge, x_eq, x_ne, x_isN, x_isI, x_isT, x_isnN, x_isnI, x_isnT, x_tr, x_bl, x_intD, x_seqT, x_seqL, x_lenT, x_lenL, x_abs, x_int, x_intB, x_tupL, x_lstT, x_max2, x_min2, x_isiI, x_isiB, x_idxT, x_idxL, x_slcL, x_zipL, List.getD_cons_zero, List.getD_cons_succ, List.set_cons_zero, List.set_cons_succ, Option.map_some, Option.bind_some, Bool.not_true, Bool.not_false, if_true, Bool.true_or, Bool.or_true, Bool.false_or, Bool.true_and, Bool.and_true, decide_true, decide_false, Bool.and_self, reduceIte, reduceCtorEq, ne_eq, not_false_eq_true, implies_true, x_fit, List.length_cons, List.length_nil, Nat.reduceAdd, Nat.reduceLeDiff, Bool.not_eq_true, decide_eq_true_eq, e1]
    · rw [List.mem_singleton] at q
      subst q; simp only [x_bind, x_ok, x_pure, x_opt, x_selT, x_selF, x_seqO, x_seqR, x_seqB, x_seqC, x_rcall, x_callP, x_var, x_lit, x_tup, x_lst, x_bin, x_neg, x_not, x_cmp, x_chain, x_and, x_or, x_ite, x_idx, x_slc, x_rev, x_call, x_bi, x_callJ, x_callQ, x_nil, x_cons, x_star, x_o0, x_o1, x_if0, x_if1, x_seq, x_rng1, x_enum, x_zip, x_turn, x_asg, x_asgT, x_par, x_par0, x_par1, x_app, x_setI, x_popS, x_ex, x_ret, x_retN, x_pass, x_brk, x_cnt, x_if, x_ss0, x_ss, x_forT, x_view, x_viewF, x_keepF, x_keepT, x_hide0, x_hide1, x_hideN, x_own0, x_own1l, x_wipe0, x_wipe1, x_tg, x_tgT, x_tg0, x_tg1, x_add, x_sub, x_mul, x_lt, x_le, x_gt, x_ge, x_eq, x_ne, x_isN, x_isI, x_isT, x_isnN, x_isnI, x_isnT, x_tr, x_bl, x_intD, x_seqT, x_seqL, x_lenT, x_lenL, x_abs, x_int, x_intB, x_tupL, x_lstT, x_max2, x_min2, x_isiI, x_isiB, x_idxT, x_idxL, x_slcL, x_zipL, List.getD_cons_zero, List.getD_cons_succ, List.set_cons_zero, List.set_cons_succ, Option.map_some, Option.bind_some, Bool.not_true, Bool.not_false, if_true, Bool.true_or, Bool.or_true, Bool.false_or, Bool.true_and, Bool.and_true, decide_true, decide_false, Bool.and_self, reduceIte, reduceCtorEq, ne_eq, not_false_eq_true, implies_true, x_fit, List.length_cons, List.length_nil, Nat.reduceAdd, Nat.reduceLeDiff, Bool.not_eq_true, decide_eq_true_eq, e2]) (by simp)
  have a : biE .all [.list (List.filterMap (fun _ => some (PyData.bool true)) [PyData.int x.1, PyData.int x.2])] = some (.bool true) := rfl
  have l := s_lowest (n := i_is_point_in) (by decide) ok.pos (ok.w1.mono (by omega)) (ok.w2.mono (by omega))
  rw [low_self ok.one] at l
  have p1 : (1 : Int) ≤ x.2 := ok.pos
  simp only [x_bind, x_ok, x_pure, x_opt, x_selT, x_selF, x_seqO, x_seqR, x_seqB, x_seqC, x_rcall, x_callP, x_var, x_lit, x_tup, x_lst, x_bin, x_neg, x_not, x_cmp, x_chain, x_and, x_or, x_ite, x_idx, x_slc, x_rev, x_call, x_bi, x_callJ, x_callQ, x_nil, x_cons, x_star, x_o0, x_o1, x_if0, x_if1, x_seq, x_rng1, x_enum, x_zip, x_turn, x_asg, x_asgT, x_par, x_par0, x_par1, x_app, x_setI, x_popS, x_ex, x_ret, x_retN, x_pass, x_brk, x_cnt, x_if, x_ss0, x_ss, x_forT, x_view, x_viewF, x_keepF, x_keepT, x_hide0, x_hide1, x_hideN, x_own0, x_own1l, x_wipe0, x_wipe1, x_tg, x_tgT, x_tg0, x_tg1, x_add, x_sub, x_mul, x_lt, x_le, x_gt, x_ge, x_eq, x_ne, x_isN, x_isI, x_isT, x_isnN, x_isnI, x_isnT, x_tr, x_bl, x_intD, x_seqT, x_seqL, x_lenT, x_lenL, x_abs, x_int, x_intB, x_tupL, x_lstT, x_max2, x_min2, x_isiI, x_isiB, x_idxT, x_idxL, x_slcL, x_zipL, List.getD_cons_zero, List.getD_cons_succ, List.set_cons_zero, List.set_cons_succ, Option.map_some, Option.bind_some, Bool.not_true, Bool.not_false, if_true, Bool.true_or, Bool.or_true, Bool.false_or, Bool.true_and, Bool.and_true, decide_true, decide_false, Bool.and_self, reduceIte, reduceCtorEq, ne_eq, not_false_eq_true, implies_true, x_fit, List.length_cons, List.length_nil, Nat.reduceAdd, Nat.reduceLeDiff, Bool.not_eq_true, decide_eq_true_eq, b_is_point_in, x_isiP, x_lenP, x_idxP0, x_idxP1, e, a, l, eq_encP, p1]
theorem s_require_point {n : Nat} (h : i_require_point < n) {x : Int × Int} (ok : PtOk x) : Ph n i_require_point [encP x] none = .ok .none none := by
  rw [Ph_lt (F := d_require_point.F) rfl h]
  refine run_nx rfl rfl (J1 := none) (σ := [some (encP x)]) ?_
  show evSs _ _ [0] b_require_point [some (encP x)] none = _
  have e := s_is_point_in (n := i_require_point) (by decide) ok
  simp only [x_bind, x_ok, x_pure, x_opt, x_selT, x_selF, x_seqO, x_seqR, x_seqB, x_seqC, x_rcall, x_callP, x_var, x_lit, x_tup, x_lst, x_bin, x_neg, x_not, x_cmp, x_chain, x_and, x_or, x_ite, x_idx, x_slc, x_rev, x_call, x_bi, x_callJ, x_callQ, x_nil, x_cons, x_star, x_o0, x_o1, x_if0, x_if1, x_seq, x_rng1, x_enum, x_zip, x_turn, x_asg, x_asgT, x_par, x_par0, x_par1, x_app, x_setI, x_popS, x_ex, x_ret, x_retN, x_pass, x_brk, x_cnt, x_if, x_ss0, x_ss, x_forT, x_view, x_viewF, x_keepF, x_keepT, x_hide0, x_hide1, x_hideN, x_own0, x_own1l, x_wipe0, x_wipe1, x_tg, x_tgT, x_tg0, x_tg1, x_add, x_sub, x_mul, x_lt, x_le, x_gt, x_ge, x_eq, x_ne, x_isN, x_isI, x_isT, x_isnN, x_isnI, x_isnT, x_tr, x_bl, x_intD, x_seqT, x_seqL, x_lenT, x_lenL, x_abs, x_int, x_intB, x_tupL, x_lstT, x_max2, x_min2, x_isiI, x_isiB, x_idxT, x_idxL, x_slcL, x_zipL, List.getD_cons_zero, List.getD_cons_succ, List.set_cons_zero, List.set_cons_succ, Option.map_some, Option.bind_some, Bool.not_true, Bool.not_false, if_true, Bool.true_or, Bool.or_true, Bool.false_or, Bool.true_and, Bool.and_true, decide_true, decide_false, Bool.and_self, reduceIte, reduceCtorEq, ne_eq, not_false_eq_true, implies_true, x_fit, List.length_cons, List.length_nil, Nat.reduceAdd, Nat.reduceLeDiff, Bool.not_eq_true, decide_eq_true_eq, b_require_point, e]
theorem s_term_at {n : Nat} (h : i_term_at < n) {x t : Int × Int} (ok : PtOk x) (h1 : 0 ≤ t.1) (h2 : t.1 ≤ 11) (h3 : -999 ≤ t.2) (h4 : t.2 ≤ 999) : Ph n i_term_at [.int t.1, .int t.2, encP x] none = .ok (encP (low (tv x.1 x.2 t) x.2)) none := by
  rw [Ph_lt (F := d_term_at.F) rfl h]
  refine run_rt rfl rfl (J1 := none) ?_
  show evSs _ _ [0, 0, 0] b_term_at [some (.int t.1), some (.int t.2), some (encP x)] none = _
  have a : W 10 t.2 := W.of (by simp; omega) (by simp; omega)
  have b : W 4 t.1 := W.of (by simp; omega) (by simp; omega)
  have m1 : mulI t.2 x.2 = some (.int (t.2 * x.2)) := mulI_W a ok.w2
  have m2 : mulI t.1 x.1 = some (.int (t.1 * x.1)) := mulI_W b ok.w1
  have l : Ph i_term_at i_lowest [.int (t.2 * x.2 + t.1 * x.1), .int x.2] none = .ok (encP (low (tv x.1 x.2 t) x.2)) none := s_lowest (n := i_term_at) (by decide) ok.pos ((tv_W h1 h2 h3 h4 ok.w1 ok.w2).mono (by omega)) (ok.w2.mono (by omega))
  simp only [x_bind, x_ok, x_pure, x_opt, x_selT, x_selF, x_seqO, x_seqR, x_seqB, x_seqC, x_rcall, x_callP, x_var, x_lit, x_tup, x_lst, x_bin, x_neg, x_not, x_cmp, x_chain, x_and, x_or, x_ite, x_idx, x_slc, x_rev, x_call, x_bi, x_callJ, x_callQ, x_nil, x_cons, x_star, x_o0, x_o1, x_if0, x_if1, x_seq, x_rng1, x_enum, x_zip, x_turn, x_asg, x_asgT, x_par, x_par0, x_par1, x_app, x_setI, x_popS, x_ex, x_ret, x_retN, x_pass, x_brk, x_cnt, x_if, x_ss0, x_ss, x_forT, x_view, x_viewF, x_keepF, x_keepT, x_hide0, x_hide1, x_hideN, x_own0, x_own1l, x_wipe0, x_wipe1, x_tg, x_tgT, x_tg0, x_tg1, x_add, x_sub, x_mul, x_lt, x_le, x_gt, x_ge, x_eq, x_ne, x_isN, x_isI, x_isT, x_isnN, x_isnI, x_isnT, x_tr, x_bl, x_intD, x_seqT, x_seqL, x_lenT, x_lenL, x_abs, x_int, x_intB, x_tupL, x_lstT, x_max2, x_min2, x_isiI, x_isiB, x_idxT, x_idxL, x_slcL, x_zipL, List.getD_cons_zero, List.getD_cons_succ, List.set_cons_zero, List.set_cons_succ, Option.map_some, Option.bind_some, Bool.not_true, Bool.not_false, if_true, Bool.true_or, Bool.or_true, Bool.false_or, Bool.true_and, Bool.and_true, decide_true, decide_false, Bool.and_self, reduceIte, reduceCtorEq, ne_eq, not_false_eq_true, implies_true, x_fit, List.length_cons, List.length_nil, Nat.reduceAdd, Nat.reduceLeDiff, Bool.not_eq_true, decide_eq_true_eq, b_term_at, x_idxP0, x_idxP1, m1, m2, l]
def encV (q : Int) : Option Int → PyData
  | none => .none
  | some m => encP (low m q)
theorem s_value_in {n : Nat} (h : i_value_in < n) {P : List (Option Int)} (okP : POk P) {x : Int × Int} (ok : PtOk x) : Ph n i_value_in [poly P, encP x] none = .ok (encV x.2 ((tms 0 P).foldl (vstep x.1 x.2) none)) none := by
  rw [Ph_lt (F := d_value_in.F) rfl h]
  have et := s_terms_in (n := i_value_in) (by decide) okP
  have el : ∀ u v : Int × Int, W 400 u.1 → W 400 u.2 → W 400 v.1 → W 400 v.2 → Ph i_value_in i_less [encP u, encP v] none = .ok (.bool (decide (u.1 * v.2 < v.1 * u.2))) none := fun u v a b c d => s_less (by decide) a b c d
  have loop : ∀ (T : List (Int × Int)) (m : Option Int) (y3 y4 y5 : Option PyData), (∀ t ∈ T, 0 ≤ t.1 ∧ t.1 ≤ 11 ∧ -999 ≤ t.2 ∧ t.2 ≤ 999) → (∀ k, m = some k → W 161 k) →
      ∃ z3 z4 z5, forLoop (forT (Ph i_value_in) 1000 [0, 0, 0, 0, 0, 0] (.tup [(.name 3), (.name 4)]) [.asg 5 0 false (.call 15 [(.var 3), (.var 4), (.var 1)]), .asg 2 0 false (.ite (.or (.cmp .is_ (.var 2) (.lit .none)) (.call 11 [(.var 2), (.var 5)])) (.var 5) (.var 2))]) (T.map encP) [some (poly P), some (encP x), some (encV x.2 m), y3, y4, y5] none
        = .ok (.nx [some (poly P), some (encP x), some (encV x.2 (T.foldl (vstep x.1 x.2) m)), z3, z4, z5]) none := by
    intro T
    induction T with
    | nil => intro m y3 y4 y5 _ _; exact ⟨y3, y4, y5, rfl⟩
    | cons t T ih =>
      intro m y3 y4 y5 hT hm
      obtain ⟨h1, h2, h3, h4⟩ := hT t (List.mem_cons_self ..)
      have w := tv_W h1 h2 h3 h4 ok.w1 ok.w2
      have e1 := s_term_at (n := i_value_in) (by decide) ok h1 h2 h3 h4
      have step : forT (Ph i_value_in) 1000 [0, 0, 0, 0, 0, 0] (.tup [(.name 3), (.name 4)]) [.asg 5 0 false (.call 15 [(.var 3), (.var 4), (.var 1)]), .asg 2 0 false (.ite (.or (.cmp .is_ (.var 2) (.lit .none)) (.call 11 [(.var 2), (.var 5)])) (.var 5) (.var 2))] (encP t) [some (poly P), some (encP x), some (encV x.2 m), y3, y4, y5] none
          = .ok (.nx [some (poly P), some (encP x), some (encV x.2 (vstep x.1 x.2 m t)), some (.int t.1), some (.int t.2), some (encP (low (tv x.1 x.2 t) x.2))]) none := by
        cases m with
        | none => simp only [x_bind, x_ok, x_pure, x_opt, x_selT, x_selF, x_seqO, x_seqR, x_seqB, x_seqC, x_rcall, x_callP, x_var, x_lit, x_tup, x_lst, x_bin, x_neg, x_not, x_cmp, x_chain, x_and, x_or, x_ite, x_idx, x_slc, x_rev, x_call, x_bi, x_callJ, x_callQ, x_nil, x_cons, x_star, x_o0, x_o1, x_if0, x_if1, x_seq, x_rng1, x_enum, x_zip, x_turn, x_asg, x_asgT, x_par, x_par0, x_par1, x_app, x_setI, x_popS, x_ex, x_ret, x_retN, x_pass, x_brk, x_cnt, x_if, x_ss0, x_ss, x_forT, x_view, x_viewF, x_keepF, x_keepT, x_hide0, x_hide1, x_hideN, x_own0, x_own1l, x_wipe0, x_wipe1, x_tg, x_tgT, x_tg0, x_tg1, x_add, x_sub, x_mul, x_lt, x_le, x_gt, x_ge, x_eq, x_ne, x_isN, x_isI, x_isT, x_isnN, x_isnI, x_isnT, x_tr, x_bl, x_intD, x_seqT, x_seqL, x_lenT, x_lenL, x_abs, x_int, x_intB, x_tupL, x_lstT, x_max2, x_min2, x_isiI, x_isiB, x_idxT, x_idxL, x_slcL, x_zipL, List.getD_cons_zero, List.getD_cons_succ, List.set_cons_zero, List.set_cons_succ, Option.map_some, Option.bind_some, Bool.not_true, Bool.not_false, if_true, Bool.true_or, Bool.or_true, Bool.false_or, Bool.true_and, Bool.and_true, decide_true, decide_false, Bool.and_self, reduceIte, reduceCtorEq, ne_eq, not_false_eq_true, implies_true, x_fit, List.length_cons, List.length_nil, Nat.reduceAdd, Nat.reduceLeDiff, Bool.not_eq_true, decide_eq_true_eq, x_tgP, e1, encV, vstep]
        | some k =>
          have wk := hm k rfl
          have l1 := low_W ok.pos wk ok.w2
          have l2 := low_W ok.pos w ok.w2
          have e2 := el (low k x.2) (low (tv x.1 x.2 t) x.2) (l1.1.mono (by omega)) (l1.2.mono (by omega)) (l2.1.mono (by omega)) (l2.2.mono (by omega))
          have e3 : decide ((low k x.2).1 * (low (tv x.1 x.2 t) x.2).2 < (low (tv x.1 x.2 t) x.2).1 * (low k x.2).2) = decide (k < tv x.1 x.2 t) := by
            apply decide_eq_decide.mpr
            rw [low_lt ok.pos ok.pos]
            exact ⟨fun z => Int.lt_of_mul_lt_mul_right z (Int.le_of_lt ok.pos), fun z => Int.mul_lt_mul_of_pos_right z ok.pos⟩
          rw [e3] at e2
          by_cases c : k < tv x.1 x.2 t
          · have e4 : decide (k < tv x.1 x.2 t) = true := decide_eq_true c
            rw [e4] at e2
            simp only [x_bind, x_ok, x_pure, x_opt, x_selT, x_selF, x_seqO, x_seqR, x_seqB, x_seqC, x_rcall, x_callP, x_var, x_lit, x_tup, x_lst, x_bin, x_neg, x_not, x_cmp, x_chain, x_and, x_or, x_ite, x_idx, x_slc, x_rev, x_call, x_bi, x_callJ, x_callQ, x_nil, x_cons, x_star, x_o0, x_o1, x_if0, x_if1, x_seq, x_rng1, x_enum, x_zip, x_turn, x_asg, x_asgT, x_par, x_par0, x_par1, x_app, x_setI, x_popS, x_ex, x_ret, x_retN, x_pass, x_brk, x_cnt, x_if, x_ss0, x_ss, x_forT, x_view, x_viewF, x_keepF, x_keepT, x_hide0, x_hide1, x_hideN, x_own0, x_own1l, x_wipe0, x_wipe1, x_tg, x_tgT, x_tg0, x_tg1, x_add, x_sub, x_mul, x_lt, x_le, x_gt, x_ge, x_eq, x_ne, x_isN, x_isI, x_isT, x_isnN, x_isnI, x_isnT, x_tr, x_bl, x_intD, x_seqT, x_seqL, x_lenT, x_lenL, x_abs, x_int, x_intB, x_tupL, x_lstT, x_max2, x_min2, x_isiI, x_isiB, x_idxT, x_idxL, x_slcL, x_zipL, List.getD_cons_zero, List.getD_cons_succ, List.set_cons_zero, List.set_cons_succ, Option.map_some, Option.bind_some, Bool.not_true, Bool.not_false, if_true, Bool.true_or, Bool.or_true, Bool.false_or, Bool.true_and, Bool.and_true, decide_true, decide_false, Bool.and_self, reduceIte, reduceCtorEq, ne_eq, not_false_eq_true, implies_true, x_fit, List.length_cons, List.length_nil, Nat.reduceAdd, Nat.reduceLeDiff, Bool.not_eq_true, decide_eq_true_eq, x_tgP, e1, encV, vstep, x_isP, e2, c]
          · have e4 : decide (k < tv x.1 x.2 t) = false := decide_eq_false c
            rw [e4] at e2
            simp only [x_bind, x_ok, x_pure, x_opt, x_selT, x_selF, x_seqO, x_seqR, x_seqB, x_seqC, x_rcall, x_callP, x_var, x_lit, x_tup, x_lst, x_bin, x_neg, x_not, x_cmp, x_chain, x_and, x_or, x_ite, x_idx, x_slc, x_rev, x_call, x_bi, x_callJ, x_callQ, x_nil, x_cons, x_star, x_o0, x_o1, x_if0, x_if1, x_seq, x_rng1, x_enum, x_zip, x_turn, x_asg, x_asgT, x_par, x_par0, x_par1, x_app, x_setI, x_popS, x_ex, x_ret, x_retN, x_pass, x_brk, x_cnt, x_if, x_ss0, x_ss, x_forT, x_view, x_viewF, x_keepF, x_keepT, x_hide0, x_hide1, x_hideN, x_own0, x_own1l, x_wipe0, x_wipe1, x_tg, x_tgT, x_tg0, x_tg1, x_add, x_sub, x_mul, x_lt, x_le, x_gt, x_ge, x_eq, x_ne, x_isN, x_isI, x_isT, x_isnN, x_isnI, x_isnT, x_tr, x_bl, x_intD, x_seqT, x_seqL, x_lenT, x_lenL, x_abs, x_int, x_intB, x_tupL, x_lstT, x_max2, x_min2, x_isiI, x_isiB, x_idxT, x_idxL, x_slcL, x_zipL, List.getD_cons_zero, List.getD_cons_succ, List.set_cons_zero, List.set_cons_succ, Option.map_some, Option.bind_some, Bool.not_true, Bool.not_false, if_true, Bool.true_or, Bool.or_true, Bool.false_or, Bool.true_and, Bool.and_true, decide_true, decide_false, Bool.and_self, reduceIte, reduceCtorEq, ne_eq, not_false_eq_true, implies_true, x_fit, List.length_cons, List.length_nil, Nat.reduceAdd, Nat.reduceLeDiff, Bool.not_eq_true, decide_eq_true_eq, x_tgP, e1, encV, vstep, x_isP, e2, c]
      rw [List.map_cons, for_cons step]
      have hk : ∀ k, vstep x.1 x.2 m t = some k → W 161 k := by
        intro k hk
        cases m with
        | none => cases hk; exact w
        | some j =>
          have wj := hm j rfl
          have : k = if j < tv x.1 x.2 t then tv x.1 x.2 t else j := (Option.some.inj hk).symm
          subst this
          split
          · exact w
          · exact wj
      exact ih _ _ _ _ (fun s hs => hT s (List.mem_cons_of_mem _ hs)) hk
  obtain ⟨z3, z4, z5, lp⟩ := loop (tms 0 P) none none none none (fun t ht => okP.term ht) (fun k hk => by cases hk)
  have e := e_for (Φ := Ph i_value_in) (fuel := 1000) (M := [0, 0, 0, 0, 0, 0]) (b := false) (t := .tup [(.name 3), (.name 4)]) (it := .seq (.call 10 [(.var 0)])) (σ := [some (poly P), some (encP x), some .none, none, none, none]) (J := none) (J1 := none) (ds := (tms 0 P).map encP) (by simp only [x_bind, x_ok, x_pure, x_opt, x_selT, x_selF, x_seqO, x_seqR, x_seqB, x_seqC, x_rcall, x_callP, x_var, x_lit, x_tup, x_lst, x_bin, x_neg, x_not, x_cmp, x_chain, x_and, x_or, x_ite, x_idx, x_slc, x_rev, x_call, x_bi, x_callJ, x_callQ, x_nil, x_cons, x_star, x_o0, x_o1, x_if0, x_if1, x_seq, x_rng1, x_enum, x_zip, x_turn, x_asg, x_asgT, x_par, x_par0, x_par1, x_app, x_setI, x_popS, x_ex, x_ret, x_retN, x_pass, x_brk, x_cnt, x_if, x_ss0, x_ss, x_forT, x_view, x_viewF, x_keepF, x_keepT, x_hide0, x_hide1, x_hideN, x_own0, x_own1l, x_wipe0, x_wipe1, x_tg, x_tgT, x_tg0, x_tg1, x_add, x_sub, x_mul, x_lt, x_le, x_gt, x_ge, x_eq, x_ne, x_isN, x_isI, x_isT, x_isnN, x_isnI, x_isnT, x_tr, x_bl, x_intD, x_seqT, x_seqL, x_lenT, x_lenL, x_abs, x_int, x_intB, x_tupL, x_lstT, x_max2, x_min2, x_isiI, x_isiB, x_idxT, x_idxL, x_slcL, x_zipL, List.getD_cons_zero, List.getD_cons_succ, List.set_cons_zero, List.set_cons_succ, Option.map_some, Option.bind_some, Bool.not_true, Bool.not_false, if_true, Bool.true_or, Bool.or_true, Bool.false_or, Bool.true_and, Bool.and_true, decide_true, decide_false, Bool.and_self, reduceIte, reduceCtorEq, ne_eq, not_false_eq_true, implies_true, x_fit, List.length_cons, List.length_nil, Nat.reduceAdd, Nat.reduceLeDiff, Bool.not_eq_true, decide_eq_true_eq, et]) lp
  refine run_rt rfl rfl (J1 := none) ?_
  show evSs _ _ [0, 0, 0, 0, 0, 0] b_value_in [some (poly P), some (encP x), none, none, none, none] none = _
  simp only [x_bind, x_ok, x_pure, x_opt, x_selT, x_selF, x_seqO, x_seqR, x_seqB, x_seqC, x_rcall, x_callP, x_var, x_lit, x_tup, x_lst, x_bin, x_neg, x_not, x_cmp, x_chain, x_and, x_or, x_ite, x_idx, x_slc, x_rev, x_call, x_bi, x_callJ, x_callQ, x_nil, x_cons, x_star, x_o0, x_o1, x_if0, x_if1, x_seq, x_rng1, x_enum, x_zip, x_turn, x_asg, x_asgT, x_par, x_par0, x_par1, x_app, x_setI, x_popS, x_ex, x_ret, x_retN, x_pass, x_brk, x_cnt, x_if, x_ss0, x_ss, x_forT, x_view, x_viewF, x_keepF, x_keepT, x_hide0, x_hide1, x_hideN, x_own0, x_own1l, x_wipe0, x_wipe1, x_tg, x_tgT, x_tg0, x_tg1, x_add, x_sub, x_mul, x_lt, x_le, x_gt, x_ge, x_eq, x_ne, x_isN, x_isI, x_isT, x_isnN, x_isnI, x_isnT, x_tr, x_bl, x_intD, x_seqT, x_seqL, x_lenT, x_lenL, x_abs, x_int, x_intB, x_tupL, x_lstT, x_max2, x_min2, x_isiI, x_isiB, x_idxT, x_idxL, x_slcL, x_zipL, List.getD_cons_zero, List.getD_cons_succ, List.set_cons_zero, List.set_cons_succ, Option.map_some, Option.bind_some, Bool.not_true, Bool.not_false, if_true, Bool.true_or, Bool.or_true, Bool.false_or, Bool.true_and, Bool.and_true, decide_true, decide_false, Bool.and_self, reduceIte, reduceCtorEq, ne_eq, not_false_eq_true, implies_true, x_fit, List.length_cons, List.length_nil, Nat.reduceAdd, Nat.reduceLeDiff, Bool.not_eq_true, decide_eq_true_eq, b_value_in, e]
end K52
end Ev
end

section
set_option maxRecDepth 100000
set_option maxHeartbeats 1000000
namespace Ev
open PySem PySem.Spec PyProof.Rows L2
theorem head_at {xs : List PyData} {x : PyData} : atI (x :: xs) 0 = some x := x_at0
theorem last_at {xs : List PyData} (h : xs ≠ []) : atI xs (-1) = some (xs.getLast h) := by rw [atI_last, List.getLast?_eq_some_getLast h]
theorem POk.ne {P : List (Option Int)} (ok : POk P) : ∃ o r, P = o :: r := by
  have := ok.lo
  cases P with
  | nil => simp at this
  | cons o r => exact ⟨o, r, rfl⟩
theorem tms_len {P : List (Option Int)} : ∀ {i : Int}, (tms i P).length ≤ P.length := by
  induction P with
  | nil => intro i; exact Nat.le_refl _
  | cons o P ih =>
    intro i
    cases o with
    | none => exact Nat.le_succ_of_le ih
    | some e => exact Nat.succ_le_succ ih
theorem fv_pt {P : List (Option Int)} (okP : POk P) {x : Int × Int} (ok : PtOk x) : 0 < (fv P x).2 ∧ gcdI (fv P x).1 (fv P x).2 = 1 ∧ W 161 (fv P x).1 ∧ W 150 (fv P x).2 := by
  obtain ⟨_, ⟨t, ht, e⟩, _⟩ := vm_spec (p := x.1) (q := x.2) (tms_ne okP)
  obtain ⟨h1, h2, h3, h4⟩ := okP.term ht
  have w := tv_W h1 h2 h3 h4 ok.w1 ok.w2
  rw [e] at w
  have l := low_W ok.pos w ok.w2
  exact ⟨low_pos ok.pos, gcd_low ok.pos, l.1, l.2⟩
/-- what steps_at tells -/
def stepsD (P : List (Option Int)) (x : Int × Int) : PyData := .tuple [.int ((tops (tms 0 P) x.1 x.2).head?.getD (0, 0)).1, .int ((tops (tms 0 P) x.1 x.2).getLast?.getD (0, 0)).1]
theorem tops_map {T : List (Int × Int)} {p q : Int} : T.filterMap (fun t => if tv p q t = vm T p q then some (PyData.int t.1) else none) = (tops T p q).map fun t => .int t.1 := by
  unfold tops
  generalize vm T p q = m
  induction T with
  | nil => rfl
  | cons t T ih =>
    rw [List.filterMap_cons, List.filter_cons]
    by_cases c : tv p q t = m
    · rw [if_pos c, decide_eq_true c, if_pos rfl, ih]; rfl
    · rw [if_neg c, decide_eq_false c, if_neg (by decide), ih]
namespace K52
theorem s_value_in' {n : Nat} (h : i_value_in < n) {P : List (Option Int)} (okP : POk P) {x : Int × Int} (ok : PtOk x) : Ph n i_value_in [poly P, encP x] none = .ok (encP (fv P x)) none := by
  rw [s_value_in h okP ok, (vm_spec (tms_ne okP)).1]; rfl
theorem s_value_at {n : Nat} (h : i_value_at < n) {P : List (Option Int)} (okP : POk P) {x : Int × Int} (ok : PtOk x) : Ph n i_value_at [poly P, encP x] none = .ok (encP (fv P x)) none := by
  rw [Ph_lt (F := d_value_at.F) rfl h]
  refine run_rt rfl rfl (J1 := none) ?_
  show evSs _ _ [0, 0] b_value_at [some (poly P), some (encP x)] none = _
  have e1 := s_require_poly (n := i_value_at) (by decide) okP
  have e2 := s_require_point (n := i_value_at) (by decide) ok
  have e3 := s_value_in' (n := i_value_at) (by decide) okP ok
  simp only [x_bind, x_ok, x_pure, x_opt, x_selT, x_selF, x_seqO, x_seqR, x_seqB, x_seqC, x_rcall, x_callP, x_var, x_lit, x_tup, x_lst, x_bin, x_neg, x_not, x_cmp, x_chain, x_and, x_or, x_ite, x_idx, x_slc, x_rev, x_call, x_bi, x_callJ, x_callQ, x_nil, x_cons, x_star, x_o0, x_o1, x_if0, x_if1, x_seq, x_rng1, x_enum, x_zip, x_turn, x_asg, x_asgT, x_par, x_par0, x_par1, x_app, x_setI, x_popS, x_ex, x_ret, x_retN, x_pass, x_brk, x_cnt, x_if, x_ss0, x_ss, x_forT, x_view, x_viewF, x_keepF, x_keepT, x_hide0, x_hide1, x_hideN, x_own0, x_own1l, x_wipe0, x_wipe1, x_tg, x_tgT, x_tg0, x_tg1, x_add, x_sub, x_mul, x_lt, x_le, x_gt, x_ge, x_eq, x_ne, x_isN, x_isI, x_isT, x_isnN, x_isnI, x_isnT, x_tr, x_bl, x_intD, x_seqT, x_seqL, x_lenT, x_lenL, x_abs, x_int, x_intB, x_tupL, x_lstT, x_max2, x_min2, x_isiI, x_isiB, x_idxT, x_idxL, x_slcL, x_zipL, List.getD_cons_zero, List.getD_cons_succ, List.set_cons_zero, List.set_cons_succ, Option.map_some, Option.bind_some, Bool.not_true, Bool.not_false, if_true, Bool.true_or, Bool.or_true, Bool.false_or, Bool.true_and, Bool.and_true, decide_true, decide_false, Bool.and_self, reduceIte, reduceCtorEq, ne_eq, not_false_eq_true, implies_true, x_fit, List.length_cons, List.length_nil, Nat.reduceAdd, Nat.reduceLeDiff, Bool.not_eq_true, decide_eq_true_eq, b_value_at, e1, e2, e3]
theorem s_steps_at {n : Nat} (h : i_steps_at < n) {P : List (Option Int)} (okP : POk P) {x : Int × Int} (ok : PtOk x) : Ph n i_steps_at [poly P, encP x] none = .ok (stepsD P x) none := by
  rw [Ph_lt (F := d_steps_at.F) rfl h]
  refine run_rt rfl rfl (J1 := none) ?_
  show evSs _ _ [0, 0, 0, 0, 0] b_steps_at [some (poly P), some (encP x), none, none, none] none = _
  have e1 := s_require_poly (n := i_steps_at) (by decide) okP
  have e2 := s_require_point (n := i_steps_at) (by decide) ok
  have e3 := s_value_in' (n := i_steps_at) (by decide) okP ok
  have e4 := s_terms_in (n := i_steps_at) (by decide) okP
  have e := e_lcm (Φ := Ph i_steps_at) (elt := .var 3) (t := .tup [(.name 3), (.name 4)]) (it := .seq (.call 10 [(.var 0)])) (ifs := [(.cmp .eq (.call 15 [(.var 3), (.var 4), (.var 1)]) (.call 16 [(.var 0), (.var 1)]))]) (own := [3, 4]) (σ := [some (poly P), some (encP x), none, none, none]) (J := none) (T := tms 0 P) (enc := encP) (g := fun t => if tv x.1 x.2 t = vm (tms 0 P) x.1 x.2 then some (PyData.int t.1) else none) (by simp only [x_bind, x_ok, x_pure, x_opt, x_selT, x_selF, x_seqO, x_seqR, x_seqB, x_seqC, x_rcall, x_callP, x_var, x_lit, x_tup, x_lst, x_bin, x_neg, x_not, x_cmp, x_chain, x_and, x_or, x_ite, x_idx, x_slc, x_rev, x_call, x_bi, x_callJ, x_callQ, x_nil, x_cons, x_star, x_o0, x_o1, x_if0, x_if1, x_seq, x_rng1, x_enum, x_zip, x_turn, x_asg, x_asgT, x_par, x_par0, x_par1, x_app, x_setI, x_popS, x_ex, x_ret, x_retN, x_pass, x_brk, x_cnt, x_if, x_ss0, x_ss, x_forT, x_view, x_viewF, x_keepF, x_keepT, x_hide0, x_hide1, x_hideN, x_own0, x_own1l, x_wipe0, x_wipe1, x_tg, x_tgT, x_tg0, x_tg1, x_add, x_sub, x_mul, x_lt, x_le, x_gt, x_ge, x_eq, x_ne, x_isN, x_isI, x_isT, x_isnN, x_isnI, x_isnT, x_tr, x_bl, x_intD, x_seqT, x_seqL, x_lenT, x_lenL, x_abs, x_int, x_intB, x_tupL, x_lstT, x_max2, x_min2, x_isiI, x_isiB, x_idxT, x_idxL, x_slcL, x_zipL, List.getD_cons_zero, List.getD_cons_succ, List.set_cons_zero, List.set_cons_succ, Option.map_some, Option.bind_some, Bool.not_true, Bool.not_false, if_true, Bool.true_or, Bool.or_true, Bool.false_or, Bool.true_and, Bool.and_true, decide_true, decide_false, Bool.and_self, reduceIte, reduceCtorEq, ne_eq, not_false_eq_true, implies_true, x_fit, List.length_cons, List.length_nil, Nat.reduceAdd, Nat.reduceLeDiff, Bool.not_eq_true, decide_eq_true_eq, e4]) (fun t ht => by
    obtain ⟨h1, h2, h3, h4⟩ := okP.term ht
    have e5 := s_term_at (n := i_steps_at) (by decide) ok h1 h2 h3 h4
    have e6 : decide (low (tv x.1 x.2 t) x.2 = fv P x) = decide (tv x.1 x.2 t = vm (tms 0 P) x.1 x.2) := decide_eq_decide.mpr (low_inj ok.pos)
    by_cases c : tv x.1 x.2 t = vm (tms 0 P) x.1 x.2
    · rw [decide_eq_true c] at e6
      rw [if_pos c]
      simp only [x_bind, x_ok, x_pure, x_opt, x_selT, x_selF, x_seqO, x_seqR, x_seqB, x_seqC, x_rcall, x_callP, x_var, x_lit, x_tup, x_lst, x_bin, x_neg, x_not, x_cmp, x_chain, x_and, x_or, x_ite, x_idx, x_slc, x_rev, x_call, x_bi, x_callJ, x_callQ, x_nil, x_cons, x_star, x_o0, x_o1, x_if0, x_if1, x_seq, x_rng1, x_enum, x_zip, x_turn, x_asg, x_asgT, x_par, x_par0, x_par1, x_app, x_setI, x_popS, x_ex, x_ret, x_retN, x_pass, x_brk, x_cnt, x_if, x_ss0, x_ss, x_forT, x_view, x_viewF, x_keepF, x_keepT, x_hide0, x_hide1, x_hideN, x_own0, x_own1l, x_wipe0, x_wipe1, x_tg, x_tgT, x_tg0, x_tg1, x_add, x_sub, x_mul, x_lt, x_le, x_gt, x_ge, x_eq, x_ne, x_isN, x_isI, x_isT, x_isnN, x_isnI, x_isnT, x_tr, x_bl, x_intD, x_seqT, x_seqL, x_lenT, x_lenL, x_abs, x_int, x_intB, x_tupL, x_lstT, x_max2, x_min2, x_isiI, x_isiB, x_idxT, x_idxL, x_slcL, x_zipL, List.getD_cons_zero, List.getD_cons_succ, List.set_cons_zero, List.set_cons_succ, Option.map_some, Option.bind_some, Bool.not_true, Bool.not_false, if_true, Bool.true_or, Bool.or_true, Bool.false_or, Bool.true_and, Bool.and_true, decide_true, decide_false, Bool.and_self, reduceIte, reduceCtorEq, ne_eq, not_false_eq_true, implies_true, x_fit, List.length_cons, List.length_nil, Nat.reduceAdd, Nat.reduceLeDiff, Bool.not_eq_true, decide_eq_true_eq, x_tgP, e5, e3, eq_encP, e6]
    · rw [decide_eq_false c] at e6
      rw [if_neg c]
      simp only [x_bind, x_ok, x_pure, x_opt, x_selT, x_selF, x_seqO, x_seqR, x_seqB, x_seqC, x_rcall, x_callP, x_var, x_lit, x_tup, x_lst, x_bin, x_neg, x_not, x_cmp, x_chain, x_and, x_or, x_ite, x_idx, x_slc, x_rev, x_call, x_bi, x_callJ, x_callQ, x_nil, x_cons, x_star, x_o0, x_o1, x_if0, x_if1, x_seq, x_rng1, x_enum, x_zip, x_turn, x_asg, x_asgT, x_par, x_par0, x_par1, x_app, x_setI, x_popS, x_ex, x_ret, x_retN, x_pass, x_brk, x_cnt, x_if, x_ss0, x_ss, x_forT, x_view, x_viewF, x_keepF, x_keepT, x_hide0, x_hide1, x_hideN, x_own0, x_own1l, x_wipe0, x_wipe1, x_tg, x_tgT, x_tg0, x_tg1, x_add, x_sub, x_mul, x_lt, x_le, x_gt, x_ge, x_eq, x_ne, x_isN, x_isI, x_isT, x_isnN, x_isnI, x_isnT, x_tr, x_bl, x_intD, x_seqT, x_seqL, x_lenT, x_lenL, x_abs, x_int, x_intB, x_tupL, x_lstT, x_max2, x_min2, x_isiI, x_isiB, x_idxT, x_idxL, x_slcL, x_zipL, List.getD_cons_zero, List.getD_cons_succ, List.set_cons_zero, List.set_cons_succ, Option.map_some, Option.bind_some, Bool.not_true, Bool.not_false, if_true, Bool.true_or, Bool.or_true, Bool.false_or, Bool.true_and, Bool.and_true, decide_true, decide_false, Bool.and_self, reduceIte, reduceCtorEq, ne_eq, not_false_eq_true, implies_true, x_fit, List.length_cons, List.length_nil, Nat.reduceAdd, Nat.reduceLeDiff, Bool.not_eq_true, decide_eq_true_eq, x_tgP, e5, e3, eq_encP, e6]) (Nat.le_trans tms_len (by have := okP.hi; omega))
  rw [tops_map] at e
  have ne := tops_ne (p := x.1) (q := x.2) (tms_ne okP)
  unfold stepsD
  generalize tops (tms 0 P) x.1 x.2 = L at *
  cases L with
  | nil => exact absurd rfl ne
  | cons t L =>
    have a0 : atI (List.map (fun t : Int × Int => PyData.int t.1) (t :: L)) 0 = some (.int t.1) := x_at0
    have a1 : atI (List.map (fun t : Int × Int => PyData.int t.1) (t :: L)) (-1) = some (.int (((t :: L).getLast?.getD (0, 0)).1)) := by
      rw [atI_last, List.getLast?_map, List.getLast?_cons]; rfl
    simp only [x_bind, x_ok, x_pure, x_opt, x_selT, x_selF, x_seqO, x_seqR, x_seqB, x_seqC, x_rcall, x_callP, x_var, x_lit, x_tup, x_lst, x_bin, x_neg, x_not, x_cmp, x_chain, x_and, x_or, x_ite, x_idx, x_slc, x_rev, x_call, x_bi, x_callJ, x_callQ, x_nil, x_cons, x_star, x_o0, x_o1, x_if0, x_if1, x_seq, x_rng1, x_enum, x_zip, x_turn, x_asg, x_asgT, x_par, x_par0, x_par1, x_app, x_setI, x_popS, x_ex, x_ret, x_retN, x_pass, x_brk, x_cnt, x_if, x_ss0, x_ss, x_forT, x_view, x_viewF, x_keepF, x_keepT, x_hide0, x_hide1, x_hideN, x_own0, x_own1l, x_wipe0, x_wipe1, x_tg, x_tgT, x_tg0, x_tg1, x_add, x_sub, x_mul, x_lt, x_le, x_gt, x_ge, x_eq, x_ne, x_isN, x_isI, x_isT, x_isnN, x_isnI, x_isnT, x_tr, x_bl, x_intD, x_seqT, x_seqL, x_lenT, x_lenL, x_abs, x_int, x_intB, x_tupL, x_lstT, x_max2, x_min2, x_isiI, x_isiB, x_idxT, x_idxL, x_slcL, x_zipL, List.getD_cons_zero, List.getD_cons_succ, List.set_cons_zero, List.set_cons_succ, Option.map_some, Option.bind_some, Bool.not_true, Bool.not_false, if_true, Bool.true_or, Bool.or_true, Bool.false_or, Bool.true_and, Bool.and_true, decide_true, decide_false, Bool.and_self, reduceIte, reduceCtorEq, ne_eq, not_false_eq_true, implies_true, x_fit, List.length_cons, List.length_nil, Nat.reduceAdd, Nat.reduceLeDiff, Bool.not_eq_true, decide_eq_true_eq, b_steps_at, e1, e2, e, a0, a1]
    rfl
theorem s__law_lowest {n : Nat} (h : i__law_lowest < n) {a b : Int} (h0 : 0 < b) (ha : W 400 a) (hb : W 400 b) : Ph n i__law_lowest [.int a, .int b] none = .ok (encP (low a b)) none := by
  rw [Ph_lt (F := d__law_lowest.F) rfl h]
  refine run_rt rfl rfl (J1 := none) ?_
  have l := gcd_loop (J := none) (c := fun σ => Mo.bind (evE (Ph i__law_lowest) (.cmp .gt (.var 4) (.lit (.int (0)))) σ) fun x => Mo.opt (truthD x)) (f := fun σ => evSs (Ph i__law_lowest) 1000 d__law_lowest.F.M [.par [3, 4] false [(.var 4), (.bin .mod (.var 3) (.var 4))]] σ) (S := fun x y => [some (.int a), some (.int b), none, some (.int x), some (.int y)])
    (fun x y h1 h2 => by
      have e : decide (0 < y) = decide (y ≠ 0) := decide_eq_decide.mpr (by omega)
      simp only [x_bind, x_ok, x_pure, x_opt, x_selT, x_selF, x_seqO, x_seqR, x_seqB, x_seqC, x_rcall, x_callP, x_var, x_lit, x_tup, x_lst, x_bin, x_neg, x_not, x_cmp, x_chain, x_and, x_or, x_ite, x_idx, x_slc, x_rev, x_call, x_bi, x_callJ, x_callQ, x_nil, x_cons, x_star, x_o0, x_o1, x_if0, x_if1, x_seq, x_rng1, x_enum, x_zip, x_turn, x_asg, x_asgT, x_par, x_par0, x_par1, x_app, x_setI, x_popS, x_ex, x_ret, x_retN, x_pass, x_brk, x_cnt, x_if, x_ss0, x_ss, x_forT, x_view, x_viewF, x_keepF, x_keepT, x_hide0, x_hide1, x_hideN, x_own0, x_own1l, x_wipe0, x_wipe1, x_tg, x_tgT, x_tg0, x_tg1, x_add, x_sub, x_mul, x_lt, x_le, x_gt, x_ge, x_eq, x_ne, x_isN, x_isI, x_isT, x_isnN, x_isnI, x_isnT, x_tr, x_bl, x_intD, x_seqT, x_seqL, x_lenT, x_lenL, x_abs, x_int, x_intB, x_tupL, x_lstT, x_max2, x_min2, x_isiI, x_isiB, x_idxT, x_idxL, x_slcL, x_zipL, List.getD_cons_zero, List.getD_cons_succ, List.set_cons_zero, List.set_cons_succ, Option.map_some, Option.bind_some, Bool.not_true, Bool.not_false, if_true, Bool.true_or, Bool.or_true, Bool.false_or, Bool.true_and, Bool.and_true, decide_true, decide_false, Bool.and_self, reduceIte, reduceCtorEq, ne_eq, not_false_eq_true, implies_true, x_fit, List.length_cons, List.length_nil, Nat.reduceAdd, Nat.reduceLeDiff, Bool.not_eq_true, decide_eq_true_eq, e]) (fun x y h1 h2 => by
      have e : binE .mod (.int x) (.int y) = some (.int (x % y)) := mod_W h2
      show evSs _ _ [0, 0, 0, 0, 0] _ _ _ = _
      simp only [x_bind, x_ok, x_pure, x_opt, x_selT, x_selF, x_seqO, x_seqR, x_seqB, x_seqC, x_rcall, x_callP, x_var, x_lit, x_tup, x_lst, x_bin, x_neg, x_not, x_cmp, x_chain, x_and, x_or, x_ite, x_idx, x_slc, x_rev, x_call, x_bi, x_callJ, x_callQ, x_nil, x_cons, x_star, x_o0, x_o1, x_if0, x_if1, x_seq, x_rng1, x_enum, x_zip, x_turn, x_asg, x_asgT, x_par, x_par0, x_par1, x_app, x_setI, x_popS, x_ex, x_ret, x_retN, x_pass, x_brk, x_cnt, x_if, x_ss0, x_ss, x_forT, x_view, x_viewF, x_keepF, x_keepT, x_hide0, x_hide1, x_hideN, x_own0, x_own1l, x_wipe0, x_wipe1, x_tg, x_tgT, x_tg0, x_tg1, x_add, x_sub, x_mul, x_lt, x_le, x_gt, x_ge, x_eq, x_ne, x_isN, x_isI, x_isT, x_isnN, x_isnI, x_isnT, x_tr, x_bl, x_intD, x_seqT, x_seqL, x_lenT, x_lenL, x_abs, x_int, x_intB, x_tupL, x_lstT, x_max2, x_min2, x_isiI, x_isiB, x_idxT, x_idxL, x_slcL, x_zipL, List.getD_cons_zero, List.getD_cons_succ, List.set_cons_zero, List.set_cons_succ, Option.map_some, Option.bind_some, Bool.not_true, Bool.not_false, if_true, Bool.true_or, Bool.or_true, Bool.false_or, Bool.true_and, Bool.and_true, decide_true, decide_false, Bool.and_self, reduceIte, reduceCtorEq, ne_eq, not_false_eq_true, implies_true, x_fit, List.length_cons, List.length_nil, Nat.reduceAdd, Nat.reduceLeDiff, Bool.not_eq_true, decide_eq_true_eq, e]) 400 1000 a.natAbs b.natAbs hb (by omega)
  have e := e_whl (M := d__law_lowest.F.M) l
  have e2 : evSs (Ph i__law_lowest) 1000 d__law_lowest.F.M b__law_lowest [some (.int a), some (.int b), none, none, none] none = Rs.bind (evS (Ph i__law_lowest) 1000 d__law_lowest.F.M (.whl (.cmp .gt (.var 4) (.lit (.int (0)))) [.par [3, 4] false [(.var 4), (.bin .mod (.var 3) (.var 4))]]) [some (.int a), some (.int b), none, some (.int a.natAbs), some (.int b.natAbs)] none) (seqO (evSs (Ph i__law_lowest) 1000 d__law_lowest.F.M [.asg 2 0 false (.ite (.cmp .gt (.var 1) (.lit (.int (0)))) (.lit (.int (1))) (.neg (.lit (.int (1))))), .ret (.tup [(.bin .fdiv (.bin .mul (.var 2) (.var 0)) (.var 3)), (.bin .fdiv (.bin .mul (.var 2) (.var 1)) (.var 3))])])) := by
    show evSs _ _ [0, 0, 0, 0, 0] _ _ _ = _
    simp only [x_bind, x_ok, x_pure, x_opt, x_selT, x_selF, x_seqO, x_seqR, x_seqB, x_seqC, x_rcall, x_callP, x_var, x_lit, x_tup, x_lst, x_bin, x_neg, x_not, x_cmp, x_chain, x_and, x_or, x_ite, x_idx, x_slc, x_rev, x_call, x_bi, x_callJ, x_callQ, x_nil, x_cons, x_star, x_o0, x_o1, x_if0, x_if1, x_seq, x_rng1, x_enum, x_zip, x_turn, x_asg, x_asgT, x_par, x_par0, x_par1, x_app, x_setI, x_popS, x_ex, x_ret, x_retN, x_pass, x_brk, x_cnt, x_if, x_ss0, x_ss, x_forT, x_view, x_viewF, x_keepF, x_keepT, x_hide0, x_hide1, x_hideN, x_own0, x_own1l, x_wipe0, x_wipe1, x_tg, x_tgT, x_tg0, x_tg1, x_add, x_sub, x_mul, x_lt, x_le, x_gt, x_ge, x_eq, x_ne, x_isN, x_isI, x_isT, x_isnN, x_isnI, x_isnT, x_tr, x_bl, x_intD, x_seqT, x_seqL, x_lenT, x_lenL, x_abs, x_int, x_intB, x_tupL, x_lstT, x_max2, x_min2, x_isiI, x_isiB, x_idxT, x_idxL, x_slcL, x_zipL, List.getD_cons_zero, List.getD_cons_succ, List.set_cons_zero, List.set_cons_succ, Option.map_some, Option.bind_some, Bool.not_true, Bool.not_false, if_true, Bool.true_or, Bool.or_true, Bool.false_or, Bool.true_and, Bool.and_true, decide_true, decide_false, Bool.and_self, reduceIte, reduceCtorEq, ne_eq, not_false_eq_true, implies_true, x_fit, List.length_cons, List.length_nil, Nat.reduceAdd, Nat.reduceLeDiff, Bool.not_eq_true, decide_eq_true_eq, b__law_lowest, abs_nat]
    rfl
  have g := gcd_pos (a := a) h0
  have gw := gcdI_W (a := a) h0 hb
  have m1 : mulI 1 a = some (.int (1 * a)) := mulI_W (j := 1) (k := 400) (W.of (by decide) (by decide)) ha
  have m2 : mulI 1 b = some (.int (1 * b)) := mulI_W (j := 1) (k := 400) (W.of (by decide) (by decide)) hb
  have f1 : ∀ x : Int, binE .fdiv (.int x) (.int (gcdI a b)) = some (.int (x / gcdI a b)) := fun x => fdiv_W (k := 400) g gw
  have gg : ((Nat.gcd a.natAbs b.natAbs : Nat) : Int) = gcdI a b := rfl
  rw [gg] at e
  show evSs (Ph i__law_lowest) 1000 d__law_lowest.F.M b__law_lowest [some (.int a), some (.int b), none, none, none] none = _
  rw [e2, e]
  show Rs.bind _ (seqO (evSs _ _ [0, 0, 0, 0, 0] _)) = _
  simp only [x_bind, x_ok, x_pure, x_opt, x_selT, x_selF, x_seqO, x_seqR, x_seqB, x_seqC, x_rcall, x_callP, x_var, x_lit, x_tup, x_lst, x_bin, x_neg, x_not, x_cmp, x_chain, x_and, x_or, x_ite, x_idx, x_slc, x_rev, x_call, x_bi, x_callJ, x_callQ, x_nil, x_cons, x_star, x_o0, x_o1, x_if0, x_if1, x_seq, x_rng1, x_enum, x_zip, x_turn, x_asg, x_asgT, x_par, x_par0, x_par1, x_app, x_setI, x_popS, x_ex, x_ret, x_retN, x_pass, x_brk, x_cnt, x_if, x_ss0, x_ss, x_forT, x_view, x_viewF, x_keepF, x_keepT, x_hide0, x_hide1, x_hideN, x_own0, x_own1l, x_wipe0, x_wipe1, x_tg, x_tgT, x_tg0, x_tg1, x_add, x_sub, x_mul, x_lt, x_le, x_gt, x_ge, x_eq, x_ne, x_isN, x_isI, x_isT, x_isnN, x_isnI, x_isnT, x_tr, x_bl, x_intD, x_seqT, x_seqL, x_lenT, x_lenL, x_abs, x_int, x_intB, x_tupL, x_lstT, x_max2, x_min2, x_isiI, x_isiB, x_idxT, x_idxL, x_slcL, x_zipL, List.getD_cons_zero, List.getD_cons_succ, List.set_cons_zero, List.set_cons_succ, Option.map_some, Option.bind_some, Bool.not_true, Bool.not_false, if_true, Bool.true_or, Bool.or_true, Bool.false_or, Bool.true_and, Bool.and_true, decide_true, decide_false, Bool.and_self, reduceIte, reduceCtorEq, ne_eq, not_false_eq_true, implies_true, x_fit, List.length_cons, List.length_nil, Nat.reduceAdd, Nat.reduceLeDiff, Bool.not_eq_true, decide_eq_true_eq, h0, m1, m2, f1, Int.one_mul]
  rfl
theorem s__law_less {n : Nat} (h : i__law_less < n) {x y : Int × Int} (a1 : W 400 x.1) (a2 : W 400 x.2) (b1 : W 400 y.1) (b2 : W 400 y.2) : Ph n i__law_less [encP x, encP y] none = .ok (.bool (fless x y)) none := by
  rw [Ph_lt (F := d__law_less.F) rfl h]
  refine run_rt rfl rfl (J1 := none) ?_
  show evSs _ _ [0, 0] b__law_less [some (encP x), some (encP y)] none = _
  have m1 : mulI x.1 y.2 = some (.int (x.1 * y.2)) := mulI_W (j := 400) (k := 400) a1 b2
  have m2 : mulI y.1 x.2 = some (.int (y.1 * x.2)) := mulI_W (j := 400) (k := 400) b1 a2
  simp only [x_bind, x_ok, x_pure, x_opt, x_selT, x_selF, x_seqO, x_seqR, x_seqB, x_seqC, x_rcall, x_callP, x_var, x_lit, x_tup, x_lst, x_bin, x_neg, x_not, x_cmp, x_chain, x_and, x_or, x_ite, x_idx, x_slc, x_rev, x_call, x_bi, x_callJ, x_callQ, x_nil, x_cons, x_star, x_o0, x_o1, x_if0, x_if1, x_seq, x_rng1, x_enum, x_zip, x_turn, x_asg, x_asgT, x_par, x_par0, x_par1, x_app, x_setI, x_popS, x_ex, x_ret, x_retN, x_pass, x_brk, x_cnt, x_if, x_ss0, x_ss, x_forT, x_view, x_viewF, x_keepF, x_keepT, x_hide0, x_hide1, x_hideN, x_own0, x_own1l, x_wipe0, x_wipe1, x_tg, x_tgT, x_tg0, x_tg1, x_add, x_sub, x_mul, x_lt, x_le, x_gt, x_ge, x_eq, x_ne, x_isN, x_isI, x_isT, x_isnN, x_isnI, x_isnT, x_tr, x_bl, x_intD, x_seqT, x_seqL, x_lenT, x_lenL, x_abs, x_int, x_intB, x_tupL, x_lstT, x_max2, x_min2, x_isiI, x_isiB, x_idxT, x_idxL, x_slcL, x_zipL, List.getD_cons_zero, List.getD_cons_succ, List.set_cons_zero, List.set_cons_succ, Option.map_some, Option.bind_some, Bool.not_true, Bool.not_false, if_true, Bool.true_or, Bool.or_true, Bool.false_or, Bool.true_and, Bool.and_true, decide_true, decide_false, Bool.and_self, reduceIte, reduceCtorEq, ne_eq, not_false_eq_true, implies_true, x_fit, List.length_cons, List.length_nil, Nat.reduceAdd, Nat.reduceLeDiff, Bool.not_eq_true, decide_eq_true_eq, b__law_less, x_idxP0, x_idxP1, m1, m2]
  rfl
theorem s__law_value {n : Nat} (h : i__law_value < n) {P : List (Option Int)} (okP : POk P) {x : Int × Int} (ok : PtOk x) : Ph n i__law_value [poly P, encP x] none = .ok (encP (fv P x)) none := by
  rw [Ph_lt (F := d__law_value.F) rfl h]
  refine run_rt rfl rfl (J1 := none) ?_
  show evSs _ _ [0, 0, 0, 0, 0] b__law_value [some (.tuple (P.map encE)), some (encP x), none, none, none] none = _
  have e := e_lce (Φ := Ph i__law_value) (elt := .tup [(.bin .add (.bin .mul (.var 4) (.idx (.var 1) (.lit (.int (1))))) (.bin .mul (.var 3) (.idx (.var 1) (.lit (.int (0)))))), (.var 3)]) (t := .tup [(.name 3), (.name 4)]) (it := .enum (.var 0)) (ifs := [(.cmp .isn (.var 4) (.lit .none))]) (own := [3, 4]) (σ := [some (.tuple (P.map encE)), some (encP x), none, none, none]) (J := none) (P := P) (g := fun t => some (encP (tv x.1 x.2 t, t.1))) (by simp only [x_bind, x_ok, x_pure, x_opt, x_selT, x_selF, x_seqO, x_seqR, x_seqB, x_seqC, x_rcall, x_callP, x_var, x_lit, x_tup, x_lst, x_bin, x_neg, x_not, x_cmp, x_chain, x_and, x_or, x_ite, x_idx, x_slc, x_rev, x_call, x_bi, x_callJ, x_callQ, x_nil, x_cons, x_star, x_o0, x_o1, x_if0, x_if1, x_seq, x_rng1, x_enum, x_zip, x_turn, x_asg, x_asgT, x_par, x_par0, x_par1, x_app, x_setI, x_popS, x_ex, x_ret, x_retN, x_pass, x_brk, x_cnt, x_if, x_ss0, x_ss, x_forT, x_view, x_viewF, x_keepF, x_keepT, x_hide0, x_hide1, x_hideN, x_own0, x_own1l, x_wipe0, x_wipe1, x_tg, x_tgT, x_tg0, x_tg1, x_add, x_sub, x_mul, x_lt, x_le, x_gt, x_ge, x_eq, x_ne, x_isN, x_isI, x_isT, x_isnN, x_isnI, x_isnT, x_tr, x_bl, x_intD, x_seqT, x_seqL, x_lenT, x_lenL, x_abs, x_int, x_intB, x_tupL, x_lstT, x_max2, x_min2, x_isiI, x_isiB, x_idxT, x_idxL, x_slcL, x_zipL, List.getD_cons_zero, List.getD_cons_succ, List.set_cons_zero, List.set_cons_succ, Option.map_some, Option.bind_some, Bool.not_true, Bool.not_false, if_true, Bool.true_or, Bool.or_true, Bool.false_or, Bool.true_and, Bool.and_true, decide_true, decide_false, Bool.and_self, reduceIte, reduceCtorEq, ne_eq, not_false_eq_true, implies_true, x_fit, List.length_cons, List.length_nil, Nat.reduceAdd, Nat.reduceLeDiff, Bool.not_eq_true, decide_eq_true_eq]) (fun i => by simp only [x_bind, x_ok, x_pure, x_opt, x_selT, x_selF, x_seqO, x_seqR, x_seqB, x_seqC, x_rcall, x_callP, x_var, x_lit, x_tup, x_lst, x_bin, x_neg, x_not, x_cmp, x_chain, x_and, x_or, x_ite, x_idx, x_slc, x_rev, x_call, x_bi, x_callJ, x_callQ, x_nil, x_cons, x_star, x_o0, x_o1, x_if0, x_if1, x_seq, x_rng1, x_enum, x_zip, x_turn, x_asg, x_asgT, x_par, x_par0, x_par1, x_app, x_setI, x_popS, x_ex, x_ret, x_retN, x_pass, x_brk, x_cnt, x_if, x_ss0, x_ss, x_forT, x_view, x_viewF, x_keepF, x_keepT, x_hide0, x_hide1, x_hideN, x_own0, x_own1l, x_wipe0, x_wipe1, x_tg, x_tgT, x_tg0, x_tg1, x_add, x_sub, x_mul, x_lt, x_le, x_gt, x_ge, x_eq, x_ne, x_isN, x_isI, x_isT, x_isnN, x_isnI, x_isnT, x_tr, x_bl, x_intD, x_seqT, x_seqL, x_lenT, x_lenL, x_abs, x_int, x_intB, x_tupL, x_lstT, x_max2, x_min2, x_isiI, x_isiB, x_idxT, x_idxL, x_slcL, x_zipL, List.getD_cons_zero, List.getD_cons_succ, List.set_cons_zero, List.set_cons_succ, Option.map_some, Option.bind_some, Bool.not_true, Bool.not_false, if_true, Bool.true_or, Bool.or_true, Bool.false_or, Bool.true_and, Bool.and_true, decide_true, decide_false, Bool.and_self, reduceIte, reduceCtorEq, ne_eq, not_false_eq_true, implies_true, x_fit, List.length_cons, List.length_nil, Nat.reduceAdd, Nat.reduceLeDiff, Bool.not_eq_true, decide_eq_true_eq]) (fun t ht => by
    obtain ⟨h1, h2, h3, h4⟩ := okP.term ht
    have a : W 10 t.2 := W.of (by simp; omega) (by simp; omega)
    have b : W 4 t.1 := W.of (by simp; omega) (by simp; omega)
    have m1 : mulI t.2 x.2 = some (.int (t.2 * x.2)) := mulI_W a ok.w2
    have m2 : mulI t.1 x.1 = some (.int (t.1 * x.1)) := mulI_W b ok.w1
    simp only [x_bind, x_ok, x_pure, x_opt, x_selT, x_selF, x_seqO, x_seqR, x_seqB, x_seqC, x_rcall, x_callP, x_var, x_lit, x_tup, x_lst, x_bin, x_neg, x_not, x_cmp, x_chain, x_and, x_or, x_ite, x_idx, x_slc, x_rev, x_call, x_bi, x_callJ, x_callQ, x_nil, x_cons, x_star, x_o0, x_o1, x_if0, x_if1, x_seq, x_rng1, x_enum, x_zip, x_turn, x_asg, x_asgT, x_par, x_par0, x_par1, x_app, x_setI, x_popS, x_ex, x_ret, x_retN, x_pass, x_brk, x_cnt, x_if, x_ss0, x_ss, x_forT, x_view, x_viewF, x_keepF, x_keepT, x_hide0, x_hide1, x_hideN, x_own0, x_own1l, x_wipe0, x_wipe1, x_tg, x_tgT, x_tg0, x_tg1, x_add, x_sub, x_mul, x_lt, x_le, x_gt, x_ge, x_eq, x_ne, x_isN, x_isI, x_isT, x_isnN, x_isnI, x_isnT, x_tr, x_bl, x_intD, x_seqT, x_seqL, x_lenT, x_lenL, x_abs, x_int, x_intB, x_tupL, x_lstT, x_max2, x_min2, x_isiI, x_isiB, x_idxT, x_idxL, x_slcL, x_zipL, List.getD_cons_zero, List.getD_cons_succ, List.set_cons_zero, List.set_cons_succ, Option.map_some, Option.bind_some, Bool.not_true, Bool.not_false, if_true, Bool.true_or, Bool.or_true, Bool.false_or, Bool.true_and, Bool.and_true, decide_true, decide_false, Bool.and_self, reduceIte, reduceCtorEq, ne_eq, not_false_eq_true, implies_true, x_fit, List.length_cons, List.length_nil, Nat.reduceAdd, Nat.reduceLeDiff, Bool.not_eq_true, decide_eq_true_eq, x_idxP0, x_idxP1, m1, m2]
    rfl) (by have := okP.hi; omega)
  have e' : (tms 0 P).filterMap (fun t => some (encP (tv x.1 x.2 t, t.1))) = ((tms 0 P).map fun t => (tv x.1 x.2 t, t.1)).map encP := by
    rw [List.filterMap_eq_map', List.map_map]; rfl
  rw [e'] at e
  obtain ⟨hv, ⟨t0, ht0, et0⟩, hle⟩ := vm_spec (p := x.1) (q := x.2) (tms_ne okP)
  have ne : ((tms 0 P).map fun t => (tv x.1 x.2 t, t.1)) ≠ [] := by
    intro z
    exact tms_ne okP (List.map_eq_nil_iff.mp z)
  have hmx : ∃ b, biE .max [.list (((tms 0 P).map fun t => (tv x.1 x.2 t, t.1)).map encP)] = some (encP b) ∧ b.1 = vm (tms 0 P) x.1 x.2 := by
    generalize hL : ((tms 0 P).map fun t => (tv x.1 x.2 t, t.1)) = L at *
    cases L with
    | nil => exact absurd rfl ne
    | cons a L =>
      obtain ⟨b, e, m, h⟩ := max_pairs (a := a) (l := L)
      refine ⟨b, e, ?_⟩
      rw [← hL] at m h
      obtain ⟨s, hs, es⟩ := List.mem_map.mp m
      have q1 := hle s hs
      have q2 := h (tv x.1 x.2 t0, t0.1) (List.mem_map.mpr ⟨t0, ht0, rfl⟩)
      have q3 : b.1 = tv x.1 x.2 s := by rw [← es]
      have q4 : tv x.1 x.2 t0 ≤ b.1 := q2
      omega
  obtain ⟨b, eb, eb1⟩ := hmx
  obtain ⟨h1, h2, h3, h4⟩ := okP.term ht0
  have w := tv_W h1 h2 h3 h4 ok.w1 ok.w2
  rw [et0] at w
  have l := s__law_lowest (n := i__law_value) (by decide) (a := b.1) ok.pos (eb1 ▸ w.mono (by omega)) (ok.w2.mono (by omega))
  rw [eb1] at l
  simp only [x_bind, x_ok, x_pure, x_opt, x_selT, x_selF, x_seqO, x_seqR, x_seqB, x_seqC, x_rcall, x_callP, x_var, x_lit, x_tup, x_lst, x_bin, x_neg, x_not, x_cmp, x_chain, x_and, x_or, x_ite, x_idx, x_slc, x_rev, x_call, x_bi, x_callJ, x_callQ, x_nil, x_cons, x_star, x_o0, x_o1, x_if0, x_if1, x_seq, x_rng1, x_enum, x_zip, x_turn, x_asg, x_asgT, x_par, x_par0, x_par1, x_app, x_setI, x_popS, x_ex, x_ret, x_retN, x_pass, x_brk, x_cnt, x_if, x_ss0, x_ss, x_forT, x_view, x_viewF, x_keepF, x_keepT, x_hide0, x_hide1, x_hideN, x_own0, x_own1l, x_wipe0, x_wipe1, x_tg, x_tgT, x_tg0, x_tg1, x_add, x_sub, x_mul, x_lt, x_le, x_gt, x_ge, x_eq, x_ne, x_isN, x_isI, x_isT, x_isnN, x_isnI, x_isnT, x_tr, x_bl, x_intD, x_seqT, x_seqL, x_lenT, x_lenL, x_abs, x_int, x_intB, x_tupL, x_lstT, x_max2, x_min2, x_isiI, x_isiB, x_idxT, x_idxL, x_slcL, x_zipL, List.getD_cons_zero, List.getD_cons_succ, List.set_cons_zero, List.set_cons_succ, Option.map_some, Option.bind_some, Bool.not_true, Bool.not_false, if_true, Bool.true_or, Bool.or_true, Bool.false_or, Bool.true_and, Bool.and_true, decide_true, decide_false, Bool.and_self, reduceIte, reduceCtorEq, ne_eq, not_false_eq_true, implies_true, x_fit, List.length_cons, List.length_nil, Nat.reduceAdd, Nat.reduceLeDiff, Bool.not_eq_true, decide_eq_true_eq, b__law_value, e, eb, x_idxP0, x_idxP1, eb1, l]
  rfl
end K52
end Ev
end

section
set_option maxRecDepth 100000
set_option maxHeartbeats 1000000
namespace Ev
open PySem PySem.Spec PyProof.Rows L2
def smallT (t : Int × Int) : Prop := 0 ≤ t.1 ∧ t.1 ≤ 11 ∧ -999 ≤ t.2 ∧ t.2 ≤ 999
theorem x_seqPP {a b : PyData} : setTg (.tup [.tup [.name 3, .name 4], .tup [.name 5, .name 6]]) (.tuple [a, b]) = fun σ => (setTg (.tup [.name 3, .name 4]) a σ).bind fun σ1 => setTgs [.tup [.name 5, .name 6]] [b] σ1 := by
  funext σ
  rw [x_tgT, x_tg1]
theorem len_gt {n : Nat} (h : n < 2) : decide ((1 : Int) < (n : Int)) = false := decide_eq_false (by omega)
namespace K52
theorem s_is_over {n : Nat} (h : i_is_over < n) {f m t : Int × Int} (hf : smallT f) (hm : smallT m) (ht : smallT t) : Ph n i_is_over [encP f, encP m, encP t] none = .ok (.bool (over f m t)) none := by
  rw [Ph_lt (F := d_is_over.F) rfl h]
  refine run_rt rfl rfl (J1 := none) ?_
  show evSs _ _ [0, 0, 0, 0, 0, 0, 0, 0, 0] b_is_over [some (encP f), some (encP m), some (encP t), none, none, none, none, none, none] none = _
  obtain ⟨f1, f2, f3, f4⟩ := hf
  obtain ⟨m1, m2, m3, m4⟩ := hm
  obtain ⟨t1, t2, t3, t4⟩ := ht
  have e1 : mulI (m.2 - f.2) (t.1 - f.1) = some (.int ((m.2 - f.2) * (t.1 - f.1))) := mulI_W (j := 20) (k := 20) (W.of (by simp; omega) (by simp; omega)) (W.of (by simp; omega) (by simp; omega))
  have e2 : mulI (t.2 - f.2) (m.1 - f.1) = some (.int ((t.2 - f.2) * (m.1 - f.1))) := mulI_W (j := 20) (k := 20) (W.of (by simp; omega) (by simp; omega)) (W.of (by simp; omega) (by simp; omega))
  simp only [x_bind, x_ok, x_pure, x_opt, x_selT, x_selF, x_seqO, x_seqR, x_seqB, x_seqC, x_rcall, x_callP, x_var, x_lit, x_tup, x_lst, x_bin, x_neg, x_not, x_cmp, x_chain, x_and, x_or, x_ite, x_idx, x_slc, x_rev, x_call, x_bi, x_callJ, x_callQ, x_nil, x_cons, x_star, x_o0, x_o1, x_if0, x_if1, x_seq, x_rng1, x_enum, x_zip, x_turn, x_asg, x_asgT, x_par, x_par0, x_par1, x_app, x_setI, x_popS, x_ex, x_ret, x_retN, x_pass, x_brk, x_cnt, x_if, x_ss0, x_ss, x_forT, x_view, x_viewF, x_keepF, x_keepT, x_hide0, x_hide1, x_hideN, x_own0, x_own1l, x_wipe0, x_wipe1, x_tg, x_tgT, x_tg0, x_tg1, x_add, x_sub, x_mul, x_lt, x_le, x_gt, x_ge, x_eq, x_ne, x_isN, x_isI, x_isT, x_isnN, x_isnI, x_isnT, x_tr, x_bl, x_intD, x_seqT, x_seqL, x_lenT, x_lenL, x_abs, x_int, x_intB, x_tupL, x_lstT, x_max2, x_min2, x_isiI, x_isiB, x_idxT, x_idxL, x_slcL, x_zipL, List.getD_cons_zero, List.getD_cons_succ, List.set_cons_zero, List.set_cons_succ, Option.map_some, Option.bind_some, Bool.not_true, Bool.not_false, if_true, Bool.true_or, Bool.or_true, Bool.false_or, Bool.true_and, Bool.and_true, decide_true, decide_false, Bool.and_self, reduceIte, reduceCtorEq, ne_eq, not_false_eq_true, implies_true, x_fit, List.length_cons, List.length_nil, Nat.reduceAdd, Nat.reduceLeDiff, Bool.not_eq_true, decide_eq_true_eq, Bool.false_eq_true, if_false, x_la0, x_la1, x_app, x_popS, b_is_over, x_tgP, e1, e2]
  rfl
theorem s_vertices_in {n : Nat} (h : i_vertices_in < n) {P : List (Option Int)} (okP : POk P) : Ph n i_vertices_in [poly P] none = .ok (.list ((verts P).map encP)) none := by
  rw [Ph_lt (F := d_vertices_in.F) rfl h]
  have et := s_terms_in (n := i_vertices_in) (by decide) okP
  have inner : ∀ (L : List (Int × Int)) (t : Int × Int) (fuel : Nat), smallT t → (∀ u ∈ L, smallT u) → L.length < fuel →
      whlLoop (fun σ => Mo.bind (evE (Ph i_vertices_in) (.and (.cmp .gt (.bi .len [(.var 1)]) (.lit (.int (1)))) (.not (.call 23 [(.idx (.var 1) (.neg (.lit (.int (2))))), (.idx (.var 1) (.neg (.lit (.int (1))))), (.var 2)]))) σ) fun x => Mo.opt (truthD x)) (fun σ => evSs (Ph i_vertices_in) 1000 [0, 1, 0] [.popS 1] σ) fuel [some (poly P), some (.list (L.reverse.map encP)), some (encP t)] none
        = .ok (.nx [some (poly P), some (.list ((popW t L).reverse.map encP)), some (encP t)]) none := by
    intro L
    induction L with
    | nil =>
      intro t fuel _ _ hl
      obtain ⟨k, rfl⟩ : ∃ k, fuel = k + 1 := ⟨fuel - 1, by omega⟩
      exact whl_stop (by simp only [x_bind, x_ok, x_pure, x_opt, x_selT, x_selF, x_seqO, x_seqR, x_seqB, x_seqC, x_rcall, x_callP, x_var, x_lit, x_tup, x_lst, x_bin, x_neg, x_not, x_cmp, x_chain, x_and, x_or, x_ite, x_idx, x_slc, x_rev, x_call, x_bi, x_callJ, x_callQ, x_nil, x_cons, x_star, x_o0, x_o1, x_if0, x_if1, x_seq, x_rng1, x_enum, x_zip, x_turn, x_asg, x_asgT, x_par, x_par0, x_par1, x_app, x_setI, x_popS, x_ex, x_ret, x_retN, x_pass, x_brk, x_cnt, x_if, x_ss0, x_ss, x_forT, x_view, x_viewF, x_keepF, x_keepT, x_hide0, x_hide1, x_hideN, x_own0, x_own1l, x_wipe0, x_wipe1, x_tg, x_tgT, x_tg0, x_tg1, x_add, x_sub, x_mul, x_lt, x_le, x_gt, x_ge, x_eq, x_ne, x_isN, x_isI, x_isT, x_isnN, x_isnI, x_isnT, x_tr, x_bl, x_intD, x_seqT, x_seqL, x_lenT, x_lenL, x_abs, x_int, x_intB, x_tupL, x_lstT, x_max2, x_min2, x_isiI, x_isiB, x_idxT, x_idxL, x_slcL, x_zipL, List.getD_cons_zero, List.getD_cons_succ, List.set_cons_zero, List.set_cons_succ, Option.map_some, Option.bind_some, Bool.not_true, Bool.not_false, if_true, Bool.true_or, Bool.or_true, Bool.false_or, Bool.true_and, Bool.and_true, decide_true, decide_false, Bool.and_self, reduceIte, reduceCtorEq, ne_eq, not_false_eq_true, implies_true, x_fit, List.length_cons, List.length_nil, Nat.reduceAdd, Nat.reduceLeDiff, Bool.not_eq_true, decide_eq_true_eq, Bool.false_eq_true, if_false, x_la0, x_la1, x_app, x_popS, List.reverse_nil, List.map_nil, len_gt (n := 0) (by omega)])
    | cons m L ih =>
      intro t fuel ht hL hl
      obtain ⟨k, rfl⟩ : ∃ k, fuel = k + 1 := ⟨fuel - 1, by omega⟩
      cases L with
      | nil => exact whl_stop (by simp only [x_bind, x_ok, x_pure, x_opt, x_selT, x_selF, x_seqO, x_seqR, x_seqB, x_seqC, x_rcall, x_callP, x_var, x_lit, x_tup, x_lst, x_bin, x_neg, x_not, x_cmp, x_chain, x_and, x_or, x_ite, x_idx, x_slc, x_rev, x_call, x_bi, x_callJ, x_callQ, x_nil, x_cons, x_star, x_o0, x_o1, x_if0, x_if1, x_seq, x_rng1, x_enum, x_zip, x_turn, x_asg, x_asgT, x_par, x_par0, x_par1, x_app, x_setI, x_popS, x_ex, x_ret, x_retN, x_pass, x_brk, x_cnt, x_if, x_ss0, x_ss, x_forT, x_view, x_viewF, x_keepF, x_keepT, x_hide0, x_hide1, x_hideN, x_own0, x_own1l, x_wipe0, x_wipe1, x_tg, x_tgT, x_tg0, x_tg1, x_add, x_sub, x_mul, x_lt, x_le, x_gt, x_ge, x_eq, x_ne, x_isN, x_isI, x_isT, x_isnN, x_isnI, x_isnT, x_tr, x_bl, x_intD, x_seqT, x_seqL, x_lenT, x_lenL, x_abs, x_int, x_intB, x_tupL, x_lstT, x_max2, x_min2, x_isiI, x_isiB, x_idxT, x_idxL, x_slcL, x_zipL, List.getD_cons_zero, List.getD_cons_succ, List.set_cons_zero, List.set_cons_succ, Option.map_some, Option.bind_some, Bool.not_true, Bool.not_false, if_true, Bool.true_or, Bool.or_true, Bool.false_or, Bool.true_and, Bool.and_true, decide_true, decide_false, Bool.and_self, reduceIte, reduceCtorEq, ne_eq, not_false_eq_true, implies_true, x_fit, List.length_cons, List.length_nil, Nat.reduceAdd, Nat.reduceLeDiff, Bool.not_eq_true, decide_eq_true_eq, Bool.false_eq_true, if_false, x_la0, x_la1, x_app, x_popS, List.reverse_cons, List.reverse_nil, List.nil_append, List.map_cons, List.map_nil, len_gt (n := 0 + 1) (by omega), len_gt (n := 1) (by omega)])
      | cons f r =>
        have eo := s_is_over (n := i_vertices_in) (by decide) (hL f (List.mem_cons_of_mem _ (List.mem_cons_self ..))) (hL m (List.mem_cons_self ..)) ht
        have el : List.map encP (m :: f :: r).reverse = List.map encP r.reverse ++ [encP f, encP m] := by simp
        have el2 : List.map encP (m :: f :: r).reverse = (List.map encP r.reverse ++ [encP f]) ++ [encP m] := by simp
        have el3 : List.map encP (f :: r).reverse = (List.map encP r.reverse ++ [encP f]) := by simp
        have i2 : atI (List.map encP (m :: f :: r).reverse) (-2) = some (encP f) := by rw [el]; exact at_m2
        have i1 : atI (List.map encP (m :: f :: r).reverse) (-1) = some (encP m) := by rw [el2]; exact at_m1
        have ln : decide ((1 : Int) < ((List.map encP (m :: f :: r).reverse).length : Int)) = true := decide_eq_true (by rw [el]; simp; omega)
        have dl : (List.map encP (m :: f :: r).reverse).dropLast = List.map encP (f :: r).reverse := by rw [el2, el3, List.dropLast_concat]
        have ne : (List.map encP (m :: f :: r).reverse).isEmpty = false := by rw [el2]; cases (List.map encP r.reverse ++ [encP f]) <;> rfl
        rw [popW]
        generalize hX : List.map encP (m :: f :: r).reverse = X at *
        generalize List.map encP (f :: r).reverse = Y at *
        cases ho : over f m t with
        | true =>
          rw [ho] at eo
          rw [if_pos rfl, hX]
          exact whl_stop (by simp only [x_bind, x_ok, x_pure, x_opt, x_selT, x_selF, x_seqO, x_seqR, x_seqB, x_seqC, x_rcall, x_callP, x_var, x_lit, x_tup, x_lst, x_bin, x_neg, x_not, x_cmp, x_chain, x_and, x_or, x_ite, x_idx, x_slc, x_rev, x_call, x_bi, x_callJ, x_callQ, x_nil, x_cons, x_star, x_o0, x_o1, x_if0, x_if1, x_seq, x_rng1, x_enum, x_zip, x_turn, x_asg, x_asgT, x_par, x_par0, x_par1, x_app, x_setI, x_popS, x_ex, x_ret, x_retN, x_pass, x_brk, x_cnt, x_if, x_ss0, x_ss, x_forT, x_view, x_viewF, x_keepF, x_keepT, x_hide0, x_hide1, x_hideN, x_own0, x_own1l, x_wipe0, x_wipe1, x_tg, x_tgT, x_tg0, x_tg1, x_add, x_sub, x_mul, x_lt, x_le, x_gt, x_ge, x_eq, x_ne, x_isN, x_isI, x_isT, x_isnN, x_isnI, x_isnT, x_tr, x_bl, x_intD, x_seqT, x_seqL, x_lenT, x_lenL, x_abs, x_int, x_intB, x_tupL, x_lstT, x_max2, x_min2, x_isiI, x_isiB, x_idxT, x_idxL, x_slcL, x_zipL, List.getD_cons_zero, List.getD_cons_succ, List.set_cons_zero, List.set_cons_succ, Option.map_some, Option.bind_some, Bool.not_true, Bool.not_false, if_true, Bool.true_or, Bool.or_true, Bool.false_or, Bool.true_and, Bool.and_true, decide_true, decide_false, Bool.and_self, reduceIte, reduceCtorEq, ne_eq, not_false_eq_true, implies_true, x_fit, List.length_cons, List.length_nil, Nat.reduceAdd, Nat.reduceLeDiff, Bool.not_eq_true, decide_eq_true_eq, Bool.false_eq_true, if_false, x_la0, x_la1, x_app, x_popS, ln, i2, i1, eo])
        | false =>
          rw [ho] at eo
          rw [if_neg (by decide)]
          refine (whl_go (σ1 := [some (poly P), some (.list Y), some (encP t)]) (J1 := none) (J2 := none) (by simp only [x_bind, x_ok, x_pure, x_opt, x_selT, x_selF, x_seqO, x_seqR, x_seqB, x_seqC, x_rcall, x_callP, x_var, x_lit, x_tup, x_lst, x_bin, x_neg, x_not, x_cmp, x_chain, x_and, x_or, x_ite, x_idx, x_slc, x_rev, x_call, x_bi, x_callJ, x_callQ, x_nil, x_cons, x_star, x_o0, x_o1, x_if0, x_if1, x_seq, x_rng1, x_enum, x_zip, x_turn, x_asg, x_asgT, x_par, x_par0, x_par1, x_app, x_setI, x_popS, x_ex, x_ret, x_retN, x_pass, x_brk, x_cnt, x_if, x_ss0, x_ss, x_forT, x_view, x_viewF, x_keepF, x_keepT, x_hide0, x_hide1, x_hideN, x_own0, x_own1l, x_wipe0, x_wipe1, x_tg, x_tgT, x_tg0, x_tg1, x_add, x_sub, x_mul, x_lt, x_le, x_gt, x_ge, x_eq, x_ne, x_isN, x_isI, x_isT, x_isnN, x_isnI, x_isnT, x_tr, x_bl, x_intD, x_seqT, x_seqL, x_lenT, x_lenL, x_abs, x_int, x_intB, x_tupL, x_lstT, x_max2, x_min2, x_isiI, x_isiB, x_idxT, x_idxL, x_slcL, x_zipL, List.getD_cons_zero, List.getD_cons_succ, List.set_cons_zero, List.set_cons_succ, Option.map_some, Option.bind_some, Bool.not_true, Bool.not_false, if_true, Bool.true_or, Bool.or_true, Bool.false_or, Bool.true_and, Bool.and_true, decide_true, decide_false, Bool.and_self, reduceIte, reduceCtorEq, ne_eq, not_false_eq_true, implies_true, x_fit, List.length_cons, List.length_nil, Nat.reduceAdd, Nat.reduceLeDiff, Bool.not_eq_true, decide_eq_true_eq, Bool.false_eq_true, if_false, x_la0, x_la1, x_app, x_popS, ln, i2, i1, eo]) (by simp only [x_bind, x_ok, x_pure, x_opt, x_selT, x_selF, x_seqO, x_seqR, x_seqB, x_seqC, x_rcall, x_callP, x_var, x_lit, x_tup, x_lst, x_bin, x_neg, x_not, x_cmp, x_chain, x_and, x_or, x_ite, x_idx, x_slc, x_rev, x_call, x_bi, x_callJ, x_callQ, x_nil, x_cons, x_star, x_o0, x_o1, x_if0, x_if1, x_seq, x_rng1, x_enum, x_zip, x_turn, x_asg, x_asgT, x_par, x_par0, x_par1, x_app, x_setI, x_popS, x_ex, x_ret, x_retN, x_pass, x_brk, x_cnt, x_if, x_ss0, x_ss, x_forT, x_view, x_viewF, x_keepF, x_keepT, x_hide0, x_hide1, x_hideN, x_own0, x_own1l, x_wipe0, x_wipe1, x_tg, x_tgT, x_tg0, x_tg1, x_add, x_sub, x_mul, x_lt, x_le, x_gt, x_ge, x_eq, x_ne, x_isN, x_isI, x_isT, x_isnN, x_isnI, x_isnT, x_tr, x_bl, x_intD, x_seqT, x_seqL, x_lenT, x_lenL, x_abs, x_int, x_intB, x_tupL, x_lstT, x_max2, x_min2, x_isiI, x_isiB, x_idxT, x_idxL, x_slcL, x_zipL, List.getD_cons_zero, List.getD_cons_succ, List.set_cons_zero, List.set_cons_succ, Option.map_some, Option.bind_some, Bool.not_true, Bool.not_false, if_true, Bool.true_or, Bool.or_true, Bool.false_or, Bool.true_and, Bool.and_true, decide_true, decide_false, Bool.and_self, reduceIte, reduceCtorEq, ne_eq, not_false_eq_true, implies_true, x_fit, List.length_cons, List.length_nil, Nat.reduceAdd, Nat.reduceLeDiff, Bool.not_eq_true, decide_eq_true_eq, Bool.false_eq_true, if_false, x_la0, x_la1, x_app, x_popS, ne, dl])).trans ?_
          exact ih t k ht (fun u hu => hL u (List.mem_cons_of_mem _ hu)) (by rw [List.length_cons] at hl; omega)
  have s : 100 ≤ sizeLine := by decide +kernel
  have outer : ∀ (T L : List (Int × Int)) (y : Option PyData), (∀ u ∈ T, smallT u) → (∀ u ∈ L, smallT u) → L.length + T.length ≤ 12 →
      ∃ z, forLoop (forT (Ph i_vertices_in) 1000 [0, 1, 0] (.name 2) [.whl (.and (.cmp .gt (.bi .len [(.var 1)]) (.lit (.int (1)))) (.not (.call 23 [(.idx (.var 1) (.neg (.lit (.int (2))))), (.idx (.var 1) (.neg (.lit (.int (1))))), (.var 2)]))) [.popS 1], .app 1 false (.var 2)]) (T.map encP) [some (poly P), some (.list (L.reverse.map encP)), y] none
        = .ok (.nx [some (poly P), some (.list ((T.foldl (fun st t => t :: popW t st) L).reverse.map encP)), z]) none := by
    intro T
    induction T with
    | nil => intro L y _ _ _; exact ⟨y, rfl⟩
    | cons t T ih =>
      intro L y hT hL hl
      have ht := hT t (List.mem_cons_self ..)
      have ew := e_whl (inner L t 1000 ht hL (by omega))
      have sf := popW_suf (t := t) (L := L)
      have sl := sf.sublist.length_le
      have lt : (List.map encP (popW t L).reverse).length < sizeLine := by rw [List.length_map, List.length_reverse]; omega
      have ea : List.map encP (t :: popW t L).reverse = List.map encP (popW t L).reverse ++ [encP t] := by simp
      rw [List.map_cons, for_cons (σ1 := [some (poly P), some (.list (List.map encP (popW t L).reverse ++ [encP t])), some (encP t)]) (J1 := none) (by simp only [x_bind, x_ok, x_pure, x_opt, x_selT, x_selF, x_seqO, x_seqR, x_seqB, x_seqC, x_rcall, x_callP, x_var, x_lit, x_tup, x_lst, x_bin, x_neg, x_not, x_cmp, x_chain, x_and, x_or, x_ite, x_idx, x_slc, x_rev, x_call, x_bi, x_callJ, x_callQ, x_nil, x_cons, x_star, x_o0, x_o1, x_if0, x_if1, x_seq, x_rng1, x_enum, x_zip, x_turn, x_asg, x_asgT, x_par, x_par0, x_par1, x_app, x_setI, x_popS, x_ex, x_ret, x_retN, x_pass, x_brk, x_cnt, x_if, x_ss0, x_ss, x_forT, x_view, x_viewF, x_keepF, x_keepT, x_hide0, x_hide1, x_hideN, x_own0, x_own1l, x_wipe0, x_wipe1, x_tg, x_tgT, x_tg0, x_tg1, x_add, x_sub, x_mul, x_lt, x_le, x_gt, x_ge, x_eq, x_ne, x_isN, x_isI, x_isT, x_isnN, x_isnI, x_isnT, x_tr, x_bl, x_intD, x_seqT, x_seqL, x_lenT, x_lenL, x_abs, x_int, x_intB, x_tupL, x_lstT, x_max2, x_min2, x_isiI, x_isiB, x_idxT, x_idxL, x_slcL, x_zipL, List.getD_cons_zero, List.getD_cons_succ, List.set_cons_zero, List.set_cons_succ, Option.map_some, Option.bind_some, Bool.not_true, Bool.not_false, if_true, Bool.true_or, Bool.or_true, Bool.false_or, Bool.true_and, Bool.and_true, decide_true, decide_false, Bool.and_self, reduceIte, reduceCtorEq, ne_eq, not_false_eq_true, implies_true, x_fit, List.length_cons, List.length_nil, Nat.reduceAdd, Nat.reduceLeDiff, Bool.not_eq_true, decide_eq_true_eq, Bool.false_eq_true, if_false, x_la0, x_la1, x_app, x_popS, ew, lt]), ← ea]
      exact ih (t :: popW t L) _ (fun u hu => hT u (List.mem_cons_of_mem _ hu)) (fun u hu => by
        rcases List.mem_cons.mp hu with q | q
        · rw [q]; exact ht
        · exact hL u (sf.subset q)) (by rw [List.length_cons] at *; omega)
  obtain ⟨z, lp⟩ := outer (tms 0 P) [] none (fun u hu => okP.term hu) (fun u hu => by cases hu) (by have := tms_len (P := P) (i := 0); have := okP.hi; rw [List.length_nil]; omega)
  have e := e_for (Φ := Ph i_vertices_in) (fuel := 1000) (M := [0, 1, 0]) (b := false) (t := .name 2) (it := .seq (.call 10 [(.var 0)])) (σ := [some (poly P), some (.list []), none]) (J := none) (J1 := none) (ds := (tms 0 P).map encP) (by simp only [x_bind, x_ok, x_pure, x_opt, x_selT, x_selF, x_seqO, x_seqR, x_seqB, x_seqC, x_rcall, x_callP, x_var, x_lit, x_tup, x_lst, x_bin, x_neg, x_not, x_cmp, x_chain, x_and, x_or, x_ite, x_idx, x_slc, x_rev, x_call, x_bi, x_callJ, x_callQ, x_nil, x_cons, x_star, x_o0, x_o1, x_if0, x_if1, x_seq, x_rng1, x_enum, x_zip, x_turn, x_asg, x_asgT, x_par, x_par0, x_par1, x_app, x_setI, x_popS, x_ex, x_ret, x_retN, x_pass, x_brk, x_cnt, x_if, x_ss0, x_ss, x_forT, x_view, x_viewF, x_keepF, x_keepT, x_hide0, x_hide1, x_hideN, x_own0, x_own1l, x_wipe0, x_wipe1, x_tg, x_tgT, x_tg0, x_tg1, x_add, x_sub, x_mul, x_lt, x_le, x_gt, x_ge, x_eq, x_ne, x_isN, x_isI, x_isT, x_isnN, x_isnI, x_isnT, x_tr, x_bl, x_intD, x_seqT, x_seqL, x_lenT, x_lenL, x_abs, x_int, x_intB, x_tupL, x_lstT, x_max2, x_min2, x_isiI, x_isiB, x_idxT, x_idxL, x_slcL, x_zipL, List.getD_cons_zero, List.getD_cons_succ, List.set_cons_zero, List.set_cons_succ, Option.map_some, Option.bind_some, Bool.not_true, Bool.not_false, if_true, Bool.true_or, Bool.or_true, Bool.false_or, Bool.true_and, Bool.and_true, decide_true, decide_false, Bool.and_self, reduceIte, reduceCtorEq, ne_eq, not_false_eq_true, implies_true, x_fit, List.length_cons, List.length_nil, Nat.reduceAdd, Nat.reduceLeDiff, Bool.not_eq_true, decide_eq_true_eq, Bool.false_eq_true, if_false, x_la0, x_la1, x_app, x_popS, et]) lp
  refine run_rt rfl rfl (J1 := none) ?_
  show evSs _ _ [0, 1, 0] b_vertices_in [some (poly P), none, none] none = _
  simp only [x_bind, x_ok, x_pure, x_opt, x_selT, x_selF, x_seqO, x_seqR, x_seqB, x_seqC, x_rcall, x_callP, x_var, x_lit, x_tup, x_lst, x_bin, x_neg, x_not, x_cmp, x_chain, x_and, x_or, x_ite, x_idx, x_slc, x_rev, x_call, x_bi, x_callJ, x_callQ, x_nil, x_cons, x_star, x_o0, x_o1, x_if0, x_if1, x_seq, x_rng1, x_enum, x_zip, x_turn, x_asg, x_asgT, x_par, x_par0, x_par1, x_app, x_setI, x_popS, x_ex, x_ret, x_retN, x_pass, x_brk, x_cnt, x_if, x_ss0, x_ss, x_forT, x_view, x_viewF, x_keepF, x_keepT, x_hide0, x_hide1, x_hideN, x_own0, x_own1l, x_wipe0, x_wipe1, x_tg, x_tgT, x_tg0, x_tg1, x_add, x_sub, x_mul, x_lt, x_le, x_gt, x_ge, x_eq, x_ne, x_isN, x_isI, x_isT, x_isnN, x_isnI, x_isnT, x_tr, x_bl, x_intD, x_seqT, x_seqL, x_lenT, x_lenL, x_abs, x_int, x_intB, x_tupL, x_lstT, x_max2, x_min2, x_isiI, x_isiB, x_idxT, x_idxL, x_slcL, x_zipL, List.getD_cons_zero, List.getD_cons_succ, List.set_cons_zero, List.set_cons_succ, Option.map_some, Option.bind_some, Bool.not_true, Bool.not_false, if_true, Bool.true_or, Bool.or_true, Bool.false_or, Bool.true_and, Bool.and_true, decide_true, decide_false, Bool.and_self, reduceIte, reduceCtorEq, ne_eq, not_false_eq_true, implies_true, x_fit, List.length_cons, List.length_nil, Nat.reduceAdd, Nat.reduceLeDiff, Bool.not_eq_true, decide_eq_true_eq, Bool.false_eq_true, if_false, x_la0, x_la1, x_app, x_popS, b_vertices_in, x_own1l (e := .lst []) (ds := []) rfl, e]
  rfl
theorem s_vertices {n : Nat} (h : i_vertices < n) {P : List (Option Int)} (okP : POk P) : Ph n i_vertices [poly P] none = .ok (.tuple ((verts P).map encP)) none := by
  rw [Ph_lt (F := d_vertices.F) rfl h]
  refine run_rt rfl rfl (J1 := none) ?_
  show evSs _ _ [0] b_vertices [some (poly P)] none = _
  have e1 := s_require_poly (n := i_vertices) (by decide) okP
  have e2 := s_vertices_in (n := i_vertices) (by decide) okP
  simp only [x_bind, x_ok, x_pure, x_opt, x_selT, x_selF, x_seqO, x_seqR, x_seqB, x_seqC, x_rcall, x_callP, x_var, x_lit, x_tup, x_lst, x_bin, x_neg, x_not, x_cmp, x_chain, x_and, x_or, x_ite, x_idx, x_slc, x_rev, x_call, x_bi, x_callJ, x_callQ, x_nil, x_cons, x_star, x_o0, x_o1, x_if0, x_if1, x_seq, x_rng1, x_enum, x_zip, x_turn, x_asg, x_asgT, x_par, x_par0, x_par1, x_app, x_setI, x_popS, x_ex, x_ret, x_retN, x_pass, x_brk, x_cnt, x_if, x_ss0, x_ss, x_forT, x_view, x_viewF, x_keepF, x_keepT, x_hide0, x_hide1, x_hideN, x_own0, x_own1l, x_wipe0, x_wipe1, x_tg, x_tgT, x_tg0, x_tg1, x_add, x_sub, x_mul, x_lt, x_le, x_gt, x_ge, x_eq, x_ne, x_isN, x_isI, x_isT, x_isnN, x_isnI, x_isnT, x_tr, x_bl, x_intD, x_seqT, x_seqL, x_lenT, x_lenL, x_abs, x_int, x_intB, x_tupL, x_lstT, x_max2, x_min2, x_isiI, x_isiB, x_idxT, x_idxL, x_slcL, x_zipL, List.getD_cons_zero, List.getD_cons_succ, List.set_cons_zero, List.set_cons_succ, Option.map_some, Option.bind_some, Bool.not_true, Bool.not_false, if_true, Bool.true_or, Bool.or_true, Bool.false_or, Bool.true_and, Bool.and_true, decide_true, decide_false, Bool.and_self, reduceIte, reduceCtorEq, ne_eq, not_false_eq_true, implies_true, x_fit, List.length_cons, List.length_nil, Nat.reduceAdd, Nat.reduceLeDiff, Bool.not_eq_true, decide_eq_true_eq, Bool.false_eq_true, if_false, x_la0, x_la1, x_app, x_popS, b_vertices, e1, e2]
theorem s_corners_in {n : Nat} (h : i_corners_in < n) {P : List (Option Int)} (okP : POk P) : Ph n i_corners_in [poly P] none = .ok (.list ((corns (verts P)).map encC)) none := by
  rw [Ph_lt (F := d_corners_in.F) rfl h]
  refine run_rt rfl rfl (J1 := none) ?_
  show evSs _ _ [0, 0, 0, 0, 0, 0] b_corners_in [some (poly P), none, none, none, none, none] none = _
  have e1 := s_vertices_in (n := i_corners_in) (by decide) okP
  have inv := verts_inv (P := P)
  have asc : ∀ V : List (Int × Int), V.Pairwise (fun s t => s.1 < t.1) → ∀ c ∈ V.zip V.tail, c.1 ∈ V ∧ c.2 ∈ V ∧ c.1.1 < c.2.1 := by
    intro V
    induction V with
    | nil => intro _ c hc; cases hc
    | cons u V ih =>
      intro hp c hc
      have hp' := List.pairwise_cons.mp hp
      cases V with
      | nil => cases hc
      | cons v r =>
        rcases List.mem_cons.mp hc with q | q
        · rw [q]; exact ⟨List.mem_cons_self .., List.mem_cons_of_mem _ (List.mem_cons_self ..), hp'.1 v (List.mem_cons_self ..)⟩
        · obtain ⟨a, b, d⟩ := ih hp'.2 c q
          exact ⟨List.mem_cons_of_mem _ a, List.mem_cons_of_mem _ b, d⟩
  have vl : (verts P).length ≤ 1000 := by
    have := verts_len (P := P)
    have := tms_len (P := P) (i := 0)
    have := okP.hi
    omega
  have e := e_lcm (Φ := Ph i_corners_in) (elt := .tup [(.call 9 [(.bin .sub (.var 3) (.var 5)), (.bin .sub (.var 4) (.var 2))]), (.bin .sub (.var 4) (.var 2))]) (t := .tup [(.tup [(.name 2), (.name 3)]), (.tup [(.name 4), (.name 5)])]) (it := .zip (.var 1) (.slc (.var 1) [(.lit (.int (1)))] [])) (ifs := []) (own := [2, 3, 4, 5]) (σ := [some (poly P), some (.list ((verts P).map encP)), none, none, none, none]) (J := none) (T := (verts P).zip (verts P).tail) (enc := encPP) (g := fun c => some (encC (low (c.1.2 - c.2.2) (c.2.1 - c.1.1), c.2.1 - c.1.1))) (by
      simp only [x_bind, x_ok, x_pure, x_opt, x_selT, x_selF, x_seqO, x_seqR, x_seqB, x_seqC, x_rcall, x_callP, x_var, x_lit, x_tup, x_lst, x_bin, x_neg, x_not, x_cmp, x_chain, x_and, x_or, x_ite, x_idx, x_slc, x_rev, x_call, x_bi, x_callJ, x_callQ, x_nil, x_cons, x_star, x_o0, x_o1, x_if0, x_if1, x_seq, x_rng1, x_enum, x_zip, x_turn, x_asg, x_asgT, x_par, x_par0, x_par1, x_app, x_setI, x_popS, x_ex, x_ret, x_retN, x_pass, x_brk, x_cnt, x_if, x_ss0, x_ss, x_forT, x_view, x_viewF, x_keepF, x_keepT, x_hide0, x_hide1, x_hideN, x_own0, x_own1l, x_wipe0, x_wipe1, x_tg, x_tgT, x_tg0, x_tg1, x_add, x_sub, x_mul, x_lt, x_le, x_gt, x_ge, x_eq, x_ne, x_isN, x_isI, x_isT, x_isnN, x_isnI, x_isnT, x_tr, x_bl, x_intD, x_seqT, x_seqL, x_lenT, x_lenL, x_abs, x_int, x_intB, x_tupL, x_lstT, x_max2, x_min2, x_isiI, x_isiB, x_idxT, x_idxL, x_slcL, x_zipL, List.getD_cons_zero, List.getD_cons_succ, List.set_cons_zero, List.set_cons_succ, Option.map_some, Option.bind_some, Bool.not_true, Bool.not_false, if_true, Bool.true_or, Bool.or_true, Bool.false_or, Bool.true_and, Bool.and_true, decide_true, decide_false, Bool.and_self, reduceIte, reduceCtorEq, ne_eq, not_false_eq_true, implies_true, x_fit, List.length_cons, List.length_nil, Nat.reduceAdd, Nat.reduceLeDiff, Bool.not_eq_true, decide_eq_true_eq, Bool.false_eq_true, if_false, x_la0, x_la1, x_app, x_popS, cut1]
      rw [← List.map_tail, zip_enc]) (fun c hc => by
    obtain ⟨a, b, d⟩ := asc _ inv.1 c hc
    obtain ⟨a1, a2, a3, a4⟩ := okP.term (inv.2 _ a)
    obtain ⟨b1, b2, b3, b4⟩ := okP.term (inv.2 _ b)
    have l := s_lowest (n := i_corners_in) (by decide) (a := c.1.2 - c.2.2) (b := c.2.1 - c.1.1) (by omega) ((W.of (k := 20) (by simp; omega) (by simp; omega)).mono (by omega)) ((W.of (k := 20) (by simp; omega) (by simp; omega)).mono (by omega))
    simp only [x_bind, x_ok, x_pure, x_opt, x_selT, x_selF, x_seqO, x_seqR, x_seqB, x_seqC, x_rcall, x_callP, x_var, x_lit, x_tup, x_lst, x_bin, x_neg, x_not, x_cmp, x_chain, x_and, x_or, x_ite, x_idx, x_slc, x_rev, x_call, x_bi, x_callJ, x_callQ, x_nil, x_cons, x_star, x_o0, x_o1, x_if0, x_if1, x_seq, x_rng1, x_enum, x_zip, x_turn, x_asg, x_asgT, x_par, x_par0, x_par1, x_app, x_setI, x_popS, x_ex, x_ret, x_retN, x_pass, x_brk, x_cnt, x_if, x_ss0, x_ss, x_forT, x_view, x_viewF, x_keepF, x_keepT, x_hide0, x_hide1, x_hideN, x_own0, x_own1l, x_wipe0, x_wipe1, x_tg, x_tgT, x_tg0, x_tg1, x_add, x_sub, x_mul, x_lt, x_le, x_gt, x_ge, x_eq, x_ne, x_isN, x_isI, x_isT, x_isnN, x_isnI, x_isnT, x_tr, x_bl, x_intD, x_seqT, x_seqL, x_lenT, x_lenL, x_abs, x_int, x_intB, x_tupL, x_lstT, x_max2, x_min2, x_isiI, x_isiB, x_idxT, x_idxL, x_slcL, x_zipL, List.getD_cons_zero, List.getD_cons_succ, List.set_cons_zero, List.set_cons_succ, Option.map_some, Option.bind_some, Bool.not_true, Bool.not_false, if_true, Bool.true_or, Bool.or_true, Bool.false_or, Bool.true_and, Bool.and_true, decide_true, decide_false, Bool.and_self, reduceIte, reduceCtorEq, ne_eq, not_false_eq_true, implies_true, x_fit, List.length_cons, List.length_nil, Nat.reduceAdd, Nat.reduceLeDiff, Bool.not_eq_true, decide_eq_true_eq, Bool.false_eq_true, if_false, x_la0, x_la1, x_app, x_popS, encPP, x_tgP, l]
    rfl) (by rw [List.length_zip]; omega)
  have e' : ((verts P).zip (verts P).tail).filterMap (fun c => some (encC (low (c.1.2 - c.2.2) (c.2.1 - c.1.1), c.2.1 - c.1.1))) = (corns (verts P)).map encC := by
    rw [List.filterMap_eq_map', corns_zip, List.map_map]; rfl
  rw [e'] at e
  simp only [x_bind, x_ok, x_pure, x_opt, x_selT, x_selF, x_seqO, x_seqR, x_seqB, x_seqC, x_rcall, x_callP, x_var, x_lit, x_tup, x_lst, x_bin, x_neg, x_not, x_cmp, x_chain, x_and, x_or, x_ite, x_idx, x_slc, x_rev, x_call, x_bi, x_callJ, x_callQ, x_nil, x_cons, x_star, x_o0, x_o1, x_if0, x_if1, x_seq, x_rng1, x_enum, x_zip, x_turn, x_asg, x_asgT, x_par, x_par0, x_par1, x_app, x_setI, x_popS, x_ex, x_ret, x_retN, x_pass, x_brk, x_cnt, x_if, x_ss0, x_ss, x_forT, x_view, x_viewF, x_keepF, x_keepT, x_hide0, x_hide1, x_hideN, x_own0, x_own1l, x_wipe0, x_wipe1, x_tg, x_tgT, x_tg0, x_tg1, x_add, x_sub, x_mul, x_lt, x_le, x_gt, x_ge, x_eq, x_ne, x_isN, x_isI, x_isT, x_isnN, x_isnI, x_isnT, x_tr, x_bl, x_intD, x_seqT, x_seqL, x_lenT, x_lenL, x_abs, x_int, x_intB, x_tupL, x_lstT, x_max2, x_min2, x_isiI, x_isiB, x_idxT, x_idxL, x_slcL, x_zipL, List.getD_cons_zero, List.getD_cons_succ, List.set_cons_zero, List.set_cons_succ, Option.map_some, Option.bind_some, Bool.not_true, Bool.not_false, if_true, Bool.true_or, Bool.or_true, Bool.false_or, Bool.true_and, Bool.and_true, decide_true, decide_false, Bool.and_self, reduceIte, reduceCtorEq, ne_eq, not_false_eq_true, implies_true, x_fit, List.length_cons, List.length_nil, Nat.reduceAdd, Nat.reduceLeDiff, Bool.not_eq_true, decide_eq_true_eq, Bool.false_eq_true, if_false, x_la0, x_la1, x_app, x_popS, b_corners_in, e1, e]
theorem s_corners {n : Nat} (h : i_corners < n) {P : List (Option Int)} (okP : POk P) : Ph n i_corners [poly P] none = .ok (.tuple ((corns (verts P)).map encC)) none := by
  rw [Ph_lt (F := d_corners.F) rfl h]
  refine run_rt rfl rfl (J1 := none) ?_
  show evSs _ _ [0] b_corners [some (poly P)] none = _
  have e1 := s_require_poly (n := i_corners) (by decide) okP
  have e2 := s_corners_in (n := i_corners) (by decide) okP
  simp only [x_bind, x_ok, x_pure, x_opt, x_selT, x_selF, x_seqO, x_seqR, x_seqB, x_seqC, x_rcall, x_callP, x_var, x_lit, x_tup, x_lst, x_bin, x_neg, x_not, x_cmp, x_chain, x_and, x_or, x_ite, x_idx, x_slc, x_rev, x_call, x_bi, x_callJ, x_callQ, x_nil, x_cons, x_star, x_o0, x_o1, x_if0, x_if1, x_seq, x_rng1, x_enum, x_zip, x_turn, x_asg, x_asgT, x_par, x_par0, x_par1, x_app, x_setI, x_popS, x_ex, x_ret, x_retN, x_pass, x_brk, x_cnt, x_if, x_ss0, x_ss, x_forT, x_view, x_viewF, x_keepF, x_keepT, x_hide0, x_hide1, x_hideN, x_own0, x_own1l, x_wipe0, x_wipe1, x_tg, x_tgT, x_tg0, x_tg1, x_add, x_sub, x_mul, x_lt, x_le, x_gt, x_ge, x_eq, x_ne, x_isN, x_isI, x_isT, x_isnN, x_isnI, x_isnT, x_tr, x_bl, x_intD, x_seqT, x_seqL, x_lenT, x_lenL, x_abs, x_int, x_intB, x_tupL, x_lstT, x_max2, x_min2, x_isiI, x_isiB, x_idxT, x_idxL, x_slcL, x_zipL, List.getD_cons_zero, List.getD_cons_succ, List.set_cons_zero, List.set_cons_succ, Option.map_some, Option.bind_some, Bool.not_true, Bool.not_false, if_true, Bool.true_or, Bool.or_true, Bool.false_or, Bool.true_and, Bool.and_true, decide_true, decide_false, Bool.and_self, reduceIte, reduceCtorEq, ne_eq, not_false_eq_true, implies_true, x_fit, List.length_cons, List.length_nil, Nat.reduceAdd, Nat.reduceLeDiff, Bool.not_eq_true, decide_eq_true_eq, Bool.false_eq_true, if_false, x_la0, x_la1, x_app, x_popS, b_corners, e1, e2]
theorem s_low_degree {n : Nat} (h : i_low_degree < n) {P : List (Option Int)} (okP : POk P) : Ph n i_low_degree [poly P] none = .ok (.int ((tms 0 P).head?.getD (0, 0)).1) none := by
  rw [Ph_lt (F := d_low_degree.F) rfl h]
  refine run_rt rfl rfl (J1 := none) ?_
  show evSs _ _ [0] b_low_degree [some (poly P)] none = _
  have e1 := s_require_poly (n := i_low_degree) (by decide) okP
  have e2 := s_terms_in (n := i_low_degree) (by decide) okP
  have ne := tms_ne okP
  generalize tms 0 P = T at *
  cases T with
  | nil => exact absurd rfl ne
  | cons t T =>
    have a : atI (List.map encP (t :: T)) 0 = some (encP t) := x_at0
    simp only [x_bind, x_ok, x_pure, x_opt, x_selT, x_selF, x_seqO, x_seqR, x_seqB, x_seqC, x_rcall, x_callP, x_var, x_lit, x_tup, x_lst, x_bin, x_neg, x_not, x_cmp, x_chain, x_and, x_or, x_ite, x_idx, x_slc, x_rev, x_call, x_bi, x_callJ, x_callQ, x_nil, x_cons, x_star, x_o0, x_o1, x_if0, x_if1, x_seq, x_rng1, x_enum, x_zip, x_turn, x_asg, x_asgT, x_par, x_par0, x_par1, x_app, x_setI, x_popS, x_ex, x_ret, x_retN, x_pass, x_brk, x_cnt, x_if, x_ss0, x_ss, x_forT, x_view, x_viewF, x_keepF, x_keepT, x_hide0, x_hide1, x_hideN, x_own0, x_own1l, x_wipe0, x_wipe1, x_tg, x_tgT, x_tg0, x_tg1, x_add, x_sub, x_mul, x_lt, x_le, x_gt, x_ge, x_eq, x_ne, x_isN, x_isI, x_isT, x_isnN, x_isnI, x_isnT, x_tr, x_bl, x_intD, x_seqT, x_seqL, x_lenT, x_lenL, x_abs, x_int, x_intB, x_tupL, x_lstT, x_max2, x_min2, x_isiI, x_isiB, x_idxT, x_idxL, x_slcL, x_zipL, List.getD_cons_zero, List.getD_cons_succ, List.set_cons_zero, List.set_cons_succ, Option.map_some, Option.bind_some, Bool.not_true, Bool.not_false, if_true, Bool.true_or, Bool.or_true, Bool.false_or, Bool.true_and, Bool.and_true, decide_true, decide_false, Bool.and_self, reduceIte, reduceCtorEq, ne_eq, not_false_eq_true, implies_true, x_fit, List.length_cons, List.length_nil, Nat.reduceAdd, Nat.reduceLeDiff, Bool.not_eq_true, decide_eq_true_eq, Bool.false_eq_true, if_false, x_la0, x_la1, x_app, x_popS, b_low_degree, e1, e2, a, x_idxP0]
    rfl
theorem s_degree {n : Nat} (h : i_degree < n) {P : List (Option Int)} (okP : POk P) : Ph n i_degree [poly P] none = .ok (.int (P.length - 1)) none := by
  rw [Ph_lt (F := d_degree.F) rfl h]
  refine run_rt rfl rfl (J1 := none) ?_
  show evSs _ _ [0] b_degree [some (.tuple (P.map encE))] none = _
  have e1 : Ph i_degree i_require_poly [.tuple (P.map encE)] none = .ok .none none := s_require_poly (n := i_degree) (by decide) okP
  simp only [x_bind, x_ok, x_pure, x_opt, x_selT, x_selF, x_seqO, x_seqR, x_seqB, x_seqC, x_rcall, x_callP, x_var, x_lit, x_tup, x_lst, x_bin, x_neg, x_not, x_cmp, x_chain, x_and, x_or, x_ite, x_idx, x_slc, x_rev, x_call, x_bi, x_callJ, x_callQ, x_nil, x_cons, x_star, x_o0, x_o1, x_if0, x_if1, x_seq, x_rng1, x_enum, x_zip, x_turn, x_asg, x_asgT, x_par, x_par0, x_par1, x_app, x_setI, x_popS, x_ex, x_ret, x_retN, x_pass, x_brk, x_cnt, x_if, x_ss0, x_ss, x_forT, x_view, x_viewF, x_keepF, x_keepT, x_hide0, x_hide1, x_hideN, x_own0, x_own1l, x_wipe0, x_wipe1, x_tg, x_tgT, x_tg0, x_tg1, x_add, x_sub, x_mul, x_lt, x_le, x_gt, x_ge, x_eq, x_ne, x_isN, x_isI, x_isT, x_isnN, x_isnI, x_isnT, x_tr, x_bl, x_intD, x_seqT, x_seqL, x_lenT, x_lenL, x_abs, x_int, x_intB, x_tupL, x_lstT, x_max2, x_min2, x_isiI, x_isiB, x_idxT, x_idxL, x_slcL, x_zipL, List.getD_cons_zero, List.getD_cons_succ, List.set_cons_zero, List.set_cons_succ, Option.map_some, Option.bind_some, Bool.not_true, Bool.not_false, if_true, Bool.true_or, Bool.or_true, Bool.false_or, Bool.true_and, Bool.and_true, decide_true, decide_false, Bool.and_self, reduceIte, reduceCtorEq, ne_eq, not_false_eq_true, implies_true, x_fit, List.length_cons, List.length_nil, Nat.reduceAdd, Nat.reduceLeDiff, Bool.not_eq_true, decide_eq_true_eq, Bool.false_eq_true, if_false, x_la0, x_la1, x_app, x_popS, b_degree, e1, List.length_map]
end K52
end Ev
end

section
set_option maxRecDepth 100000
set_option maxHeartbeats 1000000
namespace Ev
open PySem PySem.Spec PyProof.Rows L2
def geO : Option Int → Int → Bool
  | some e, N => decide (N ≤ e)
  | none, _ => false
theorem reach_map {T : List (Int × Int)} {N : Int} : T.filterMap (fun t => if 0 < t.1 then some (encP (low (N - t.2) t.1)) else none) = ((T.filter fun t => decide (0 < t.1)).map fun t => low (N - t.2) t.1).map encP := by
  induction T with
  | nil => rfl
  | cons t T ih =>
    rw [List.filterMap_cons, List.filter_cons]
    by_cases c : 0 < t.1
    · rw [if_pos c, decide_eq_true c, if_pos rfl, ih]; rfl
    · rw [if_neg c, decide_eq_false c, if_neg (by decide), ih]
theorem reachL_pt {P : List (Option Int)} (okP : POk P) {N : Int} (h1 : -999 ≤ N) (h2 : N ≤ 999) {u : Int × Int} (h : u ∈ reachL P N) : ∃ t ∈ tms 0 P, 0 < t.1 ∧ u = low (N - t.2) t.1 ∧ 0 < u.2 ∧ gcdI u.1 u.2 = 1 ∧ W 12 u.1 ∧ W 4 u.2 := by
  obtain ⟨t, ht, e⟩ := List.mem_map.mp h
  obtain ⟨ht, hp⟩ := List.mem_filter.mp ht
  have hp := of_decide_eq_true hp
  obtain ⟨a1, a2, a3, a4⟩ := okP.term ht
  have l := low_W (j := 12) (k := 4) (a := N - t.2) hp (W.of (by simp; omega) (by simp; omega)) (W.of (by simp; omega) (by simp; omega))
  subst e
  exact ⟨t, ht, hp, rfl, low_pos hp, gcd_low hp, l.1, l.2⟩
theorem fbest_mem {a : Int × Int} : ∀ {l : List (Int × Int)}, fbest a l ∈ a :: l := by
  intro l
  induction l generalizing a with
  | nil => exact List.mem_cons_self ..
  | cons x l ih =>
    have := ih (a := if fless x a then x else a)
    show fbest (if fless x a then x else a) l ∈ _
    rcases List.mem_cons.mp this with q | q
    · rw [q]
      split
      · exact List.mem_cons_of_mem _ (List.mem_cons_self ..)
      · exact List.mem_cons_self ..
    · exact List.mem_cons_of_mem _ (List.mem_cons_of_mem _ q)
theorem best_loop {Φ : Fns} {f : Nat} {p N S : Option PyData} (hl : ∀ x y : Int × Int, W 400 x.1 → W 400 x.2 → W 400 y.1 → W 400 y.2 → Φ f [encP x, encP y] none = .ok (.bool (fless x y)) none) : ∀ (l : List (Int × Int)) (a : Int × Int) (y4 : Option PyData), (∀ u ∈ a :: l, W 400 u.1 ∧ W 400 u.2) →
    ∃ z, forLoop (forT Φ 1000 [0, 0, 0, 0, 0, 0, 0] (.name 4) [.asg 3 0 false (.ite (.call f [(.var 4), (.var 3)]) (.var 4) (.var 3))]) (l.map encP) [p, N, S, some (encP a), y4, none, none] none = .ok (.nx [p, N, S, some (encP (fbest a l)), z, none, none]) none := by
  intro l
  induction l with
  | nil => intro a y4 _; exact ⟨y4, rfl⟩
  | cons x l ih =>
    intro a y4 h
    have ha := h a (List.mem_cons_self ..)
    have hx := h x (List.mem_cons_of_mem _ (List.mem_cons_self ..))
    have e := hl x a hx.1 hx.2 ha.1 ha.2
    have hr : ∀ u ∈ (if fless x a then x else a) :: l, W 400 u.1 ∧ W 400 u.2 := by
      intro u hu
      rcases List.mem_cons.mp hu with q | q
      · rw [q]; split
        · exact hx
        · exact ha
      · exact h u (List.mem_cons_of_mem _ (List.mem_cons_of_mem _ q))
    show ∃ z, forLoop _ (encP x :: l.map encP) _ _ = _
    have st : forT Φ 1000 [0, 0, 0, 0, 0, 0, 0] (.name 4) [.asg 3 0 false (.ite (.call f [(.var 4), (.var 3)]) (.var 4) (.var 3))] (encP x) [p, N, S, some (encP a), y4, none, none] none = .ok (.nx [p, N, S, some (encP (if fless x a then x else a)), some (encP x), none, none]) none := by
      cases c : fless x a with
      | true => rw [c] at e; simp only [x_bind, x_ok, x_pure, x_opt, x_selT, x_selF, x_seqO, x_seqR, x_seqB, x_seqC, x_rcall, x_callP, x_var, x_lit, x_tup, x_lst, x_bin, x_neg, x_not, x_cmp, x_chain, x_and, x_or, x_ite, x_idx, x_slc, x_rev, x_call, x_bi, x_callJ, x_callQ, x_nil, x_cons, x_star, x_o0, x_o1, x_if0, x_if1, x_seq, x_rng1, x_enum, x_zip, x_turn, x_asg, x_asgT, x_par, x_par0, x_par1, x_app, x_setI, x_popS, x_ex, x_ret, x_retN, x_pass, x_brk, x_cnt, x_if, x_ss0, x_ss, x_forT, x_view, x_viewF, x_keepF, x_keepT, x_hide0, x_hide1, x_hideN, x_own0, x_own1l, x_wipe0, x_wipe1, x_tg, x_tgT, x_tg0, x_tg1, x_add, x_sub, x_mul, x_lt, x_le, x_gt, x_ge, x_eq, x_ne, x_isN, x_isI, x_isT, x_isnN, x_isnI, x_isnT, x_tr, x_bl, x_intD, x_seqT, x_seqL, x_lenT, x_lenL, x_abs, x_int, x_intB, x_tupL, x_lstT, x_max2, x_min2, x_isiI, x_isiB, x_idxT, x_idxL, x_slcL, x_zipL, List.getD_cons_zero, List.getD_cons_succ, List.set_cons_zero, List.set_cons_succ, Option.map_some, Option.bind_some, Bool.not_true, Bool.not_false, if_true, Bool.true_or, Bool.or_true, Bool.false_or, Bool.true_and, Bool.and_true, decide_true, decide_false, Bool.and_self, reduceIte, reduceCtorEq, ne_eq, not_false_eq_true, implies_true, x_fit, List.length_cons, List.length_nil, Nat.reduceAdd, Nat.reduceLeDiff, Bool.not_eq_true, decide_eq_true_eq, Bool.false_eq_true, if_false, x_la0, x_la1, x_app, x_popS, e]
      | false => rw [c] at e; simp only [x_bind, x_ok, x_pure, x_opt, x_selT, x_selF, x_seqO, x_seqR, x_seqB, x_seqC, x_rcall, x_callP, x_var, x_lit, x_tup, x_lst, x_bin, x_neg, x_not, x_cmp, x_chain, x_and, x_or, x_ite, x_idx, x_slc, x_rev, x_call, x_bi, x_callJ, x_callQ, x_nil, x_cons, x_star, x_o0, x_o1, x_if0, x_if1, x_seq, x_rng1, x_enum, x_zip, x_turn, x_asg, x_asgT, x_par, x_par0, x_par1, x_app, x_setI, x_popS, x_ex, x_ret, x_retN, x_pass, x_brk, x_cnt, x_if, x_ss0, x_ss, x_forT, x_view, x_viewF, x_keepF, x_keepT, x_hide0, x_hide1, x_hideN, x_own0, x_own1l, x_wipe0, x_wipe1, x_tg, x_tgT, x_tg0, x_tg1, x_add, x_sub, x_mul, x_lt, x_le, x_gt, x_ge, x_eq, x_ne, x_isN, x_isI, x_isT, x_isnN, x_isnI, x_isnT, x_tr, x_bl, x_intD, x_seqT, x_seqL, x_lenT, x_lenL, x_abs, x_int, x_intB, x_tupL, x_lstT, x_max2, x_min2, x_isiI, x_isiB, x_idxT, x_idxL, x_slcL, x_zipL, List.getD_cons_zero, List.getD_cons_succ, List.set_cons_zero, List.set_cons_succ, Option.map_some, Option.bind_some, Bool.not_true, Bool.not_false, if_true, Bool.true_or, Bool.or_true, Bool.false_or, Bool.true_and, Bool.and_true, decide_true, decide_false, Bool.and_self, reduceIte, reduceCtorEq, ne_eq, not_false_eq_true, implies_true, x_fit, List.length_cons, List.length_nil, Nat.reduceAdd, Nat.reduceLeDiff, Bool.not_eq_true, decide_eq_true_eq, Bool.false_eq_true, if_false, x_la0, x_la1, x_app, x_popS, e]
    rw [for_cons st]
    exact ih _ _ hr
namespace K52
theorem s_reaches {n : Nat} (h : i_reaches < n) {P : List (Option Int)} (okP : POk P) {N : Int} (h1 : -999 ≤ N) (h2 : N ≤ 999) : Ph n i_reaches [poly P, .int N] none = .ok (reachD P N) none := by
  have hless : ∀ x y : Int × Int, W 400 x.1 → W 400 x.2 → W 400 y.1 → W 400 y.2 → Ph i_reaches 11 [encP x, encP y] none = .ok (.bool (fless x y)) none := fun x y c1 c2 c3 c4 => s_less (n := i_reaches) (by decide) c1 c2 c3 c4
  rw [Ph_lt (F := d_reaches.F) rfl h]
  refine run_rt rfl rfl (J1 := none) ?_
  show evSs _ _ [0, 0, 0, 0, 0, 0, 0] b_reaches [some (.tuple (P.map encE)), some (.int N), none, none, none, none, none] none = _
  have e1 : Ph i_reaches i_require_poly [.tuple (P.map encE)] none = .ok .none none := s_require_poly (n := i_reaches) (by decide) okP
  have e2 := s_require_number (n := i_reaches) (by decide) h1 h2
  have e3 : Ph i_reaches i_terms_in [.tuple (P.map encE)] none = _ := s_terms_in (n := i_reaches) (by decide) okP
  have e := e_lcm (Φ := Ph i_reaches) (elt := .call 9 [(.bin .sub (.var 1) (.var 6)), (.var 5)]) (t := .tup [(.name 5), (.name 6)]) (it := .seq (.call 10 [(.var 0)])) (ifs := [(.cmp .gt (.var 5) (.lit (.int (0))))]) (own := [5, 6]) (σ := [some (.tuple (P.map encE)), some (.int N), none, none, none, none, none]) (J := none) (T := tms 0 P) (enc := encP) (g := fun t => if 0 < t.1 then some (encP (low (N - t.2) t.1)) else none) (by simp only [x_bind, x_ok, x_pure, x_opt, x_selT, x_selF, x_seqO, x_seqR, x_seqB, x_seqC, x_rcall, x_callP, x_var, x_lit, x_tup, x_lst, x_bin, x_neg, x_not, x_cmp, x_chain, x_and, x_or, x_ite, x_idx, x_slc, x_rev, x_call, x_bi, x_callJ, x_callQ, x_nil, x_cons, x_star, x_o0, x_o1, x_if0, x_if1, x_seq, x_rng1, x_enum, x_zip, x_turn, x_asg, x_asgT, x_par, x_par0, x_par1, x_app, x_setI, x_popS, x_ex, x_ret, x_retN, x_pass, x_brk, x_cnt, x_if, x_ss0, x_ss, x_forT, x_view, x_viewF, x_keepF, x_keepT, x_hide0, x_hide1, x_hideN, x_own0, x_own1l, x_wipe0, x_wipe1, x_tg, x_tgT, x_tg0, x_tg1, x_add, x_sub, x_mul, x_lt, x_le, x_gt, x_ge, x_eq, x_ne, x_isN, x_isI, x_isT, x_isnN, x_isnI, x_isnT, x_tr, x_bl, x_intD, x_seqT, x_seqL, x_lenT, x_lenL, x_abs, x_int, x_intB, x_tupL, x_lstT, x_max2, x_min2, x_isiI, x_isiB, x_idxT, x_idxL, x_slcL, x_zipL, List.getD_cons_zero, List.getD_cons_succ, List.set_cons_zero, List.set_cons_succ, Option.map_some, Option.bind_some, Bool.not_true, Bool.not_false, if_true, Bool.true_or, Bool.or_true, Bool.false_or, Bool.true_and, Bool.and_true, decide_true, decide_false, Bool.and_self, reduceIte, reduceCtorEq, ne_eq, not_false_eq_true, implies_true, x_fit, List.length_cons, List.length_nil, Nat.reduceAdd, Nat.reduceLeDiff, Bool.not_eq_true, decide_eq_true_eq, Bool.false_eq_true, if_false, x_la0, x_la1, x_app, x_popS, e3]) (fun t ht => by
    obtain ⟨a1, a2, a3, a4⟩ := okP.term ht
    by_cases c : 0 < t.1
    · have l := s_lowest (n := i_reaches) (by decide) (a := N - t.2) (b := t.1) c ((W.of (k := 20) (by simp; omega) (by simp; omega)).mono (by omega)) ((W.of (k := 20) (by simp; omega) (by simp; omega)).mono (by omega))
      simp only [x_bind, x_ok, x_pure, x_opt, x_selT, x_selF, x_seqO, x_seqR, x_seqB, x_seqC, x_rcall, x_callP, x_var, x_lit, x_tup, x_lst, x_bin, x_neg, x_not, x_cmp, x_chain, x_and, x_or, x_ite, x_idx, x_slc, x_rev, x_call, x_bi, x_callJ, x_callQ, x_nil, x_cons, x_star, x_o0, x_o1, x_if0, x_if1, x_seq, x_rng1, x_enum, x_zip, x_turn, x_asg, x_asgT, x_par, x_par0, x_par1, x_app, x_setI, x_popS, x_ex, x_ret, x_retN, x_pass, x_brk, x_cnt, x_if, x_ss0, x_ss, x_forT, x_view, x_viewF, x_keepF, x_keepT, x_hide0, x_hide1, x_hideN, x_own0, x_own1l, x_wipe0, x_wipe1, x_tg, x_tgT, x_tg0, x_tg1, x_add, x_sub, x_mul, x_lt, x_le, x_gt, x_ge, x_eq, x_ne, x_isN, x_isI, x_isT, x_isnN, x_isnI, x_isnT, x_tr, x_bl, x_intD, x_seqT, x_seqL, x_lenT, x_lenL, x_abs, x_int, x_intB, x_tupL, x_lstT, x_max2, x_min2, x_isiI, x_isiB, x_idxT, x_idxL, x_slcL, x_zipL, List.getD_cons_zero, List.getD_cons_succ, List.set_cons_zero, List.set_cons_succ, Option.map_some, Option.bind_some, Bool.not_true, Bool.not_false, if_true, Bool.true_or, Bool.or_true, Bool.false_or, Bool.true_and, Bool.and_true, decide_true, decide_false, Bool.and_self, reduceIte, reduceCtorEq, ne_eq, not_false_eq_true, implies_true, x_fit, List.length_cons, List.length_nil, Nat.reduceAdd, Nat.reduceLeDiff, Bool.not_eq_true, decide_eq_true_eq, Bool.false_eq_true, if_false, x_la0, x_la1, x_app, x_popS, x_tgP, c, l]
    · simp only [x_bind, x_ok, x_pure, x_opt, x_selT, x_selF, x_seqO, x_seqR, x_seqB, x_seqC, x_rcall, x_callP, x_var, x_lit, x_tup, x_lst, x_bin, x_neg, x_not, x_cmp, x_chain, x_and, x_or, x_ite, x_idx, x_slc, x_rev, x_call, x_bi, x_callJ, x_callQ, x_nil, x_cons, x_star, x_o0, x_o1, x_if0, x_if1, x_seq, x_rng1, x_enum, x_zip, x_turn, x_asg, x_asgT, x_par, x_par0, x_par1, x_app, x_setI, x_popS, x_ex, x_ret, x_retN, x_pass, x_brk, x_cnt, x_if, x_ss0, x_ss, x_forT, x_view, x_viewF, x_keepF, x_keepT, x_hide0, x_hide1, x_hideN, x_own0, x_own1l, x_wipe0, x_wipe1, x_tg, x_tgT, x_tg0, x_tg1, x_add, x_sub, x_mul, x_lt, x_le, x_gt, x_ge, x_eq, x_ne, x_isN, x_isI, x_isT, x_isnN, x_isnI, x_isnT, x_tr, x_bl, x_intD, x_seqT, x_seqL, x_lenT, x_lenL, x_abs, x_int, x_intB, x_tupL, x_lstT, x_max2, x_min2, x_isiI, x_isiB, x_idxT, x_idxL, x_slcL, x_zipL, List.getD_cons_zero, List.getD_cons_succ, List.set_cons_zero, List.set_cons_succ, Option.map_some, Option.bind_some, Bool.not_true, Bool.not_false, if_true, Bool.true_or, Bool.or_true, Bool.false_or, Bool.true_and, Bool.and_true, decide_true, decide_false, Bool.and_self, reduceIte, reduceCtorEq, ne_eq, not_false_eq_true, implies_true, x_fit, List.length_cons, List.length_nil, Nat.reduceAdd, Nat.reduceLeDiff, Bool.not_eq_true, decide_eq_true_eq, Bool.false_eq_true, if_false, x_la0, x_la1, x_app, x_popS, x_tgP, c]) (Nat.le_trans tms_len (by have := okP.hi; omega))
  rw [reach_map] at e
  change _ = Rs.ok (PyData.list ((reachL P N).map encP)) none at e
  have w : ∀ u ∈ reachL P N, W 400 u.1 ∧ W 400 u.2 := fun u hu => by
    obtain ⟨_, _, _, _, _, _, a, b⟩ := reachL_pt okP h1 h2 hu
    exact ⟨a.mono (by omega), b.mono (by omega)⟩
  have rest : evSs (Ph i_reaches) 1000 [0, 0, 0, 0, 0, 0, 0] (b_reaches.drop 3) [some (.tuple (P.map encE)), some (.int N), none, none, none, none, none] none = .ok (.rt (match reachL P N with
    | [] => .tuple [.str (Str.ofString "never")]
    | a :: l => .tuple [.str (Str.ofString "from"), encP (fbest a (a :: l))])) none := by
    show evSs (Ph i_reaches) 1000 [0, 0, 0, 0, 0, 0, 0] [.asg 2 0 false (.lc (.call 9 [(.bin .sub (.var 1) (.var 6)), (.var 5)]) (.tup [(.name 5), (.name 6)]) (.seq (.call 10 [(.var 0)])) [(.cmp .gt (.var 5) (.lit (.int (0))))] [5, 6]), .ite (.cmp .eq (.var 2) (.lst [])) [.ret (.tup [(.lit (.str (Str.ofString "never")))])] [], .asg 3 0 false (.idx (.var 2) (.lit (.int (0)))), .forS false (.name 4) (.seq (.var 2)) [.asg 3 0 false (.ite (.call 11 [(.var 4), (.var 3)]) (.var 4) (.var 3))], .ret (.tup [(.lit (.str (Str.ofString "from"))), (.var 3)])] _ _ = _
    generalize reachL P N = R at *
    cases R with
    | nil =>
      have q : cmpE .eq (.list []) (.list []) = some true := eq_nilP (l := [])
      simp only [x_bind, x_ok, x_pure, x_opt, x_selT, x_selF, x_seqO, x_seqR, x_seqB, x_seqC, x_rcall, x_callP, x_var, x_lit, x_tup, x_lst, x_bin, x_neg, x_not, x_cmp, x_chain, x_and, x_or, x_ite, x_idx, x_slc, x_rev, x_call, x_bi, x_callJ, x_callQ, x_nil, x_cons, x_star, x_o0, x_o1, x_if0, x_if1, x_seq, x_rng1, x_enum, x_zip, x_turn, x_asg, x_asgT, x_par, x_par0, x_par1, x_app, x_setI, x_popS, x_ex, x_ret, x_retN, x_pass, x_brk, x_cnt, x_if, x_ss0, x_ss, x_forT, x_view, x_viewF, x_keepF, x_keepT, x_hide0, x_hide1, x_hideN, x_own0, x_own1l, x_wipe0, x_wipe1, x_tg, x_tgT, x_tg0, x_tg1, x_add, x_sub, x_mul, x_lt, x_le, x_gt, x_ge, x_eq, x_ne, x_isN, x_isI, x_isT, x_isnN, x_isnI, x_isnT, x_tr, x_bl, x_intD, x_seqT, x_seqL, x_lenT, x_lenL, x_abs, x_int, x_intB, x_tupL, x_lstT, x_max2, x_min2, x_isiI, x_isiB, x_idxT, x_idxL, x_slcL, x_zipL, List.getD_cons_zero, List.getD_cons_succ, List.set_cons_zero, List.set_cons_succ, Option.map_some, Option.bind_some, Bool.not_true, Bool.not_false, if_true, Bool.true_or, Bool.or_true, Bool.false_or, Bool.true_and, Bool.and_true, decide_true, decide_false, Bool.and_self, reduceIte, reduceCtorEq, ne_eq, not_false_eq_true, implies_true, x_fit, List.length_cons, List.length_nil, Nat.reduceAdd, Nat.reduceLeDiff, Bool.not_eq_true, decide_eq_true_eq, Bool.false_eq_true, if_false, x_la0, x_la1, x_app, x_popS, e, List.map_nil, q]
    | cons a l =>
      have q : cmpE .eq (.list (List.map encP (a :: l))) (.list []) = some false := eq_nilP (l := a :: l)
      have a0 : atI (List.map encP (a :: l)) 0 = some (encP a) := x_at0
      obtain ⟨z, lp⟩ := best_loop (Φ := Ph i_reaches) (f := 11) (p := some (.tuple (P.map encE))) (N := some (.int N)) (S := some (.list (List.map encP (a :: l)))) hless (a :: l) a none (fun u hu => w u (by simpa using hu))
      have ef := e_for (Φ := Ph i_reaches) (fuel := 1000) (M := [0, 0, 0, 0, 0, 0, 0]) (b := false) (t := .name 4) (it := .seq (.var 2)) (σ := [some (.tuple (P.map encE)), some (.int N), some (.list (List.map encP (a :: l))), some (encP a), none, none, none]) (J := none) (J1 := none) (ds := List.map encP (a :: l)) (by simp only [x_bind, x_ok, x_pure, x_opt, x_selT, x_selF, x_seqO, x_seqR, x_seqB, x_seqC, x_rcall, x_callP, x_var, x_lit, x_tup, x_lst, x_bin, x_neg, x_not, x_cmp, x_chain, x_and, x_or, x_ite, x_idx, x_slc, x_rev, x_call, x_bi, x_callJ, x_callQ, x_nil, x_cons, x_star, x_o0, x_o1, x_if0, x_if1, x_seq, x_rng1, x_enum, x_zip, x_turn, x_asg, x_asgT, x_par, x_par0, x_par1, x_app, x_setI, x_popS, x_ex, x_ret, x_retN, x_pass, x_brk, x_cnt, x_if, x_ss0, x_ss, x_forT, x_view, x_viewF, x_keepF, x_keepT, x_hide0, x_hide1, x_hideN, x_own0, x_own1l, x_wipe0, x_wipe1, x_tg, x_tgT, x_tg0, x_tg1, x_add, x_sub, x_mul, x_lt, x_le, x_gt, x_ge, x_eq, x_ne, x_isN, x_isI, x_isT, x_isnN, x_isnI, x_isnT, x_tr, x_bl, x_intD, x_seqT, x_seqL, x_lenT, x_lenL, x_abs, x_int, x_intB, x_tupL, x_lstT, x_max2, x_min2, x_isiI, x_isiB, x_idxT, x_idxL, x_slcL, x_zipL, List.getD_cons_zero, List.getD_cons_succ, List.set_cons_zero, List.set_cons_succ, Option.map_some, Option.bind_some, Bool.not_true, Bool.not_false, if_true, Bool.true_or, Bool.or_true, Bool.false_or, Bool.true_and, Bool.and_true, decide_true, decide_false, Bool.and_self, reduceIte, reduceCtorEq, ne_eq, not_false_eq_true, implies_true, x_fit, List.length_cons, List.length_nil, Nat.reduceAdd, Nat.reduceLeDiff, Bool.not_eq_true, decide_eq_true_eq, Bool.false_eq_true, if_false, x_la0, x_la1, x_app, x_popS]) lp
      simp only [x_bind, x_ok, x_pure, x_opt, x_selT, x_selF, x_seqO, x_seqR, x_seqB, x_seqC, x_rcall, x_callP, x_var, x_lit, x_tup, x_lst, x_bin, x_neg, x_not, x_cmp, x_chain, x_and, x_or, x_ite, x_idx, x_slc, x_rev, x_call, x_bi, x_callJ, x_callQ, x_nil, x_cons, x_star, x_o0, x_o1, x_if0, x_if1, x_seq, x_rng1, x_enum, x_zip, x_turn, x_asg, x_asgT, x_par, x_par0, x_par1, x_app, x_setI, x_popS, x_ex, x_ret, x_retN, x_pass, x_brk, x_cnt, x_if, x_ss0, x_ss, x_forT, x_view, x_viewF, x_keepF, x_keepT, x_hide0, x_hide1, x_hideN, x_own0, x_own1l, x_wipe0, x_wipe1, x_tg, x_tgT, x_tg0, x_tg1, x_add, x_sub, x_mul, x_lt, x_le, x_gt, x_ge, x_eq, x_ne, x_isN, x_isI, x_isT, x_isnN, x_isnI, x_isnT, x_tr, x_bl, x_intD, x_seqT, x_seqL, x_lenT, x_lenL, x_abs, x_int, x_intB, x_tupL, x_lstT, x_max2, x_min2, x_isiI, x_isiB, x_idxT, x_idxL, x_slcL, x_zipL, List.getD_cons_zero, List.getD_cons_succ, List.set_cons_zero, List.set_cons_succ, Option.map_some, Option.bind_some, Bool.not_true, Bool.not_false, if_true, Bool.true_or, Bool.or_true, Bool.false_or, Bool.true_and, Bool.and_true, decide_true, decide_false, Bool.and_self, reduceIte, reduceCtorEq, ne_eq, not_false_eq_true, implies_true, x_fit, List.length_cons, List.length_nil, Nat.reduceAdd, Nat.reduceLeDiff, Bool.not_eq_true, decide_eq_true_eq, Bool.false_eq_true, if_false, x_la0, x_la1, x_app, x_popS, e, q, a0, ef]
  obtain ⟨o, r, hP⟩ := okP.ne
  have z0 : atI (P.map encE) 0 = some (encE o) := by rw [hP]; exact x_at0
  have spl : ∀ rs, evSs (Ph i_reaches) 1000 [0, 0, 0, 0, 0, 0, 0] (.ex (.call 6 [(.var 0)]) :: .ex (.call 7 [(.var 1)]) :: .ite (.and (.cmp .isn (.idx (.var 0) (.lit (.int (0)))) (.lit .none)) (.cmp .ge (.idx (.var 0) (.lit (.int (0)))) (.var 1))) [.ret (.tup [(.lit (.str (Str.ofString "always")))])] [] :: rs) [some (.tuple (P.map encE)), some (.int N), none, none, none, none, none] none
      = selM (alw P N) (Mo.pure (.rt (.tuple [.str (Str.ofString "always")]))) (evSs (Ph i_reaches) 1000 [0, 0, 0, 0, 0, 0, 0] rs [some (.tuple (P.map encE)), some (.int N), none, none, none, none, none]) none := by
    intro rs
    have ha : alw P N = geO o N := by rw [hP]; cases o <;> rfl
    rw [ha]
    clear ha hP
    cases o with
    | none => simp only [x_bind, x_ok, x_pure, x_opt, x_selT, x_selF, x_seqO, x_seqR, x_seqB, x_seqC, x_rcall, x_callP, x_var, x_lit, x_tup, x_lst, x_bin, x_neg, x_not, x_cmp, x_chain, x_and, x_or, x_ite, x_idx, x_slc, x_rev, x_call, x_bi, x_callJ, x_callQ, x_nil, x_cons, x_star, x_o0, x_o1, x_if0, x_if1, x_seq, x_rng1, x_enum, x_zip, x_turn, x_asg, x_asgT, x_par, x_par0, x_par1, x_app, x_setI, x_popS, x_ex, x_ret, x_retN, x_pass, x_brk, x_cnt, x_if, x_ss0, x_ss, x_forT, x_view, x_viewF, x_keepF, x_keepT, x_hide0, x_hide1, x_hideN, x_own0, x_own1l, x_wipe0, x_wipe1, x_tg, x_tgT, x_tg0, x_tg1, x_add, x_sub, x_mul, x_lt, x_le, x_gt, x_ge, x_eq, x_ne, x_isN, x_isI, x_isT, x_isnN, x_isnI, x_isnT, x_tr, x_bl, x_intD, x_seqT, x_seqL, x_lenT, x_lenL, x_abs, x_int, x_intB, x_tupL, x_lstT, x_max2, x_min2, x_isiI, x_isiB, x_idxT, x_idxL, x_slcL, x_zipL, List.getD_cons_zero, List.getD_cons_succ, List.set_cons_zero, List.set_cons_succ, Option.map_some, Option.bind_some, Bool.not_true, Bool.not_false, if_true, Bool.true_or, Bool.or_true, Bool.false_or, Bool.true_and, Bool.and_true, decide_true, decide_false, Bool.and_self, reduceIte, reduceCtorEq, ne_eq, not_false_eq_true, implies_true, x_fit, List.length_cons, List.length_nil, Nat.reduceAdd, Nat.reduceLeDiff, Bool.not_eq_true, decide_eq_true_eq, Bool.false_eq_true, if_false, x_la0, x_la1, x_app, x_popS, e1, e2, z0, encE, geO]
    | some e0 =>
      by_cases c : N ≤ e0
      · simp only [x_bind, x_ok, x_pure, x_opt, x_selT, x_selF, x_seqO, x_seqR, x_seqB, x_seqC, x_rcall, x_callP, x_var, x_lit, x_tup, x_lst, x_bin, x_neg, x_not, x_cmp, x_chain, x_and, x_or, x_ite, x_idx, x_slc, x_rev, x_call, x_bi, x_callJ, x_callQ, x_nil, x_cons, x_star, x_o0, x_o1, x_if0, x_if1, x_seq, x_rng1, x_enum, x_zip, x_turn, x_asg, x_asgT, x_par, x_par0, x_par1, x_app, x_setI, x_popS, x_ex, x_ret, x_retN, x_pass, x_brk, x_cnt, x_if, x_ss0, x_ss, x_forT, x_view, x_viewF, x_keepF, x_keepT, x_hide0, x_hide1, x_hideN, x_own0, x_own1l, x_wipe0, x_wipe1, x_tg, x_tgT, x_tg0, x_tg1, x_add, x_sub, x_mul, x_lt, x_le, x_gt, x_ge, x_eq, x_ne, x_isN, x_isI, x_isT, x_isnN, x_isnI, x_isnT, x_tr, x_bl, x_intD, x_seqT, x_seqL, x_lenT, x_lenL, x_abs, x_int, x_intB, x_tupL, x_lstT, x_max2, x_min2, x_isiI, x_isiB, x_idxT, x_idxL, x_slcL, x_zipL, List.getD_cons_zero, List.getD_cons_succ, List.set_cons_zero, List.set_cons_succ, Option.map_some, Option.bind_some, Bool.not_true, Bool.not_false, if_true, Bool.true_or, Bool.or_true, Bool.false_or, Bool.true_and, Bool.and_true, decide_true, decide_false, Bool.and_self, reduceIte, reduceCtorEq, ne_eq, not_false_eq_true, implies_true, x_fit, List.length_cons, List.length_nil, Nat.reduceAdd, Nat.reduceLeDiff, Bool.not_eq_true, decide_eq_true_eq, Bool.false_eq_true, if_false, x_la0, x_la1, x_app, x_popS, e1, e2, z0, encE, geO, c]
      · simp only [x_bind, x_ok, x_pure, x_opt, x_selT, x_selF, x_seqO, x_seqR, x_seqB, x_seqC, x_rcall, x_callP, x_var, x_lit, x_tup, x_lst, x_bin, x_neg, x_not, x_cmp, x_chain, x_and, x_or, x_ite, x_idx, x_slc, x_rev, x_call, x_bi, x_callJ, x_callQ, x_nil, x_cons, x_star, x_o0, x_o1, x_if0, x_if1, x_seq, x_rng1, x_enum, x_zip, x_turn, x_asg, x_asgT, x_par, x_par0, x_par1, x_app, x_setI, x_popS, x_ex, x_ret, x_retN, x_pass, x_brk, x_cnt, x_if, x_ss0, x_ss, x_forT, x_view, x_viewF, x_keepF, x_keepT, x_hide0, x_hide1, x_hideN, x_own0, x_own1l, x_wipe0, x_wipe1, x_tg, x_tgT, x_tg0, x_tg1, x_add, x_sub, x_mul, x_lt, x_le, x_gt, x_ge, x_eq, x_ne, x_isN, x_isI, x_isT, x_isnN, x_isnI, x_isnT, x_tr, x_bl, x_intD, x_seqT, x_seqL, x_lenT, x_lenL, x_abs, x_int, x_intB, x_tupL, x_lstT, x_max2, x_min2, x_isiI, x_isiB, x_idxT, x_idxL, x_slcL, x_zipL, List.getD_cons_zero, List.getD_cons_succ, List.set_cons_zero, List.set_cons_succ, Option.map_some, Option.bind_some, Bool.not_true, Bool.not_false, if_true, Bool.true_or, Bool.or_true, Bool.false_or, Bool.true_and, Bool.and_true, decide_true, decide_false, Bool.and_self, reduceIte, reduceCtorEq, ne_eq, not_false_eq_true, implies_true, x_fit, List.length_cons, List.length_nil, Nat.reduceAdd, Nat.reduceLeDiff, Bool.not_eq_true, decide_eq_true_eq, Bool.false_eq_true, if_false, x_la0, x_la1, x_app, x_popS, e1, e2, z0, encE, geO, c]
  refine (spl (b_reaches.drop 3)).trans ?_
  unfold reachD
  cases alw P N with
  | true => rfl
  | false => exact rest
theorem s__law_reaches {n : Nat} (h : i__law_reaches < n) {P : List (Option Int)} (okP : POk P) {N : Int} (h1 : -999 ≤ N) (h2 : N ≤ 999) : Ph n i__law_reaches [poly P, .int N] none = .ok (reachD P N) none := by
  rw [Ph_lt (F := d__law_reaches.F) rfl h]
  refine run_rt rfl rfl (J1 := none) ?_
  show evSs _ _ [0, 0, 0, 0, 0, 0, 0] b__law_reaches [some (.tuple (P.map encE)), some (.int N), none, none, none, none, none] none = _
  have e := e_lce (Φ := Ph i__law_reaches) (elt := .call 18 [(.bin .sub (.var 1) (.var 6)), (.var 5)]) (t := .tup [(.name 5), (.name 6)]) (it := .enum (.var 0)) (ifs := [(.and (.cmp .isn (.var 6) (.lit .none)) (.cmp .gt (.var 5) (.lit (.int (0)))))]) (own := [5, 6]) (σ := [some (.tuple (P.map encE)), some (.int N), none, none, none, none, none]) (J := none) (P := P) (g := fun t => if 0 < t.1 then some (encP (low (N - t.2) t.1)) else none) (by simp only [x_bind, x_ok, x_pure, x_opt, x_selT, x_selF, x_seqO, x_seqR, x_seqB, x_seqC, x_rcall, x_callP, x_var, x_lit, x_tup, x_lst, x_bin, x_neg, x_not, x_cmp, x_chain, x_and, x_or, x_ite, x_idx, x_slc, x_rev, x_call, x_bi, x_callJ, x_callQ, x_nil, x_cons, x_star, x_o0, x_o1, x_if0, x_if1, x_seq, x_rng1, x_enum, x_zip, x_turn, x_asg, x_asgT, x_par, x_par0, x_par1, x_app, x_setI, x_popS, x_ex, x_ret, x_retN, x_pass, x_brk, x_cnt, x_if, x_ss0, x_ss, x_forT, x_view, x_viewF, x_keepF, x_keepT, x_hide0, x_hide1, x_hideN, x_own0, x_own1l, x_wipe0, x_wipe1, x_tg, x_tgT, x_tg0, x_tg1, x_add, x_sub, x_mul, x_lt, x_le, x_gt, x_ge, x_eq, x_ne, x_isN, x_isI, x_isT, x_isnN, x_isnI, x_isnT, x_tr, x_bl, x_intD, x_seqT, x_seqL, x_lenT, x_lenL, x_abs, x_int, x_intB, x_tupL, x_lstT, x_max2, x_min2, x_isiI, x_isiB, x_idxT, x_idxL, x_slcL, x_zipL, List.getD_cons_zero, List.getD_cons_succ, List.set_cons_zero, List.set_cons_succ, Option.map_some, Option.bind_some, Bool.not_true, Bool.not_false, if_true, Bool.true_or, Bool.or_true, Bool.false_or, Bool.true_and, Bool.and_true, decide_true, decide_false, Bool.and_self, reduceIte, reduceCtorEq, ne_eq, not_false_eq_true, implies_true, x_fit, List.length_cons, List.length_nil, Nat.reduceAdd, Nat.reduceLeDiff, Bool.not_eq_true, decide_eq_true_eq, Bool.false_eq_true, if_false, x_la0, x_la1, x_app, x_popS]) (fun i => by simp only [x_bind, x_ok, x_pure, x_opt, x_selT, x_selF, x_seqO, x_seqR, x_seqB, x_seqC, x_rcall, x_callP, x_var, x_lit, x_tup, x_lst, x_bin, x_neg, x_not, x_cmp, x_chain, x_and, x_or, x_ite, x_idx, x_slc, x_rev, x_call, x_bi, x_callJ, x_callQ, x_nil, x_cons, x_star, x_o0, x_o1, x_if0, x_if1, x_seq, x_rng1, x_enum, x_zip, x_turn, x_asg, x_asgT, x_par, x_par0, x_par1, x_app, x_setI, x_popS, x_ex, x_ret, x_retN, x_pass, x_brk, x_cnt, x_if, x_ss0, x_ss, x_forT, x_view, x_viewF, x_keepF, x_keepT, x_hide0, x_hide1, x_hideN, x_own0, x_own1l, x_wipe0, x_wipe1, x_tg, x_tgT, x_tg0, x_tg1, x_add, x_sub, x_mul, x_lt, x_le, x_gt, x_ge, x_eq, x_ne, x_isN, x_isI, x_isT, x_isnN, x_isnI, x_isnT, x_tr, x_bl, x_intD, x_seqT, x_seqL, x_lenT, x_lenL, x_abs, x_int, x_intB, x_tupL, x_lstT, x_max2, x_min2, x_isiI, x_isiB, x_idxT, x_idxL, x_slcL, x_zipL, List.getD_cons_zero, List.getD_cons_succ, List.set_cons_zero, List.set_cons_succ, Option.map_some, Option.bind_some, Bool.not_true, Bool.not_false, if_true, Bool.true_or, Bool.or_true, Bool.false_or, Bool.true_and, Bool.and_true, decide_true, decide_false, Bool.and_self, reduceIte, reduceCtorEq, ne_eq, not_false_eq_true, implies_true, x_fit, List.length_cons, List.length_nil, Nat.reduceAdd, Nat.reduceLeDiff, Bool.not_eq_true, decide_eq_true_eq, Bool.false_eq_true, if_false, x_la0, x_la1, x_app, x_popS]) (fun t ht => by
    obtain ⟨a1, a2, a3, a4⟩ := okP.term ht
    by_cases c : 0 < t.1
    · have l := s__law_lowest (n := i__law_reaches) (by decide) (a := N - t.2) (b := t.1) c ((W.of (k := 20) (by simp; omega) (by simp; omega)).mono (by omega)) ((W.of (k := 20) (by simp; omega) (by simp; omega)).mono (by omega))
      simp only [x_bind, x_ok, x_pure, x_opt, x_selT, x_selF, x_seqO, x_seqR, x_seqB, x_seqC, x_rcall, x_callP, x_var, x_lit, x_tup, x_lst, x_bin, x_neg, x_not, x_cmp, x_chain, x_and, x_or, x_ite, x_idx, x_slc, x_rev, x_call, x_bi, x_callJ, x_callQ, x_nil, x_cons, x_star, x_o0, x_o1, x_if0, x_if1, x_seq, x_rng1, x_enum, x_zip, x_turn, x_asg, x_asgT, x_par, x_par0, x_par1, x_app, x_setI, x_popS, x_ex, x_ret, x_retN, x_pass, x_brk, x_cnt, x_if, x_ss0, x_ss, x_forT, x_view, x_viewF, x_keepF, x_keepT, x_hide0, x_hide1, x_hideN, x_own0, x_own1l, x_wipe0, x_wipe1, x_tg, x_tgT, x_tg0, x_tg1, x_add, x_sub, x_mul, x_lt, x_le, x_gt, x_ge, x_eq, x_ne, x_isN, x_isI, x_isT, x_isnN, x_isnI, x_isnT, x_tr, x_bl, x_intD, x_seqT, x_seqL, x_lenT, x_lenL, x_abs, x_int, x_intB, x_tupL, x_lstT, x_max2, x_min2, x_isiI, x_isiB, x_idxT, x_idxL, x_slcL, x_zipL, List.getD_cons_zero, List.getD_cons_succ, List.set_cons_zero, List.set_cons_succ, Option.map_some, Option.bind_some, Bool.not_true, Bool.not_false, if_true, Bool.true_or, Bool.or_true, Bool.false_or, Bool.true_and, Bool.and_true, decide_true, decide_false, Bool.and_self, reduceIte, reduceCtorEq, ne_eq, not_false_eq_true, implies_true, x_fit, List.length_cons, List.length_nil, Nat.reduceAdd, Nat.reduceLeDiff, Bool.not_eq_true, decide_eq_true_eq, Bool.false_eq_true, if_false, x_la0, x_la1, x_app, x_popS, c, l]
    · simp only [x_bind, x_ok, x_pure, x_opt, x_selT, x_selF, x_seqO, x_seqR, x_seqB, x_seqC, x_rcall, x_callP, x_var, x_lit, x_tup, x_lst, x_bin, x_neg, x_not, x_cmp, x_chain, x_and, x_or, x_ite, x_idx, x_slc, x_rev, x_call, x_bi, x_callJ, x_callQ, x_nil, x_cons, x_star, x_o0, x_o1, x_if0, x_if1, x_seq, x_rng1, x_enum, x_zip, x_turn, x_asg, x_asgT, x_par, x_par0, x_par1, x_app, x_setI, x_popS, x_ex, x_ret, x_retN, x_pass, x_brk, x_cnt, x_if, x_ss0, x_ss, x_forT, x_view, x_viewF, x_keepF, x_keepT, x_hide0, x_hide1, x_hideN, x_own0, x_own1l, x_wipe0, x_wipe1, x_tg, x_tgT, x_tg0, x_tg1, x_add, x_sub, x_mul, x_lt, x_le, x_gt, x_ge, x_eq, x_ne, x_isN, x_isI, x_isT, x_isnN, x_isnI, x_isnT, x_tr, x_bl, x_intD, x_seqT, x_seqL, x_lenT, x_lenL, x_abs, x_int, x_intB, x_tupL, x_lstT, x_max2, x_min2, x_isiI, x_isiB, x_idxT, x_idxL, x_slcL, x_zipL, List.getD_cons_zero, List.getD_cons_succ, List.set_cons_zero, List.set_cons_succ, Option.map_some, Option.bind_some, Bool.not_true, Bool.not_false, if_true, Bool.true_or, Bool.or_true, Bool.false_or, Bool.true_and, Bool.and_true, decide_true, decide_false, Bool.and_self, reduceIte, reduceCtorEq, ne_eq, not_false_eq_true, implies_true, x_fit, List.length_cons, List.length_nil, Nat.reduceAdd, Nat.reduceLeDiff, Bool.not_eq_true, decide_eq_true_eq, Bool.false_eq_true, if_false, x_la0, x_la1, x_app, x_popS, c]) (by have := okP.hi; omega)
  rw [reach_map] at e
  change _ = Rs.ok (PyData.list ((reachL P N).map encP)) none at e
  have w : ∀ u ∈ reachL P N, W 400 u.1 ∧ W 400 u.2 := fun u hu => by
    obtain ⟨_, _, _, _, _, _, a, b⟩ := reachL_pt okP h1 h2 hu
    exact ⟨a.mono (by omega), b.mono (by omega)⟩
  have rest : evSs (Ph i__law_reaches) 1000 [0, 0, 0, 0, 0, 0, 0] (b__law_reaches.drop 1) [some (.tuple (P.map encE)), some (.int N), none, none, none, none, none] none = .ok (.rt (match reachL P N with
    | [] => .tuple [.str (Str.ofString "never")]
    | a :: l => .tuple [.str (Str.ofString "from"), encP (fbest a (a :: l))])) none := by
    show evSs (Ph i__law_reaches) 1000 [0, 0, 0, 0, 0, 0, 0] [.asg 2 0 false (.lc (.call 18 [(.bin .sub (.var 1) (.var 6)), (.var 5)]) (.tup [(.name 5), (.name 6)]) (.enum (.var 0)) [(.and (.cmp .isn (.var 6) (.lit .none)) (.cmp .gt (.var 5) (.lit (.int (0)))))] [5, 6]), .ite (.cmp .eq (.var 2) (.lst [])) [.ret (.tup [(.lit (.str (Str.ofString "never")))])] [], .asg 3 0 false (.idx (.var 2) (.lit (.int (0)))), .forS false (.name 4) (.seq (.var 2)) [.asg 3 0 false (.ite (.call 22 [(.var 4), (.var 3)]) (.var 4) (.var 3))], .ret (.tup [(.lit (.str (Str.ofString "from"))), (.var 3)])] _ _ = _
    generalize reachL P N = R at *
    cases R with
    | nil =>
      have q : cmpE .eq (.list []) (.list []) = some true := eq_nilP (l := [])
      simp only [x_bind, x_ok, x_pure, x_opt, x_selT, x_selF, x_seqO, x_seqR, x_seqB, x_seqC, x_rcall, x_callP, x_var, x_lit, x_tup, x_lst, x_bin, x_neg, x_not, x_cmp, x_chain, x_and, x_or, x_ite, x_idx, x_slc, x_rev, x_call, x_bi, x_callJ, x_callQ, x_nil, x_cons, x_star, x_o0, x_o1, x_if0, x_if1, x_seq, x_rng1, x_enum, x_zip, x_turn, x_asg, x_asgT, x_par, x_par0, x_par1, x_app, x_setI, x_popS, x_ex, x_ret, x_retN, x_pass, x_brk, x_cnt, x_if, x_ss0, x_ss, x_forT, x_view, x_viewF, x_keepF, x_keepT, x_hide0, x_hide1, x_hideN, x_own0, x_own1l, x_wipe0, x_wipe1, x_tg, x_tgT, x_tg0, x_tg1, x_add, x_sub, x_mul, x_lt, x_le, x_gt, x_ge, x_eq, x_ne, x_isN, x_isI, x_isT, x_isnN, x_isnI, x_isnT, x_tr, x_bl, x_intD, x_seqT, x_seqL, x_lenT, x_lenL, x_abs, x_int, x_intB, x_tupL, x_lstT, x_max2, x_min2, x_isiI, x_isiB, x_idxT, x_idxL, x_slcL, x_zipL, List.getD_cons_zero, List.getD_cons_succ, List.set_cons_zero, List.set_cons_succ, Option.map_some, Option.bind_some, Bool.not_true, Bool.not_false, if_true, Bool.true_or, Bool.or_true, Bool.false_or, Bool.true_and, Bool.and_true, decide_true, decide_false, Bool.and_self, reduceIte, reduceCtorEq, ne_eq, not_false_eq_true, implies_true, x_fit, List.length_cons, List.length_nil, Nat.reduceAdd, Nat.reduceLeDiff, Bool.not_eq_true, decide_eq_true_eq, Bool.false_eq_true, if_false, x_la0, x_la1, x_app, x_popS, e, List.map_nil, q]
    | cons a l =>
      have q : cmpE .eq (.list (List.map encP (a :: l))) (.list []) = some false := eq_nilP (l := a :: l)
      have a0 : atI (List.map encP (a :: l)) 0 = some (encP a) := x_at0
      obtain ⟨z, lp⟩ := best_loop (Φ := Ph i__law_reaches) (f := 22) (p := some (.tuple (P.map encE))) (N := some (.int N)) (S := some (.list (List.map encP (a :: l)))) (fun x y c1 c2 c3 c4 => s__law_less (n := i__law_reaches) (by decide) c1 c2 c3 c4) (a :: l) a none (fun u hu => w u (by simpa using hu))
      have ef := e_for (Φ := Ph i__law_reaches) (fuel := 1000) (M := [0, 0, 0, 0, 0, 0, 0]) (b := false) (t := .name 4) (it := .seq (.var 2)) (σ := [some (.tuple (P.map encE)), some (.int N), some (.list (List.map encP (a :: l))), some (encP a), none, none, none]) (J := none) (J1 := none) (ds := List.map encP (a :: l)) (by simp only [x_bind, x_ok, x_pure, x_opt, x_selT, x_selF, x_seqO, x_seqR, x_seqB, x_seqC, x_rcall, x_callP, x_var, x_lit, x_tup, x_lst, x_bin, x_neg, x_not, x_cmp, x_chain, x_and, x_or, x_ite, x_idx, x_slc, x_rev, x_call, x_bi, x_callJ, x_callQ, x_nil, x_cons, x_star, x_o0, x_o1, x_if0, x_if1, x_seq, x_rng1, x_enum, x_zip, x_turn, x_asg, x_asgT, x_par, x_par0, x_par1, x_app, x_setI, x_popS, x_ex, x_ret, x_retN, x_pass, x_brk, x_cnt, x_if, x_ss0, x_ss, x_forT, x_view, x_viewF, x_keepF, x_keepT, x_hide0, x_hide1, x_hideN, x_own0, x_own1l, x_wipe0, x_wipe1, x_tg, x_tgT, x_tg0, x_tg1, x_add, x_sub, x_mul, x_lt, x_le, x_gt, x_ge, x_eq, x_ne, x_isN, x_isI, x_isT, x_isnN, x_isnI, x_isnT, x_tr, x_bl, x_intD, x_seqT, x_seqL, x_lenT, x_lenL, x_abs, x_int, x_intB, x_tupL, x_lstT, x_max2, x_min2, x_isiI, x_isiB, x_idxT, x_idxL, x_slcL, x_zipL, List.getD_cons_zero, List.getD_cons_succ, List.set_cons_zero, List.set_cons_succ, Option.map_some, Option.bind_some, Bool.not_true, Bool.not_false, if_true, Bool.true_or, Bool.or_true, Bool.false_or, Bool.true_and, Bool.and_true, decide_true, decide_false, Bool.and_self, reduceIte, reduceCtorEq, ne_eq, not_false_eq_true, implies_true, x_fit, List.length_cons, List.length_nil, Nat.reduceAdd, Nat.reduceLeDiff, Bool.not_eq_true, decide_eq_true_eq, Bool.false_eq_true, if_false, x_la0, x_la1, x_app, x_popS]) lp
      simp only [x_bind, x_ok, x_pure, x_opt, x_selT, x_selF, x_seqO, x_seqR, x_seqB, x_seqC, x_rcall, x_callP, x_var, x_lit, x_tup, x_lst, x_bin, x_neg, x_not, x_cmp, x_chain, x_and, x_or, x_ite, x_idx, x_slc, x_rev, x_call, x_bi, x_callJ, x_callQ, x_nil, x_cons, x_star, x_o0, x_o1, x_if0, x_if1, x_seq, x_rng1, x_enum, x_zip, x_turn, x_asg, x_asgT, x_par, x_par0, x_par1, x_app, x_setI, x_popS, x_ex, x_ret, x_retN, x_pass, x_brk, x_cnt, x_if, x_ss0, x_ss, x_forT, x_view, x_viewF, x_keepF, x_keepT, x_hide0, x_hide1, x_hideN, x_own0, x_own1l, x_wipe0, x_wipe1, x_tg, x_tgT, x_tg0, x_tg1, x_add, x_sub, x_mul, x_lt, x_le, x_gt, x_ge, x_eq, x_ne, x_isN, x_isI, x_isT, x_isnN, x_isnI, x_isnT, x_tr, x_bl, x_intD, x_seqT, x_seqL, x_lenT, x_lenL, x_abs, x_int, x_intB, x_tupL, x_lstT, x_max2, x_min2, x_isiI, x_isiB, x_idxT, x_idxL, x_slcL, x_zipL, List.getD_cons_zero, List.getD_cons_succ, List.set_cons_zero, List.set_cons_succ, Option.map_some, Option.bind_some, Bool.not_true, Bool.not_false, if_true, Bool.true_or, Bool.or_true, Bool.false_or, Bool.true_and, Bool.and_true, decide_true, decide_false, Bool.and_self, reduceIte, reduceCtorEq, ne_eq, not_false_eq_true, implies_true, x_fit, List.length_cons, List.length_nil, Nat.reduceAdd, Nat.reduceLeDiff, Bool.not_eq_true, decide_eq_true_eq, Bool.false_eq_true, if_false, x_la0, x_la1, x_app, x_popS, e, q, a0, ef]
  obtain ⟨o, r, hP⟩ := okP.ne
  have z0 : atI (P.map encE) 0 = some (encE o) := by rw [hP]; exact x_at0
  have spl : ∀ rs, evSs (Ph i__law_reaches) 1000 [0, 0, 0, 0, 0, 0, 0] (.ite (.and (.cmp .isn (.idx (.var 0) (.lit (.int (0)))) (.lit .none)) (.cmp .ge (.idx (.var 0) (.lit (.int (0)))) (.var 1))) [.ret (.tup [(.lit (.str (Str.ofString "always")))])] [] :: rs) [some (.tuple (P.map encE)), some (.int N), none, none, none, none, none] none
      = selM (alw P N) (Mo.pure (.rt (.tuple [.str (Str.ofString "always")]))) (evSs (Ph i__law_reaches) 1000 [0, 0, 0, 0, 0, 0, 0] rs [some (.tuple (P.map encE)), some (.int N), none, none, none, none, none]) none := by
    intro rs
    have ha : alw P N = geO o N := by rw [hP]; cases o <;> rfl
    rw [ha]
    clear ha hP
    cases o with
    | none => simp only [x_bind, x_ok, x_pure, x_opt, x_selT, x_selF, x_seqO, x_seqR, x_seqB, x_seqC, x_rcall, x_callP, x_var, x_lit, x_tup, x_lst, x_bin, x_neg, x_not, x_cmp, x_chain, x_and, x_or, x_ite, x_idx, x_slc, x_rev, x_call, x_bi, x_callJ, x_callQ, x_nil, x_cons, x_star, x_o0, x_o1, x_if0, x_if1, x_seq, x_rng1, x_enum, x_zip, x_turn, x_asg, x_asgT, x_par, x_par0, x_par1, x_app, x_setI, x_popS, x_ex, x_ret, x_retN, x_pass, x_brk, x_cnt, x_if, x_ss0, x_ss, x_forT, x_view, x_viewF, x_keepF, x_keepT, x_hide0, x_hide1, x_hideN, x_own0, x_own1l, x_wipe0, x_wipe1, x_tg, x_tgT, x_tg0, x_tg1, x_add, x_sub, x_mul, x_lt, x_le, x_gt, x_ge, x_eq, x_ne, x_isN, x_isI, x_isT, x_isnN, x_isnI, x_isnT, x_tr, x_bl, x_intD, x_seqT, x_seqL, x_lenT, x_lenL, x_abs, x_int, x_intB, x_tupL, x_lstT, x_max2, x_min2, x_isiI, x_isiB, x_idxT, x_idxL, x_slcL, x_zipL, List.getD_cons_zero, List.getD_cons_succ, List.set_cons_zero, List.set_cons_succ, Option.map_some, Option.bind_some, Bool.not_true, Bool.not_false, if_true, Bool.true_or, Bool.or_true, Bool.false_or, Bool.true_and, Bool.and_true, decide_true, decide_false, Bool.and_self, reduceIte, reduceCtorEq, ne_eq, not_false_eq_true, implies_true, x_fit, List.length_cons, List.length_nil, Nat.reduceAdd, Nat.reduceLeDiff, Bool.not_eq_true, decide_eq_true_eq, Bool.false_eq_true, if_false, x_la0, x_la1, x_app, x_popS, z0, encE, geO]
    | some e0 =>
      by_cases c : N ≤ e0
      · simp only [x_bind, x_ok, x_pure, x_opt, x_selT, x_selF, x_seqO, x_seqR, x_seqB, x_seqC, x_rcall, x_callP, x_var, x_lit, x_tup, x_lst, x_bin, x_neg, x_not, x_cmp, x_chain, x_and, x_or, x_ite, x_idx, x_slc, x_rev, x_call, x_bi, x_callJ, x_callQ, x_nil, x_cons, x_star, x_o0, x_o1, x_if0, x_if1, x_seq, x_rng1, x_enum, x_zip, x_turn, x_asg, x_asgT, x_par, x_par0, x_par1, x_app, x_setI, x_popS, x_ex, x_ret, x_retN, x_pass, x_brk, x_cnt, x_if, x_ss0, x_ss, x_forT, x_view, x_viewF, x_keepF, x_keepT, x_hide0, x_hide1, x_hideN, x_own0, x_own1l, x_wipe0, x_wipe1, x_tg, x_tgT, x_tg0, x_tg1, x_add, x_sub, x_mul, x_lt, x_le, x_gt, x_ge, x_eq, x_ne, x_isN, x_isI, x_isT, x_isnN, x_isnI, x_isnT, x_tr, x_bl, x_intD, x_seqT, x_seqL, x_lenT, x_lenL, x_abs, x_int, x_intB, x_tupL, x_lstT, x_max2, x_min2, x_isiI, x_isiB, x_idxT, x_idxL, x_slcL, x_zipL, List.getD_cons_zero, List.getD_cons_succ, List.set_cons_zero, List.set_cons_succ, Option.map_some, Option.bind_some, Bool.not_true, Bool.not_false, if_true, Bool.true_or, Bool.or_true, Bool.false_or, Bool.true_and, Bool.and_true, decide_true, decide_false, Bool.and_self, reduceIte, reduceCtorEq, ne_eq, not_false_eq_true, implies_true, x_fit, List.length_cons, List.length_nil, Nat.reduceAdd, Nat.reduceLeDiff, Bool.not_eq_true, decide_eq_true_eq, Bool.false_eq_true, if_false, x_la0, x_la1, x_app, x_popS, z0, encE, geO, c]
      · simp only [x_bind, x_ok, x_pure, x_opt, x_selT, x_selF, x_seqO, x_seqR, x_seqB, x_seqC, x_rcall, x_callP, x_var, x_lit, x_tup, x_lst, x_bin, x_neg, x_not, x_cmp, x_chain, x_and, x_or, x_ite, x_idx, x_slc, x_rev, x_call, x_bi, x_callJ, x_callQ, x_nil, x_cons, x_star, x_o0, x_o1, x_if0, x_if1, x_seq, x_rng1, x_enum, x_zip, x_turn, x_asg, x_asgT, x_par, x_par0, x_par1, x_app, x_setI, x_popS, x_ex, x_ret, x_retN, x_pass, x_brk, x_cnt, x_if, x_ss0, x_ss, x_forT, x_view, x_viewF, x_keepF, x_keepT, x_hide0, x_hide1, x_hideN, x_own0, x_own1l, x_wipe0, x_wipe1, x_tg, x_tgT, x_tg0, x_tg1, x_add, x_sub, x_mul, x_lt, x_le, x_gt, x_ge, x_eq, x_ne, x_isN, x_isI, x_isT, x_isnN, x_isnI, x_isnT, x_tr, x_bl, x_intD, x_seqT, x_seqL, x_lenT, x_lenL, x_abs, x_int, x_intB, x_tupL, x_lstT, x_max2, x_min2, x_isiI, x_isiB, x_idxT, x_idxL, x_slcL, x_zipL, List.getD_cons_zero, List.getD_cons_succ, List.set_cons_zero, List.set_cons_succ, Option.map_some, Option.bind_some, Bool.not_true, Bool.not_false, if_true, Bool.true_or, Bool.or_true, Bool.false_or, Bool.true_and, Bool.and_true, decide_true, decide_false, Bool.and_self, reduceIte, reduceCtorEq, ne_eq, not_false_eq_true, implies_true, x_fit, List.length_cons, List.length_nil, Nat.reduceAdd, Nat.reduceLeDiff, Bool.not_eq_true, decide_eq_true_eq, Bool.false_eq_true, if_false, x_la0, x_la1, x_app, x_popS, z0, encE, geO, c]
  refine (spl (b__law_reaches.drop 1)).trans ?_
  unfold reachD
  cases alw P N with
  | true => rfl
  | false => exact rest
end K52
end Ev
end

section
set_option maxRecDepth 100000
set_option maxHeartbeats 1000000
namespace Ev
open PySem PySem.Spec PyProof.Rows L2
namespace K52
theorem s__law_draw {n : Nat} (h : i__law_draw < n) {m : Int} {J : Jr} (hJ : JI J) (h0 : 0 < m) (h1 : m < 2 ^ 60) : ∃ k J', Ph n i__law_draw [.int m] J = .ok (.int k) J' ∧ (0 ≤ k ∧ k < m) ∧ JI J' := by
  obtain ⟨g, s, rfl, s0, s1⟩ := hJ
  rw [Ph_lt (F := d__law_draw.F) rfl h]
  have md : ∀ a : Int, binE .mod (.int a) (.int m) = some (.int (a % m)) := fun a => mod_W h0
  have fd : ∀ a : Int, binE .fdiv (.int a) (.int m) = some (.int (a / m)) := fun a => fdiv_W (k := 100) h0 (W.of (by simp; omega) (by simp; omega))
  have fd2 : ∀ a : Int, binE .fdiv (.int a) (.int 65537) = some (.int (a / 65537)) := fun a => fdiv_W (k := 100) (by decide) (W.of (by decide) (by decide))
  have pw : binE .pow (.int 2) (.int 61) = some (.int 2305843009213693952) := by kernel_rfl
  have md2 : ∀ a : Int, binE .mod (.int a) (.int (2305843009213693952 - 1)) = some (.int (a % (2305843009213693952 - 1))) := fun a => mod_W (by decide)
  have ml : mulI s 6364136223 = some (.int (s * 6364136223)) := mulI_W (j := 62) (k := 40) (W.of (by simp; omega) (by simp; omega)) (W.of (by decide) (by decide))
  by_cases c : 0 < g
  · refine ⟨g % m, some [g / m, s], run_rtJ rfl rfl ?_, ⟨Int.emod_nonneg _ (by omega), Int.emod_lt_of_pos _ h0⟩, ⟨_, _, rfl, s0, s1⟩⟩
    show evSs _ _ [0, 0, 0] b__law_draw [none, some (.int m), none] _ = _
    simp only [x_bind, x_ok, x_pure, x_opt, x_selT, x_selF, x_seqO, x_seqR, x_seqB, x_seqC, x_rcall, x_callP, x_var, x_lit, x_tup, x_lst, x_bin, x_neg, x_not, x_cmp, x_chain, x_and, x_or, x_ite, x_idx, x_slc, x_rev, x_call, x_bi, x_callJ, x_callQ, x_nil, x_cons, x_star, x_o0, x_o1, x_if0, x_if1, x_seq, x_rng1, x_enum, x_zip, x_turn, x_asg, x_asgT, x_par, x_par0, x_par1, x_app, x_setI, x_popS, x_ex, x_ret, x_retN, x_pass, x_brk, x_cnt, x_if, x_ss0, x_ss, x_forT, x_view, x_viewF, x_keepF, x_keepT, x_hide0, x_hide1, x_hideN, x_own0, x_own1l, x_wipe0, x_wipe1, x_tg, x_tgT, x_tg0, x_tg1, x_add, x_sub, x_mul, x_lt, x_le, x_gt, x_ge, x_eq, x_ne, x_isN, x_isI, x_isT, x_isnN, x_isnI, x_isnT, x_tr, x_bl, x_intD, x_seqT, x_seqL, x_lenT, x_lenL, x_abs, x_int, x_intB, x_tupL, x_lstT, x_max2, x_min2, x_isiI, x_isiB, x_idxT, x_idxL, x_slcL, x_zipL, List.getD_cons_zero, List.getD_cons_succ, List.set_cons_zero, List.set_cons_succ, Option.map_some, Option.bind_some, Bool.not_true, Bool.not_false, if_true, Bool.true_or, Bool.or_true, Bool.false_or, Bool.true_and, Bool.and_true, decide_true, decide_false, Bool.and_self, reduceIte, reduceCtorEq, ne_eq, not_false_eq_true, implies_true, x_fit, List.length_cons, List.length_nil, Nat.reduceAdd, Nat.reduceLeDiff, Bool.not_eq_true, decide_eq_true_eq, Bool.false_eq_true, if_false, x_la0, x_la1, x_app, x_popS, x_setI, x_ownlc, x_ownlst, x_okI, x_jg0, x_jg1, x_jset, x_js0, x_js1, x_callJ, x_callQ, x_gD0, b__law_draw, c, md, fd]
  · refine ⟨((s * 6364136223 + 1442695041) % (2305843009213693952 - 1) / 65537) % m, some [g, (s * 6364136223 + 1442695041) % (2305843009213693952 - 1)], run_rtJ rfl rfl ?_, ⟨Int.emod_nonneg _ (by omega), Int.emod_lt_of_pos _ h0⟩, ⟨_, _, rfl, by omega, by omega⟩⟩
    show evSs _ _ [0, 0, 0] b__law_draw [none, some (.int m), none] _ = _
    simp only [x_bind, x_ok, x_pure, x_opt, x_selT, x_selF, x_seqO, x_seqR, x_seqB, x_seqC, x_rcall, x_callP, x_var, x_lit, x_tup, x_lst, x_bin, x_neg, x_not, x_cmp, x_chain, x_and, x_or, x_ite, x_idx, x_slc, x_rev, x_call, x_bi, x_callJ, x_callQ, x_nil, x_cons, x_star, x_o0, x_o1, x_if0, x_if1, x_seq, x_rng1, x_enum, x_zip, x_turn, x_asg, x_asgT, x_par, x_par0, x_par1, x_app, x_setI, x_popS, x_ex, x_ret, x_retN, x_pass, x_brk, x_cnt, x_if, x_ss0, x_ss, x_forT, x_view, x_viewF, x_keepF, x_keepT, x_hide0, x_hide1, x_hideN, x_own0, x_own1l, x_wipe0, x_wipe1, x_tg, x_tgT, x_tg0, x_tg1, x_add, x_sub, x_mul, x_lt, x_le, x_gt, x_ge, x_eq, x_ne, x_isN, x_isI, x_isT, x_isnN, x_isnI, x_isnT, x_tr, x_bl, x_intD, x_seqT, x_seqL, x_lenT, x_lenL, x_abs, x_int, x_intB, x_tupL, x_lstT, x_max2, x_min2, x_isiI, x_isiB, x_idxT, x_idxL, x_slcL, x_zipL, List.getD_cons_zero, List.getD_cons_succ, List.set_cons_zero, List.set_cons_succ, Option.map_some, Option.bind_some, Bool.not_true, Bool.not_false, if_true, Bool.true_or, Bool.or_true, Bool.false_or, Bool.true_and, Bool.and_true, decide_true, decide_false, Bool.and_self, reduceIte, reduceCtorEq, ne_eq, not_false_eq_true, implies_true, x_fit, List.length_cons, List.length_nil, Nat.reduceAdd, Nat.reduceLeDiff, Bool.not_eq_true, decide_eq_true_eq, Bool.false_eq_true, if_false, x_la0, x_la1, x_app, x_popS, x_setI, x_ownlc, x_ownlst, x_okI, x_jg0, x_jg1, x_jset, x_js0, x_js1, x_callJ, x_callQ, x_gD0, b__law_draw, c, md, fd2, pw, md2, ml]
theorem s__law_one_of {n : Nat} (h : i__law_one_of < n) {L : List Int} {J : Jr} (hJ : JI J) (h0 : L ≠ []) (h1 : L.length ≤ 1000) : ∃ x J', Ph n i__law_one_of [.list (L.map .int)] J = .ok (.int x) J' ∧ x ∈ L ∧ JI J' := by
  have hl : 0 < L.length := List.length_pos_iff.mpr h0
  obtain ⟨k, J', e, ⟨k0, k1⟩, hJ'⟩ := s__law_draw (n := i__law_one_of) (by decide) hJ (m := L.length) (by omega) (by omega)
  have hk : k.toNat < L.length := by omega
  refine ⟨L[k.toNat], J', ?_, List.getElem_mem _, hJ'⟩
  obtain ⟨g, s, rfl, s0, s1⟩ := hJ
  rw [Ph_lt (F := d__law_one_of.F) rfl h]
  refine run_rtJ rfl rfl ?_
  show evSs _ _ [0, 0] b__law_one_of [none, some (.list (L.map .int))] _ = _
  have a : atI (L.map PyData.int) k = some (.int L[k.toNat]) := by
    simp only [atI, ixN, List.length_map]
    rw [if_pos k0, if_pos k1]
    simp [hk]
  simp only [x_bind, x_ok, x_pure, x_opt, x_selT, x_selF, x_seqO, x_seqR, x_seqB, x_seqC, x_rcall, x_callP, x_var, x_lit, x_tup, x_lst, x_bin, x_neg, x_not, x_cmp, x_chain, x_and, x_or, x_ite, x_idx, x_slc, x_rev, x_call, x_bi, x_callJ, x_callQ, x_nil, x_cons, x_star, x_o0, x_o1, x_if0, x_if1, x_seq, x_rng1, x_enum, x_zip, x_turn, x_asg, x_asgT, x_par, x_par0, x_par1, x_app, x_setI, x_popS, x_ex, x_ret, x_retN, x_pass, x_brk, x_cnt, x_if, x_ss0, x_ss, x_forT, x_view, x_viewF, x_keepF, x_keepT, x_hide0, x_hide1, x_hideN, x_own0, x_own1l, x_wipe0, x_wipe1, x_tg, x_tgT, x_tg0, x_tg1, x_add, x_sub, x_mul, x_lt, x_le, x_gt, x_ge, x_eq, x_ne, x_isN, x_isI, x_isT, x_isnN, x_isnI, x_isnT, x_tr, x_bl, x_intD, x_seqT, x_seqL, x_lenT, x_lenL, x_abs, x_int, x_intB, x_tupL, x_lstT, x_max2, x_min2, x_isiI, x_isiB, x_idxT, x_idxL, x_slcL, x_zipL, List.getD_cons_zero, List.getD_cons_succ, List.set_cons_zero, List.set_cons_succ, Option.map_some, Option.bind_some, Bool.not_true, Bool.not_false, if_true, Bool.true_or, Bool.or_true, Bool.false_or, Bool.true_and, Bool.and_true, decide_true, decide_false, Bool.and_self, reduceIte, reduceCtorEq, ne_eq, not_false_eq_true, implies_true, x_fit, List.length_cons, List.length_nil, Nat.reduceAdd, Nat.reduceLeDiff, Bool.not_eq_true, decide_eq_true_eq, Bool.false_eq_true, if_false, x_la0, x_la1, x_app, x_popS, x_setI, x_ownlc, x_ownlst, x_okI, x_jg0, x_jg1, x_jset, x_js0, x_js1, x_callJ, x_callQ, x_gD0, b__law_one_of, List.length_map, e, a]
def smallPt (x : Int × Int) : Prop := PtOk x ∧ -30 ≤ x.1 ∧ x.1 ≤ 30 ∧ 1 ≤ x.2 ∧ x.2 ≤ 7
theorem s__law_point {n : Nat} (h : i__law_point < n) {J : Jr} (hJ : JI J) : ∃ x J', Ph n i__law_point [] J = .ok (encP x) J' ∧ smallPt x ∧ JI J' := by
  obtain ⟨k1, J1, e1, ⟨a1, b1⟩, hJ1⟩ := s__law_draw (n := i__law_point) (by decide) hJ (m := 61) (by omega) (by omega)
  obtain ⟨k2, J2, e2, m2, hJ2⟩ := s__law_one_of (n := i__law_point) (by decide) hJ1 (L := [1, 3, 7]) (by decide) (by decide)
  have k2b : 1 ≤ k2 ∧ k2 ≤ 7 := by simp at m2; omega
  obtain ⟨k3, J3, e3, ⟨a3, b3⟩, hJ3⟩ := s__law_draw (n := i__law_point) (by decide) hJ2 (m := k2) (by omega) (by omega)
  have w1 : W 6 (k1 - 30) := W.of (by simp; omega) (by simp; omega)
  have w2 : W 6 (1 + k3) := W.of (by simp; omega) (by simp; omega)
  have l := s__law_lowest (n := i__law_point) (by decide) (a := k1 - 30) (b := 1 + k3) (by omega) (w1.mono (by omega)) (w2.mono (by omega))
  have g1 := gcd_pos (a := k1 - 30) (b := 1 + k3) (by omega)
  have pt := low_pt (a := k1 - 30) (b := 1 + k3) (by omega) (w1.mono (by omega)) (w2.mono (by omega))
  refine ⟨low (k1 - 30) (1 + k3), J3, ?_, ⟨pt, ?_⟩, hJ3⟩
  · obtain ⟨g, s, rfl, s0, s1⟩ := hJ
    obtain ⟨g', s', rfl, _⟩ := hJ1
    obtain ⟨g'', s'', rfl, _⟩ := hJ2
    rw [Ph_lt (F := d__law_point.F) rfl h]
    refine run_rtJ rfl rfl ?_
    show evSs _ _ [0] b__law_point [none] _ = _
    have e2' : Ph i__law_point 20 [.list [.int 1, .int 3, .int 7]] (some [g', s']) = .ok (.int k2) (some [g'', s'']) := e2
    simp only [x_bind, x_ok, x_pure, x_opt, x_selT, x_selF, x_seqO, x_seqR, x_seqB, x_seqC, x_rcall, x_callP, x_var, x_lit, x_tup, x_lst, x_bin, x_neg, x_not, x_cmp, x_chain, x_and, x_or, x_ite, x_idx, x_slc, x_rev, x_call, x_bi, x_callJ, x_callQ, x_nil, x_cons, x_star, x_o0, x_o1, x_if0, x_if1, x_seq, x_rng1, x_enum, x_zip, x_turn, x_asg, x_asgT, x_par, x_par0, x_par1, x_app, x_setI, x_popS, x_ex, x_ret, x_retN, x_pass, x_brk, x_cnt, x_if, x_ss0, x_ss, x_forT, x_view, x_viewF, x_keepF, x_keepT, x_hide0, x_hide1, x_hideN, x_own0, x_own1l, x_wipe0, x_wipe1, x_tg, x_tgT, x_tg0, x_tg1, x_add, x_sub, x_mul, x_lt, x_le, x_gt, x_ge, x_eq, x_ne, x_isN, x_isI, x_isT, x_isnN, x_isnI, x_isnT, x_tr, x_bl, x_intD, x_seqT, x_seqL, x_lenT, x_lenL, x_abs, x_int, x_intB, x_tupL, x_lstT, x_max2, x_min2, x_isiI, x_isiB, x_idxT, x_idxL, x_slcL, x_zipL, List.getD_cons_zero, List.getD_cons_succ, List.set_cons_zero, List.set_cons_succ, Option.map_some, Option.bind_some, Bool.not_true, Bool.not_false, if_true, Bool.true_or, Bool.or_true, Bool.false_or, Bool.true_and, Bool.and_true, decide_true, decide_false, Bool.and_self, reduceIte, reduceCtorEq, ne_eq, not_false_eq_true, implies_true, x_fit, List.length_cons, List.length_nil, Nat.reduceAdd, Nat.reduceLeDiff, Bool.not_eq_true, decide_eq_true_eq, Bool.false_eq_true, if_false, x_la0, x_la1, x_app, x_popS, x_setI, x_ownlc, x_ownlst, x_okI, x_jg0, x_jg1, x_jset, x_js0, x_js1, x_callJ, x_callQ, x_gD0, b__law_point, e1, e2', e3, l]
  · have q := low_eq (a := k1 - 30) (b := 1 + k3) (by omega)
    have p := pt.pos
    have r1 : (low (k1 - 30) (1 + k3)).1.natAbs ≤ (k1 - 30).natAbs := Int.natAbs_ediv_le_natAbs ..
    have r2 : (low (k1 - 30) (1 + k3)).2.natAbs ≤ (1 + k3).natAbs := Int.natAbs_ediv_le_natAbs ..
    omega
end K52
end Ev
end

section
set_option maxRecDepth 100000
set_option maxHeartbeats 1000000
namespace Ev
open PySem PySem.Spec PyProof.Rows L2
theorem atI_set {xs : List PyData} {d : PyData} (h : xs ≠ []) : (ixN xs.length (-1)) = some (xs.length - 1) := by
  have : 0 < xs.length := List.length_pos_iff.mpr h
  unfold ixN
  rw [if_neg (by omega), if_pos (by omega)]
  congr 1
  omega
theorem set_enc : ∀ (Q : List (Option Int)) (j : Nat) (o : Option Int), (Q.map encE).set j (encE o) = (Q.set j o).map encE := by
  intro Q j o
  rw [List.map_set]
def clampO : Option Int → Option Int
  | none => none
  | some i => some (if (if i < 999 then i else 999) > -999 then (if i < 999 then i else 999) else -999)
theorem clamp_ok {Q : List (Option Int)} (h1 : 1 ≤ Q.length) (h2 : Q.length ≤ 12) (h3 : Q.getLast? ≠ some none) : POk (Q.map clampO) := by
  refine ⟨by rw [List.length_map]; exact h1, by rw [List.length_map]; exact h2, fun i hi => ?_, fun z => ?_⟩
  · obtain ⟨o, _, e⟩ := List.mem_map.mp hi
    cases o with
    | none => cases e
    | some j =>
      have e := Option.some.inj e
      subst e
      split <;> split <;> omega
  · rw [List.getLast?_map] at z
    cases e : Q.getLast? with
    | none => rw [e] at z; cases z
    | some o =>
      rw [e] at z h3
      cases o with
      | none => exact h3 rfl
      | some j => cases z
namespace K52
theorem poly2 {J : Jr} (hJ : JI J) {kind top part : Int} (t0 : 0 ≤ top) (t1 : top ≤ 11) (p0 : 1 ≤ part) (p1 : part ≤ 50) : ∃ (Q : List (Option Int)) (J' : Jr), evS (Ph i__law_poly) 1000 [0, 1, 0, 0, 0, 0, 0, 0, 0, 0] (b__law_poly.getD 1 .pass) [none, none, some (.int kind), some (.int top), some (.int part), none, none, none, none, none] J = .ok (.nx [none, some (.list (Q.map encE)), some (.int kind), some (.int top), some (.int part), none, none, none, none, none]) J' ∧ (Q.length : Int) = top + 1 ∧ JI J' := by
  obtain ⟨Q, J', e, l, _, hJ'⟩ := e_lcj (Φ := Ph i__law_poly) (I := JI) (enc := encE) (R := fun _ => True) (elt := .ite (.cmp .eq (.callJ 19 [(.var 4)]) (.lit (.int (0)))) (.lit .none) (.bin .sub (.callJ 19 [(.callJ 20 [(.lst [(.lit (.int (7))), (.lit (.int (41))), (.lit (.int (1999)))])])]) (.callJ 20 [(.lst [(.lit (.int (3))), (.lit (.int (20)))])]))) (t := .name 5) (it := .rng1 (.bin .add (.var 3) (.lit (.int (1))))) (ifs := []) (own := [5]) (σ := [none, none, some (.int kind), some (.int top), some (.int part), none, none, none, none, none]) (J := J) (J1 := J) (ds := (List.range (top + 1).toNat).map fun (k : Nat) => PyData.int k) (by simp only [x_bind, x_ok, x_pure, x_opt, x_selT, x_selF, x_seqO, x_seqR, x_seqB, x_seqC, x_rcall, x_callP, x_var, x_lit, x_tup, x_lst, x_bin, x_neg, x_not, x_cmp, x_chain, x_and, x_or, x_ite, x_idx, x_slc, x_rev, x_call, x_bi, x_callJ, x_callQ, x_nil, x_cons, x_star, x_o0, x_o1, x_if0, x_if1, x_seq, x_rng1, x_enum, x_zip, x_turn, x_asg, x_asgT, x_par, x_par0, x_par1, x_app, x_setI, x_popS, x_ex, x_ret, x_retN, x_pass, x_brk, x_cnt, x_if, x_ss0, x_ss, x_forT, x_view, x_viewF, x_keepF, x_keepT, x_hide0, x_hide1, x_hideN, x_own0, x_own1l, x_wipe0, x_wipe1, x_tg, x_tgT, x_tg0, x_tg1, x_add, x_sub, x_mul, x_lt, x_le, x_gt, x_ge, x_eq, x_ne, x_isN, x_isI, x_isT, x_isnN, x_isnI, x_isnT, x_tr, x_bl, x_intD, x_seqT, x_seqL, x_lenT, x_lenL, x_abs, x_int, x_intB, x_tupL, x_lstT, x_max2, x_min2, x_isiI, x_isiB, x_idxT, x_idxL, x_slcL, x_zipL, List.getD_cons_zero, List.getD_cons_succ, List.set_cons_zero, List.set_cons_succ, Option.map_some, Option.bind_some, Bool.not_true, Bool.not_false, if_true, Bool.true_or, Bool.or_true, Bool.false_or, Bool.true_and, Bool.and_true, decide_true, decide_false, Bool.and_self, reduceIte, reduceCtorEq, ne_eq, not_false_eq_true, implies_true, x_fit, List.length_cons, List.length_nil, Nat.reduceAdd, Nat.reduceLeDiff, Bool.not_eq_true, decide_eq_true_eq, Bool.false_eq_true, if_false, x_la0, x_la1, x_app, x_popS, x_setI, rng_eq (j := top + 1) (by omega) (by omega)]) hJ (fun d hd J hJ => by
    obtain ⟨k1, J1, e1, ⟨a1, b1⟩, hJ1⟩ := s__law_draw (n := i__law_poly) (by decide) hJ (m := part) (by omega) (by omega)
    by_cases c : k1 = 0
    · refine ⟨none, J1, ?_, trivial, hJ1⟩
      obtain ⟨g, s, rfl, s0, s1⟩ := hJ
      simp only [x_bind, x_ok, x_pure, x_opt, x_selT, x_selF, x_seqO, x_seqR, x_seqB, x_seqC, x_rcall, x_callP, x_var, x_lit, x_tup, x_lst, x_bin, x_neg, x_not, x_cmp, x_chain, x_and, x_or, x_ite, x_idx, x_slc, x_rev, x_call, x_bi, x_callJ, x_callQ, x_nil, x_cons, x_star, x_o0, x_o1, x_if0, x_if1, x_seq, x_rng1, x_enum, x_zip, x_turn, x_asg, x_asgT, x_par, x_par0, x_par1, x_app, x_setI, x_popS, x_ex, x_ret, x_retN, x_pass, x_brk, x_cnt, x_if, x_ss0, x_ss, x_forT, x_view, x_viewF, x_keepF, x_keepT, x_hide0, x_hide1, x_hideN, x_own0, x_own1l, x_wipe0, x_wipe1, x_tg, x_tgT, x_tg0, x_tg1, x_add, x_sub, x_mul, x_lt, x_le, x_gt, x_ge, x_eq, x_ne, x_isN, x_isI, x_isT, x_isnN, x_isnI, x_isnT, x_tr, x_bl, x_intD, x_seqT, x_seqL, x_lenT, x_lenL, x_abs, x_int, x_intB, x_tupL, x_lstT, x_max2, x_min2, x_isiI, x_isiB, x_idxT, x_idxL, x_slcL, x_zipL, List.getD_cons_zero, List.getD_cons_succ, List.set_cons_zero, List.set_cons_succ, Option.map_some, Option.bind_some, Bool.not_true, Bool.not_false, if_true, Bool.true_or, Bool.or_true, Bool.false_or, Bool.true_and, Bool.and_true, decide_true, decide_false, Bool.and_self, reduceIte, reduceCtorEq, ne_eq, not_false_eq_true, implies_true, x_fit, List.length_cons, List.length_nil, Nat.reduceAdd, Nat.reduceLeDiff, Bool.not_eq_true, decide_eq_true_eq, Bool.false_eq_true, if_false, x_la0, x_la1, x_app, x_popS, x_setI, x_ownlc, x_ownlst, x_okI, x_jg0, x_jg1, x_jset, x_js0, x_js1, x_callJ, x_callQ, x_gD0, e1, c, encE]
    · obtain ⟨k2, J2, e2, m2, hJ2⟩ := s__law_one_of (n := i__law_poly) (by decide) hJ1 (L := [7, 41, 1999]) (by decide) (by decide)
      have b2 : 1 ≤ k2 ∧ k2 ≤ 1999 := by simp at m2; omega
      obtain ⟨k3, J3, e3, ⟨a3, b3⟩, hJ3⟩ := s__law_draw (n := i__law_poly) (by decide) hJ2 (m := k2) (by omega) (by omega)
      obtain ⟨k4, J4, e4, m4, hJ4⟩ := s__law_one_of (n := i__law_poly) (by decide) hJ3 (L := [3, 20]) (by decide) (by decide)
      refine ⟨some (k3 - k4), J4, ?_, trivial, hJ4⟩
      obtain ⟨g, s, rfl, s0, s1⟩ := hJ
      obtain ⟨g1, s1, rfl, _⟩ := hJ1
      obtain ⟨g2, s2, rfl, _⟩ := hJ2
      obtain ⟨g3, s3, rfl, _⟩ := hJ3
      have e2' : Ph i__law_poly 20 [.list [.int 7, .int 41, .int 1999]] (some [g1, s1]) = .ok (.int k2) (some [g2, s2]) := e2
      have e4' : Ph i__law_poly 20 [.list [.int 3, .int 20]] (some [g3, s3]) = .ok (.int k4) J4 := e4
      simp only [x_bind, x_ok, x_pure, x_opt, x_selT, x_selF, x_seqO, x_seqR, x_seqB, x_seqC, x_rcall, x_callP, x_var, x_lit, x_tup, x_lst, x_bin, x_neg, x_not, x_cmp, x_chain, x_and, x_or, x_ite, x_idx, x_slc, x_rev, x_call, x_bi, x_callJ, x_callQ, x_nil, x_cons, x_star, x_o0, x_o1, x_if0, x_if1, x_seq, x_rng1, x_enum, x_zip, x_turn, x_asg, x_asgT, x_par, x_par0, x_par1, x_app, x_setI, x_popS, x_ex, x_ret, x_retN, x_pass, x_brk, x_cnt, x_if, x_ss0, x_ss, x_forT, x_view, x_viewF, x_keepF, x_keepT, x_hide0, x_hide1, x_hideN, x_own0, x_own1l, x_wipe0, x_wipe1, x_tg, x_tgT, x_tg0, x_tg1, x_add, x_sub, x_mul, x_lt, x_le, x_gt, x_ge, x_eq, x_ne, x_isN, x_isI, x_isT, x_isnN, x_isnI, x_isnT, x_tr, x_bl, x_intD, x_seqT, x_seqL, x_lenT, x_lenL, x_abs, x_int, x_intB, x_tupL, x_lstT, x_max2, x_min2, x_isiI, x_isiB, x_idxT, x_idxL, x_slcL, x_zipL, List.getD_cons_zero, List.getD_cons_succ, List.set_cons_zero, List.set_cons_succ, Option.map_some, Option.bind_some, Bool.not_true, Bool.not_false, if_true, Bool.true_or, Bool.or_true, Bool.false_or, Bool.true_and, Bool.and_true, decide_true, decide_false, Bool.and_self, reduceIte, reduceCtorEq, ne_eq, not_false_eq_true, implies_true, x_fit, List.length_cons, List.length_nil, Nat.reduceAdd, Nat.reduceLeDiff, Bool.not_eq_true, decide_eq_true_eq, Bool.false_eq_true, if_false, x_la0, x_la1, x_app, x_popS, x_setI, x_ownlc, x_ownlst, x_okI, x_jg0, x_jg1, x_jset, x_js0, x_js1, x_callJ, x_callQ, x_gD0, e1, c, encE, e2', e3, e4']) (by simp; omega)
  refine ⟨Q, J', ?_, by rw [l]; simp; omega, hJ'⟩
  show evS _ _ _ (.asg 1 1 false (.lc (.ite (.cmp .eq (.callJ 19 [(.var 4)]) (.lit (.int (0)))) (.lit .none) (.bin .sub (.callJ 19 [(.callJ 20 [(.lst [(.lit (.int (7))), (.lit (.int (41))), (.lit (.int (1999)))])])]) (.callJ 20 [(.lst [(.lit (.int (3))), (.lit (.int (20)))])]))) (.name 5) (.rng1 (.bin .add (.var 3) (.lit (.int (1))))) [] [5])) _ _ = _
  simp only [x_bind, x_ok, x_pure, x_opt, x_selT, x_selF, x_seqO, x_seqR, x_seqB, x_seqC, x_rcall, x_callP, x_var, x_lit, x_tup, x_lst, x_bin, x_neg, x_not, x_cmp, x_chain, x_and, x_or, x_ite, x_idx, x_slc, x_rev, x_call, x_bi, x_callJ, x_callQ, x_nil, x_cons, x_star, x_o0, x_o1, x_if0, x_if1, x_seq, x_rng1, x_enum, x_zip, x_turn, x_asg, x_asgT, x_par, x_par0, x_par1, x_app, x_setI, x_popS, x_ex, x_ret, x_retN, x_pass, x_brk, x_cnt, x_if, x_ss0, x_ss, x_forT, x_view, x_viewF, x_keepF, x_keepT, x_hide0, x_hide1, x_hideN, x_own0, x_own1l, x_wipe0, x_wipe1, x_tg, x_tgT, x_tg0, x_tg1, x_add, x_sub, x_mul, x_lt, x_le, x_gt, x_ge, x_eq, x_ne, x_isN, x_isI, x_isT, x_isnN, x_isnI, x_isnT, x_tr, x_bl, x_intD, x_seqT, x_seqL, x_lenT, x_lenL, x_abs, x_int, x_intB, x_tupL, x_lstT, x_max2, x_min2, x_isiI, x_isiB, x_idxT, x_idxL, x_slcL, x_zipL, List.getD_cons_zero, List.getD_cons_succ, List.set_cons_zero, List.set_cons_succ, Option.map_some, Option.bind_some, Bool.not_true, Bool.not_false, if_true, Bool.true_or, Bool.or_true, Bool.false_or, Bool.true_and, Bool.and_true, decide_true, decide_false, Bool.and_self, reduceIte, reduceCtorEq, ne_eq, not_false_eq_true, implies_true, x_fit, List.length_cons, List.length_nil, Nat.reduceAdd, Nat.reduceLeDiff, Bool.not_eq_true, decide_eq_true_eq, Bool.false_eq_true, if_false, x_la0, x_la1, x_app, x_popS, x_setI, x_ownlc, x_ownlst, x_okI, x_jg0, x_jg1, x_jset, x_js0, x_js1, x_callJ, x_callQ, x_gD0, e]
theorem poly3 {J : Jr} (hJ : JI J) {Q : List (Option Int)} {kind top part : Int} (t0 : 0 ≤ top) (t1 : top ≤ 11) (hQ : (Q.length : Int) = top + 1) : ∃ (Q' : List (Option Int)) (y6 y7 : Option PyData) (J' : Jr), evS (Ph i__law_poly) 1000 [0, 1, 0, 0, 0, 0, 0, 0, 0, 0] (b__law_poly.getD 2 .pass) [none, some (.list (Q.map encE)), some (.int kind), some (.int top), some (.int part), none, none, none, none, none] J = .ok (.nx [none, some (.list (Q'.map encE)), some (.int kind), some (.int top), some (.int part), none, y6, y7, none, none]) J' ∧ (Q'.length : Int) = top + 1 ∧ JI J' := by
  by_cases c : kind = 1
  · obtain ⟨k1, J1, e1, ⟨a1, b1⟩, hJ1⟩ := s__law_draw (n := i__law_poly) (by decide) hJ (m := 13) (by omega) (by omega)
    obtain ⟨k2, J2, e2, ⟨a2, b2⟩, hJ2⟩ := s__law_draw (n := i__law_poly) (by decide) hJ1 (m := 3) (by omega) (by omega)
    obtain ⟨Q', J', e, l, _, hJ'⟩ := e_lcj (Φ := Ph i__law_poly) (I := JI) (enc := encE) (R := fun _ => True) (elt := .ite (.or (.cmp .lt (.var 5) (.var 7)) (.cmp .is_ (.var 9) (.lit .none))) (.lit .none) (.bin .add (.bin .mul (.var 6) (.var 5)) (.callJ 19 [(.lit (.int (2)))]))) (t := .tup [(.name 5), (.name 9)]) (it := .enum (.var 1)) (ifs := []) (own := [5, 9]) (σ := [none, some (.list (Q.map encE)), some (.int kind), some (.int top), some (.int part), none, some (.int (k1 - 6)), some (.int k2), none, none]) (J := J2) (J1 := J2) (ds := enumD 0 (Q.map encE)) (by simp only [x_bind, x_ok, x_pure, x_opt, x_selT, x_selF, x_seqO, x_seqR, x_seqB, x_seqC, x_rcall, x_callP, x_var, x_lit, x_tup, x_lst, x_bin, x_neg, x_not, x_cmp, x_chain, x_and, x_or, x_ite, x_idx, x_slc, x_rev, x_call, x_bi, x_callJ, x_callQ, x_nil, x_cons, x_star, x_o0, x_o1, x_if0, x_if1, x_seq, x_rng1, x_enum, x_zip, x_turn, x_asg, x_asgT, x_par, x_par0, x_par1, x_app, x_setI, x_popS, x_ex, x_ret, x_retN, x_pass, x_brk, x_cnt, x_if, x_ss0, x_ss, x_forT, x_view, x_viewF, x_keepF, x_keepT, x_hide0, x_hide1, x_hideN, x_own0, x_own1l, x_wipe0, x_wipe1, x_tg, x_tgT, x_tg0, x_tg1, x_add, x_sub, x_mul, x_lt, x_le, x_gt, x_ge, x_eq, x_ne, x_isN, x_isI, x_isT, x_isnN, x_isnI, x_isnT, x_tr, x_bl, x_intD, x_seqT, x_seqL, x_lenT, x_lenL, x_abs, x_int, x_intB, x_tupL, x_lstT, x_max2, x_min2, x_isiI, x_isiB, x_idxT, x_idxL, x_slcL, x_zipL, List.getD_cons_zero, List.getD_cons_succ, List.set_cons_zero, List.set_cons_succ, Option.map_some, Option.bind_some, Bool.not_true, Bool.not_false, if_true, Bool.true_or, Bool.or_true, Bool.false_or, Bool.true_and, Bool.and_true, decide_true, decide_false, Bool.and_self, reduceIte, reduceCtorEq, ne_eq, not_false_eq_true, implies_true, x_fit, List.length_cons, List.length_nil, Nat.reduceAdd, Nat.reduceLeDiff, Bool.not_eq_true, decide_eq_true_eq, Bool.false_eq_true, if_false, x_la0, x_la1, x_app, x_popS, x_setI]) hJ2 (fun d hd J hJ => by
      obtain ⟨j, o, e, j0, j1, _⟩ := enum_mem hd
      subst e
      by_cases c2 : j < k2
      · refine ⟨none, J, ?_, trivial, hJ⟩
        simp only [x_bind, x_ok, x_pure, x_opt, x_selT, x_selF, x_seqO, x_seqR, x_seqB, x_seqC, x_rcall, x_callP, x_var, x_lit, x_tup, x_lst, x_bin, x_neg, x_not, x_cmp, x_chain, x_and, x_or, x_ite, x_idx, x_slc, x_rev, x_call, x_bi, x_callJ, x_callQ, x_nil, x_cons, x_star, x_o0, x_o1, x_if0, x_if1, x_seq, x_rng1, x_enum, x_zip, x_turn, x_asg, x_asgT, x_par, x_par0, x_par1, x_app, x_setI, x_popS, x_ex, x_ret, x_retN, x_pass, x_brk, x_cnt, x_if, x_ss0, x_ss, x_forT, x_view, x_viewF, x_keepF, x_keepT, x_hide0, x_hide1, x_hideN, x_own0, x_own1l, x_wipe0, x_wipe1, x_tg, x_tgT, x_tg0, x_tg1, x_add, x_sub, x_mul, x_lt, x_le, x_gt, x_ge, x_eq, x_ne, x_isN, x_isI, x_isT, x_isnN, x_isnI, x_isnT, x_tr, x_bl, x_intD, x_seqT, x_seqL, x_lenT, x_lenL, x_abs, x_int, x_intB, x_tupL, x_lstT, x_max2, x_min2, x_isiI, x_isiB, x_idxT, x_idxL, x_slcL, x_zipL, List.getD_cons_zero, List.getD_cons_succ, List.set_cons_zero, List.set_cons_succ, Option.map_some, Option.bind_some, Bool.not_true, Bool.not_false, if_true, Bool.true_or, Bool.or_true, Bool.false_or, Bool.true_and, Bool.and_true, decide_true, decide_false, Bool.and_self, reduceIte, reduceCtorEq, ne_eq, not_false_eq_true, implies_true, x_fit, List.length_cons, List.length_nil, Nat.reduceAdd, Nat.reduceLeDiff, Bool.not_eq_true, decide_eq_true_eq, Bool.false_eq_true, if_false, x_la0, x_la1, x_app, x_popS, x_setI, c2, encE]
      · cases o with
        | none =>
          refine ⟨none, J, ?_, trivial, hJ⟩
          simp only [x_bind, x_ok, x_pure, x_opt, x_selT, x_selF, x_seqO, x_seqR, x_seqB, x_seqC, x_rcall, x_callP, x_var, x_lit, x_tup, x_lst, x_bin, x_neg, x_not, x_cmp, x_chain, x_and, x_or, x_ite, x_idx, x_slc, x_rev, x_call, x_bi, x_callJ, x_callQ, x_nil, x_cons, x_star, x_o0, x_o1, x_if0, x_if1, x_seq, x_rng1, x_enum, x_zip, x_turn, x_asg, x_asgT, x_par, x_par0, x_par1, x_app, x_setI, x_popS, x_ex, x_ret, x_retN, x_pass, x_brk, x_cnt, x_if, x_ss0, x_ss, x_forT, x_view, x_viewF, x_keepF, x_keepT, x_hide0, x_hide1, x_hideN, x_own0, x_own1l, x_wipe0, x_wipe1, x_tg, x_tgT, x_tg0, x_tg1, x_add, x_sub, x_mul, x_lt, x_le, x_gt, x_ge, x_eq, x_ne, x_isN, x_isI, x_isT, x_isnN, x_isnI, x_isnT, x_tr, x_bl, x_intD, x_seqT, x_seqL, x_lenT, x_lenL, x_abs, x_int, x_intB, x_tupL, x_lstT, x_max2, x_min2, x_isiI, x_isiB, x_idxT, x_idxL, x_slcL, x_zipL, List.getD_cons_zero, List.getD_cons_succ, List.set_cons_zero, List.set_cons_succ, Option.map_some, Option.bind_some, Bool.not_true, Bool.not_false, if_true, Bool.true_or, Bool.or_true, Bool.false_or, Bool.true_and, Bool.and_true, decide_true, decide_false, Bool.and_self, reduceIte, reduceCtorEq, ne_eq, not_false_eq_true, implies_true, x_fit, List.length_cons, List.length_nil, Nat.reduceAdd, Nat.reduceLeDiff, Bool.not_eq_true, decide_eq_true_eq, Bool.false_eq_true, if_false, x_la0, x_la1, x_app, x_popS, x_setI, c2, encE]
        | some e0 =>
          obtain ⟨k3, J3, e3, _, hJ3⟩ := s__law_draw (n := i__law_poly) (by decide) hJ (m := 2) (by omega) (by omega)
          have ml : mulI (k1 - 6) j = some (.int ((k1 - 6) * j)) := mulI_W (j := 10) (k := 10) (W.of (by simp; omega) (by simp; omega)) (W.of (by simp; omega) (by simp; omega))
          refine ⟨some ((k1 - 6) * j + k3), J3, ?_, trivial, hJ3⟩
          obtain ⟨g, s, rfl, s0, s1⟩ := hJ
          simp only [x_bind, x_ok, x_pure, x_opt, x_selT, x_selF, x_seqO, x_seqR, x_seqB, x_seqC, x_rcall, x_callP, x_var, x_lit, x_tup, x_lst, x_bin, x_neg, x_not, x_cmp, x_chain, x_and, x_or, x_ite, x_idx, x_slc, x_rev, x_call, x_bi, x_callJ, x_callQ, x_nil, x_cons, x_star, x_o0, x_o1, x_if0, x_if1, x_seq, x_rng1, x_enum, x_zip, x_turn, x_asg, x_asgT, x_par, x_par0, x_par1, x_app, x_setI, x_popS, x_ex, x_ret, x_retN, x_pass, x_brk, x_cnt, x_if, x_ss0, x_ss, x_forT, x_view, x_viewF, x_keepF, x_keepT, x_hide0, x_hide1, x_hideN, x_own0, x_own1l, x_wipe0, x_wipe1, x_tg, x_tgT, x_tg0, x_tg1, x_add, x_sub, x_mul, x_lt, x_le, x_gt, x_ge, x_eq, x_ne, x_isN, x_isI, x_isT, x_isnN, x_isnI, x_isnT, x_tr, x_bl, x_intD, x_seqT, x_seqL, x_lenT, x_lenL, x_abs, x_int, x_intB, x_tupL, x_lstT, x_max2, x_min2, x_isiI, x_isiB, x_idxT, x_idxL, x_slcL, x_zipL, List.getD_cons_zero, List.getD_cons_succ, List.set_cons_zero, List.set_cons_succ, Option.map_some, Option.bind_some, Bool.not_true, Bool.not_false, if_true, Bool.true_or, Bool.or_true, Bool.false_or, Bool.true_and, Bool.and_true, decide_true, decide_false, Bool.and_self, reduceIte, reduceCtorEq, ne_eq, not_false_eq_true, implies_true, x_fit, List.length_cons, List.length_nil, Nat.reduceAdd, Nat.reduceLeDiff, Bool.not_eq_true, decide_eq_true_eq, Bool.false_eq_true, if_false, x_la0, x_la1, x_app, x_popS, x_setI, x_ownlc, x_ownlst, x_okI, x_jg0, x_jg1, x_jset, x_js0, x_js1, x_callJ, x_callQ, x_gD0, c2, encE, ml, e3]) (by rw [enum_len]; simp; omega)
    refine ⟨Q', some (.int (k1 - 6)), some (.int k2), J', ?_, by rw [l, enum_len, List.length_map]; exact hQ, hJ'⟩
    obtain ⟨g, s, rfl, s0, s1⟩ := hJ
    obtain ⟨g1, s1, rfl, _⟩ := hJ1
    show evS _ _ _ (.ite (.cmp .eq (.var 2) (.lit (.int (1)))) [.asgT (.tup [(.name 6), (.name 7)]) false (.tup [(.bin .sub (.callJ 19 [(.lit (.int (13)))]) (.lit (.int (6)))), (.callJ 19 [(.lit (.int (3)))])]), .asg 1 1 true (.lc (.ite (.or (.cmp .lt (.var 5) (.var 7)) (.cmp .is_ (.var 9) (.lit .none))) (.lit .none) (.bin .add (.bin .mul (.var 6) (.var 5)) (.callJ 19 [(.lit (.int (2)))]))) (.tup [(.name 5), (.name 9)]) (.enum (.var 1)) [] [5, 9])] []) _ _ = _
    have c' : decide (kind = 1) = true := decide_eq_true c
    simp only [x_bind, x_ok, x_pure, x_opt, x_selT, x_selF, x_seqO, x_seqR, x_seqB, x_seqC, x_rcall, x_callP, x_var, x_lit, x_tup, x_lst, x_bin, x_neg, x_not, x_cmp, x_chain, x_and, x_or, x_ite, x_idx, x_slc, x_rev, x_call, x_bi, x_callJ, x_callQ, x_nil, x_cons, x_star, x_o0, x_o1, x_if0, x_if1, x_seq, x_rng1, x_enum, x_zip, x_turn, x_asg, x_asgT, x_par, x_par0, x_par1, x_app, x_setI, x_popS, x_ex, x_ret, x_retN, x_pass, x_brk, x_cnt, x_if, x_ss0, x_ss, x_forT, x_view, x_viewF, x_keepF, x_keepT, x_hide0, x_hide1, x_hideN, x_own0, x_own1l, x_wipe0, x_wipe1, x_tg, x_tgT, x_tg0, x_tg1, x_add, x_sub, x_mul, x_lt, x_le, x_gt, x_ge, x_eq, x_ne, x_isN, x_isI, x_isT, x_isnN, x_isnI, x_isnT, x_tr, x_bl, x_intD, x_seqT, x_seqL, x_lenT, x_lenL, x_abs, x_int, x_intB, x_tupL, x_lstT, x_max2, x_min2, x_isiI, x_isiB, x_idxT, x_idxL, x_slcL, x_zipL, List.getD_cons_zero, List.getD_cons_succ, List.set_cons_zero, List.set_cons_succ, Option.map_some, Option.bind_some, Bool.not_true, Bool.not_false, if_true, Bool.true_or, Bool.or_true, Bool.false_or, Bool.true_and, Bool.and_true, decide_true, decide_false, Bool.and_self, reduceIte, reduceCtorEq, ne_eq, not_false_eq_true, implies_true, x_fit, List.length_cons, List.length_nil, Nat.reduceAdd, Nat.reduceLeDiff, Bool.not_eq_true, decide_eq_true_eq, Bool.false_eq_true, if_false, x_la0, x_la1, x_app, x_popS, x_setI, x_ownlc, x_ownlst, x_okI, x_jg0, x_jg1, x_jset, x_js0, x_js1, x_callJ, x_callQ, x_gD0, c', e1, e2, e, x_oklc (noLs_enc Q')]
  · refine ⟨Q, none, none, J, ?_, hQ, hJ⟩
    show evS _ _ _ (.ite (.cmp .eq (.var 2) (.lit (.int (1)))) _ []) _ _ = _
    simp only [x_bind, x_ok, x_pure, x_opt, x_selT, x_selF, x_seqO, x_seqR, x_seqB, x_seqC, x_rcall, x_callP, x_var, x_lit, x_tup, x_lst, x_bin, x_neg, x_not, x_cmp, x_chain, x_and, x_or, x_ite, x_idx, x_slc, x_rev, x_call, x_bi, x_callJ, x_callQ, x_nil, x_cons, x_star, x_o0, x_o1, x_if0, x_if1, x_seq, x_rng1, x_enum, x_zip, x_turn, x_asg, x_asgT, x_par, x_par0, x_par1, x_app, x_setI, x_popS, x_ex, x_ret, x_retN, x_pass, x_brk, x_cnt, x_if, x_ss0, x_ss, x_forT, x_view, x_viewF, x_keepF, x_keepT, x_hide0, x_hide1, x_hideN, x_own0, x_own1l, x_wipe0, x_wipe1, x_tg, x_tgT, x_tg0, x_tg1, x_add, x_sub, x_mul, x_lt, x_le, x_gt, x_ge, x_eq, x_ne, x_isN, x_isI, x_isT, x_isnN, x_isnI, x_isnT, x_tr, x_bl, x_intD, x_seqT, x_seqL, x_lenT, x_lenL, x_abs, x_int, x_intB, x_tupL, x_lstT, x_max2, x_min2, x_isiI, x_isiB, x_idxT, x_idxL, x_slcL, x_zipL, List.getD_cons_zero, List.getD_cons_succ, List.set_cons_zero, List.set_cons_succ, Option.map_some, Option.bind_some, Bool.not_true, Bool.not_false, if_true, Bool.true_or, Bool.or_true, Bool.false_or, Bool.true_and, Bool.and_true, decide_true, decide_false, Bool.and_self, reduceIte, reduceCtorEq, ne_eq, not_false_eq_true, implies_true, x_fit, List.length_cons, List.length_nil, Nat.reduceAdd, Nat.reduceLeDiff, Bool.not_eq_true, decide_eq_true_eq, Bool.false_eq_true, if_false, x_la0, x_la1, x_app, x_popS, x_setI, c]
theorem poly4 {J : Jr} (hJ : JI J) {Q : List (Option Int)} {y6 y7 : Option PyData} {kind top part : Int} (t0 : 0 ≤ top) (t1 : top ≤ 11) (hQ : (Q.length : Int) = top + 1) : ∃ (Q' : List (Option Int)) (y5 y8 : Option PyData) (J' : Jr), evS (Ph i__law_poly) 1000 [0, 1, 0, 0, 0, 0, 0, 0, 0, 0] (b__law_poly.getD 3 .pass) [none, some (.list (Q.map encE)), some (.int kind), some (.int top), some (.int part), none, y6, y7, none, none] J = .ok (.nx [none, some (.list (Q'.map encE)), some (.int kind), some (.int top), some (.int part), y5, y6, y7, y8, none]) J' ∧ (Q'.length : Int) = top + 1 ∧ JI J' := by
  have sz : 2000 ≤ sizeLine := by decide +kernel
  by_cases c : kind = 2
  · obtain ⟨k1, J1, e1, ⟨a1, b1⟩, hJ1⟩ := s__law_draw (n := i__law_poly) (by decide) hJ (m := 9) (by omega) (by omega)
    obtain ⟨k2, J2, e2, ⟨a2, b2⟩, hJ2⟩ := s__law_draw (n := i__law_poly) (by decide) hJ1 (m := 9) (by omega) (by omega)
    have loop : ∀ (l : List PyData) (R : List Int) (z hr : Int) (z5 : Option PyData) (J : Jr), JI J → R.length + l.length ≤ 100 → ∃ (R' : List Int) (z' hr' : Int) (z5' : Option PyData) (J' : Jr), forLoop (forT (Ph i__law_poly) 1000 [0, 1, 0, 0, 0, 0, 0, 0, 0, 0] (.name 5) [.asg 8 0 false (.bin .sub (.var 8) (.callJ 19 [(.lit (.int (4)))])), .app 1 true (.bin .add (.idx (.var 1) (.neg (.lit (.int (1))))) (.var 8))]) l [none, some (.list (R.map PyData.int ++ [PyData.int z])), some (.int kind), some (.int top), some (.int part), z5, y6, y7, some (.int hr), none] J
        = .ok (.nx [none, some (.list (R'.map PyData.int ++ [.int z'])), some (.int kind), some (.int top), some (.int part), z5', y6, y7, some (.int hr'), none]) J' ∧ R'.length = R.length + l.length ∧ JI J' := by
      intro l
      induction l with
      | nil => intro R z hr z5 J hJ _; exact ⟨R, z, hr, z5, J, rfl, rfl, hJ⟩
      | cons d l ih =>
        intro R z hr z5 J hJ hl
        obtain ⟨k, J1, e, _, hJ1⟩ := s__law_draw (n := i__law_poly) (by decide) hJ (m := 4) (by omega) (by omega)
        have lt : (R.map PyData.int ++ [PyData.int z]).length < sizeLine := by rw [List.length_append, List.length_map, List.length_singleton]; rw [List.length_cons] at hl; omega
        have i1 : atI (R.map PyData.int ++ [PyData.int z]) (-1) = some (.int z) := at_m1
        have st : forT (Ph i__law_poly) 1000 [0, 1, 0, 0, 0, 0, 0, 0, 0, 0] (.name 5) [.asg 8 0 false (.bin .sub (.var 8) (.callJ 19 [(.lit (.int (4)))])), .app 1 true (.bin .add (.idx (.var 1) (.neg (.lit (.int (1))))) (.var 8))] d [none, some (.list (R.map PyData.int ++ [PyData.int z])), some (.int kind), some (.int top), some (.int part), z5, y6, y7, some (.int hr), none] J
            = .ok (.nx [none, some (.list ((R ++ [z]).map PyData.int ++ [.int (z + (hr - k))])), some (.int kind), some (.int top), some (.int part), some d, y6, y7, some (.int (hr - k)), none]) J1 := by
          obtain ⟨g, s, rfl, s0, s1⟩ := hJ
          have ea : List.map PyData.int (R ++ [z]) = R.map PyData.int ++ [PyData.int z] := by simp
          rw [ea]
          generalize R.map PyData.int ++ [PyData.int z] = X at *
          simp only [x_bind, x_ok, x_pure, x_opt, x_selT, x_selF, x_seqO, x_seqR, x_seqB, x_seqC, x_rcall, x_callP, x_var, x_lit, x_tup, x_lst, x_bin, x_neg, x_not, x_cmp, x_chain, x_and, x_or, x_ite, x_idx, x_slc, x_rev, x_call, x_bi, x_callJ, x_callQ, x_nil, x_cons, x_star, x_o0, x_o1, x_if0, x_if1, x_seq, x_rng1, x_enum, x_zip, x_turn, x_asg, x_asgT, x_par, x_par0, x_par1, x_app, x_setI, x_popS, x_ex, x_ret, x_retN, x_pass, x_brk, x_cnt, x_if, x_ss0, x_ss, x_forT, x_view, x_viewF, x_keepF, x_keepT, x_hide0, x_hide1, x_hideN, x_own0, x_own1l, x_wipe0, x_wipe1, x_tg, x_tgT, x_tg0, x_tg1, x_add, x_sub, x_mul, x_lt, x_le, x_gt, x_ge, x_eq, x_ne, x_isN, x_isI, x_isT, x_isnN, x_isnI, x_isnT, x_tr, x_bl, x_intD, x_seqT, x_seqL, x_lenT, x_lenL, x_abs, x_int, x_intB, x_tupL, x_lstT, x_max2, x_min2, x_isiI, x_isiB, x_idxT, x_idxL, x_slcL, x_zipL, List.getD_cons_zero, List.getD_cons_succ, List.set_cons_zero, List.set_cons_succ, Option.map_some, Option.bind_some, Bool.not_true, Bool.not_false, if_true, Bool.true_or, Bool.or_true, Bool.false_or, Bool.true_and, Bool.and_true, decide_true, decide_false, Bool.and_self, reduceIte, reduceCtorEq, ne_eq, not_false_eq_true, implies_true, x_fit, List.length_cons, List.length_nil, Nat.reduceAdd, Nat.reduceLeDiff, Bool.not_eq_true, decide_eq_true_eq, Bool.false_eq_true, if_false, x_la0, x_la1, x_app, x_popS, x_setI, x_ownlc, x_ownlst, x_okI, x_jg0, x_jg1, x_jset, x_js0, x_js1, x_callJ, x_callQ, x_gD0, e, i1, lt]
        obtain ⟨R', z', hr', z5', J', e', l', hJ'⟩ := ih (R ++ [z]) (z + (hr - k)) (hr - k) (some d) J1 hJ1 (by rw [List.length_append, List.length_singleton]; rw [List.length_cons] at hl; omega)
        refine ⟨R', z', hr', z5', J', ?_, by rw [l', List.length_append, List.length_singleton, List.length_cons]; omega, hJ'⟩
        rw [for_cons st]
        exact e'
    obtain ⟨R', z', hr', z5', J', e', l', hJ'⟩ := loop ((List.range top.toNat).map fun (k : Nat) => PyData.int k) [] k1 k2 none J2 hJ2 (by simp; omega)
    have ef := e_for (Φ := Ph i__law_poly) (fuel := 1000) (M := [0, 1, 0, 0, 0, 0, 0, 0, 0, 0]) (b := false) (t := .name 5) (it := .rng1 (.var 3)) (σ := [none, some (.list [.int k1]), some (.int kind), some (.int top), some (.int part), none, y6, y7, some (.int k2), none]) (J := J2) (J1 := J2) (ds := (List.range top.toNat).map fun (k : Nat) => PyData.int k) (by simp only [x_bind, x_ok, x_pure, x_opt, x_selT, x_selF, x_seqO, x_seqR, x_seqB, x_seqC, x_rcall, x_callP, x_var, x_lit, x_tup, x_lst, x_bin, x_neg, x_not, x_cmp, x_chain, x_and, x_or, x_ite, x_idx, x_slc, x_rev, x_call, x_bi, x_callJ, x_callQ, x_nil, x_cons, x_star, x_o0, x_o1, x_if0, x_if1, x_seq, x_rng1, x_enum, x_zip, x_turn, x_asg, x_asgT, x_par, x_par0, x_par1, x_app, x_setI, x_popS, x_ex, x_ret, x_retN, x_pass, x_brk, x_cnt, x_if, x_ss0, x_ss, x_forT, x_view, x_viewF, x_keepF, x_keepT, x_hide0, x_hide1, x_hideN, x_own0, x_own1l, x_wipe0, x_wipe1, x_tg, x_tgT, x_tg0, x_tg1, x_add, x_sub, x_mul, x_lt, x_le, x_gt, x_ge, x_eq, x_ne, x_isN, x_isI, x_isT, x_isnN, x_isnI, x_isnT, x_tr, x_bl, x_intD, x_seqT, x_seqL, x_lenT, x_lenL, x_abs, x_int, x_intB, x_tupL, x_lstT, x_max2, x_min2, x_isiI, x_isiB, x_idxT, x_idxL, x_slcL, x_zipL, List.getD_cons_zero, List.getD_cons_succ, List.set_cons_zero, List.set_cons_succ, Option.map_some, Option.bind_some, Bool.not_true, Bool.not_false, if_true, Bool.true_or, Bool.or_true, Bool.false_or, Bool.true_and, Bool.and_true, decide_true, decide_false, Bool.and_self, reduceIte, reduceCtorEq, ne_eq, not_false_eq_true, implies_true, x_fit, List.length_cons, List.length_nil, Nat.reduceAdd, Nat.reduceLeDiff, Bool.not_eq_true, decide_eq_true_eq, Bool.false_eq_true, if_false, x_la0, x_la1, x_app, x_popS, x_setI, rng_eq (j := top) (by omega) (by omega)]) e'
    have eq : (R'.map PyData.int ++ [.int z']) = ((R' ++ [z']).map some).map encE := by
      rw [List.map_map, List.map_append]; rfl
    refine ⟨(R' ++ [z']).map some, z5', some (.int hr'), J', ?_, ?_, hJ'⟩
    · rw [← eq]
      obtain ⟨g, s, rfl, s0, s1⟩ := hJ
      obtain ⟨g1, s1, rfl, _⟩ := hJ1
      show evS _ _ _ (.ite (.cmp .eq (.var 2) (.lit (.int (2)))) [.par [1, 8] false [(.lst [(.callJ 19 [(.lit (.int (9)))])]), (.callJ 19 [(.lit (.int (9)))])], .forS false (.name 5) (.rng1 (.var 3)) [.asg 8 0 false (.bin .sub (.var 8) (.callJ 19 [(.lit (.int (4)))])), .app 1 true (.bin .add (.idx (.var 1) (.neg (.lit (.int (1))))) (.var 8))]] []) _ _ = _
      have c' : decide (kind = 2) = true := decide_eq_true c
      simp only [x_bind, x_ok, x_pure, x_opt, x_selT, x_selF, x_seqO, x_seqR, x_seqB, x_seqC, x_rcall, x_callP, x_var, x_lit, x_tup, x_lst, x_bin, x_neg, x_not, x_cmp, x_chain, x_and, x_or, x_ite, x_idx, x_slc, x_rev, x_call, x_bi, x_callJ, x_callQ, x_nil, x_cons, x_star, x_o0, x_o1, x_if0, x_if1, x_seq, x_rng1, x_enum, x_zip, x_turn, x_asg, x_asgT, x_par, x_par0, x_par1, x_app, x_setI, x_popS, x_ex, x_ret, x_retN, x_pass, x_brk, x_cnt, x_if, x_ss0, x_ss, x_forT, x_view, x_viewF, x_keepF, x_keepT, x_hide0, x_hide1, x_hideN, x_own0, x_own1l, x_wipe0, x_wipe1, x_tg, x_tgT, x_tg0, x_tg1, x_add, x_sub, x_mul, x_lt, x_le, x_gt, x_ge, x_eq, x_ne, x_isN, x_isI, x_isT, x_isnN, x_isnI, x_isnT, x_tr, x_bl, x_intD, x_seqT, x_seqL, x_lenT, x_lenL, x_abs, x_int, x_intB, x_tupL, x_lstT, x_max2, x_min2, x_isiI, x_isiB, x_idxT, x_idxL, x_slcL, x_zipL, List.getD_cons_zero, List.getD_cons_succ, List.set_cons_zero, List.set_cons_succ, Option.map_some, Option.bind_some, Bool.not_true, Bool.not_false, if_true, Bool.true_or, Bool.or_true, Bool.false_or, Bool.true_and, Bool.and_true, decide_true, decide_false, Bool.and_self, reduceIte, reduceCtorEq, ne_eq, not_false_eq_true, implies_true, x_fit, List.length_cons, List.length_nil, Nat.reduceAdd, Nat.reduceLeDiff, Bool.not_eq_true, decide_eq_true_eq, Bool.false_eq_true, if_false, x_la0, x_la1, x_app, x_popS, x_setI, x_ownlc, x_ownlst, x_okI, x_jg0, x_jg1, x_jset, x_js0, x_js1, x_callJ, x_callQ, x_gD0, c', e1, e2, ef]
    · rw [List.length_map, List.length_append, List.length_singleton, l']
      simp
      omega
  · refine ⟨Q, none, none, J, ?_, hQ, hJ⟩
    show evS _ _ _ (.ite (.cmp .eq (.var 2) (.lit (.int (2)))) _ []) _ _ = _
    simp only [x_bind, x_ok, x_pure, x_opt, x_selT, x_selF, x_seqO, x_seqR, x_seqB, x_seqC, x_rcall, x_callP, x_var, x_lit, x_tup, x_lst, x_bin, x_neg, x_not, x_cmp, x_chain, x_and, x_or, x_ite, x_idx, x_slc, x_rev, x_call, x_bi, x_callJ, x_callQ, x_nil, x_cons, x_star, x_o0, x_o1, x_if0, x_if1, x_seq, x_rng1, x_enum, x_zip, x_turn, x_asg, x_asgT, x_par, x_par0, x_par1, x_app, x_setI, x_popS, x_ex, x_ret, x_retN, x_pass, x_brk, x_cnt, x_if, x_ss0, x_ss, x_forT, x_view, x_viewF, x_keepF, x_keepT, x_hide0, x_hide1, x_hideN, x_own0, x_own1l, x_wipe0, x_wipe1, x_tg, x_tgT, x_tg0, x_tg1, x_add, x_sub, x_mul, x_lt, x_le, x_gt, x_ge, x_eq, x_ne, x_isN, x_isI, x_isT, x_isnN, x_isnI, x_isnT, x_tr, x_bl, x_intD, x_seqT, x_seqL, x_lenT, x_lenL, x_abs, x_int, x_intB, x_tupL, x_lstT, x_max2, x_min2, x_isiI, x_isiB, x_idxT, x_idxL, x_slcL, x_zipL, List.getD_cons_zero, List.getD_cons_succ, List.set_cons_zero, List.set_cons_succ, Option.map_some, Option.bind_some, Bool.not_true, Bool.not_false, if_true, Bool.true_or, Bool.or_true, Bool.false_or, Bool.true_and, Bool.and_true, decide_true, decide_false, Bool.and_self, reduceIte, reduceCtorEq, ne_eq, not_false_eq_true, implies_true, x_fit, List.length_cons, List.length_nil, Nat.reduceAdd, Nat.reduceLeDiff, Bool.not_eq_true, decide_eq_true_eq, Bool.false_eq_true, if_false, x_la0, x_la1, x_app, x_popS, x_setI, c]
theorem set_last {xs : List PyData} {a b : PyData} : (xs ++ [a]).set xs.length b = xs ++ [b] := by
  induction xs with
  | nil => rfl
  | cons x xs ih => exact congrArg (List.cons x) ih
theorem ix_last {xs : List PyData} {a : PyData} : ixN (xs ++ [a]).length (-1) = some xs.length := by
  rw [List.length_append, List.length_singleton]
  unfold ixN
  rw [if_neg (by omega), if_pos (by omega)]
  congr 1
  omega
theorem poly5 {J : Jr} (hJ : JI J) {R : List (Option Int)} {o : Option Int} {y2 y3 y4 y5 y6 y7 y8 : Option PyData} : ∃ (i : Int) (J' : Jr), evS (Ph i__law_poly) 1000 [0, 1, 0, 0, 0, 0, 0, 0, 0, 0] (b__law_poly.getD 4 .pass) [none, some (.list (R.map encE ++ [encE o])), y2, y3, y4, y5, y6, y7, y8, none] J = .ok (.nx [none, some (.list (R.map encE ++ [.int i])), y2, y3, y4, y5, y6, y7, y8, none]) J' ∧ JI J' := by
  have i1 : atI (R.map encE ++ [encE o]) (-1) = some (encE o) := at_m1
  have i2 : ixN (R.map encE ++ [encE o]).length (-1) = some (R.map encE).length := ix_last
  have i3 : ∀ b, (R.map encE ++ [encE o]).set (R.map encE).length b = R.map encE ++ [b] := fun b => set_last
  have e0 : b__law_poly.getD 4 .pass = .setI 1 true (.neg (.lit (.int (1)))) (.ite (.cmp .is_ (.idx (.var 1) (.neg (.lit (.int (1))))) (.lit .none)) (.bin .sub (.callJ 19 [(.lit (.int (21)))]) (.lit (.int (10)))) (.idx (.var 1) (.neg (.lit (.int (1)))))) := rfl
  rw [e0]
  generalize hX : R.map encE ++ [encE o] = X at *
  cases o with
  | none =>
    obtain ⟨k, J1, e, _, hJ1⟩ := s__law_draw (n := i__law_poly) (by decide) hJ (m := 21) (by omega) (by omega)
    refine ⟨k - 10, J1, ?_, hJ1⟩
    obtain ⟨g, s, rfl, s0, s1⟩ := hJ
    have i1' : atI X (-1) = some .none := i1
    simp only [x_bind, x_ok, x_pure, x_opt, x_selT, x_selF, x_seqO, x_seqR, x_seqB, x_seqC, x_rcall, x_callP, x_var, x_lit, x_tup, x_lst, x_bin, x_neg, x_not, x_cmp, x_chain, x_and, x_or, x_ite, x_idx, x_slc, x_rev, x_call, x_bi, x_callJ, x_callQ, x_nil, x_cons, x_star, x_o0, x_o1, x_if0, x_if1, x_seq, x_rng1, x_enum, x_zip, x_turn, x_asg, x_asgT, x_par, x_par0, x_par1, x_app, x_setI, x_popS, x_ex, x_ret, x_retN, x_pass, x_brk, x_cnt, x_if, x_ss0, x_ss, x_forT, x_view, x_viewF, x_keepF, x_keepT, x_hide0, x_hide1, x_hideN, x_own0, x_own1l, x_wipe0, x_wipe1, x_tg, x_tgT, x_tg0, x_tg1, x_add, x_sub, x_mul, x_lt, x_le, x_gt, x_ge, x_eq, x_ne, x_isN, x_isI, x_isT, x_isnN, x_isnI, x_isnT, x_tr, x_bl, x_intD, x_seqT, x_seqL, x_lenT, x_lenL, x_abs, x_int, x_intB, x_tupL, x_lstT, x_max2, x_min2, x_isiI, x_isiB, x_idxT, x_idxL, x_slcL, x_zipL, List.getD_cons_zero, List.getD_cons_succ, List.set_cons_zero, List.set_cons_succ, Option.map_some, Option.bind_some, Bool.not_true, Bool.not_false, if_true, Bool.true_or, Bool.or_true, Bool.false_or, Bool.true_and, Bool.and_true, decide_true, decide_false, Bool.and_self, reduceIte, reduceCtorEq, ne_eq, not_false_eq_true, implies_true, x_fit, List.length_cons, List.length_nil, Nat.reduceAdd, Nat.reduceLeDiff, Bool.not_eq_true, decide_eq_true_eq, Bool.false_eq_true, if_false, x_la0, x_la1, x_app, x_popS, x_setI, x_ownlc, x_ownlst, x_okI, x_jg0, x_jg1, x_jset, x_js0, x_js1, x_callJ, x_callQ, x_gD0, i1', i2, i3, e]
  | some i =>
    refine ⟨i, J, ?_, hJ⟩
    have i1' : atI X (-1) = some (.int i) := i1
    simp only [x_bind, x_ok, x_pure, x_opt, x_selT, x_selF, x_seqO, x_seqR, x_seqB, x_seqC, x_rcall, x_callP, x_var, x_lit, x_tup, x_lst, x_bin, x_neg, x_not, x_cmp, x_chain, x_and, x_or, x_ite, x_idx, x_slc, x_rev, x_call, x_bi, x_callJ, x_callQ, x_nil, x_cons, x_star, x_o0, x_o1, x_if0, x_if1, x_seq, x_rng1, x_enum, x_zip, x_turn, x_asg, x_asgT, x_par, x_par0, x_par1, x_app, x_setI, x_popS, x_ex, x_ret, x_retN, x_pass, x_brk, x_cnt, x_if, x_ss0, x_ss, x_forT, x_view, x_viewF, x_keepF, x_keepT, x_hide0, x_hide1, x_hideN, x_own0, x_own1l, x_wipe0, x_wipe1, x_tg, x_tgT, x_tg0, x_tg1, x_add, x_sub, x_mul, x_lt, x_le, x_gt, x_ge, x_eq, x_ne, x_isN, x_isI, x_isT, x_isnN, x_isnI, x_isnT, x_tr, x_bl, x_intD, x_seqT, x_seqL, x_lenT, x_lenL, x_abs, x_int, x_intB, x_tupL, x_lstT, x_max2, x_min2, x_isiI, x_isiB, x_idxT, x_idxL, x_slcL, x_zipL, List.getD_cons_zero, List.getD_cons_succ, List.set_cons_zero, List.set_cons_succ, Option.map_some, Option.bind_some, Bool.not_true, Bool.not_false, if_true, Bool.true_or, Bool.or_true, Bool.false_or, Bool.true_and, Bool.and_true, decide_true, decide_false, Bool.and_self, reduceIte, reduceCtorEq, ne_eq, not_false_eq_true, implies_true, x_fit, List.length_cons, List.length_nil, Nat.reduceAdd, Nat.reduceLeDiff, Bool.not_eq_true, decide_eq_true_eq, Bool.false_eq_true, if_false, x_la0, x_la1, x_app, x_popS, x_setI, x_ownlc, x_ownlst, x_okI, x_jg0, x_jg1, x_jset, x_js0, x_js1, x_callJ, x_callQ, x_gD0, i1', i2, i3]
theorem poly6 {J : Jr} {Q : List (Option Int)} (hQ : Q.length ≤ 12) {y2 y3 y4 y5 y6 y7 y8 : Option PyData} : evS (Ph i__law_poly) 1000 [0, 1, 0, 0, 0, 0, 0, 0, 0, 0] (b__law_poly.getD 5 .pass) [none, some (.list (Q.map encE)), y2, y3, y4, y5, y6, y7, y8, none] J = .ok (.rt (poly (Q.map clampO))) J := by
  have e := e_lcm (Φ := Ph i__law_poly) (elt := .ite (.cmp .is_ (.var 9) (.lit .none)) (.lit .none) (.bi .max2 [(.neg (.lit (.int (999)))), (.bi .min2 [(.lit (.int (999))), (.var 9)])])) (t := .name 9) (it := .seq (.var 1)) (ifs := []) (own := [9]) (σ := [none, some (.list (Q.map encE)), y2, y3, y4, y5, y6, y7, y8, none]) (J := J) (T := Q) (enc := encE) (g := fun o => some (encE (clampO o))) (by simp only [x_bind, x_ok, x_pure, x_opt, x_selT, x_selF, x_seqO, x_seqR, x_seqB, x_seqC, x_rcall, x_callP, x_var, x_lit, x_tup, x_lst, x_bin, x_neg, x_not, x_cmp, x_chain, x_and, x_or, x_ite, x_idx, x_slc, x_rev, x_call, x_bi, x_callJ, x_callQ, x_nil, x_cons, x_star, x_o0, x_o1, x_if0, x_if1, x_seq, x_rng1, x_enum, x_zip, x_turn, x_asg, x_asgT, x_par, x_par0, x_par1, x_app, x_setI, x_popS, x_ex, x_ret, x_retN, x_pass, x_brk, x_cnt, x_if, x_ss0, x_ss, x_forT, x_view, x_viewF, x_keepF, x_keepT, x_hide0, x_hide1, x_hideN, x_own0, x_own1l, x_wipe0, x_wipe1, x_tg, x_tgT, x_tg0, x_tg1, x_add, x_sub, x_mul, x_lt, x_le, x_gt, x_ge, x_eq, x_ne, x_isN, x_isI, x_isT, x_isnN, x_isnI, x_isnT, x_tr, x_bl, x_intD, x_seqT, x_seqL, x_lenT, x_lenL, x_abs, x_int, x_intB, x_tupL, x_lstT, x_max2, x_min2, x_isiI, x_isiB, x_idxT, x_idxL, x_slcL, x_zipL, List.getD_cons_zero, List.getD_cons_succ, List.set_cons_zero, List.set_cons_succ, Option.map_some, Option.bind_some, Bool.not_true, Bool.not_false, if_true, Bool.true_or, Bool.or_true, Bool.false_or, Bool.true_and, Bool.and_true, decide_true, decide_false, Bool.and_self, reduceIte, reduceCtorEq, ne_eq, not_false_eq_true, implies_true, x_fit, List.length_cons, List.length_nil, Nat.reduceAdd, Nat.reduceLeDiff, Bool.not_eq_true, decide_eq_true_eq, Bool.false_eq_true, if_false, x_la0, x_la1, x_app, x_popS, x_setI]) (fun o _ => by
    cases o with
    | none => simp only [x_bind, x_ok, x_pure, x_opt, x_selT, x_selF, x_seqO, x_seqR, x_seqB, x_seqC, x_rcall, x_callP, x_var, x_lit, x_tup, x_lst, x_bin, x_neg, x_not, x_cmp, x_chain, x_and, x_or, x_ite, x_idx, x_slc, x_rev, x_call, x_bi, x_callJ, x_callQ, x_nil, x_cons, x_star, x_o0, x_o1, x_if0, x_if1, x_seq, x_rng1, x_enum, x_zip, x_turn, x_asg, x_asgT, x_par, x_par0, x_par1, x_app, x_setI, x_popS, x_ex, x_ret, x_retN, x_pass, x_brk, x_cnt, x_if, x_ss0, x_ss, x_forT, x_view, x_viewF, x_keepF, x_keepT, x_hide0, x_hide1, x_hideN, x_own0, x_own1l, x_wipe0, x_wipe1, x_tg, x_tgT, x_tg0, x_tg1, x_add, x_sub, x_mul, x_lt, x_le, x_gt, x_ge, x_eq, x_ne, x_isN, x_isI, x_isT, x_isnN, x_isnI, x_isnT, x_tr, x_bl, x_intD, x_seqT, x_seqL, x_lenT, x_lenL, x_abs, x_int, x_intB, x_tupL, x_lstT, x_max2, x_min2, x_isiI, x_isiB, x_idxT, x_idxL, x_slcL, x_zipL, List.getD_cons_zero, List.getD_cons_succ, List.set_cons_zero, List.set_cons_succ, Option.map_some, Option.bind_some, Bool.not_true, Bool.not_false, if_true, Bool.true_or, Bool.or_true, Bool.false_or, Bool.true_and, Bool.and_true, decide_true, decide_false, Bool.and_self, reduceIte, reduceCtorEq, ne_eq, not_false_eq_true, implies_true, x_fit, List.length_cons, List.length_nil, Nat.reduceAdd, Nat.reduceLeDiff, Bool.not_eq_true, decide_eq_true_eq, Bool.false_eq_true, if_false, x_la0, x_la1, x_app, x_popS, x_setI, encE, clampO]
    | some i => simp only [x_bind, x_ok, x_pure, x_opt, x_selT, x_selF, x_seqO, x_seqR, x_seqB, x_seqC, x_rcall, x_callP, x_var, x_lit, x_tup, x_lst, x_bin, x_neg, x_not, x_cmp, x_chain, x_and, x_or, x_ite, x_idx, x_slc, x_rev, x_call, x_bi, x_callJ, x_callQ, x_nil, x_cons, x_star, x_o0, x_o1, x_if0, x_if1, x_seq, x_rng1, x_enum, x_zip, x_turn, x_asg, x_asgT, x_par, x_par0, x_par1, x_app, x_setI, x_popS, x_ex, x_ret, x_retN, x_pass, x_brk, x_cnt, x_if, x_ss0, x_ss, x_forT, x_view, x_viewF, x_keepF, x_keepT, x_hide0, x_hide1, x_hideN, x_own0, x_own1l, x_wipe0, x_wipe1, x_tg, x_tgT, x_tg0, x_tg1, x_add, x_sub, x_mul, x_lt, x_le, x_gt, x_ge, x_eq, x_ne, x_isN, x_isI, x_isT, x_isnN, x_isnI, x_isnT, x_tr, x_bl, x_intD, x_seqT, x_seqL, x_lenT, x_lenL, x_abs, x_int, x_intB, x_tupL, x_lstT, x_max2, x_min2, x_isiI, x_isiB, x_idxT, x_idxL, x_slcL, x_zipL, List.getD_cons_zero, List.getD_cons_succ, List.set_cons_zero, List.set_cons_succ, Option.map_some, Option.bind_some, Bool.not_true, Bool.not_false, if_true, Bool.true_or, Bool.or_true, Bool.false_or, Bool.true_and, Bool.and_true, decide_true, decide_false, Bool.and_self, reduceIte, reduceCtorEq, ne_eq, not_false_eq_true, implies_true, x_fit, List.length_cons, List.length_nil, Nat.reduceAdd, Nat.reduceLeDiff, Bool.not_eq_true, decide_eq_true_eq, Bool.false_eq_true, if_false, x_la0, x_la1, x_app, x_popS, x_setI, encE, clampO]) (by omega)
  show evS _ _ _ (.ret (.bi .tuple [(.lc (.ite (.cmp .is_ (.var 9) (.lit .none)) (.lit .none) (.bi .max2 [(.neg (.lit (.int (999)))), (.bi .min2 [(.lit (.int (999))), (.var 9)])])) (.name 9) (.seq (.var 1)) [] [9])])) _ _ = _
  have e' : Q.filterMap (fun o => some (encE (clampO o))) = (Q.map clampO).map encE := by
    rw [List.filterMap_eq_map', List.map_map]; rfl
  rw [e'] at e
  simp only [x_bind, x_ok, x_pure, x_opt, x_selT, x_selF, x_seqO, x_seqR, x_seqB, x_seqC, x_rcall, x_callP, x_var, x_lit, x_tup, x_lst, x_bin, x_neg, x_not, x_cmp, x_chain, x_and, x_or, x_ite, x_idx, x_slc, x_rev, x_call, x_bi, x_callJ, x_callQ, x_nil, x_cons, x_star, x_o0, x_o1, x_if0, x_if1, x_seq, x_rng1, x_enum, x_zip, x_turn, x_asg, x_asgT, x_par, x_par0, x_par1, x_app, x_setI, x_popS, x_ex, x_ret, x_retN, x_pass, x_brk, x_cnt, x_if, x_ss0, x_ss, x_forT, x_view, x_viewF, x_keepF, x_keepT, x_hide0, x_hide1, x_hideN, x_own0, x_own1l, x_wipe0, x_wipe1, x_tg, x_tgT, x_tg0, x_tg1, x_add, x_sub, x_mul, x_lt, x_le, x_gt, x_ge, x_eq, x_ne, x_isN, x_isI, x_isT, x_isnN, x_isnI, x_isnT, x_tr, x_bl, x_intD, x_seqT, x_seqL, x_lenT, x_lenL, x_abs, x_int, x_intB, x_tupL, x_lstT, x_max2, x_min2, x_isiI, x_isiB, x_idxT, x_idxL, x_slcL, x_zipL, List.getD_cons_zero, List.getD_cons_succ, List.set_cons_zero, List.set_cons_succ, Option.map_some, Option.bind_some, Bool.not_true, Bool.not_false, if_true, Bool.true_or, Bool.or_true, Bool.false_or, Bool.true_and, Bool.and_true, decide_true, decide_false, Bool.and_self, reduceIte, reduceCtorEq, ne_eq, not_false_eq_true, implies_true, x_fit, List.length_cons, List.length_nil, Nat.reduceAdd, Nat.reduceLeDiff, Bool.not_eq_true, decide_eq_true_eq, Bool.false_eq_true, if_false, x_la0, x_la1, x_app, x_popS, x_setI, e]
  rfl
theorem s__law_poly {n : Nat} (h : i__law_poly < n) {J : Jr} (hJ : JI J) : ∃ P J', Ph n i__law_poly [] J = .ok (poly P) J' ∧ POk P ∧ JI J' := by
  obtain ⟨k1, J1, e1, ⟨a1, b1⟩, hJ1⟩ := s__law_draw (n := i__law_poly) (by decide) hJ (m := 5) (by omega) (by omega)
  obtain ⟨k2, J2, e2, ⟨a2, b2⟩, hJ2⟩ := s__law_draw (n := i__law_poly) (by decide) hJ1 (m := 12) (by omega) (by omega)
  obtain ⟨k3, J3, e3, m3, hJ3⟩ := s__law_one_of (n := i__law_poly) (by decide) hJ2 (L := [2, 4, 50]) (by decide) (by decide)
  have b3 : 1 ≤ k3 ∧ k3 ≤ 50 := by simp at m3; omega
  have st1 : evS (Ph i__law_poly) 1000 [0, 1, 0, 0, 0, 0, 0, 0, 0, 0] (b__law_poly.getD 0 .pass) [none, none, none, none, none, none, none, none, none, none] J = .ok (.nx [none, none, some (.int k1), some (.int k2), some (.int k3), none, none, none, none, none]) J3 := by
    obtain ⟨g, s, rfl, s0, s1⟩ := hJ
    obtain ⟨g1, s1, rfl, _⟩ := hJ1
    obtain ⟨g2, s2, rfl, _⟩ := hJ2
    have e3' : Ph i__law_poly 20 [.list [.int 2, .int 4, .int 50]] (some [g2, s2]) = .ok (.int k3) J3 := e3
    show evS _ _ _ (.asgT (.tup [(.name 2), (.name 3), (.name 4)]) false (.tup [(.callJ 19 [(.lit (.int (5)))]), (.callJ 19 [(.lit (.int (12)))]), (.callJ 20 [(.lst [(.lit (.int (2))), (.lit (.int (4))), (.lit (.int (50)))])])])) _ _ = _
    simp only [x_bind, x_ok, x_pure, x_opt, x_selT, x_selF, x_seqO, x_seqR, x_seqB, x_seqC, x_rcall, x_callP, x_var, x_lit, x_tup, x_lst, x_bin, x_neg, x_not, x_cmp, x_chain, x_and, x_or, x_ite, x_idx, x_slc, x_rev, x_call, x_bi, x_callJ, x_callQ, x_nil, x_cons, x_star, x_o0, x_o1, x_if0, x_if1, x_seq, x_rng1, x_enum, x_zip, x_turn, x_asg, x_asgT, x_par, x_par0, x_par1, x_app, x_setI, x_popS, x_ex, x_ret, x_retN, x_pass, x_brk, x_cnt, x_if, x_ss0, x_ss, x_forT, x_view, x_viewF, x_keepF, x_keepT, x_hide0, x_hide1, x_hideN, x_own0, x_own1l, x_wipe0, x_wipe1, x_tg, x_tgT, x_tg0, x_tg1, x_add, x_sub, x_mul, x_lt, x_le, x_gt, x_ge, x_eq, x_ne, x_isN, x_isI, x_isT, x_isnN, x_isnI, x_isnT, x_tr, x_bl, x_intD, x_seqT, x_seqL, x_lenT, x_lenL, x_abs, x_int, x_intB, x_tupL, x_lstT, x_max2, x_min2, x_isiI, x_isiB, x_idxT, x_idxL, x_slcL, x_zipL, List.getD_cons_zero, List.getD_cons_succ, List.set_cons_zero, List.set_cons_succ, Option.map_some, Option.bind_some, Bool.not_true, Bool.not_false, if_true, Bool.true_or, Bool.or_true, Bool.false_or, Bool.true_and, Bool.and_true, decide_true, decide_false, Bool.and_self, reduceIte, reduceCtorEq, ne_eq, not_false_eq_true, implies_true, x_fit, List.length_cons, List.length_nil, Nat.reduceAdd, Nat.reduceLeDiff, Bool.not_eq_true, decide_eq_true_eq, Bool.false_eq_true, if_false, x_la0, x_la1, x_app, x_popS, x_setI, x_ownlc, x_ownlst, x_okI, x_jg0, x_jg1, x_jset, x_js0, x_js1, x_callJ, x_callQ, x_gD0, e1, e2, e3']
  obtain ⟨Q1, J4, st2, l2, hJ4⟩ := poly2 hJ3 (kind := k1) (top := k2) (part := k3) a2 (by omega) b3.1 b3.2
  obtain ⟨Q2, y6, y7, J5, st3, l3, hJ5⟩ := poly3 hJ4 (kind := k1) (top := k2) (part := k3) a2 (by omega) l2
  obtain ⟨Q3, y5, y8, J6, st4, l4, hJ6⟩ := poly4 hJ5 (y6 := y6) (y7 := y7) (kind := k1) (top := k2) (part := k3) a2 (by omega) l3
  obtain ⟨R, o, rfl⟩ : ∃ R o, Q3 = R ++ [o] := by
    have : Q3 ≠ [] := by intro z; subst z; simp at l4; omega
    exact ⟨Q3.dropLast, Q3.getLast this, (List.dropLast_concat_getLast this).symm⟩
  obtain ⟨i, J7, st5, hJ7⟩ := poly5 hJ6 (R := R) (o := o) (y2 := some (.int k1)) (y3 := some (.int k2)) (y4 := some (.int k3)) (y5 := y5) (y6 := y6) (y7 := y7) (y8 := y8)
  have l5 : (R ++ [some i]).length ≤ 12 := by rw [List.length_append, List.length_singleton] at *; omega
  have st6 := poly6 (J := J7) (Q := R ++ [some i]) l5 (y2 := some (.int k1)) (y3 := some (.int k2)) (y4 := some (.int k3)) (y5 := y5) (y6 := y6) (y7 := y7) (y8 := y8)
  refine ⟨(R ++ [some i]).map clampO, J7, ?_, clamp_ok (by simp) l5 (by simp), hJ7⟩
  have m1 : (R ++ [o]).map encE = R.map encE ++ [encE o] := by simp
  have m2 : (R ++ [some i]).map encE = R.map encE ++ [.int i] := by rw [List.map_append]; rfl
  rw [m1] at st4
  rw [m2] at st6
  rw [Ph_lt (F := d__law_poly.F) rfl h]
  have body : evSs (Ph i__law_poly) 1000 [0, 1, 0, 0, 0, 0, 0, 0, 0, 0] b__law_poly [none, none, none, none, none, none, none, none, none, none] J = .ok (.rt (poly ((R ++ [some i]).map clampO))) J7 := by
    show evSs (Ph i__law_poly) 1000 [0, 1, 0, 0, 0, 0, 0, 0, 0, 0] [b__law_poly.getD 0 .pass, b__law_poly.getD 1 .pass, b__law_poly.getD 2 .pass, b__law_poly.getD 3 .pass, b__law_poly.getD 4 .pass, b__law_poly.getD 5 .pass] _ _ = _
    rw [seqS_nx st1, seqS_nx st2, seqS_nx st3, seqS_nx st4, seqS_nx st5, seqS_rt st6]
  obtain ⟨g, s, rfl, s0, s1⟩ := hJ
  exact run_rtJ rfl rfl body
end K52
end Ev
end

section
set_option maxRecDepth 100000
set_option maxHeartbeats 1000000
namespace Ev
open PySem PySem.Spec PyProof.Rows L2
theorem W.tiny {k : Nat} {a : Int} (h : W k a) (hk : k ≤ 30 := by decide) : a.natAbs < 10 ^ 12 := Nat.lt_of_lt_of_le (h.mono hk) (by decide +kernel)
theorem w_int {i : Int} (h : i.natAbs < 10 ^ 12) : (PyData.int i).weight ≤ 100 := by
  have h2 : i.natAbs < 2 ^ 50 := Nat.lt_of_lt_of_le h (by decide +kernel)
  have := PySem.Flt.log2_lt_of (by decide) h2
  simp only [PyData.weight]
  split <;> omega
theorem tiny_word (s : String) (h : (Str.ofString s = Str.ofString "always" ∨ Str.ofString s = Str.ofString "never" ∨ Str.ofString s = Str.ofString "from")) : tinyD (.str (Str.ofString s)) := by
  have a : ∀ w : String, (reprText (Str.ofString w)).cps.toList.all (fun c => decide (c < 0x110000)) = true → (Str.ofString w).cps.toList.all (fun c => decide (c < 16 ^ 8)) = true → tinyD (.str (Str.ofString w)) := by
    intro w h1 h2
    rw [tinyD]
    exact ⟨fun c hc => of_decide_eq_true (List.all_eq_true.mp h1 c hc), fun c hc => of_decide_eq_true (List.all_eq_true.mp h2 c hc)⟩
  rcases h with q | q | q <;> rw [q] <;> exact a _ (by kernel_rfl) (by kernel_rfl)
theorem tiny_reach {P : List (Option Int)} (okP : POk P) {N : Int} (h1 : -999 ≤ N) (h2 : N ≤ 999) : tinyD (reachD P N) ∧ (reachD P N).depth ≤ 60 ∧ (reachD P N).weight ≤ 2 ^ 20 := by
  unfold reachD
  cases alw P N with
  | true => exact ⟨by simp only [tinyD, tinyDs, and_true]; exact tiny_word "always" (.inl rfl), (by decide +kernel : PyData.depth (.tuple [.str (Str.ofString "always")]) ≤ 60), (by decide +kernel : PyData.weight (.tuple [.str (Str.ofString "always")]) ≤ 2 ^ 20)⟩
  | false =>
    cases e : reachL P N with
    | nil => exact ⟨by simp only [tinyD, tinyDs, and_true]; exact tiny_word "never" (.inr (.inl rfl)), (by decide +kernel : PyData.depth (.tuple [.str (Str.ofString "never")]) ≤ 60), (by decide +kernel : PyData.weight (.tuple [.str (Str.ofString "never")]) ≤ 2 ^ 20)⟩
    | cons a l =>
      have m : fbest a (a :: l) ∈ reachL P N := by
        have := fbest_mem (a := a) (l := a :: l)
        rw [e]
        rcases List.mem_cons.mp this with q | q
        · rw [q]; exact List.mem_cons_self ..
        · exact q
      obtain ⟨_, _, _, _, _, _, w1, w2⟩ := reachL_pt okP h1 h2 m
      refine ⟨?_, ?_, ?_⟩
      · simp only [tinyD, tinyDs, encP, and_true]
        exact ⟨tiny_word "from" (.inr (.inr rfl)), w1.tiny, w2.tiny⟩
      · simp [PyData.depth, PyData.depthAll, encP]
      · have c : (Str.ofString "from").cps.size ≤ 100 := by decide +kernel
        have q1 := w_int w1.tiny
        have q2 := w_int w2.tiny
        simp only [PyData.weight, PyData.weightAll, encP] at *
        omega
theorem tiny_steps {a b : Int} (h1 : a.natAbs < 10 ^ 12) (h2 : b.natAbs < 10 ^ 12) : tinyD (.tuple [.int a, .int b]) ∧ PyData.depth (.tuple [.int a, .int b]) ≤ 60 ∧ PyData.weight (.tuple [.int a, .int b]) ≤ 2 ^ 20 := by
  refine ⟨by simp only [tinyD, tinyDs, and_true]; exact ⟨h1, h2⟩, by simp [PyData.depth, PyData.depthAll], by
    have q1 := w_int h1
    have q2 := w_int h2
    simp only [PyData.weight, PyData.weightAll] at *
    omega⟩
namespace K52
abbrev Z19 : List Nat := [0, 0, 0, 0, 0, 0, 0, 0, 0, 0, 0, 0, 0, 0, 0, 0, 0, 0, 0]
theorem right0 {J : Jr} (hJ : JI J) : ∃ (P : List (Option Int)) (k : Int) (x : Int × Int) (J' : Jr), evS (Ph i__law_right) 1000 Z19 (b__law_right.getD 0 .pass) [none, none, none, none, none, none, none, none, none, none, none, none, none, none, none, none, none, none, none] J
    = .ok (.nx [none, some (.int k), none, none, none, none, none, some (poly P), some (encP x), none, none, none, none, none, none, none, none, none, none]) J' ∧ POk P ∧ smallPt x ∧ JI J' := by
  obtain ⟨P, J1, e1, okP, hJ1⟩ := s__law_poly (n := i__law_right) (by decide) hJ
  obtain ⟨k2, J2, e2, m2, hJ2⟩ := s__law_one_of (n := i__law_right) (by decide) hJ1 (L := [21, 1999]) (by decide) (by decide)
  have b2 : 1 ≤ k2 ∧ k2 ≤ 1999 := by simp at m2; omega
  obtain ⟨k3, J3, e3, ⟨a3, b3⟩, hJ3⟩ := s__law_draw (n := i__law_right) (by decide) hJ2 (m := k2) (by omega) (by omega)
  obtain ⟨k4, J4, e4, m4, hJ4⟩ := s__law_one_of (n := i__law_right) (by decide) hJ3 (L := [10, 999]) (by decide) (by decide)
  obtain ⟨x, J5, e5, hx, hJ5⟩ := s__law_point (n := i__law_right) (by decide) hJ4
  refine ⟨P, k3 - k4, x, J5, ?_, okP, hx, hJ5⟩
  obtain ⟨g, s, rfl, s0, s1⟩ := hJ
  obtain ⟨g1, s1, rfl, _⟩ := hJ1
  obtain ⟨g2, s2, rfl, _⟩ := hJ2
  obtain ⟨g3, s3, rfl, _⟩ := hJ3
  obtain ⟨g4, s4, rfl, _⟩ := hJ4
  have e2' : Ph i__law_right 20 [.list [.int 21, .int 1999]] (some [g1, s1]) = .ok (.int k2) (some [g2, s2]) := e2
  have e4' : Ph i__law_right 20 [.list [.int 10, .int 999]] (some [g3, s3]) = .ok (.int k4) (some [g4, s4]) := e4
  show evS _ _ _ (.asgT (.tup [(.name 7), (.name 1), (.name 8)]) false (.tup [(.callJ 26 []), (.bin .sub (.callJ 19 [(.callJ 20 [(.lst [(.lit (.int (21))), (.lit (.int (1999)))])])]) (.callJ 20 [(.lst [(.lit (.int (10))), (.lit (.int (999)))])])), (.callJ 21 [])])) _ _ = _
  simp only [x_bind, x_ok, x_pure, x_opt, x_selT, x_selF, x_seqO, x_seqR, x_seqB, x_seqC, x_rcall, x_callP, x_var, x_lit, x_tup, x_lst, x_bin, x_neg, x_not, x_cmp, x_chain, x_and, x_or, x_ite, x_idx, x_slc, x_rev, x_call, x_bi, x_callJ, x_callQ, x_nil, x_cons, x_star, x_o0, x_o1, x_if0, x_if1, x_seq, x_rng1, x_enum, x_zip, x_turn, x_asg, x_asgT, x_par, x_par0, x_par1, x_app, x_setI, x_popS, x_ex, x_ret, x_retN, x_pass, x_brk, x_cnt, x_if, x_ss0, x_ss, x_forT, x_view, x_viewF, x_keepF, x_keepT, x_hide0, x_hide1, x_hideN, x_own0, x_own1l, x_wipe0, x_wipe1, x_tg, x_tgT, x_tg0, x_tg1, x_add, x_sub, x_mul, x_lt, x_le, x_gt, x_ge, x_eq, x_ne, x_isN, x_isI, x_isT, x_isnN, x_isnI, x_isnT, x_tr, x_bl, x_intD, x_seqT, x_seqL, x_lenT, x_lenL, x_abs, x_int, x_intB, x_tupL, x_lstT, x_max2, x_min2, x_isiI, x_isiB, x_idxT, x_idxL, x_slcL, x_zipL, List.getD_cons_zero, List.getD_cons_succ, List.set_cons_zero, List.set_cons_succ, Option.map_some, Option.bind_some, Bool.not_true, Bool.not_false, if_true, Bool.true_or, Bool.or_true, Bool.false_or, Bool.true_and, Bool.and_true, decide_true, decide_false, Bool.and_self, reduceIte, reduceCtorEq, ne_eq, not_false_eq_true, implies_true, x_fit, List.length_cons, List.length_nil, Nat.reduceAdd, Nat.reduceLeDiff, Bool.not_eq_true, decide_eq_true_eq, Bool.false_eq_true, if_false, x_la0, x_la1, x_app, x_popS, x_setI, x_ownlc, x_ownlst, x_okI, x_jg0, x_jg1, x_jset, x_js0, x_js1, x_callJ, x_callQ, x_gD0, e1, e2', e3, e4', e5]
section
variable {J : Jr} {P : List (Option Int)} (okP : POk P) {N : Int} (h1 : -999 ≤ N) (h2 : N ≤ 999) {x : Int × Int} (hx : smallPt x)
theorem right1 (k : Int) : ∃ N : Int, -999 ≤ N ∧ N ≤ 999 ∧ evS (Ph i__law_right) 1000 Z19 (b__law_right.getD 1 .pass) [none, some (.int k), none, none, none, none, none, some (poly P), some (encP x), none, none, none, none, none, none, none, none, none, none] J
    = .ok (.nx [none, some (.int N), none, none, none, none, none, some (poly P), some (encP x), none, none, none, none, none, none, none, none, none, none]) J := by
  refine ⟨if (if k < 999 then k else 999) > -999 then (if k < 999 then k else 999) else -999, by split <;> split <;> omega, by split <;> split <;> omega, ?_⟩
  show evS _ _ _ (.asg 1 0 false (.bi .max2 [(.neg (.lit (.int (999)))), (.bi .min2 [(.lit (.int (999))), (.var 1)])])) _ _ = _
  simp only [x_bind, x_ok, x_pure, x_opt, x_selT, x_selF, x_seqO, x_seqR, x_seqB, x_seqC, x_rcall, x_callP, x_var, x_lit, x_tup, x_lst, x_bin, x_neg, x_not, x_cmp, x_chain, x_and, x_or, x_ite, x_idx, x_slc, x_rev, x_call, x_bi, x_callJ, x_callQ, x_nil, x_cons, x_star, x_o0, x_o1, x_if0, x_if1, x_seq, x_rng1, x_enum, x_zip, x_turn, x_asg, x_asgT, x_par, x_par0, x_par1, x_app, x_setI, x_popS, x_ex, x_ret, x_retN, x_pass, x_brk, x_cnt, x_if, x_ss0, x_ss, x_forT, x_view, x_viewF, x_keepF, x_keepT, x_hide0, x_hide1, x_hideN, x_own0, x_own1l, x_wipe0, x_wipe1, x_tg, x_tgT, x_tg0, x_tg1, x_add, x_sub, x_mul, x_lt, x_le, x_gt, x_ge, x_eq, x_ne, x_isN, x_isI, x_isT, x_isnN, x_isnI, x_isnT, x_tr, x_bl, x_intD, x_seqT, x_seqL, x_lenT, x_lenL, x_abs, x_int, x_intB, x_tupL, x_lstT, x_max2, x_min2, x_isiI, x_isiB, x_idxT, x_idxL, x_slcL, x_zipL, List.getD_cons_zero, List.getD_cons_succ, List.set_cons_zero, List.set_cons_succ, Option.map_some, Option.bind_some, Bool.not_true, Bool.not_false, if_true, Bool.true_or, Bool.or_true, Bool.false_or, Bool.true_and, Bool.and_true, decide_true, decide_false, Bool.and_self, reduceIte, reduceCtorEq, ne_eq, not_false_eq_true, implies_true, x_fit, List.length_cons, List.length_nil, Nat.reduceAdd, Nat.reduceLeDiff, Bool.not_eq_true, decide_eq_true_eq, Bool.false_eq_true, if_false, x_la0, x_la1, x_app, x_popS, x_setI]
include okP h1 h2
theorem right2 : evS (Ph i__law_right) 1000 Z19 (b__law_right.getD 2 .pass) [none, some (.int N), none, none, none, none, none, some (poly P), some (encP x), none, none, none, none, none, none, none, none, none, none] J
    = .ok (.nx [none, some (.int N), some (reachD P N), none, none, none, none, some (poly P), some (encP x), none, none, none, none, none, none, none, none, none, none]) J := by
  have e := s_reaches (n := i__law_right) (by decide) okP h1 h2
  show evS _ _ _ (.asg 2 0 false (.call 12 [(.var 7), (.var 1)])) _ _ = _
  simp only [x_bind, x_ok, x_pure, x_opt, x_selT, x_selF, x_seqO, x_seqR, x_seqB, x_seqC, x_rcall, x_callP, x_var, x_lit, x_tup, x_lst, x_bin, x_neg, x_not, x_cmp, x_chain, x_and, x_or, x_ite, x_idx, x_slc, x_rev, x_call, x_bi, x_callJ, x_callQ, x_nil, x_cons, x_star, x_o0, x_o1, x_if0, x_if1, x_seq, x_rng1, x_enum, x_zip, x_turn, x_asg, x_asgT, x_par, x_par0, x_par1, x_app, x_setI, x_popS, x_ex, x_ret, x_retN, x_pass, x_brk, x_cnt, x_if, x_ss0, x_ss, x_forT, x_view, x_viewF, x_keepF, x_keepT, x_hide0, x_hide1, x_hideN, x_own0, x_own1l, x_wipe0, x_wipe1, x_tg, x_tgT, x_tg0, x_tg1, x_add, x_sub, x_mul, x_lt, x_le, x_gt, x_ge, x_eq, x_ne, x_isN, x_isI, x_isT, x_isnN, x_isnI, x_isnT, x_tr, x_bl, x_intD, x_seqT, x_seqL, x_lenT, x_lenL, x_abs, x_int, x_intB, x_tupL, x_lstT, x_max2, x_min2, x_isiI, x_isiB, x_idxT, x_idxL, x_slcL, x_zipL, List.getD_cons_zero, List.getD_cons_succ, List.set_cons_zero, List.set_cons_succ, Option.map_some, Option.bind_some, Bool.not_true, Bool.not_false, if_true, Bool.true_or, Bool.or_true, Bool.false_or, Bool.true_and, Bool.and_true, decide_true, decide_false, Bool.and_self, reduceIte, reduceCtorEq, ne_eq, not_false_eq_true, implies_true, x_fit, List.length_cons, List.length_nil, Nat.reduceAdd, Nat.reduceLeDiff, Bool.not_eq_true, decide_eq_true_eq, Bool.false_eq_true, if_false, x_la0, x_la1, x_app, x_popS, x_setI, e]
theorem right3 : evS (Ph i__law_right) 1000 Z19 (b__law_right.getD 3 .pass) [none, some (.int N), some (reachD P N), none, none, none, none, some (poly P), some (encP x), none, none, none, none, none, none, none, none, none, none] J
    = .ok (.nx [none, some (.int N), some (reachD P N), none, none, none, none, some (poly P), some (encP x), none, none, none, none, none, none, none, none, none, none]) J := by
  have e := s__law_reaches (n := i__law_right) (by decide) okP h1 h2
  obtain ⟨t1, t2, t3⟩ := tiny_reach okP h1 h2
  have r1 := repr_tiny t1 t2 t3
  have r2 := (repr_same t1).1
  show evS _ _ _ (.ite (.cmp .ne (.bi .repr [(.var 2)]) (.bi .repr [(.call 29 [(.var 7), (.var 1)])])) [.ret (.lit (.bool false))] []) _ _ = _
  simp only [x_bind, x_ok, x_pure, x_opt, x_selT, x_selF, x_seqO, x_seqR, x_seqB, x_seqC, x_rcall, x_callP, x_var, x_lit, x_tup, x_lst, x_bin, x_neg, x_not, x_cmp, x_chain, x_and, x_or, x_ite, x_idx, x_slc, x_rev, x_call, x_bi, x_callJ, x_callQ, x_nil, x_cons, x_star, x_o0, x_o1, x_if0, x_if1, x_seq, x_rng1, x_enum, x_zip, x_turn, x_asg, x_asgT, x_par, x_par0, x_par1, x_app, x_setI, x_popS, x_ex, x_ret, x_retN, x_pass, x_brk, x_cnt, x_if, x_ss0, x_ss, x_forT, x_view, x_viewF, x_keepF, x_keepT, x_hide0, x_hide1, x_hideN, x_own0, x_own1l, x_wipe0, x_wipe1, x_tg, x_tgT, x_tg0, x_tg1, x_add, x_sub, x_mul, x_lt, x_le, x_gt, x_ge, x_eq, x_ne, x_isN, x_isI, x_isT, x_isnN, x_isnI, x_isnT, x_tr, x_bl, x_intD, x_seqT, x_seqL, x_lenT, x_lenL, x_abs, x_int, x_intB, x_tupL, x_lstT, x_max2, x_min2, x_isiI, x_isiB, x_idxT, x_idxL, x_slcL, x_zipL, List.getD_cons_zero, List.getD_cons_succ, List.set_cons_zero, List.set_cons_succ, Option.map_some, Option.bind_some, Bool.not_true, Bool.not_false, if_true, Bool.true_or, Bool.or_true, Bool.false_or, Bool.true_and, Bool.and_true, decide_true, decide_false, Bool.and_self, reduceIte, reduceCtorEq, ne_eq, not_false_eq_true, implies_true, x_fit, List.length_cons, List.length_nil, Nat.reduceAdd, Nat.reduceLeDiff, Bool.not_eq_true, decide_eq_true_eq, Bool.false_eq_true, if_false, x_la0, x_la1, x_app, x_popS, x_setI, e, r1, r2]
theorem right4 : ∃ y9, evS (Ph i__law_right) 1000 Z19 (b__law_right.getD 4 .pass) [none, some (.int N), some (reachD P N), none, none, none, none, some (poly P), some (encP x), none, none, none, none, none, none, none, none, none, none] J
    = .ok (.nx [none, some (.int N), some (reachD P N), none, none, none, none, some (poly P), some (encP x), y9, none, none, none, none, none, none, none, none, none]) J := by
  have e0 : b__law_right.getD 4 .pass = .ite (.cmp .eq (.idx (.var 2) (.lit (.int (0)))) (.lit (.str (Str.ofString "from")))) [.asg 9 0 false (.idx (.var 2) (.lit (.int (1)))), .ite (.and (.cmp .ne (.call 28 [(.var 7), (.var 9)]) (.tup [(.var 1), (.lit (.int (1)))])) (.not (.call 22 [(.tup [(.var 1), (.lit (.int (1)))]), (.call 28 [(.var 7), (.var 9)])]))) [.ret (.lit (.bool false))] [], .ite (.not (.call 22 [(.call 28 [(.var 7), (.call 18 [(.bin .sub (.bin .mul (.idx (.var 9) (.lit (.int (0)))) (.lit (.int (7)))) (.lit (.int (1)))), (.bin .mul (.idx (.var 9) (.lit (.int (1)))) (.lit (.int (7))))])]), (.tup [(.var 1), (.lit (.int (1)))])])) [.ret (.lit (.bool false))] []] [] := rfl
  rw [e0]
  have w1 : cmpE .eq (.str (Str.ofString "always")) (.str (Str.ofString "from")) = some false := by kernel_rfl
  have w2 : cmpE .eq (.str (Str.ofString "never")) (.str (Str.ofString "from")) = some false := by kernel_rfl
  have w3 : cmpE .eq (.str (Str.ofString "from")) (.str (Str.ofString "from")) = some true := by kernel_rfl
  unfold reachD
  cases ha : alw P N with
  | true => exact ⟨none, by simp only [x_bind, x_ok, x_pure, x_opt, x_selT, x_selF, x_seqO, x_seqR, x_seqB, x_seqC, x_rcall, x_callP, x_var, x_lit, x_tup, x_lst, x_bin, x_neg, x_not, x_cmp, x_chain, x_and, x_or, x_ite, x_idx, x_slc, x_rev, x_call, x_bi, x_callJ, x_callQ, x_nil, x_cons, x_star, x_o0, x_o1, x_if0, x_if1, x_seq, x_rng1, x_enum, x_zip, x_turn, x_asg, x_asgT, x_par, x_par0, x_par1, x_app, x_setI, x_popS, x_ex, x_ret, x_retN, x_pass, x_brk, x_cnt, x_if, x_ss0, x_ss, x_forT, x_view, x_viewF, x_keepF, x_keepT, x_hide0, x_hide1, x_hideN, x_own0, x_own1l, x_wipe0, x_wipe1, x_tg, x_tgT, x_tg0, x_tg1, x_add, x_sub, x_mul, x_lt, x_le, x_gt, x_ge, x_eq, x_ne, x_isN, x_isI, x_isT, x_isnN, x_isnI, x_isnT, x_tr, x_bl, x_intD, x_seqT, x_seqL, x_lenT, x_lenL, x_abs, x_int, x_intB, x_tupL, x_lstT, x_max2, x_min2, x_isiI, x_isiB, x_idxT, x_idxL, x_slcL, x_zipL, List.getD_cons_zero, List.getD_cons_succ, List.set_cons_zero, List.set_cons_succ, Option.map_some, Option.bind_some, Bool.not_true, Bool.not_false, if_true, Bool.true_or, Bool.or_true, Bool.false_or, Bool.true_and, Bool.and_true, decide_true, decide_false, Bool.and_self, reduceIte, reduceCtorEq, ne_eq, not_false_eq_true, implies_true, x_fit, List.length_cons, List.length_nil, Nat.reduceAdd, Nat.reduceLeDiff, Bool.not_eq_true, decide_eq_true_eq, Bool.false_eq_true, if_false, x_la0, x_la1, x_app, x_popS, x_setI, x_at0, w1]⟩
  | false =>
    cases er : reachL P N with
    | nil => exact ⟨none, by simp only [x_bind, x_ok, x_pure, x_opt, x_selT, x_selF, x_seqO, x_seqR, x_seqB, x_seqC, x_rcall, x_callP, x_var, x_lit, x_tup, x_lst, x_bin, x_neg, x_not, x_cmp, x_chain, x_and, x_or, x_ite, x_idx, x_slc, x_rev, x_call, x_bi, x_callJ, x_callQ, x_nil, x_cons, x_star, x_o0, x_o1, x_if0, x_if1, x_seq, x_rng1, x_enum, x_zip, x_turn, x_asg, x_asgT, x_par, x_par0, x_par1, x_app, x_setI, x_popS, x_ex, x_ret, x_retN, x_pass, x_brk, x_cnt, x_if, x_ss0, x_ss, x_forT, x_view, x_viewF, x_keepF, x_keepT, x_hide0, x_hide1, x_hideN, x_own0, x_own1l, x_wipe0, x_wipe1, x_tg, x_tgT, x_tg0, x_tg1, x_add, x_sub, x_mul, x_lt, x_le, x_gt, x_ge, x_eq, x_ne, x_isN, x_isI, x_isT, x_isnN, x_isnI, x_isnT, x_tr, x_bl, x_intD, x_seqT, x_seqL, x_lenT, x_lenL, x_abs, x_int, x_intB, x_tupL, x_lstT, x_max2, x_min2, x_isiI, x_isiB, x_idxT, x_idxL, x_slcL, x_zipL, List.getD_cons_zero, List.getD_cons_succ, List.set_cons_zero, List.set_cons_succ, Option.map_some, Option.bind_some, Bool.not_true, Bool.not_false, if_true, Bool.true_or, Bool.or_true, Bool.false_or, Bool.true_and, Bool.and_true, decide_true, decide_false, Bool.and_self, reduceIte, reduceCtorEq, ne_eq, not_false_eq_true, implies_true, x_fit, List.length_cons, List.length_nil, Nat.reduceAdd, Nat.reduceLeDiff, Bool.not_eq_true, decide_eq_true_eq, Bool.false_eq_true, if_false, x_la0, x_la1, x_app, x_popS, x_setI, x_at0, w2]⟩
    | cons a l =>
      dsimp only
      have pt : ∀ u ∈ a :: l, 0 < u.2 ∧ gcdI u.1 u.2 = 1 ∧ W 12 u.1 ∧ W 4 u.2 := fun u hu => by
        obtain ⟨_, _, _, _, p1, p2, p3, p4⟩ := reachL_pt okP h1 h2 (u := u) (by rw [er]; exact hu)
        exact ⟨p1, p2, p3, p4⟩
      have m : fbest a (a :: l) ∈ a :: l := by
        have := fbest_mem (a := a) (l := a :: l)
        rcases List.mem_cons.mp this with q | q
        · rw [q]; exact List.mem_cons_self ..
        · exact q
      have mn : ∀ u ∈ a :: l, fle (fbest a (a :: l)) u := fun u hu => fbest_min (l := a :: l) (a := a) (fun w hw => by
        rcases List.mem_cons.mp hw with q | q
        · rw [q]; exact (pt a (List.mem_cons_self ..)).1
        · exact (pt w q).1) u (List.mem_cons_of_mem _ hu)
      generalize fbest a (a :: l) = z at *
      obtain ⟨z1, z2, z3, z4⟩ := pt z m
      have okz : PtOk z := ⟨z1, z2, z3.mono (by omega), z4.mono (by omega)⟩
      obtain ⟨g1, g2⟩ := reach_at okP ha (z := z) (by rw [er]; exact m) (fun u hu => by rw [er] at hu; exact (pt u hu).1) (fun u hu => by rw [er] at hu; exact mn u hu)
      have v1 := s_value_at (n := i__law_right) (by decide) okP okz
      have k1 : W 15 (z.1 * 7) := z3.mul (k := 3) (W.of (by decide) (by decide))
      have k2 : W 7 (z.2 * 7) := z4.mul (k := 3) (W.of (by decide) (by decide))
      have k3 : W 16 (z.1 * 7 - 1) := k1.sub (k := 1) (W.of (by decide) (by decide))
      have m1 : mulI z.1 7 = some (.int (z.1 * 7)) := mulI_W (j := 12) (k := 3) z3 (W.of (by decide) (by decide))
      have m2 : mulI z.2 7 = some (.int (z.2 * 7)) := mulI_W (j := 4) (k := 3) z4 (W.of (by decide) (by decide))
      have l1 := s__law_lowest (n := i__law_right) (by decide) (a := z.1 * 7 - 1) (b := z.2 * 7) (by omega) (k3.mono (by omega)) (k2.mono (by omega))
      have oky := low_pt (a := z.1 * 7 - 1) (b := z.2 * 7) (by omega) (k3.mono (by omega)) (k2.mono (by omega))
      generalize low (z.1 * 7 - 1) (z.2 * 7) = y at *
      have v2 := s_value_at (n := i__law_right) (by decide) okP oky
      obtain ⟨f1, f2, f3, f4⟩ := fv_pt okP okz
      obtain ⟨f1', f2', f3', f4'⟩ := fv_pt okP oky
      have wN : W 400 N := (W.of (k := 20) (by simp; omega) (by simp; omega)).mono (by omega)
      have w1' : W 400 (1 : Int) := (W.of (k := 20) (by decide) (by decide)).mono (by omega)
      have c1 : Ph i__law_right 22 [.tuple [.int N, .int 1], encP (fv P z)] none = .ok (.bool (fless (N, 1) (fv P z))) none := s__law_less (n := i__law_right) (by decide) (x := (N, 1)) wN w1' (f3.mono (by omega)) (f4.mono (by omega))
      have c2 : Ph i__law_right 22 [encP (fv P y), .tuple [.int N, .int 1]] none = .ok (.bool (fless (fv P y) (N, 1))) none := s__law_less (n := i__law_right) (by decide) (y := (N, 1)) (f3'.mono (by omega)) (f4'.mono (by omega)) wN w1'
      have c2' : fless (fv P y) (N, 1) = true := decide_eq_true (by show (fv P y).1 * 1 < N * (fv P y).2; rw [Int.mul_one]; exact g2)
      rw [c2'] at c2
      have ne : cmpE .ne (encP (fv P z)) (.tuple [.int N, .int 1]) = some (!decide (fv P z = (N, 1))) := ne_encP (y := (N, 1))
      refine ⟨some (encP z), ?_⟩
      by_cases q : fv P z = (N, 1)
      · rw [decide_eq_true q] at ne
        simp only [x_bind, x_ok, x_pure, x_opt, x_selT, x_selF, x_seqO, x_seqR, x_seqB, x_seqC, x_rcall, x_callP, x_var, x_lit, x_tup, x_lst, x_bin, x_neg, x_not, x_cmp, x_chain, x_and, x_or, x_ite, x_idx, x_slc, x_rev, x_call, x_bi, x_callJ, x_callQ, x_nil, x_cons, x_star, x_o0, x_o1, x_if0, x_if1, x_seq, x_rng1, x_enum, x_zip, x_turn, x_asg, x_asgT, x_par, x_par0, x_par1, x_app, x_setI, x_popS, x_ex, x_ret, x_retN, x_pass, x_brk, x_cnt, x_if, x_ss0, x_ss, x_forT, x_view, x_viewF, x_keepF, x_keepT, x_hide0, x_hide1, x_hideN, x_own0, x_own1l, x_wipe0, x_wipe1, x_tg, x_tgT, x_tg0, x_tg1, x_add, x_sub, x_mul, x_lt, x_le, x_gt, x_ge, x_eq, x_ne, x_isN, x_isI, x_isT, x_isnN, x_isnI, x_isnT, x_tr, x_bl, x_intD, x_seqT, x_seqL, x_lenT, x_lenL, x_abs, x_int, x_intB, x_tupL, x_lstT, x_max2, x_min2, x_isiI, x_isiB, x_idxT, x_idxL, x_slcL, x_zipL, List.getD_cons_zero, List.getD_cons_succ, List.set_cons_zero, List.set_cons_succ, Option.map_some, Option.bind_some, Bool.not_true, Bool.not_false, if_true, Bool.true_or, Bool.or_true, Bool.false_or, Bool.true_and, Bool.and_true, decide_true, decide_false, Bool.and_self, reduceIte, reduceCtorEq, ne_eq, not_false_eq_true, implies_true, x_fit, List.length_cons, List.length_nil, Nat.reduceAdd, Nat.reduceLeDiff, Bool.not_eq_true, decide_eq_true_eq, Bool.false_eq_true, if_false, x_la0, x_la1, x_app, x_popS, x_setI, x_at0, x_at1, w3, v1, ne, x_idxP0, x_idxP1, m1, m2, l1, v2, c2]
      · rw [decide_eq_false q] at ne
        have c1' : fless (N, 1) (fv P z) = true := by
          apply decide_eq_true
          show N * (fv P z).2 < (fv P z).1 * 1
          rw [Int.mul_one]
          rcases Int.lt_or_le (N * (fv P z).2) (fv P z).1 with y | y
          · exact y
          · exfalso
            apply q
            have e : (fv P z).1 = N * (fv P z).2 := by omega
            have gg : gcdI (fv P z).1 (fv P z).2 = (fv P z).2 := by
              unfold gcdI
              rw [e, Int.gcd_mul_left_left]
              omega
            rw [f2] at gg
            rw [← gg, Int.mul_one] at e
            exact Prod.ext e gg.symm
        rw [c1'] at c1
        simp only [x_bind, x_ok, x_pure, x_opt, x_selT, x_selF, x_seqO, x_seqR, x_seqB, x_seqC, x_rcall, x_callP, x_var, x_lit, x_tup, x_lst, x_bin, x_neg, x_not, x_cmp, x_chain, x_and, x_or, x_ite, x_idx, x_slc, x_rev, x_call, x_bi, x_callJ, x_callQ, x_nil, x_cons, x_star, x_o0, x_o1, x_if0, x_if1, x_seq, x_rng1, x_enum, x_zip, x_turn, x_asg, x_asgT, x_par, x_par0, x_par1, x_app, x_setI, x_popS, x_ex, x_ret, x_retN, x_pass, x_brk, x_cnt, x_if, x_ss0, x_ss, x_forT, x_view, x_viewF, x_keepF, x_keepT, x_hide0, x_hide1, x_hideN, x_own0, x_own1l, x_wipe0, x_wipe1, x_tg, x_tgT, x_tg0, x_tg1, x_add, x_sub, x_mul, x_lt, x_le, x_gt, x_ge, x_eq, x_ne, x_isN, x_isI, x_isT, x_isnN, x_isnI, x_isnT, x_tr, x_bl, x_intD, x_seqT, x_seqL, x_lenT, x_lenL, x_abs, x_int, x_intB, x_tupL, x_lstT, x_max2, x_min2, x_isiI, x_isiB, x_idxT, x_idxL, x_slcL, x_zipL, List.getD_cons_zero, List.getD_cons_succ, List.set_cons_zero, List.set_cons_succ, Option.map_some, Option.bind_some, Bool.not_true, Bool.not_false, if_true, Bool.true_or, Bool.or_true, Bool.false_or, Bool.true_and, Bool.and_true, decide_true, decide_false, Bool.and_self, reduceIte, reduceCtorEq, ne_eq, not_false_eq_true, implies_true, x_fit, List.length_cons, List.length_nil, Nat.reduceAdd, Nat.reduceLeDiff, Bool.not_eq_true, decide_eq_true_eq, Bool.false_eq_true, if_false, x_la0, x_la1, x_app, x_popS, x_setI, x_at0, x_at1, w3, v1, ne, c1, x_idxP0, x_idxP1, m1, m2, l1, v2, c2]
end
end K52
end Ev
end

section
set_option maxRecDepth 100000
set_option maxHeartbeats 1000000
namespace Ev
open PySem PySem.Spec PyProof.Rows L2
theorem eq_il2 {a b : Int} : cmpE .eq (.list [.int a, .int b]) (.list [.int a, .int b]) = some true := by
  show eqD _ _ = _
  have s := shaped_ints [a, b]
  unfold eqD
  rw [show (PyData.list [.int a, .int b]) = .list ([a, b].map .int) from rfl, s]
  simp [PyData.eqv, PyData.eqvAll]
theorem reach_word {P : List (Option Int)} {N : Int} : ∃ w, idxE (reachD P N) (.int 0) = some (.str w) ∧ cmpE .isin (.str w) (.tuple [.str (Str.ofString "always"), .str (Str.ofString "never"), .str (Str.ofString "from")]) = some true := by
  unfold reachD
  cases alw P N with
  | true => exact ⟨_, x_at0, by kernel_rfl⟩
  | false =>
    cases reachL P N with
    | nil => exact ⟨_, x_at0, by kernel_rfl⟩
    | cons a l => exact ⟨_, x_at0, by kernel_rfl⟩
theorem corner_pt {P : List (Option Int)} (okP : POk P) {c : (Int × Int) × Int} (h : c ∈ corns (verts P)) : PtOk c.1 := by
  obtain ⟨u, v, hu, hv, e, rfl⟩ := corner_edge okP h
  obtain ⟨a1, a2, a3, a4⟩ := okP.term hu
  obtain ⟨b1, b2, b3, b4⟩ := okP.term hv
  have := e.1
  exact low_pt (by omega) ((W.of (k := 20) (by simp; omega) (by simp; omega)).mono (by omega)) ((W.of (k := 20) (by simp; omega) (by simp; omega)).mono (by omega))
theorem tops_fst {T : List (Int × Int)} (asc : T.Pairwise fun s t => s.1 < t.1) {p q : Int} (ne : tops T p q ≠ []) : biE .min [.list ((tops T p q).map fun t => .int t.1)] = some (.int ((tops T p q).head?.getD (0, 0)).1) ∧ biE .max [.list ((tops T p q).map fun t => .int t.1)] = some (.int ((tops T p q).getLast?.getD (0, 0)).1) := by
  have asc : (tops T p q).Pairwise fun s t => s.1 < t.1 := asc.sublist List.filter_sublist
  generalize tops T p q = L at *
  cases L with
  | nil => exact absurd rfl ne
  | cons t L =>
    have e : ((t :: L).map fun t : Int × Int => PyData.int t.1) = (t.1 :: L.map (·.1)).map PyData.int := by simp
    have p1 := List.pairwise_cons.mp asc
    have p2 : (t.1 :: L.map (·.1)).Pairwise (· < ·) := by
      have := asc.map (S := fun a b : Int => a < b) (fun u : Int × Int => u.1) (fun a b h => h)
      simpa using this
    constructor
    · rw [e, min_ints, fmin_head]
      · rfl
      · intro y hy
        obtain ⟨s, hs, es⟩ := List.mem_map.mp hy
        rw [← es]
        exact p1.1 s hs
    · rw [e, max_ints, fmax_last p2]
      have z : (t :: L).getLast? = some ((t :: L).getLast (by simp)) := List.getLast?_eq_some_getLast (by simp)
      rw [z]
      have : (t.1 :: L.map (·.1)).getLast (by simp) = ((t :: L).getLast (by simp)).1 := by
        have := List.getLast_map (f := fun u : Int × Int => u.1) (l := t :: L) (by simp)
        simpa using this
      rw [this]
      rfl
namespace K52
section
variable {J : Jr} {P : List (Option Int)} (okP : POk P) {x : Int × Int} {y1 y2 y8 : Option PyData}
include okP
/-- the points told of: the drawn one and the corners -/
theorem right5it {y9 : Option PyData} : evIt (Ph i__law_right) (.seq (.bin .add (.lst [(.var 8)]) (.lc (.var 16) (.tup [(.name 16), (.name 17)]) (.seq (.call 31 [(.var 7)])) [] [16, 17]))) [none, y1, y2, none, none, none, none, some (poly P), some (encP x), y9, none, none, none, none, none, none, none, none, none] J = .ok ((x :: (corns (verts P)).map (·.1)).map encP) J := by
  have e1 := s_corners (n := i__law_right) (by decide) okP
  have ln : (corns (verts P)).length ≤ 20 := by
    rw [corns_zip, List.length_map, List.length_zip]
    have := verts_len (P := P)
    have := tms_len (P := P) (i := 0)
    have := okP.hi
    omega
  have e := e_lcm (Φ := Ph i__law_right) (elt := .var 16) (t := .tup [(.name 16), (.name 17)]) (it := .seq (.call 31 [(.var 7)])) (ifs := []) (own := [16, 17]) (σ := [none, y1, y2, none, none, none, none, some (poly P), some (encP x), y9, none, none, none, none, none, none, none, none, none]) (J := J) (T := corns (verts P)) (enc := encC) (g := fun c => some (encP c.1)) (by simp only [x_bind, x_ok, x_pure, x_opt, x_selT, x_selF, x_seqO, x_seqR, x_seqB, x_seqC, x_rcall, x_callP, x_var, x_lit, x_tup, x_lst, x_bin, x_neg, x_not, x_cmp, x_chain, x_and, x_or, x_ite, x_idx, x_slc, x_rev, x_call, x_bi, x_callJ, x_callQ, x_nil, x_cons, x_star, x_o0, x_o1, x_if0, x_if1, x_seq, x_rng1, x_enum, x_zip, x_turn, x_asg, x_asgT, x_par, x_par0, x_par1, x_app, x_setI, x_popS, x_ex, x_ret, x_retN, x_pass, x_brk, x_cnt, x_if, x_ss0, x_ss, x_forT, x_view, x_viewF, x_keepF, x_keepT, x_hide0, x_hide1, x_hideN, x_own0, x_own1l, x_wipe0, x_wipe1, x_tg, x_tgT, x_tg0, x_tg1, x_add, x_sub, x_mul, x_lt, x_le, x_gt, x_ge, x_eq, x_ne, x_isN, x_isI, x_isT, x_isnN, x_isnI, x_isnT, x_tr, x_bl, x_intD, x_seqT, x_seqL, x_lenT, x_lenL, x_abs, x_int, x_intB, x_tupL, x_lstT, x_max2, x_min2, x_isiI, x_isiB, x_idxT, x_idxL, x_slcL, x_zipL, List.getD_cons_zero, List.getD_cons_succ, List.set_cons_zero, List.set_cons_succ, Option.map_some, Option.bind_some, Bool.not_true, Bool.not_false, if_true, Bool.true_or, Bool.or_true, Bool.false_or, Bool.true_and, Bool.and_true, decide_true, decide_false, Bool.and_self, reduceIte, reduceCtorEq, ne_eq, not_false_eq_true, implies_true, x_fit, List.length_cons, List.length_nil, Nat.reduceAdd, Nat.reduceLeDiff, Bool.not_eq_true, decide_eq_true_eq, Bool.false_eq_true, if_false, x_la0, x_la1, x_app, x_popS, x_setI, e1]) (fun c hc => by simp only [x_bind, x_ok, x_pure, x_opt, x_selT, x_selF, x_seqO, x_seqR, x_seqB, x_seqC, x_rcall, x_callP, x_var, x_lit, x_tup, x_lst, x_bin, x_neg, x_not, x_cmp, x_chain, x_and, x_or, x_ite, x_idx, x_slc, x_rev, x_call, x_bi, x_callJ, x_callQ, x_nil, x_cons, x_star, x_o0, x_o1, x_if0, x_if1, x_seq, x_rng1, x_enum, x_zip, x_turn, x_asg, x_asgT, x_par, x_par0, x_par1, x_app, x_setI, x_popS, x_ex, x_ret, x_retN, x_pass, x_brk, x_cnt, x_if, x_ss0, x_ss, x_forT, x_view, x_viewF, x_keepF, x_keepT, x_hide0, x_hide1, x_hideN, x_own0, x_own1l, x_wipe0, x_wipe1, x_tg, x_tgT, x_tg0, x_tg1, x_add, x_sub, x_mul, x_lt, x_le, x_gt, x_ge, x_eq, x_ne, x_isN, x_isI, x_isT, x_isnN, x_isnI, x_isnT, x_tr, x_bl, x_intD, x_seqT, x_seqL, x_lenT, x_lenL, x_abs, x_int, x_intB, x_tupL, x_lstT, x_max2, x_min2, x_isiI, x_isiB, x_idxT, x_idxL, x_slcL, x_zipL, List.getD_cons_zero, List.getD_cons_succ, List.set_cons_zero, List.set_cons_succ, Option.map_some, Option.bind_some, Bool.not_true, Bool.not_false, if_true, Bool.true_or, Bool.or_true, Bool.false_or, Bool.true_and, Bool.and_true, decide_true, decide_false, Bool.and_self, reduceIte, reduceCtorEq, ne_eq, not_false_eq_true, implies_true, x_fit, List.length_cons, List.length_nil, Nat.reduceAdd, Nat.reduceLeDiff, Bool.not_eq_true, decide_eq_true_eq, Bool.false_eq_true, if_false, x_la0, x_la1, x_app, x_popS, x_setI, encC]) (by omega)
  have e' : (corns (verts P)).filterMap (fun c => some (encP c.1)) = ((corns (verts P)).map (·.1)).map encP := by
    rw [List.filterMap_eq_map', List.map_map]; rfl
  rw [e'] at e
  have ad : binE .add (.list [encP x]) (.list (((corns (verts P)).map (·.1)).map encP)) = some (.list (encP x :: ((corns (verts P)).map (·.1)).map encP)) := by
    have : 1000 ≤ sizeLine := by decide +kernel
    show (if _ then _ else _) = _
    rw [if_pos (by simp; omega)]
    rfl
  simp only [x_bind, x_ok, x_pure, x_opt, x_selT, x_selF, x_seqO, x_seqR, x_seqB, x_seqC, x_rcall, x_callP, x_var, x_lit, x_tup, x_lst, x_bin, x_neg, x_not, x_cmp, x_chain, x_and, x_or, x_ite, x_idx, x_slc, x_rev, x_call, x_bi, x_callJ, x_callQ, x_nil, x_cons, x_star, x_o0, x_o1, x_if0, x_if1, x_seq, x_rng1, x_enum, x_zip, x_turn, x_asg, x_asgT, x_par, x_par0, x_par1, x_app, x_setI, x_popS, x_ex, x_ret, x_retN, x_pass, x_brk, x_cnt, x_if, x_ss0, x_ss, x_forT, x_view, x_viewF, x_keepF, x_keepT, x_hide0, x_hide1, x_hideN, x_own0, x_own1l, x_wipe0, x_wipe1, x_tg, x_tgT, x_tg0, x_tg1, x_add, x_sub, x_mul, x_lt, x_le, x_gt, x_ge, x_eq, x_ne, x_isN, x_isI, x_isT, x_isnN, x_isnI, x_isnT, x_tr, x_bl, x_intD, x_seqT, x_seqL, x_lenT, x_lenL, x_abs, x_int, x_intB, x_tupL, x_lstT, x_max2, x_min2, x_isiI, x_isiB, x_idxT, x_idxL, x_slcL, x_zipL, List.getD_cons_zero, List.getD_cons_succ, List.set_cons_zero, List.set_cons_succ, Option.map_some, Option.bind_some, Bool.not_true, Bool.not_false, if_true, Bool.true_or, Bool.or_true, Bool.false_or, Bool.true_and, Bool.and_true, decide_true, decide_false, Bool.and_self, reduceIte, reduceCtorEq, ne_eq, not_false_eq_true, implies_true, x_fit, List.length_cons, List.length_nil, Nat.reduceAdd, Nat.reduceLeDiff, Bool.not_eq_true, decide_eq_true_eq, Bool.false_eq_true, if_false, x_la0, x_la1, x_app, x_popS, x_setI, e, ad]
  rfl
theorem right5body {x' : Int × Int} (ok : PtOk x') {y3 y9 y10 y11 : Option PyData} : ∃ z10 z11, forT (Ph i__law_right) 1000 Z19 (.name 3) [.asg 10 0 false (.call 27 [(.var 7), (.var 3)]), .asg 11 0 false (.lc (.var 9) (.tup [(.name 9), (.name 18)]) (.enum (.var 7)) [(.and (.cmp .isn (.var 18) (.lit .none)) (.cmp .eq (.call 18 [(.bin .add (.bin .mul (.var 18) (.idx (.var 3) (.lit (.int (1))))) (.bin .mul (.var 9) (.idx (.var 3) (.lit (.int (0)))))), (.idx (.var 3) (.lit (.int (1))))]) (.var 10)))] [9, 18]), .ite (.cmp .ne (.bi .repr [(.call 17 [(.var 7), (.var 3)])]) (.bi .repr [(.tup [(.bi .min [(.var 11)]), (.bi .max [(.var 11)])])])) [.ret (.lit (.bool false))] []] (encP x') [none, y1, y2, y3, none, none, none, some (poly P), y8, y9, y10, y11, none, none, none, none, none, none, none] J
    = .ok (.nx [none, y1, y2, some (encP x'), none, none, none, some (poly P), y8, y9, z10, z11, none, none, none, none, none, none, none]) J := by
  have e1 := s__law_value (n := i__law_right) (by decide) okP ok
  have e2 := s_steps_at (n := i__law_right) (by decide) okP ok
  have ne := tops_ne (p := x'.1) (q := x'.2) (tms_ne okP)
  obtain ⟨mn, mx⟩ := tops_fst (tms_asc (P := P) (i := 0)) ne
  have pz : poly P = .tuple (P.map encE) := rfl
  have e := e_lce (Φ := Ph i__law_right) (elt := .var 9) (t := .tup [(.name 9), (.name 18)]) (it := .enum (.var 7)) (ifs := [(.and (.cmp .isn (.var 18) (.lit .none)) (.cmp .eq (.call 18 [(.bin .add (.bin .mul (.var 18) (.idx (.var 3) (.lit (.int (1))))) (.bin .mul (.var 9) (.idx (.var 3) (.lit (.int (0)))))), (.idx (.var 3) (.lit (.int (1))))]) (.var 10)))]) (own := [9, 18]) (σ := [none, y1, y2, some (encP x'), none, none, none, some (poly P), y8, y9, some (encP (fv P x')), y11, none, none, none, none, none, none, none]) (J := J) (P := P) (g := fun t => if tv x'.1 x'.2 t = vm (tms 0 P) x'.1 x'.2 then some (PyData.int t.1) else none) (by rw [pz]; simp only [x_bind, x_ok, x_pure, x_opt, x_selT, x_selF, x_seqO, x_seqR, x_seqB, x_seqC, x_rcall, x_callP, x_var, x_lit, x_tup, x_lst, x_bin, x_neg, x_not, x_cmp, x_chain, x_and, x_or, x_ite, x_idx, x_slc, x_rev, x_call, x_bi, x_callJ, x_callQ, x_nil, x_cons, x_star, x_o0, x_o1, x_if0, x_if1, x_seq, x_rng1, x_enum, x_zip, x_turn, x_asg, x_asgT, x_par, x_par0, x_par1, x_app, x_setI, x_popS, x_ex, x_ret, x_retN, x_pass, x_brk, x_cnt, x_if, x_ss0, x_ss, x_forT, x_view, x_viewF, x_keepF, x_keepT, x_hide0, x_hide1, x_hideN, x_own0, x_own1l, x_wipe0, x_wipe1, x_tg, x_tgT, x_tg0, x_tg1, x_add, x_sub, x_mul, x_lt, x_le, x_gt, x_ge, x_eq, x_ne, x_isN, x_isI, x_isT, x_isnN, x_isnI, x_isnT, x_tr, x_bl, x_intD, x_seqT, x_seqL, x_lenT, x_lenL, x_abs, x_int, x_intB, x_tupL, x_lstT, x_max2, x_min2, x_isiI, x_isiB, x_idxT, x_idxL, x_slcL, x_zipL, List.getD_cons_zero, List.getD_cons_succ, List.set_cons_zero, List.set_cons_succ, Option.map_some, Option.bind_some, Bool.not_true, Bool.not_false, if_true, Bool.true_or, Bool.or_true, Bool.false_or, Bool.true_and, Bool.and_true, decide_true, decide_false, Bool.and_self, reduceIte, reduceCtorEq, ne_eq, not_false_eq_true, implies_true, x_fit, List.length_cons, List.length_nil, Nat.reduceAdd, Nat.reduceLeDiff, Bool.not_eq_true, decide_eq_true_eq, Bool.false_eq_true, if_false, x_la0, x_la1, x_app, x_popS, x_setI]) (fun i => by simp only [x_bind, x_ok, x_pure, x_opt, x_selT, x_selF, x_seqO, x_seqR, x_seqB, x_seqC, x_rcall, x_callP, x_var, x_lit, x_tup, x_lst, x_bin, x_neg, x_not, x_cmp, x_chain, x_and, x_or, x_ite, x_idx, x_slc, x_rev, x_call, x_bi, x_callJ, x_callQ, x_nil, x_cons, x_star, x_o0, x_o1, x_if0, x_if1, x_seq, x_rng1, x_enum, x_zip, x_turn, x_asg, x_asgT, x_par, x_par0, x_par1, x_app, x_setI, x_popS, x_ex, x_ret, x_retN, x_pass, x_brk, x_cnt, x_if, x_ss0, x_ss, x_forT, x_view, x_viewF, x_keepF, x_keepT, x_hide0, x_hide1, x_hideN, x_own0, x_own1l, x_wipe0, x_wipe1, x_tg, x_tgT, x_tg0, x_tg1, x_add, x_sub, x_mul, x_lt, x_le, x_gt, x_ge, x_eq, x_ne, x_isN, x_isI, x_isT, x_isnN, x_isnI, x_isnT, x_tr, x_bl, x_intD, x_seqT, x_seqL, x_lenT, x_lenL, x_abs, x_int, x_intB, x_tupL, x_lstT, x_max2, x_min2, x_isiI, x_isiB, x_idxT, x_idxL, x_slcL, x_zipL, List.getD_cons_zero, List.getD_cons_succ, List.set_cons_zero, List.set_cons_succ, Option.map_some, Option.bind_some, Bool.not_true, Bool.not_false, if_true, Bool.true_or, Bool.or_true, Bool.false_or, Bool.true_and, Bool.and_true, decide_true, decide_false, Bool.and_self, reduceIte, reduceCtorEq, ne_eq, not_false_eq_true, implies_true, x_fit, List.length_cons, List.length_nil, Nat.reduceAdd, Nat.reduceLeDiff, Bool.not_eq_true, decide_eq_true_eq, Bool.false_eq_true, if_false, x_la0, x_la1, x_app, x_popS, x_setI]) (fun t ht => by
    obtain ⟨h1, h2, h3, h4⟩ := okP.term ht
    have a : W 10 t.2 := W.of (by simp; omega) (by simp; omega)
    have b : W 4 t.1 := W.of (by simp; omega) (by simp; omega)
    have m1 : mulI t.2 x'.2 = some (.int (t.2 * x'.2)) := mulI_W a ok.w2
    have m2 : mulI t.1 x'.1 = some (.int (t.1 * x'.1)) := mulI_W b ok.w1
    have l : Ph i__law_right i__law_lowest [.int (t.2 * x'.2 + t.1 * x'.1), .int x'.2] none = .ok (encP (low (tv x'.1 x'.2 t) x'.2)) none := s__law_lowest (n := i__law_right) (by decide) ok.pos ((tv_W h1 h2 h3 h4 ok.w1 ok.w2).mono (by omega)) (ok.w2.mono (by omega))
    have e6 : decide (low (tv x'.1 x'.2 t) x'.2 = fv P x') = decide (tv x'.1 x'.2 t = vm (tms 0 P) x'.1 x'.2) := decide_eq_decide.mpr (low_inj ok.pos)
    by_cases c : tv x'.1 x'.2 t = vm (tms 0 P) x'.1 x'.2
    · rw [decide_eq_true c] at e6
      rw [if_pos c]
      simp only [x_bind, x_ok, x_pure, x_opt, x_selT, x_selF, x_seqO, x_seqR, x_seqB, x_seqC, x_rcall, x_callP, x_var, x_lit, x_tup, x_lst, x_bin, x_neg, x_not, x_cmp, x_chain, x_and, x_or, x_ite, x_idx, x_slc, x_rev, x_call, x_bi, x_callJ, x_callQ, x_nil, x_cons, x_star, x_o0, x_o1, x_if0, x_if1, x_seq, x_rng1, x_enum, x_zip, x_turn, x_asg, x_asgT, x_par, x_par0, x_par1, x_app, x_setI, x_popS, x_ex, x_ret, x_retN, x_pass, x_brk, x_cnt, x_if, x_ss0, x_ss, x_forT, x_view, x_viewF, x_keepF, x_keepT, x_hide0, x_hide1, x_hideN, x_own0, x_own1l, x_wipe0, x_wipe1, x_tg, x_tgT, x_tg0, x_tg1, x_add, x_sub, x_mul, x_lt, x_le, x_gt, x_ge, x_eq, x_ne, x_isN, x_isI, x_isT, x_isnN, x_isnI, x_isnT, x_tr, x_bl, x_intD, x_seqT, x_seqL, x_lenT, x_lenL, x_abs, x_int, x_intB, x_tupL, x_lstT, x_max2, x_min2, x_isiI, x_isiB, x_idxT, x_idxL, x_slcL, x_zipL, List.getD_cons_zero, List.getD_cons_succ, List.set_cons_zero, List.set_cons_succ, Option.map_some, Option.bind_some, Bool.not_true, Bool.not_false, if_true, Bool.true_or, Bool.or_true, Bool.false_or, Bool.true_and, Bool.and_true, decide_true, decide_false, Bool.and_self, reduceIte, reduceCtorEq, ne_eq, not_false_eq_true, implies_true, x_fit, List.length_cons, List.length_nil, Nat.reduceAdd, Nat.reduceLeDiff, Bool.not_eq_true, decide_eq_true_eq, Bool.false_eq_true, if_false, x_la0, x_la1, x_app, x_popS, x_setI, x_idxP0, x_idxP1, m1, m2, l, eq_encP, e6]
    · rw [decide_eq_false c] at e6
      rw [if_neg c]
      simp only [x_bind, x_ok, x_pure, x_opt, x_selT, x_selF, x_seqO, x_seqR, x_seqB, x_seqC, x_rcall, x_callP, x_var, x_lit, x_tup, x_lst, x_bin, x_neg, x_not, x_cmp, x_chain, x_and, x_or, x_ite, x_idx, x_slc, x_rev, x_call, x_bi, x_callJ, x_callQ, x_nil, x_cons, x_star, x_o0, x_o1, x_if0, x_if1, x_seq, x_rng1, x_enum, x_zip, x_turn, x_asg, x_asgT, x_par, x_par0, x_par1, x_app, x_setI, x_popS, x_ex, x_ret, x_retN, x_pass, x_brk, x_cnt, x_if, x_ss0, x_ss, x_forT, x_view, x_viewF, x_keepF, x_keepT, x_hide0, x_hide1, x_hideN, x_own0, x_own1l, x_wipe0, x_wipe1, x_tg, x_tgT, x_tg0, x_tg1, x_add, x_sub, x_mul, x_lt, x_le, x_gt, x_ge, x_eq, x_ne, x_isN, x_isI, x_isT, x_isnN, x_isnI, x_isnT, x_tr, x_bl, x_intD, x_seqT, x_seqL, x_lenT, x_lenL, x_abs, x_int, x_intB, x_tupL, x_lstT, x_max2, x_min2, x_isiI, x_isiB, x_idxT, x_idxL, x_slcL, x_zipL, List.getD_cons_zero, List.getD_cons_succ, List.set_cons_zero, List.set_cons_succ, Option.map_some, Option.bind_some, Bool.not_true, Bool.not_false, if_true, Bool.true_or, Bool.or_true, Bool.false_or, Bool.true_and, Bool.and_true, decide_true, decide_false, Bool.and_self, reduceIte, reduceCtorEq, ne_eq, not_false_eq_true, implies_true, x_fit, List.length_cons, List.length_nil, Nat.reduceAdd, Nat.reduceLeDiff, Bool.not_eq_true, decide_eq_true_eq, Bool.false_eq_true, if_false, x_la0, x_la1, x_app, x_popS, x_setI, x_idxP0, x_idxP1, m1, m2, l, eq_encP, e6]) (by have := okP.hi; omega)
  rw [tops_map] at e
  have bd : ∀ t ∈ tops (tms 0 P) x'.1 x'.2, t.1.natAbs < 10 ^ 12 := fun t ht => by
    obtain ⟨h1, h2, h3, h4⟩ := okP.term (tops_mem.mp ht).1
    omega
  have b1 : (((tops (tms 0 P) x'.1 x'.2).head?.getD (0, 0)).1).natAbs < 10 ^ 12 := by
    cases q : (tops (tms 0 P) x'.1 x'.2).head? with
    | none => decide
    | some t => exact bd t (List.mem_of_head? q)
  have b2 : (((tops (tms 0 P) x'.1 x'.2).getLast?.getD (0, 0)).1).natAbs < 10 ^ 12 := by
    cases q : (tops (tms 0 P) x'.1 x'.2).getLast? with
    | none => decide
    | some t => exact bd t (List.mem_of_getLast? q)
  obtain ⟨t1, t2, t3⟩ := tiny_steps b1 b2
  have r1 := repr_tiny t1 t2 t3
  have r2 := (repr_same t1).1
  refine ⟨some (encP (fv P x')), some (.list ((tops (tms 0 P) x'.1 x'.2).map fun t => .int t.1)), ?_⟩
  unfold stepsD at e2
  simp only [x_bind, x_ok, x_pure, x_opt, x_selT, x_selF, x_seqO, x_seqR, x_seqB, x_seqC, x_rcall, x_callP, x_var, x_lit, x_tup, x_lst, x_bin, x_neg, x_not, x_cmp, x_chain, x_and, x_or, x_ite, x_idx, x_slc, x_rev, x_call, x_bi, x_callJ, x_callQ, x_nil, x_cons, x_star, x_o0, x_o1, x_if0, x_if1, x_seq, x_rng1, x_enum, x_zip, x_turn, x_asg, x_asgT, x_par, x_par0, x_par1, x_app, x_setI, x_popS, x_ex, x_ret, x_retN, x_pass, x_brk, x_cnt, x_if, x_ss0, x_ss, x_forT, x_view, x_viewF, x_keepF, x_keepT, x_hide0, x_hide1, x_hideN, x_own0, x_own1l, x_wipe0, x_wipe1, x_tg, x_tgT, x_tg0, x_tg1, x_add, x_sub, x_mul, x_lt, x_le, x_gt, x_ge, x_eq, x_ne, x_isN, x_isI, x_isT, x_isnN, x_isnI, x_isnT, x_tr, x_bl, x_intD, x_seqT, x_seqL, x_lenT, x_lenL, x_abs, x_int, x_intB, x_tupL, x_lstT, x_max2, x_min2, x_isiI, x_isiB, x_idxT, x_idxL, x_slcL, x_zipL, List.getD_cons_zero, List.getD_cons_succ, List.set_cons_zero, List.set_cons_succ, Option.map_some, Option.bind_some, Bool.not_true, Bool.not_false, if_true, Bool.true_or, Bool.or_true, Bool.false_or, Bool.true_and, Bool.and_true, decide_true, decide_false, Bool.and_self, reduceIte, reduceCtorEq, ne_eq, not_false_eq_true, implies_true, x_fit, List.length_cons, List.length_nil, Nat.reduceAdd, Nat.reduceLeDiff, Bool.not_eq_true, decide_eq_true_eq, Bool.false_eq_true, if_false, x_la0, x_la1, x_app, x_popS, x_setI, e1, e, e2, mn, mx, r1, r2]
theorem right5 (hx : PtOk x) {y9 : Option PyData} : ∃ z3 z10 z11, evS (Ph i__law_right) 1000 Z19 (b__law_right.getD 5 .pass) [none, y1, y2, none, none, none, none, some (poly P), some (encP x), y9, none, none, none, none, none, none, none, none, none] J
    = .ok (.nx [none, y1, y2, z3, none, none, none, some (poly P), some (encP x), y9, z10, z11, none, none, none, none, none, none, none]) J := by
  have loop : ∀ (l : List (Int × Int)) (y3 y10 y11 : Option PyData), (∀ u ∈ l, PtOk u) → ∃ z3 z10 z11, forLoop (forT (Ph i__law_right) 1000 Z19 (.name 3) [.asg 10 0 false (.call 27 [(.var 7), (.var 3)]), .asg 11 0 false (.lc (.var 9) (.tup [(.name 9), (.name 18)]) (.enum (.var 7)) [(.and (.cmp .isn (.var 18) (.lit .none)) (.cmp .eq (.call 18 [(.bin .add (.bin .mul (.var 18) (.idx (.var 3) (.lit (.int (1))))) (.bin .mul (.var 9) (.idx (.var 3) (.lit (.int (0)))))), (.idx (.var 3) (.lit (.int (1))))]) (.var 10)))] [9, 18]), .ite (.cmp .ne (.bi .repr [(.call 17 [(.var 7), (.var 3)])]) (.bi .repr [(.tup [(.bi .min [(.var 11)]), (.bi .max [(.var 11)])])])) [.ret (.lit (.bool false))] []]) (l.map encP) [none, y1, y2, y3, none, none, none, some (poly P), some (encP x), y9, y10, y11, none, none, none, none, none, none, none] J
      = .ok (.nx [none, y1, y2, z3, none, none, none, some (poly P), some (encP x), y9, z10, z11, none, none, none, none, none, none, none]) J := by
    intro l
    induction l with
    | nil => intro y3 y10 y11 _; exact ⟨y3, y10, y11, rfl⟩
    | cons u l ih =>
      intro y3 y10 y11 h
      obtain ⟨z10, z11, st⟩ := right5body (J := J) (y1 := y1) (y2 := y2) (y8 := some (encP x)) okP (h u (List.mem_cons_self ..)) (y3 := y3) (y9 := y9) (y10 := y10) (y11 := y11)
      obtain ⟨w3, w10, w11, e⟩ := ih (some (encP u)) z10 z11 fun v hv => h v (List.mem_cons_of_mem _ hv)
      refine ⟨w3, w10, w11, ?_⟩
      rw [List.map_cons, for_cons st]
      exact e
  obtain ⟨z3, z10, z11, lp⟩ := loop (x :: (corns (verts P)).map (·.1)) none none none (fun u hu => by
    rcases List.mem_cons.mp hu with q | q
    · rw [q]; exact hx
    · obtain ⟨c, hc, e⟩ := List.mem_map.mp q
      rw [← e]; exact corner_pt okP hc)
  have it := right5it (J := J) (P := P) (x := x) (y1 := y1) (y2 := y2) (y9 := y9) okP
  exact ⟨z3, z10, z11, e_for (Φ := Ph i__law_right) (fuel := 1000) (M := Z19) (b := false) (t := .name 3) (J1 := J) (ds := (x :: (corns (verts P)).map (fun c : (Int × Int) × Int => c.1)).map encP) it lp⟩
theorem right6 {y3 y8 y9 y10 y11 : Option PyData} : evS (Ph i__law_right) 1000 Z19 (b__law_right.getD 6 .pass) [none, y1, y2, y3, none, none, none, some (poly P), y8, y9, y10, y11, none, none, none, none, none, none, none] J
    = .ok (.nx [none, y1, y2, y3, none, none, none, some (poly P), y8, y9, y10, y11, none, none, none, none, none, none, none]) J := by
  have e1 := s_corners (n := i__law_right) (by decide) okP
  have ln : (corns (verts P)).length ≤ 20 := by
    rw [corns_zip, List.length_map, List.length_zip]
    have := verts_len (P := P)
    have := tms_len (P := P) (i := 0)
    have := okP.hi
    omega
  have e := e_lcm (Φ := Ph i__law_right) (elt := .var 16) (t := .tup [(.name 16), (.name 17)]) (it := .seq (.call 31 [(.var 7)])) (ifs := [(.cmp .ne (.bin .sub (.idx (.call 17 [(.var 7), (.var 16)]) (.lit (.int (1)))) (.idx (.call 17 [(.var 7), (.var 16)]) (.lit (.int (0))))) (.var 17))]) (own := [16, 17]) (σ := [none, y1, y2, y3, none, none, none, some (poly P), y8, y9, y10, y11, none, none, none, none, none, none, none]) (J := J) (T := corns (verts P)) (enc := encC) (g := fun c => (none : Option PyData)) (by simp only [x_bind, x_ok, x_pure, x_opt, x_selT, x_selF, x_seqO, x_seqR, x_seqB, x_seqC, x_rcall, x_callP, x_var, x_lit, x_tup, x_lst, x_bin, x_neg, x_not, x_cmp, x_chain, x_and, x_or, x_ite, x_idx, x_slc, x_rev, x_call, x_bi, x_callJ, x_callQ, x_nil, x_cons, x_star, x_o0, x_o1, x_if0, x_if1, x_seq, x_rng1, x_enum, x_zip, x_turn, x_asg, x_asgT, x_par, x_par0, x_par1, x_app, x_setI, x_popS, x_ex, x_ret, x_retN, x_pass, x_brk, x_cnt, x_if, x_ss0, x_ss, x_forT, x_view, x_viewF, x_keepF, x_keepT, x_hide0, x_hide1, x_hideN, x_own0, x_own1l, x_wipe0, x_wipe1, x_tg, x_tgT, x_tg0, x_tg1, x_add, x_sub, x_mul, x_lt, x_le, x_gt, x_ge, x_eq, x_ne, x_isN, x_isI, x_isT, x_isnN, x_isnI, x_isnT, x_tr, x_bl, x_intD, x_seqT, x_seqL, x_lenT, x_lenL, x_abs, x_int, x_intB, x_tupL, x_lstT, x_max2, x_min2, x_isiI, x_isiB, x_idxT, x_idxL, x_slcL, x_zipL, List.getD_cons_zero, List.getD_cons_succ, List.set_cons_zero, List.set_cons_succ, Option.map_some, Option.bind_some, Bool.not_true, Bool.not_false, if_true, Bool.true_or, Bool.or_true, Bool.false_or, Bool.true_and, Bool.and_true, decide_true, decide_false, Bool.and_self, reduceIte, reduceCtorEq, ne_eq, not_false_eq_true, implies_true, x_fit, List.length_cons, List.length_nil, Nat.reduceAdd, Nat.reduceLeDiff, Bool.not_eq_true, decide_eq_true_eq, Bool.false_eq_true, if_false, x_la0, x_la1, x_app, x_popS, x_setI, e1]) (fun c hc => by
    have e2 := s_steps_at (n := i__law_right) (by decide) okP (corner_pt okP hc)
    obtain ⟨u, v, hu, hv, ee, rfl⟩ := corner_edge okP hc
    obtain ⟨t1, t2⟩ := corner_tops okP hu hv ee
    unfold stepsD at e2
    rw [t1, t2] at e2
    simp only [x_bind, x_ok, x_pure, x_opt, x_selT, x_selF, x_seqO, x_seqR, x_seqB, x_seqC, x_rcall, x_callP, x_var, x_lit, x_tup, x_lst, x_bin, x_neg, x_not, x_cmp, x_chain, x_and, x_or, x_ite, x_idx, x_slc, x_rev, x_call, x_bi, x_callJ, x_callQ, x_nil, x_cons, x_star, x_o0, x_o1, x_if0, x_if1, x_seq, x_rng1, x_enum, x_zip, x_turn, x_asg, x_asgT, x_par, x_par0, x_par1, x_app, x_setI, x_popS, x_ex, x_ret, x_retN, x_pass, x_brk, x_cnt, x_if, x_ss0, x_ss, x_forT, x_view, x_viewF, x_keepF, x_keepT, x_hide0, x_hide1, x_hideN, x_own0, x_own1l, x_wipe0, x_wipe1, x_tg, x_tgT, x_tg0, x_tg1, x_add, x_sub, x_mul, x_lt, x_le, x_gt, x_ge, x_eq, x_ne, x_isN, x_isI, x_isT, x_isnN, x_isnI, x_isnT, x_tr, x_bl, x_intD, x_seqT, x_seqL, x_lenT, x_lenL, x_abs, x_int, x_intB, x_tupL, x_lstT, x_max2, x_min2, x_isiI, x_isiB, x_idxT, x_idxL, x_slcL, x_zipL, List.getD_cons_zero, List.getD_cons_succ, List.set_cons_zero, List.set_cons_succ, Option.map_some, Option.bind_some, Bool.not_true, Bool.not_false, if_true, Bool.true_or, Bool.or_true, Bool.false_or, Bool.true_and, Bool.and_true, decide_true, decide_false, Bool.and_self, reduceIte, reduceCtorEq, ne_eq, not_false_eq_true, implies_true, x_fit, List.length_cons, List.length_nil, Nat.reduceAdd, Nat.reduceLeDiff, Bool.not_eq_true, decide_eq_true_eq, Bool.false_eq_true, if_false, x_la0, x_la1, x_app, x_popS, x_setI, encC, e2, x_at0, x_at1]) (by omega)
  have e' : (corns (verts P)).filterMap (fun c => (none : Option PyData)) = [] := by simp
  rw [e'] at e
  show evS _ _ _ (.ite (.cmp .ne (.lc (.var 16) (.tup [(.name 16), (.name 17)]) (.seq (.call 31 [(.var 7)])) [(.cmp .ne (.bin .sub (.idx (.call 17 [(.var 7), (.var 16)]) (.lit (.int (1)))) (.idx (.call 17 [(.var 7), (.var 16)]) (.lit (.int (0))))) (.var 17))] [16, 17]) (.lst [])) [.ret (.lit (.bool false))] []) _ _ = _
  simp only [x_bind, x_ok, x_pure, x_opt, x_selT, x_selF, x_seqO, x_seqR, x_seqB, x_seqC, x_rcall, x_callP, x_var, x_lit, x_tup, x_lst, x_bin, x_neg, x_not, x_cmp, x_chain, x_and, x_or, x_ite, x_idx, x_slc, x_rev, x_call, x_bi, x_callJ, x_callQ, x_nil, x_cons, x_star, x_o0, x_o1, x_if0, x_if1, x_seq, x_rng1, x_enum, x_zip, x_turn, x_asg, x_asgT, x_par, x_par0, x_par1, x_app, x_setI, x_popS, x_ex, x_ret, x_retN, x_pass, x_brk, x_cnt, x_if, x_ss0, x_ss, x_forT, x_view, x_viewF, x_keepF, x_keepT, x_hide0, x_hide1, x_hideN, x_own0, x_own1l, x_wipe0, x_wipe1, x_tg, x_tgT, x_tg0, x_tg1, x_add, x_sub, x_mul, x_lt, x_le, x_gt, x_ge, x_eq, x_ne, x_isN, x_isI, x_isT, x_isnN, x_isnI, x_isnT, x_tr, x_bl, x_intD, x_seqT, x_seqL, x_lenT, x_lenL, x_abs, x_int, x_intB, x_tupL, x_lstT, x_max2, x_min2, x_isiI, x_isiB, x_idxT, x_idxL, x_slcL, x_zipL, List.getD_cons_zero, List.getD_cons_succ, List.set_cons_zero, List.set_cons_succ, Option.map_some, Option.bind_some, Bool.not_true, Bool.not_false, if_true, Bool.true_or, Bool.or_true, Bool.false_or, Bool.true_and, Bool.and_true, decide_true, decide_false, Bool.and_self, reduceIte, reduceCtorEq, ne_eq, not_false_eq_true, implies_true, x_fit, List.length_cons, List.length_nil, Nat.reduceAdd, Nat.reduceLeDiff, Bool.not_eq_true, decide_eq_true_eq, Bool.false_eq_true, if_false, x_la0, x_la1, x_app, x_popS, x_setI, e, ne_nil0]
end
/-- what is left: monotone, convex, the ends -/
theorem rightEnd {J : Jr} (hJ : JI J) {P : List (Option Int)} (okP : POk P) {N : Int} (h1 : -999 ≤ N) (h2 : N ≤ 999) {x : Int × Int} (hx : smallPt x) {y2 y3 y9 y10 y11 : Option PyData} : ∃ J', evSs (Ph i__law_right) 1000 Z19 (b__law_right.drop 7) [none, some (.int N), y2, y3, none, none, none, some (poly P), some (encP x), y9, y10, y11, none, none, none, none, none, none, none] J = .ok (.rt (.bool true)) J' ∧ JI J' := by
  obtain ⟨o, J1, e1, ho, hJ1⟩ := s__law_point (n := i__law_right) (by decide) hJ
  refine ⟨J1, ?_, hJ1⟩
  have lt : ∀ a b : Int × Int, smallPt a → smallPt b → Ph i__law_right 22 [encP a, encP b] none = .ok (.bool (fless a b)) none := fun a b ha hb => s__law_less (n := i__law_right) (by decide) (ha.1.w1.mono (by omega)) (ha.1.w2.mono (by omega)) (hb.1.w1.mono (by omega)) (hb.1.w2.mono (by omega))
  obtain ⟨lo, hi, hlo, hhi, le, sel⟩ : ∃ lo hi : Int × Int, smallPt lo ∧ smallPt hi ∧ fle lo hi ∧ ∀ J : Jr, ∀ z2 z3 z9 z10 z11, evE (Ph i__law_right) (.ite (.call 22 [(.var 8), (.var 4)]) (.tup [(.var 8), (.var 4)]) (.tup [(.var 4), (.var 8)])) [none, some (.int N), z2, z3, some (encP o), none, none, some (poly P), some (encP x), z9, z10, z11, none, none, none, none, none, none, none] J = .ok (.tuple [encP lo, encP hi]) J := by
    have l := lt x o hx ho
    cases c : fless x o with
    | true =>
      rw [c] at l
      refine ⟨x, o, hx, ho, ?_, fun J z2 z3 z9 z10 z11 => by simp only [x_bind, x_ok, x_pure, x_opt, x_selT, x_selF, x_seqO, x_seqR, x_seqB, x_seqC, x_rcall, x_callP, x_var, x_lit, x_tup, x_lst, x_bin, x_neg, x_not, x_cmp, x_chain, x_and, x_or, x_ite, x_idx, x_slc, x_rev, x_call, x_bi, x_callJ, x_callQ, x_nil, x_cons, x_star, x_o0, x_o1, x_if0, x_if1, x_seq, x_rng1, x_enum, x_zip, x_turn, x_asg, x_asgT, x_par, x_par0, x_par1, x_app, x_setI, x_popS, x_ex, x_ret, x_retN, x_pass, x_brk, x_cnt, x_if, x_ss0, x_ss, x_forT, x_view, x_viewF, x_keepF, x_keepT, x_hide0, x_hide1, x_hideN, x_own0, x_own1l, x_wipe0, x_wipe1, x_tg, x_tgT, x_tg0, x_tg1, x_add, x_sub, x_mul, x_lt, x_le, x_gt, x_ge, x_eq, x_ne, x_isN, x_isI, x_isT, x_isnN, x_isnI, x_isnT, x_tr, x_bl, x_intD, x_seqT, x_seqL, x_lenT, x_lenL, x_abs, x_int, x_intB, x_tupL, x_lstT, x_max2, x_min2, x_isiI, x_isiB, x_idxT, x_idxL, x_slcL, x_zipL, List.getD_cons_zero, List.getD_cons_succ, List.set_cons_zero, List.set_cons_succ, Option.map_some, Option.bind_some, Bool.not_true, Bool.not_false, if_true, Bool.true_or, Bool.or_true, Bool.false_or, Bool.true_and, Bool.and_true, decide_true, decide_false, Bool.and_self, reduceIte, reduceCtorEq, ne_eq, not_false_eq_true, implies_true, x_fit, List.length_cons, List.length_nil, Nat.reduceAdd, Nat.reduceLeDiff, Bool.not_eq_true, decide_eq_true_eq, Bool.false_eq_true, if_false, x_la0, x_la1, x_app, x_popS, x_setI, l]⟩
      unfold fless at c
      have := of_decide_eq_true c
      unfold fle
      omega
    | false =>
      rw [c] at l
      exact ⟨o, x, ho, hx, fle_of c, fun J z2 z3 z9 z10 z11 => by simp only [x_bind, x_ok, x_pure, x_opt, x_selT, x_selF, x_seqO, x_seqR, x_seqB, x_seqC, x_rcall, x_callP, x_var, x_lit, x_tup, x_lst, x_bin, x_neg, x_not, x_cmp, x_chain, x_and, x_or, x_ite, x_idx, x_slc, x_rev, x_call, x_bi, x_callJ, x_callQ, x_nil, x_cons, x_star, x_o0, x_o1, x_if0, x_if1, x_seq, x_rng1, x_enum, x_zip, x_turn, x_asg, x_asgT, x_par, x_par0, x_par1, x_app, x_setI, x_popS, x_ex, x_ret, x_retN, x_pass, x_brk, x_cnt, x_if, x_ss0, x_ss, x_forT, x_view, x_viewF, x_keepF, x_keepT, x_hide0, x_hide1, x_hideN, x_own0, x_own1l, x_wipe0, x_wipe1, x_tg, x_tgT, x_tg0, x_tg1, x_add, x_sub, x_mul, x_lt, x_le, x_gt, x_ge, x_eq, x_ne, x_isN, x_isI, x_isT, x_isnN, x_isnI, x_isnT, x_tr, x_bl, x_intD, x_seqT, x_seqL, x_lenT, x_lenL, x_abs, x_int, x_intB, x_tupL, x_lstT, x_max2, x_min2, x_isiI, x_isiB, x_idxT, x_idxL, x_slcL, x_zipL, List.getD_cons_zero, List.getD_cons_succ, List.set_cons_zero, List.set_cons_succ, Option.map_some, Option.bind_some, Bool.not_true, Bool.not_false, if_true, Bool.true_or, Bool.or_true, Bool.false_or, Bool.true_and, Bool.and_true, decide_true, decide_false, Bool.and_self, reduceIte, reduceCtorEq, ne_eq, not_false_eq_true, implies_true, x_fit, List.length_cons, List.length_nil, Nat.reduceAdd, Nat.reduceLeDiff, Bool.not_eq_true, decide_eq_true_eq, Bool.false_eq_true, if_false, x_la0, x_la1, x_app, x_popS, x_setI, l]⟩
  have v1 := s_value_at (n := i__law_right) (by decide) okP hlo.1
  have v2 := s_value_at (n := i__law_right) (by decide) okP hhi.1
  obtain ⟨f1, f2, f3, f4⟩ := fv_pt okP hlo.1
  obtain ⟨g1, g2, g3, g4⟩ := fv_pt okP hhi.1
  have l1 : Ph i__law_right 22 [encP (fv P hi), encP (fv P lo)] none = .ok (.bool (fless (fv P hi) (fv P lo))) none := s__law_less (n := i__law_right) (by decide) (g3.mono (by omega)) (g4.mono (by omega)) (f3.mono (by omega)) (f4.mono (by omega))
  rw [fless_of (fv_mono okP hlo.1.pos hhi.1.pos le)] at l1
  obtain ⟨_, p1, p2, p3, p4⟩ := hlo
  obtain ⟨_, q1, q2, q3, q4⟩ := hhi
  have wl1 : W 6 lo.1 := W.of (by simp; omega) (by simp; omega)
  have wl2 : W 6 lo.2 := W.of (by simp; omega) (by simp; omega)
  have wh1 : W 6 hi.1 := W.of (by simp; omega) (by simp; omega)
  have wh2 : W 6 hi.2 := W.of (by simp; omega) (by simp; omega)
  have w2 : W 2 (2 : Int) := W.of (by decide) (by decide)
  have m1 : mulI lo.1 hi.2 = some (.int (lo.1 * hi.2)) := mulI_W wl1 wh2
  have m2 : mulI hi.1 lo.2 = some (.int (hi.1 * lo.2)) := mulI_W wh1 wl2
  have m3 : mulI 2 lo.2 = some (.int (2 * lo.2)) := mulI_W w2 wl2
  have m4 : mulI (2 * lo.2) hi.2 = some (.int (2 * lo.2 * hi.2)) := mulI_W (w2.mul wl2) wh2
  have pos1 : 0 < 2 * lo.2 * hi.2 := Int.mul_pos (by omega) (by omega)
  have a1 : W 13 (lo.1 * hi.2 + hi.1 * lo.2) := (wl1.mul wh2).add (wh1.mul wl2)
  have a2 : W 14 (2 * lo.2 * hi.2) := (w2.mul wl2).mul wh2
  have l2 := s__law_lowest (n := i__law_right) (by decide) (a := lo.1 * hi.2 + hi.1 * lo.2) (b := 2 * lo.2 * hi.2) pos1 (a1.mono (by omega)) (a2.mono (by omega))
  have okm := low_pt (a := lo.1 * hi.2 + hi.1 * lo.2) (b := 2 * lo.2 * hi.2) pos1 (a1.mono (by omega)) (a2.mono (by omega))
  have mid := fv_mid okP (a := lo) (b := hi) (by omega) (by omega)
  generalize low (lo.1 * hi.2 + hi.1 * lo.2) (2 * lo.2 * hi.2) = m at *
  have v3 := s_value_at (n := i__law_right) (by decide) okP okm
  obtain ⟨k1, k2, k3, k4⟩ := fv_pt okP okm
  generalize fv P m = c at *
  generalize fv P lo = a at *
  generalize fv P hi = b at *
  have n1 : mulI a.1 b.2 = some (.int (a.1 * b.2)) := mulI_W f3 g4
  have n2 : mulI b.1 a.2 = some (.int (b.1 * a.2)) := mulI_W g3 f4
  have n3 : mulI 2 a.2 = some (.int (2 * a.2)) := mulI_W w2 f4
  have n4 : mulI (2 * a.2) b.2 = some (.int (2 * a.2 * b.2)) := mulI_W (w2.mul f4) g4
  have pos2 : 0 < 2 * a.2 * b.2 := Int.mul_pos (by omega) (by omega)
  have b1 : W 312 (a.1 * b.2 + b.1 * a.2) := (f3.mul g4).add (g3.mul f4)
  have b2 : W 302 (2 * a.2 * b.2) := (w2.mul f4).mul g4
  have l3 := s__law_lowest (n := i__law_right) (by decide) (a := a.1 * b.2 + b.1 * a.2) (b := 2 * a.2 * b.2) pos2 (b1.mono (by omega)) (b2.mono (by omega))
  have lw := low_W pos2 b1 b2
  generalize low (a.1 * b.2 + b.1 * a.2) (2 * a.2 * b.2) = e at *
  have l4 : Ph i__law_right 22 [encP e, encP c] none = .ok (.bool (fless e c)) none := s__law_less (n := i__law_right) (by decide) (lw.1.mono (by omega)) (lw.2.mono (by omega)) (k3.mono (by omega)) (k4.mono (by omega))
  rw [fless_of mid] at l4
  have ev1 := s_vertices (n := i__law_right) (by decide) okP
  obtain ⟨va, vb, ha, hb, ea, eb⟩ := verts_ends okP
  have i0 : atI ((verts P).map encP) 0 = some (encP va) := by
    cases hv : verts P with
    | nil => rw [hv] at ha; cases ha
    | cons w r => rw [hv] at ha; cases ha; exact x_at0
  have i1 : atI ((verts P).map encP) (-1) = some (encP vb) := by rw [atI_last, List.getLast?_map, hb]; rfl
  have d1 := s_low_degree (n := i__law_right) (by decide) okP
  have d2 := s_degree (n := i__law_right) (by decide) okP
  rw [← ea] at d1
  rw [← eb] at d2
  have rr := s_reaches (n := i__law_right) (by decide) okP h1 h2
  obtain ⟨w, rw1, rw2⟩ := reach_word (P := P) (N := N)
  obtain ⟨g, s, rfl, s0, s1⟩ := hJ
  show evSs _ _ _ [.asg 4 0 false (.callJ 21 []), .asgT (.tup [(.name 12), (.name 13)]) false (.ite (.call 22 [(.var 8), (.var 4)]) (.tup [(.var 8), (.var 4)]) (.tup [(.var 4), (.var 8)])), .par [14, 15] false [(.call 28 [(.var 7), (.var 12)]), (.call 28 [(.var 7), (.var 13)])], .ite (.call 22 [(.var 15), (.var 14)]) [.ret (.lit (.bool false))] [], .asg 5 0 false (.call 18 [(.bin .add (.bin .mul (.idx (.var 12) (.lit (.int (0)))) (.idx (.var 13) (.lit (.int (1))))) (.bin .mul (.idx (.var 13) (.lit (.int (0)))) (.idx (.var 12) (.lit (.int (1)))))), (.bin .mul (.bin .mul (.lit (.int (2))) (.idx (.var 12) (.lit (.int (1))))) (.idx (.var 13) (.lit (.int (1)))))]), .ite (.call 22 [(.call 18 [(.bin .add (.bin .mul (.idx (.var 14) (.lit (.int (0)))) (.idx (.var 15) (.lit (.int (1))))) (.bin .mul (.idx (.var 15) (.lit (.int (0)))) (.idx (.var 14) (.lit (.int (1)))))), (.bin .mul (.bin .mul (.lit (.int (2))) (.idx (.var 14) (.lit (.int (1))))) (.idx (.var 15) (.lit (.int (1)))))]), (.call 28 [(.var 7), (.var 5)])]) [.ret (.lit (.bool false))] [], .asg 6 0 false (.call 25 [(.var 7)]), .ret (.and (.cmp .eq (.lst [(.idx (.idx (.var 6) (.lit (.int (0)))) (.lit (.int (0)))), (.idx (.idx (.var 6) (.neg (.lit (.int (1))))) (.lit (.int (0))))]) (.lst [(.call 32 [(.var 7)]), (.call 33 [(.var 7)])])) (.cmp .isin (.idx (.call 12 [(.var 7), (.var 1)]) (.lit (.int (0)))) (.tup [(.lit (.str (Str.ofString "always"))), (.lit (.str (Str.ofString "never"))), (.lit (.str (Str.ofString "from")))])))] _ _ = _
  obtain ⟨g1', s1', rfl, _⟩ := hJ1
  simp only [x_bind, x_ok, x_pure, x_opt, x_selT, x_selF, x_seqO, x_seqR, x_seqB, x_seqC, x_rcall, x_callP, x_var, x_lit, x_tup, x_lst, x_bin, x_neg, x_not, x_cmp, x_chain, x_and, x_or, x_ite, x_idx, x_slc, x_rev, x_call, x_bi, x_callJ, x_callQ, x_nil, x_cons, x_star, x_o0, x_o1, x_if0, x_if1, x_seq, x_rng1, x_enum, x_zip, x_turn, x_asg, x_asgT, x_par, x_par0, x_par1, x_app, x_setI, x_popS, x_ex, x_ret, x_retN, x_pass, x_brk, x_cnt, x_if, x_ss0, x_ss, x_forT, x_view, x_viewF, x_keepF, x_keepT, x_hide0, x_hide1, x_hideN, x_own0, x_own1l, x_wipe0, x_wipe1, x_tg, x_tgT, x_tg0, x_tg1, x_add, x_sub, x_mul, x_lt, x_le, x_gt, x_ge, x_eq, x_ne, x_isN, x_isI, x_isT, x_isnN, x_isnI, x_isnT, x_tr, x_bl, x_intD, x_seqT, x_seqL, x_lenT, x_lenL, x_abs, x_int, x_intB, x_tupL, x_lstT, x_max2, x_min2, x_isiI, x_isiB, x_idxT, x_idxL, x_slcL, x_zipL, List.getD_cons_zero, List.getD_cons_succ, List.set_cons_zero, List.set_cons_succ, Option.map_some, Option.bind_some, Bool.not_true, Bool.not_false, if_true, Bool.true_or, Bool.or_true, Bool.false_or, Bool.true_and, Bool.and_true, decide_true, decide_false, Bool.and_self, reduceIte, reduceCtorEq, ne_eq, not_false_eq_true, implies_true, x_fit, List.length_cons, List.length_nil, Nat.reduceAdd, Nat.reduceLeDiff, Bool.not_eq_true, decide_eq_true_eq, Bool.false_eq_true, if_false, x_la0, x_la1, x_app, x_popS, x_setI, x_ownlc, x_ownlst, x_okI, x_jg0, x_jg1, x_jset, x_js0, x_js1, x_callJ, x_callQ, x_gD0, e1, sel, v1, v2, l1, x_idxP0, x_idxP1, m1, m2, m3, m4, l2, n1, n2, n3, n4, l3, v3, l4, ev1, i0, i1, d1, d2, eq_il2, rr, rw1, rw2]
end K52
end Ev
end

section
set_option maxRecDepth 100000
set_option maxHeartbeats 1000000
namespace Ev
open PySem PySem.Spec PyProof.Rows L2
namespace K52
theorem s__law_right {n : Nat} (h : i__law_right < n) {J : Jr} (hJ : JI J) : ∃ J', Ph n i__law_right [] J = .ok (.bool true) J' ∧ JI J' := by
  obtain ⟨P, k, x, J1, st0, okP, hx, hJ1⟩ := right0 hJ
  obtain ⟨N, h1, h2, st1⟩ := right1 (J := J1) (P := P) (x := x) k
  have st2 := right2 (J := J1) okP h1 h2 (x := x)
  have st3 := right3 (J := J1) okP h1 h2 (x := x)
  obtain ⟨y9, st4⟩ := right4 (J := J1) okP h1 h2 (x := x)
  obtain ⟨z3, z10, z11, st5⟩ := right5 (J := J1) (y1 := some (.int N)) (y2 := some (reachD P N)) okP hx.1 (y9 := y9)
  have st6 := right6 (J := J1) (y1 := some (.int N)) (y2 := some (reachD P N)) okP (y3 := z3) (y8 := some (encP x)) (y9 := y9) (y10 := z10) (y11 := z11)
  obtain ⟨J2, st7, hJ2⟩ := rightEnd hJ1 okP h1 h2 hx (y2 := some (reachD P N)) (y3 := z3) (y9 := y9) (y10 := z10) (y11 := z11)
  refine ⟨J2, ?_, hJ2⟩
  rw [Ph_lt (F := d__law_right.F) rfl h]
  have body : evSs (Ph i__law_right) 1000 Z19 b__law_right [none, none, none, none, none, none, none, none, none, none, none, none, none, none, none, none, none, none, none] J = .ok (.rt (.bool true)) J2 := by
    show evSs (Ph i__law_right) 1000 Z19 (b__law_right.getD 0 .pass :: b__law_right.getD 1 .pass :: b__law_right.getD 2 .pass :: b__law_right.getD 3 .pass :: b__law_right.getD 4 .pass :: b__law_right.getD 5 .pass :: b__law_right.getD 6 .pass :: b__law_right.drop 7) _ _ = _
    rw [seqS_nx st0, seqS_nx st1, seqS_nx st2, seqS_nx st3, seqS_nx st4, seqS_nx st5, seqS_nx st6]
    exact st7
  obtain ⟨g, s, rfl, s0, s1⟩ := hJ
  exact run_rtJ rfl rfl body
theorem s__law_bag {n : Nat} (h : i__law_bag < n) (ns : List Int) (hn : ns.length ≤ 63) {spot : Int} (h0 : 0 ≤ spot) (h1 : spot < 2) : ∃ g s : Int, Ph n i__law_bag [scrD ns, .int spot] none = .ok (.list [.int g, .int s]) none ∧ 0 ≤ s ∧ s < 2 ^ 62 := by
  rw [Ph_lt (F := d__law_bag.F) rfl h]
  have ln : biE .len [scrD ns] = some (.int ns.length) := by
    show some (PyData.int ((ns.map PyData.int).length : Int)) = _
    rw [List.length_map]
  have p18 : binE .pow (.int 10) (.int 18) = some (.int 1000000000000000000) := by kernel_rfl
  have p60 : binE .pow (.int 10) (.int 60) = some (.int 1000000000000000000000000000000000000000000000000000000000000) := by kernel_rfl
  have p12 : binE .pow (.int 10) (.int 12) = some (.int 1000000000000) := by kernel_rfl
  have p61 : binE .pow (.int 2) (.int 61) = some (.int 2305843009213693952) := by kernel_rfl
  have mg : mulI 1000000000000000000000000000000000000000000000000000000000000 1000000000000000000000000000000000000000000000000000000000000 = some (.int (1000000000000000000000000000000000000000000000000000000000000 * 1000000000000000000000000000000000000000000000000000000000000)) := by kernel_rfl
  have md1 : ∀ a : Int, binE .mod (.int a) (.int (1000000000000000000000000000000000000000000000000000000000000 * 1000000000000000000000000000000000000000000000000000000000000)) = some (.int (a % (1000000000000000000000000000000000000000000000000000000000000 * 1000000000000000000000000000000000000000000000000000000000000))) := fun a => mod_W (by decide)
  have md2 : ∀ a : Int, binE .mod (.int a) (.int (1000000000000 + 39)) = some (.int (a % (1000000000000 + 39))) := fun a => mod_W (by decide)
  have md3 : ∀ a : Int, binE .mod (.int a) (.int (2305843009213693952 - 1)) = some (.int (a % (2305843009213693952 - 1))) := fun a => mod_W (by decide)
  have m89 : mulI 89 spot = some (.int (89 * spot)) := mulI_W (j := 10) (k := 10) (W.of (by decide) (by decide)) (W.of (by simp; omega) (by simp; omega))
  have m509 : mulI 509 spot = some (.int (509 * spot)) := mulI_W (j := 10) (k := 10) (W.of (by decide) (by decide)) (W.of (by simp; omega) (by simp; omega))
  have m17 : ∀ b : Bool, mulI 17 (if b = true then 1 else 0) = some (.int (17 * (if b = true then 1 else 0))) := fun b => by cases b <;> kernel_rfl
  have mb : ∀ a : Int, mulI (a % (1000000000000 + 39)) 10007 = some (.int (a % (1000000000000 + 39) * 10007)) := fun a => mulI_W (j := 50) (k := 20) (W.of (by simp; omega) (by simp; omega)) (W.of (by decide) (by decide))
  have cell : ∃ c : Int, evE (Ph i__law_bag) (.ite (.cmp .lt (.var 1) (.bi .len [(.var 0)])) (.bi .int [(.idx (.var 0) (.var 1))]) (.bin .add (.bin .mul (.lit (.int (89))) (.var 1)) (.lit (.int (41))))) [some (scrD ns), some (.int spot), none, none, none] none = .ok (.int c) none := by
    by_cases c : spot < (ns.length : Int)
    · have hk : spot.toNat < ns.length := by omega
      have a : idxE (scrD ns) (.int spot) = some (.int ns[spot.toNat]) := by
        show atI (ns.map PyData.int) spot = _
        simp only [atI, ixN, List.length_map]
        rw [if_pos h0, if_pos c]
        simp [hk]
      exact ⟨ns[spot.toNat], by simp only [x_bind, x_ok, x_pure, x_opt, x_selT, x_selF, x_seqO, x_seqR, x_seqB, x_seqC, x_rcall, x_callP, x_var, x_lit, x_tup, x_lst, x_bin, x_neg, x_not, x_cmp, x_chain, x_and, x_or, x_ite, x_idx, x_slc, x_rev, x_call, x_bi, x_callJ, x_callQ, x_nil, x_cons, x_star, x_o0, x_o1, x_if0, x_if1, x_seq, x_rng1, x_enum, x_zip, x_turn, x_asg, x_asgT, x_par, x_par0, x_par1, x_app, x_setI, x_popS, x_ex, x_ret, x_retN, x_pass, x_brk, x_cnt, x_if, x_ss0, x_ss, x_forT, x_view, x_viewF, x_keepF, x_keepT, x_hide0, x_hide1, x_hideN, x_own0, x_own1l, x_wipe0, x_wipe1, x_tg, x_tgT, x_tg0, x_tg1, x_add, x_sub, x_mul, x_lt, x_le, x_gt, x_ge, x_eq, x_ne, x_isN, x_isI, x_isT, x_isnN, x_isnI, x_isnT, x_tr, x_bl, x_intD, x_seqT, x_seqL, x_lenT, x_lenL, x_abs, x_int, x_intB, x_tupL, x_lstT, x_max2, x_min2, x_isiI, x_isiB, x_idxT, x_idxL, x_slcL, x_zipL, List.getD_cons_zero, List.getD_cons_succ, List.set_cons_zero, List.set_cons_succ, Option.map_some, Option.bind_some, Bool.not_true, Bool.not_false, if_true, Bool.true_or, Bool.or_true, Bool.false_or, Bool.true_and, Bool.and_true, decide_true, decide_false, Bool.and_self, reduceIte, reduceCtorEq, ne_eq, not_false_eq_true, implies_true, x_fit, List.length_cons, List.length_nil, Nat.reduceAdd, Nat.reduceLeDiff, Bool.not_eq_true, decide_eq_true_eq, Bool.false_eq_true, if_false, x_la0, x_la1, x_app, x_popS, x_setI, ln, c, a]⟩
    · exact ⟨89 * spot + 41, by simp only [x_bind, x_ok, x_pure, x_opt, x_selT, x_selF, x_seqO, x_seqR, x_seqB, x_seqC, x_rcall, x_callP, x_var, x_lit, x_tup, x_lst, x_bin, x_neg, x_not, x_cmp, x_chain, x_and, x_or, x_ite, x_idx, x_slc, x_rev, x_call, x_bi, x_callJ, x_callQ, x_nil, x_cons, x_star, x_o0, x_o1, x_if0, x_if1, x_seq, x_rng1, x_enum, x_zip, x_turn, x_asg, x_asgT, x_par, x_par0, x_par1, x_app, x_setI, x_popS, x_ex, x_ret, x_retN, x_pass, x_brk, x_cnt, x_if, x_ss0, x_ss, x_forT, x_view, x_viewF, x_keepF, x_keepT, x_hide0, x_hide1, x_hideN, x_own0, x_own1l, x_wipe0, x_wipe1, x_tg, x_tgT, x_tg0, x_tg1, x_add, x_sub, x_mul, x_lt, x_le, x_gt, x_ge, x_eq, x_ne, x_isN, x_isI, x_isT, x_isnN, x_isnI, x_isnT, x_tr, x_bl, x_intD, x_seqT, x_seqL, x_lenT, x_lenL, x_abs, x_int, x_intB, x_tupL, x_lstT, x_max2, x_min2, x_isiI, x_isiB, x_idxT, x_idxL, x_slcL, x_zipL, List.getD_cons_zero, List.getD_cons_succ, List.set_cons_zero, List.set_cons_succ, Option.map_some, Option.bind_some, Bool.not_true, Bool.not_false, if_true, Bool.true_or, Bool.or_true, Bool.false_or, Bool.true_and, Bool.and_true, decide_true, decide_false, Bool.and_self, reduceIte, reduceCtorEq, ne_eq, not_false_eq_true, implies_true, x_fit, List.length_cons, List.length_nil, Nat.reduceAdd, Nat.reduceLeDiff, Bool.not_eq_true, decide_eq_true_eq, Bool.false_eq_true, if_false, x_la0, x_la1, x_app, x_popS, x_setI, ln, c, m89]⟩
  obtain ⟨c, hc⟩ := cell
  have m17 : mulI 17 (if c < 0 then 1 else 0) = some (.int (17 * (if c < 0 then 1 else 0))) := by split <;> kernel_rfl
  have body : ∃ g B : Int, evSs (Ph i__law_bag) 1000 [0, 0, 0, 0, 0] b__law_bag [some (scrD ns), some (.int spot), none, none, none] none = .ok (.rt (.list [.int g, .int (B % (2305843009213693952 - 1))])) none := by
    refine ⟨(if (if c < 0 then -c else c) - 1000000000000000000 > 0 then (if c < 0 then -c else c) - 1000000000000000000 else 0) % (1000000000000000000000000000000000000000000000000000000000000 * 1000000000000000000000000000000000000000000000000000000000000), (if c < 0 then -c else c) % (1000000000000 + 39) * 10007 + 509 * spot + 17 * (if c < 0 then 1 else 0) + 1, ?_⟩
    simp only [x_bind, x_ok, x_pure, x_opt, x_selT, x_selF, x_seqO, x_seqR, x_seqB, x_seqC, x_rcall, x_callP, x_var, x_lit, x_tup, x_lst, x_bin, x_neg, x_not, x_cmp, x_chain, x_and, x_or, x_ite, x_idx, x_slc, x_rev, x_call, x_bi, x_callJ, x_callQ, x_nil, x_cons, x_star, x_o0, x_o1, x_if0, x_if1, x_seq, x_rng1, x_enum, x_zip, x_turn, x_asg, x_asgT, x_par, x_par0, x_par1, x_app, x_setI, x_popS, x_ex, x_ret, x_retN, x_pass, x_brk, x_cnt, x_if, x_ss0, x_ss, x_forT, x_view, x_viewF, x_keepF, x_keepT, x_hide0, x_hide1, x_hideN, x_own0, x_own1l, x_wipe0, x_wipe1, x_tg, x_tgT, x_tg0, x_tg1, x_add, x_sub, x_mul, x_lt, x_le, x_gt, x_ge, x_eq, x_ne, x_isN, x_isI, x_isT, x_isnN, x_isnI, x_isnT, x_tr, x_bl, x_intD, x_seqT, x_seqL, x_lenT, x_lenL, x_abs, x_int, x_intB, x_tupL, x_lstT, x_max2, x_min2, x_isiI, x_isiB, x_idxT, x_idxL, x_slcL, x_zipL, List.getD_cons_zero, List.getD_cons_succ, List.set_cons_zero, List.set_cons_succ, Option.map_some, Option.bind_some, Bool.not_true, Bool.not_false, if_true, Bool.true_or, Bool.or_true, Bool.false_or, Bool.true_and, Bool.and_true, decide_true, decide_false, Bool.and_self, reduceIte, reduceCtorEq, ne_eq, not_false_eq_true, implies_true, x_fit, List.length_cons, List.length_nil, Nat.reduceAdd, Nat.reduceLeDiff, Bool.not_eq_true, decide_eq_true_eq, Bool.false_eq_true, if_false, x_la0, x_la1, x_app, x_popS, x_setI, b__law_bag, hc, p18, p60, p12, p61, mg, md1, md2, md3, m509, m17, mb]
  obtain ⟨g, B, e⟩ := body
  exact ⟨g, _, run_rt rfl rfl e, Int.emod_nonneg _ (by decide), Int.lt_trans (Int.emod_lt_of_pos _ (by decide)) (by decide)⟩
theorem s_law {n : Nat} (h : i_law < n) (ns : List Int) (hn : ns.length ≤ 63) : Ph n i_law [scrD ns] none = .ok (.bool true) none := by
  rw [Ph_lt (F := d_law.F) rfl h]
  have ln : biE .len [scrD ns] = some (.int ns.length) := by
    show some (PyData.int ((ns.map PyData.int).length : Int)) = _
    rw [List.length_map]
  -- six turns
  have six : ∀ (k : Nat) (σ0 : Sd) (J : Jr), JI J → ∃ J', lcLoop (lcTurn (.name 5) (evIf (Ph i_law) [(.not (.callJ 34 []))]) (evE (Ph i_law) (.lit (.int (1)))) σ0) ((List.range k).map fun (k : Nat) => PyData.int k) J = .ok [] J' ∧ JI J' := by
    intro k σ0
    generalize (List.range k).map (fun (k : Nat) => PyData.int k) = ds
    induction ds with
    | nil => intro J hJ; exact ⟨J, rfl, hJ⟩
    | cons d ds ih =>
      intro J hJ
      obtain ⟨J1, e1, hJ1⟩ := s__law_right (n := i_law) (by decide) hJ
      obtain ⟨J2, e2, hJ2⟩ := ih J1 hJ1
      refine ⟨J2, ?_, hJ2⟩
      have st : lcTurn (.name 5) (evIf (Ph i_law) [(.not (.callJ 34 []))]) (evE (Ph i_law) (.lit (.int (1)))) σ0 d J = .ok none J1 := by
        obtain ⟨g, s, rfl, s0, s1⟩ := hJ
        simp only [x_bind, x_ok, x_pure, x_opt, x_selT, x_selF, x_seqO, x_seqR, x_seqB, x_seqC, x_rcall, x_callP, x_var, x_lit, x_tup, x_lst, x_bin, x_neg, x_not, x_cmp, x_chain, x_and, x_or, x_ite, x_idx, x_slc, x_rev, x_call, x_bi, x_callJ, x_callQ, x_nil, x_cons, x_star, x_o0, x_o1, x_if0, x_if1, x_seq, x_rng1, x_enum, x_zip, x_turn, x_asg, x_asgT, x_par, x_par0, x_par1, x_app, x_setI, x_popS, x_ex, x_ret, x_retN, x_pass, x_brk, x_cnt, x_if, x_ss0, x_ss, x_forT, x_view, x_viewF, x_keepF, x_keepT, x_hide0, x_hide1, x_hideN, x_own0, x_own1l, x_wipe0, x_wipe1, x_tg, x_tgT, x_tg0, x_tg1, x_add, x_sub, x_mul, x_lt, x_le, x_gt, x_ge, x_eq, x_ne, x_isN, x_isI, x_isT, x_isnN, x_isnI, x_isnT, x_tr, x_bl, x_intD, x_seqT, x_seqL, x_lenT, x_lenL, x_abs, x_int, x_intB, x_tupL, x_lstT, x_max2, x_min2, x_isiI, x_isiB, x_idxT, x_idxL, x_slcL, x_zipL, List.getD_cons_zero, List.getD_cons_succ, List.set_cons_zero, List.set_cons_succ, Option.map_some, Option.bind_some, Bool.not_true, Bool.not_false, if_true, Bool.true_or, Bool.or_true, Bool.false_or, Bool.true_and, Bool.and_true, decide_true, decide_false, Bool.and_self, reduceIte, reduceCtorEq, ne_eq, not_false_eq_true, implies_true, x_fit, List.length_cons, List.length_nil, Nat.reduceAdd, Nat.reduceLeDiff, Bool.not_eq_true, decide_eq_true_eq, Bool.false_eq_true, if_false, x_la0, x_la1, x_app, x_popS, x_setI, x_ownlc, x_ownlst, x_okI, x_jg0, x_jg1, x_jset, x_js0, x_js1, x_callJ, x_callQ, x_gD0, e1]
      rw [lcLoop, bind_ok' st, bind_ok' e2]
      rfl
  have turn : ∀ (spot : Int) (y1 y5 : Option PyData), 0 ≤ spot → spot < 2 → ∀ J : Jr, ∃ J', forT (Ph i_law) 1000 [0, 0, 0, 0, 0, 0] (.name 1) [.jnew 4 0 [(.var 0), (.var 1)], .ite (.cmp .ne (.lc (.lit (.int (1))) (.name 5) (.rng1 (.lit (.int (6)))) [(.not (.callJ 34 []))] [5]) (.lst [])) [.ret (.lit (.bool false))] []] (.int spot) [some (scrD ns), y1, none, none, none, y5] J = .ok (.nx [some (scrD ns), some (.int spot), none, none, none, y5]) J' := by
    intro spot y1 y5 h0 h1 J
    obtain ⟨g, s, eb, s0, s1⟩ := s__law_bag (n := i_law) (by decide) ns hn h0 h1
    obtain ⟨J1, e1, hJ1⟩ := six 6 (wipeD [some (scrD ns), some (.int spot), none, none, none, y5] [5]) (some [g, s]) ⟨g, s, rfl, s0, s1⟩
    refine ⟨J1, ?_⟩
    have jn : evS (Ph i_law) 1000 [0, 0, 0, 0, 0, 0] (.jnew 4 0 [(.var 0), (.var 1)]) [some (scrD ns), some (.int spot), none, none, none, y5] J = .ok (.nx [some (scrD ns), some (.int spot), none, none, none, y5]) (some [g, s]) := by
      rw [evS]
      have f : freeAt [some (scrD ns), some (.int spot), none, none, none, y5] 4 = some () := rfl
      have i1 : lstD (.list [.int g, .int s]) = some [.int g, .int s] := rfl
      have i2 : intsD [.int g, .int s] = some [g, s] := rfl
      simp only [x_bind, x_ok, x_pure, x_opt, x_selT, x_selF, x_seqO, x_seqR, x_seqB, x_seqC, x_rcall, x_callP, x_var, x_lit, x_tup, x_lst, x_bin, x_neg, x_not, x_cmp, x_chain, x_and, x_or, x_ite, x_idx, x_slc, x_rev, x_call, x_bi, x_callJ, x_callQ, x_nil, x_cons, x_star, x_o0, x_o1, x_if0, x_if1, x_seq, x_rng1, x_enum, x_zip, x_turn, x_asg, x_asgT, x_par, x_par0, x_par1, x_app, x_setI, x_popS, x_ex, x_ret, x_retN, x_pass, x_brk, x_cnt, x_if, x_ss0, x_ss, x_forT, x_view, x_viewF, x_keepF, x_keepT, x_hide0, x_hide1, x_hideN, x_own0, x_own1l, x_wipe0, x_wipe1, x_tg, x_tgT, x_tg0, x_tg1, x_add, x_sub, x_mul, x_lt, x_le, x_gt, x_ge, x_eq, x_ne, x_isN, x_isI, x_isT, x_isnN, x_isnI, x_isnT, x_tr, x_bl, x_intD, x_seqT, x_seqL, x_lenT, x_lenL, x_abs, x_int, x_intB, x_tupL, x_lstT, x_max2, x_min2, x_isiI, x_isiB, x_idxT, x_idxL, x_slcL, x_zipL, List.getD_cons_zero, List.getD_cons_succ, List.set_cons_zero, List.set_cons_succ, Option.map_some, Option.bind_some, Bool.not_true, Bool.not_false, if_true, Bool.true_or, Bool.or_true, Bool.false_or, Bool.true_and, Bool.and_true, decide_true, decide_false, Bool.and_self, reduceIte, reduceCtorEq, ne_eq, not_false_eq_true, implies_true, x_fit, List.length_cons, List.length_nil, Nat.reduceAdd, Nat.reduceLeDiff, Bool.not_eq_true, decide_eq_true_eq, Bool.false_eq_true, if_false, x_la0, x_la1, x_app, x_popS, x_setI, f, eb, i1, i2]
    have lc : evE (Ph i_law) (.lc (.lit (.int (1))) (.name 5) (.rng1 (.lit (.int (6)))) [(.not (.callJ 34 []))] [5]) [some (scrD ns), some (.int spot), none, none, none, y5] (some [g, s]) = .ok (.list []) J1 := by
      rw [evE]
      unfold mLc
      have it : evIt (Ph i_law) (.rng1 (.lit (.int (6)))) [some (scrD ns), some (.int spot), none, none, none, y5] (some [g, s]) = .ok ((List.range 6).map fun (k : Nat) => PyData.int k) (some [g, s]) := by
        have r := rng_eq (j := 6) (by decide) (by decide)
        simp only [x_bind, x_ok, x_pure, x_opt, x_selT, x_selF, x_seqO, x_seqR, x_seqB, x_seqC, x_rcall, x_callP, x_var, x_lit, x_tup, x_lst, x_bin, x_neg, x_not, x_cmp, x_chain, x_and, x_or, x_ite, x_idx, x_slc, x_rev, x_call, x_bi, x_callJ, x_callQ, x_nil, x_cons, x_star, x_o0, x_o1, x_if0, x_if1, x_seq, x_rng1, x_enum, x_zip, x_turn, x_asg, x_asgT, x_par, x_par0, x_par1, x_app, x_setI, x_popS, x_ex, x_ret, x_retN, x_pass, x_brk, x_cnt, x_if, x_ss0, x_ss, x_forT, x_view, x_viewF, x_keepF, x_keepT, x_hide0, x_hide1, x_hideN, x_own0, x_own1l, x_wipe0, x_wipe1, x_tg, x_tgT, x_tg0, x_tg1, x_add, x_sub, x_mul, x_lt, x_le, x_gt, x_ge, x_eq, x_ne, x_isN, x_isI, x_isT, x_isnN, x_isnI, x_isnT, x_tr, x_bl, x_intD, x_seqT, x_seqL, x_lenT, x_lenL, x_abs, x_int, x_intB, x_tupL, x_lstT, x_max2, x_min2, x_isiI, x_isiB, x_idxT, x_idxL, x_slcL, x_zipL, List.getD_cons_zero, List.getD_cons_succ, List.set_cons_zero, List.set_cons_succ, Option.map_some, Option.bind_some, Bool.not_true, Bool.not_false, if_true, Bool.true_or, Bool.or_true, Bool.false_or, Bool.true_and, Bool.and_true, decide_true, decide_false, Bool.and_self, reduceIte, reduceCtorEq, ne_eq, not_false_eq_true, implies_true, x_fit, List.length_cons, List.length_nil, Nat.reduceAdd, Nat.reduceLeDiff, Bool.not_eq_true, decide_eq_true_eq, Bool.false_eq_true, if_false, x_la0, x_la1, x_app, x_popS, x_setI, r]
        rfl
      rw [bind_ok' it, bind_ok' (noX_eq e1)]
      rfl
    simp only [x_bind, x_ok, x_pure, x_opt, x_selT, x_selF, x_seqO, x_seqR, x_seqB, x_seqC, x_rcall, x_callP, x_var, x_lit, x_tup, x_lst, x_bin, x_neg, x_not, x_cmp, x_chain, x_and, x_or, x_ite, x_idx, x_slc, x_rev, x_call, x_bi, x_callJ, x_callQ, x_nil, x_cons, x_star, x_o0, x_o1, x_if0, x_if1, x_seq, x_rng1, x_enum, x_zip, x_turn, x_asg, x_asgT, x_par, x_par0, x_par1, x_app, x_setI, x_popS, x_ex, x_ret, x_retN, x_pass, x_brk, x_cnt, x_if, x_ss0, x_ss, x_forT, x_view, x_viewF, x_keepF, x_keepT, x_hide0, x_hide1, x_hideN, x_own0, x_own1l, x_wipe0, x_wipe1, x_tg, x_tgT, x_tg0, x_tg1, x_add, x_sub, x_mul, x_lt, x_le, x_gt, x_ge, x_eq, x_ne, x_isN, x_isI, x_isT, x_isnN, x_isnI, x_isnT, x_tr, x_bl, x_intD, x_seqT, x_seqL, x_lenT, x_lenL, x_abs, x_int, x_intB, x_tupL, x_lstT, x_max2, x_min2, x_isiI, x_isiB, x_idxT, x_idxL, x_slcL, x_zipL, List.getD_cons_zero, List.getD_cons_succ, List.set_cons_zero, List.set_cons_succ, Option.map_some, Option.bind_some, Bool.not_true, Bool.not_false, if_true, Bool.true_or, Bool.or_true, Bool.false_or, Bool.true_and, Bool.and_true, decide_true, decide_false, Bool.and_self, reduceIte, reduceCtorEq, ne_eq, not_false_eq_true, implies_true, x_fit, List.length_cons, List.length_nil, Nat.reduceAdd, Nat.reduceLeDiff, Bool.not_eq_true, decide_eq_true_eq, Bool.false_eq_true, if_false, x_la0, x_la1, x_app, x_popS, x_setI, jn, lc, ne_nil0]
  have loop : ∀ (l : List Int) (y1 y5 : Option PyData) (J : Jr), (∀ i ∈ l, 0 ≤ i ∧ i < 2) → ∃ z1 J', forLoop (forT (Ph i_law) 1000 [0, 0, 0, 0, 0, 0] (.name 1) [.jnew 4 0 [(.var 0), (.var 1)], .ite (.cmp .ne (.lc (.lit (.int (1))) (.name 5) (.rng1 (.lit (.int (6)))) [(.not (.callJ 34 []))] [5]) (.lst [])) [.ret (.lit (.bool false))] []]) (l.map PyData.int) [some (scrD ns), y1, none, none, none, y5] J = .ok (.nx [some (scrD ns), z1, none, none, none, y5]) J' := by
    intro l
    induction l with
    | nil => intro y1 y5 J _; exact ⟨y1, J, rfl⟩
    | cons i l ih =>
      intro y1 y5 J hl
      have hi := hl i (List.mem_cons_self ..)
      obtain ⟨J1, st⟩ := turn i y1 y5 hi.1 hi.2 J
      obtain ⟨z1, J2, e⟩ := ih (some (.int i)) y5 J1 fun j hj => hl j (List.mem_cons_of_mem _ hj)
      refine ⟨z1, J2, ?_⟩
      rw [List.map_cons, for_cons st]
      exact e
  obtain ⟨m, hm0, hm1⟩ : ∃ m : Nat, m ≤ 2 ∧ evIt (Ph i_law) (.rng1 (.bi .max2 [(.lit (.int (1))), (.bi .min2 [(.lit (.int (2))), (.bi .len [(.var 0)])])])) [some (scrD ns), none, none, none, none, none] none = .ok ((List.range m).map fun (k : Nat) => PyData.int k) none := by
    have : ∀ j : Int, 0 ≤ j → j ≤ 2 → rngD 0 j = some ((List.range j.toNat).map fun (k : Nat) => PyData.int k) := fun j h0 h1 => rng_eq h0 (by omega)
    refine ⟨(if (if (ns.length : Int) < 2 then (ns.length : Int) else 2) > 1 then (if (ns.length : Int) < 2 then (ns.length : Int) else 2) else 1).toNat, by split <;> split <;> omega, ?_⟩
    have r := this (if (if (ns.length : Int) < 2 then (ns.length : Int) else 2) > 1 then (if (ns.length : Int) < 2 then (ns.length : Int) else 2) else 1) (by split <;> split <;> omega) (by split <;> split <;> omega)
    simp only [x_bind, x_ok, x_pure, x_opt, x_selT, x_selF, x_seqO, x_seqR, x_seqB, x_seqC, x_rcall, x_callP, x_var, x_lit, x_tup, x_lst, x_bin, x_neg, x_not, x_cmp, x_chain, x_and, x_or, x_ite, x_idx, x_slc, x_rev, x_call, x_bi, x_callJ, x_callQ, x_nil, x_cons, x_star, x_o0, x_o1, x_if0, x_if1, x_seq, x_rng1, x_enum, x_zip, x_turn, x_asg, x_asgT, x_par, x_par0, x_par1, x_app, x_setI, x_popS, x_ex, x_ret, x_retN, x_pass, x_brk, x_cnt, x_if, x_ss0, x_ss, x_forT, x_view, x_viewF, x_keepF, x_keepT, x_hide0, x_hide1, x_hideN, x_own0, x_own1l, x_wipe0, x_wipe1, x_tg, x_tgT, x_tg0, x_tg1, x_add, x_sub, x_mul, x_lt, x_le, x_gt, x_ge, x_eq, x_ne, x_isN, x_isI, x_isT, x_isnN, x_isnI, x_isnT, x_tr, x_bl, x_intD, x_seqT, x_seqL, x_lenT, x_lenL, x_abs, x_int, x_intB, x_tupL, x_lstT, x_max2, x_min2, x_isiI, x_isiB, x_idxT, x_idxL, x_slcL, x_zipL, List.getD_cons_zero, List.getD_cons_succ, List.set_cons_zero, List.set_cons_succ, Option.map_some, Option.bind_some, Bool.not_true, Bool.not_false, if_true, Bool.true_or, Bool.or_true, Bool.false_or, Bool.true_and, Bool.and_true, decide_true, decide_false, Bool.and_self, reduceIte, reduceCtorEq, ne_eq, not_false_eq_true, implies_true, x_fit, List.length_cons, List.length_nil, Nat.reduceAdd, Nat.reduceLeDiff, Bool.not_eq_true, decide_eq_true_eq, Bool.false_eq_true, if_false, x_la0, x_la1, x_app, x_popS, x_setI, ln, r]
  obtain ⟨z1, J', lp⟩ := loop ((List.range m).map fun (k : Nat) => (k : Int)) none none none (fun i hi => by
    obtain ⟨k, hk, e⟩ := List.mem_map.mp hi
    have := List.mem_range.mp hk
    omega)
  rw [List.map_map] at lp
  have ef := e_for (Φ := Ph i_law) (fuel := 1000) (M := [0, 0, 0, 0, 0, 0]) (b := false) (t := .name 1) (J1 := none) hm1 lp
  have tail : evSs (Ph i_law) 1000 [0, 0, 0, 0, 0, 0] (b_law.drop 1) [some (scrD ns), z1, none, none, none, none] J' = .ok (.rt (.bool true)) J' := by
    kernel_rfl
  have body : evSs (Ph i_law) 1000 [0, 0, 0, 0, 0, 0] b_law [some (scrD ns), none, none, none, none, none] none = .ok (.rt (.bool true)) J' := by
    show evSs (Ph i_law) 1000 [0, 0, 0, 0, 0, 0] (_ :: b_law.drop 1) _ _ = _
    rw [seqS_nx ef, tail]
  exact run_rt rfl rfl body
end K52
end Ev
end

section
set_option maxRecDepth 100000
set_option maxHeartbeats 0
open PySem PySem.W PySem.Calls PySem.Spec PyProof.Rows L2
theorem PySem.Challenge.cw_mostsums_k52_whole_polys_that_reach_holds : PySem.Challenge.rw_mostsums_k52_whole_polys_that_reach.Holds := by
  w_on; o_law
  refine HandSHeadRun.head_any (r := OpenLaw.row PySem.Challenge.rw_mostsums_k52_whole_polys_that_reach) (q := view (OpenLaw.row PySem.Challenge.rw_mostsums_k52_whole_polys_that_reach).prog [50]) (H := Ev.K52.hk) (ob := Ev.K52.ob) (M := 6000) (loose := Ev.K52.ls1 ++ Ev.K52.ls2 ++ Ev.K52.ls3) (d := HandSHeadRun.topDef (OpenLaw.row PySem.Challenge.rw_mostsums_k52_whole_polys_that_reach).prog 50) (kwd := []) Ev.K52.ob_eq (by kernel_rfl) (fun s => by kernel_rfl) Ev.K52.run (by kernel_rfl) (by kernel_rfl) (by kernel_rfl) (by rfl) (by first | assumption | decide +kernel) (by decide +kernel) ⟨rfl, rfl, rfl, rfl, rfl, by decide +kernel⟩ ?hw ?hc
  case hw => w_witness2
  case hc =>
    refine Ev.walk_G (l := PySem.Challenge.rw_mostsums_k52_whole_polys_that_reach) (n := 63) (k := 40) rfl (by decide) (by kernel_rfl) ⟨rfl, by decide, by decide⟩ ?F
    intro w mg fa h Y G hm
    obtain ⟨K, KX, c⟩ := Y
    have T : ∀ base : Heap, _ := fun base => Ev.table (base := base) (P := PySem.Challenge.rw_mostsums_k52_whole_polys_that_reach.prog) (w := w) (fuel := 1000) (Ds := Ev.K52.ds) (cs := Ev.K52.cs) (Ev.K52.all_ok KX G c) (Ev.K52.bl_ok KX G c) (Ev.K52.cs_ok KX G c) 36 (by decide)
    refine ⟨K, Ev.phi 1000 Ev.K52.pr 36 35, false, KX, fun ns hn => Ev.K52.s_law (n := 36) (by decide) ns hn, fun base kin hns => ?_⟩
    rcases (T base).fs 35 (Str.ofString "law") false false (by kernel_rfl) with st | ⟨a, m, kp, F⟩
    · have e := Ev.K52.s_law (n := 36) (by decide) [] (by decide)
      have e2 : Ev.phi 1000 Ev.K52.pr 36 35 [Ev.scrD []] none = .ok (.bool true) none := e
      have e3 : Ev.phi 1000 Ev.K52.pr 36 35 [Ev.scrD []] none = .no := st _ _
      rw [e3] at e2
      cases e2
    · have en : (HandSHeadRun.topDef (OpenLaw.row PySem.Challenge.rw_mostsums_k52_whole_polys_that_reach).prog 50).name = Str.ofString "law" := by kernel_rfl
      rw [en, m] at hm
      cases hm
      exact F.mono (by decide)
end
