import PyProof.Rows.All
import Wide.All
import OpenK.AllK
import Wide.FinOn
import HandS.ForMost
import HandS.Deep
import HandS.IsInst
import HandS.TupAny
import HandS.TupMul
import HandS.TupLe
import HandS.Style
import HandS.Walk
import HandS.Wide
import HandS.Conv
import HandS.SetFor
import HandS.Zip
import HandS.SortInts
import KE.SortData
import PySem.Challenge.RW_onevisit_k75_whole_rooms_in_common
set_option Elab.async false
set_option linter.all false
set_option maxRecDepth 100000
set_option maxHeartbeats 2000000
/-! Ip1: plain data by value, how a value of the abstract heap bears it, frames with owned lists -/
namespace Ip
open PySem L2

/-- plain data -/
inductive D where
  | non | bl (b : Bool) | int (i : Int) | str (s : Str) | tup (ds : List D) | lst (ds : List D)
  | dct (ks vs : List D) | st (ds : List D) | box
abbrev Frag := PySem.W.Frag
abbrev ASet := Addr → Prop

mutual
def D.py : D → PyData
  | .non => .none
  | .bl b => .bool b
  | .int i => .int i
  | .str s => .str s
  | .tup ds => .tuple (D.pys ds)
  | .lst ds => .list (D.pys ds)
  | .dct _ _ => .none
  | .st _ => .none
  | .box => .none
def D.pys : List D → List PyData
  | [] => []
  | d :: ds => D.py d :: D.pys ds
end
mutual
/-- no dicts, sets, boxes; texts of true signs -/
def D.plain : D → Bool
  | .non => true
  | .bl _ => true
  | .int _ => true
  | .str s => PyData.strOk s
  | .tup ds => D.plains ds
  | .lst ds => D.plains ds
  | .dct _ _ => false
  | .st _ => false
  | .box => false
def D.plains : List D → Bool
  | [] => true
  | d :: ds => D.plain d && D.plains ds
end
mutual
def D.dep : D → Nat
  | .tup ds => D.deps ds + 1
  | .lst ds => D.deps ds + 1
  | .non => 0
  | .bl _ => 0
  | .int _ => 0
  | .str _ => 0
  | .dct _ _ => 0
  | .st _ => 0
  | .box => 0
def D.deps : List D → Nat
  | [] => 0
  | d :: ds => max (D.dep d) (D.deps ds)
end
mutual
/-- no lists, dicts, sets within: what never changes -/
def D.pure : D → Bool
  | .non => true
  | .bl _ => true
  | .int _ => true
  | .str _ => true
  | .tup ds => D.pures ds
  | .lst _ => false
  | .dct _ _ => false
  | .st _ => false
  | .box => true
def D.pures : List D → Bool
  | [] => true
  | d :: ds => D.pure d && D.pures ds
end
mutual
theorem D.py_lay : ∀ d : D, d.plain = true → d.py.canLay0 = true ∧ d.py.depth = d.dep
  | .non, _ => ⟨rfl, rfl⟩
  | .bl _, _ => ⟨rfl, rfl⟩
  | .int _, _ => ⟨rfl, rfl⟩
  | .str s, h => ⟨h, rfl⟩
  | .tup ds, h => by
    have q := D.pys_lay ds h
    refine ⟨q.1, ?_⟩
    show PyData.depthAll (D.pys ds) + 1 = D.deps ds + 1
    rw [q.2]
  | .lst ds, h => by
    have q := D.pys_lay ds h
    refine ⟨q.1, ?_⟩
    show PyData.depthAll (D.pys ds) + 1 = D.deps ds + 1
    rw [q.2]
  | .dct _ _, h => by cases h
  | .st _, h => by cases h
  | .box, h => by cases h
theorem D.pys_lay : ∀ ds : List D, D.plains ds = true → PyData.canLayAll0 (D.pys ds) = true ∧ PyData.depthAll (D.pys ds) = D.deps ds
  | [], _ => ⟨rfl, rfl⟩
  | d :: ds, h => by
    have h' : (d.plain && D.plains ds) = true := h
    rw [Bool.and_eq_true] at h'
    have a := D.py_lay d h'.1
    have b := D.pys_lay ds h'.2
    constructor
    · show (d.py.canLay0 && PyData.canLayAll0 (D.pys ds)) = true
      rw [a.1, b.1]; rfl
    · show max d.py.depth (PyData.depthAll (D.pys ds)) = max d.dep (D.deps ds)
      rw [a.2, b.2]
end
/-- what == and in may look at -/
def D.ok (d : D) : Bool := d.plain && decide (d.dep ≤ 64)
theorem D.ok_shaped {d : D} (h : d.ok = true) : SeqAt.shaped d.py = true := by
  unfold D.ok at h
  rw [Bool.and_eq_true] at h
  have q := D.py_lay d h.1
  unfold SeqAt.shaped
  rw [q.1, q.2, h.2]; rfl

theorem pys_map : ∀ ds : List D, D.pys ds = ds.map D.py
  | [] => rfl
  | d :: ds => by show d.py :: D.pys ds = _; rw [pys_map ds]; rfl

/-! ### how a value bears data -/
/-- a tuple of the text itself -/
def KT (K : Frag) (a : Addr) (xs : List V) : Prop := SqT K (fun _ => none) a xs
theorem KT.sq {K : Frag} {a : Addr} {xs : List V} {H : Hp} (h : KT K a xs) : SqT K H a xs := by
  rcases h with (h | ⟨_, h⟩) | h
  · cases h
  · cases h
  · exact .inr h
def TupAt (K : Frag) (O : ASet) (H : Hp) (a : Addr) (xs : List V) : Prop := (H a = some (.tup xs) ∧ ¬ O a) ∨ KT K a xs
theorem TupAt.sq {K : Frag} {O : ASet} {H : Hp} {a : Addr} {xs : List V} (h : TupAt K O H a xs) : SqT K H a xs := by
  rcases h with h | h
  · exact SqT.of h.1
  · exact h.sq
mutual
inductive Rz (K : Frag) (O : ASet) (b : Addr) (H : Hp) : V → D → Prop
  | non : Rz K O b H .non .non
  | bl (x : Bool) : Rz K O b H (.bl x) (.bl x)
  | int (i : Int) : Rz K O b H (.int i) (.int i)
  | str (x : Str) : Rz K O b H (.str x) (.str x)
  | box : Rz K O b H (.ref b) .box
  | lst {a : Addr} {xs : List V} {ds : List D} : H a = some (.lst xs) → ¬ O a → RzA K O b H xs ds → Rz K O b H (.ref a) (.lst ds)
  | tup {a : Addr} {xs : List V} {ds : List D} : TupAt K O H a xs → RzA K O b H xs ds → Rz K O b H (.ref a) (.tup ds)
inductive RzA (K : Frag) (O : ASet) (b : Addr) (H : Hp) : List V → List D → Prop
  | nil : RzA K O b H [] []
  | cons {v : V} {vs : List V} {d : D} {ds : List D} : Rz K O b H v d → RzA K O b H vs ds → RzA K O b H (v :: vs) (d :: ds)
end
section
variable {K : Frag} {O O' : ASet} {b : Addr} {H H' : Hp}
/-- what was known of objects outside O stands, and O' is no more than O -/
structure Kept (O : ASet) (H : Hp) (O' : ASet) (H' : Hp) : Prop where
  sub : ∀ a, O' a → O a
  st : ∀ a o, H a = some o → ¬ O a → H' a = some o
  dom : ∀ a, H' a = none → H a = none
theorem Kept.refl : Kept O H O H := ⟨fun _ h => h, fun _ _ h _ => h, fun _ h => h⟩
theorem Kept.trans {O'' : ASet} {H'' : Hp} (x : Kept O H O' H') (y : Kept O' H' O'' H'') : Kept O H O'' H'' :=
  ⟨fun a h => x.sub a (y.sub a h), fun a o h n => y.st a o (x.st a o h n) fun z => n (x.sub a z), fun a h => x.dom a (y.dom a h)⟩
theorem TupAt.kept {a : Addr} {xs : List V} (k : Kept O H O' H') (h : TupAt K O H a xs) : TupAt K O' H' a xs := by
  rcases h with ⟨h, n⟩ | h
  · exact .inl ⟨k.st _ _ h n, fun z => n (k.sub _ z)⟩
  · exact .inr h
mutual
theorem Rz.kept (k : Kept O H O' H') : ∀ {v : V} {d : D}, Rz K O b H v d → Rz K O' b H' v d
  | _, _, .non => .non
  | _, _, .bl x => .bl x
  | _, _, .int i => .int i
  | _, _, .str x => .str x
  | _, _, .box => .box
  | _, _, .lst h n r => .lst (k.st _ _ h n) (fun z => n (k.sub _ z)) (RzA.kept k r)
  | _, _, .tup h r => .tup (h.kept k) (RzA.kept k r)
theorem RzA.kept (k : Kept O H O' H') : ∀ {vs : List V} {ds : List D}, RzA K O b H vs ds → RzA K O' b H' vs ds
  | _, _, .nil => .nil
  | _, _, .cons h r => .cons (Rz.kept k h) (RzA.kept k r)
end
/-- a new address may be avoided too -/
theorem TupAt.more {a p : Addr} {xs : List V} (hp : H p = none) (h : TupAt K O H a xs) : TupAt K (fun x => O x ∨ x = p) H a xs := by
  rcases h with ⟨h, n⟩ | h
  · refine .inl ⟨h, fun z => z.elim n fun e => ?_⟩
    subst e; rw [h] at hp; cases hp
  · exact .inr h
mutual
theorem Rz.more {p : Addr} (hp : H p = none) : ∀ {v : V} {d : D}, Rz K O b H v d → Rz K (fun x => O x ∨ x = p) b H v d
  | _, _, .non => .non
  | _, _, .bl x => .bl x
  | _, _, .int i => .int i
  | _, _, .str x => .str x
  | _, _, .box => .box
  | _, _, .lst h n r => .lst h (fun z => z.elim n fun e => by subst e; rw [h] at hp; cases hp) (RzA.more hp r)
  | _, _, .tup h r => .tup (h.more hp) (RzA.more hp r)
theorem RzA.more {p : Addr} (hp : H p = none) : ∀ {vs : List V} {ds : List D}, RzA K O b H vs ds → RzA K (fun x => O x ∨ x = p) b H vs ds
  | _, _, .nil => .nil
  | _, _, .cons h r => .cons (Rz.more hp h) (RzA.more hp r)
end
/-- what holds no list is borne whatever is avoided, as long as tuples are not -/
theorem TupAt.wide {a : Addr} {xs : List V} (hO : ∀ a xs, O' a → H a ≠ some (.tup xs)) (h : TupAt K O H a xs) : TupAt K O' H a xs := by
  rcases h with ⟨h, n⟩ | h
  · exact .inl ⟨h, fun z => hO _ _ z h⟩
  · exact .inr h
mutual
theorem Rz.wide (hO : ∀ a xs, O' a → H a ≠ some (.tup xs)) : ∀ {v : V} {d : D}, d.pure = true → Rz K O b H v d → Rz K O' b H v d
  | _, _, _, .non => .non
  | _, _, _, .bl x => .bl x
  | _, _, _, .int i => .int i
  | _, _, _, .str x => .str x
  | _, _, _, .box => .box
  | _, _, p, .lst _ _ _ => by cases p
  | _, _, p, .tup h r => .tup (h.wide hO) (RzA.wide hO p r)
theorem RzA.wide (hO : ∀ a xs, O' a → H a ≠ some (.tup xs)) : ∀ {vs : List V} {ds : List D}, D.pures ds = true → RzA K O b H vs ds → RzA K O' b H vs ds
  | _, _, _, .nil => .nil
  | _ :: _, d :: ds, p, .cons h r => by
    have p' : (d.pure && D.pures ds) = true := p
    rw [Bool.and_eq_true] at p'
    exact .cons (Rz.wide hO p'.1 h) (RzA.wide hO p'.2 r)
end
theorem RzA.length : ∀ {vs : List V} {ds : List D}, RzA K O b H vs ds → vs.length = ds.length
  | _, _, .nil => rfl
  | _, _, .cons _ r => congrArg (· + 1) (RzA.length r)
theorem RzA.at : ∀ {vs : List V} {ds : List D} {i : Nat} {d : D}, RzA K O b H vs ds → ds[i]? = some d → ∃ v, vs[i]? = some v ∧ Rz K O b H v d
  | _, _, _, _, .nil, e => by simp at e
  | _, _, 0, _, .cons h _, e => by
    simp at e; subst e
    exact ⟨_, rfl, h⟩
  | _, _, i + 1, _, .cons _ r, e => by
    obtain ⟨v, h1, h2⟩ := RzA.at (i := i) r (by simpa using e)
    exact ⟨v, by simpa using h1, h2⟩
theorem RzA.atV : ∀ {vs : List V} {ds : List D} {i : Nat} {v : V}, RzA K O b H vs ds → vs[i]? = some v → ∃ d, ds[i]? = some d ∧ Rz K O b H v d
  | _, _, _, _, .nil, e => by simp at e
  | _, _, 0, _, .cons h _, e => by
    simp at e; subst e
    exact ⟨_, rfl, h⟩
  | _, _, i + 1, _, .cons _ r, e => by
    obtain ⟨v, h1, h2⟩ := RzA.atV (i := i) r (by simpa using e)
    exact ⟨v, by simpa using h1, h2⟩
theorem RzA.append : ∀ {vs ws : List V} {ds es : List D}, RzA K O b H vs ds → RzA K O b H ws es → RzA K O b H (vs ++ ws) (ds ++ es)
  | _, _, _, _, .nil, s => s
  | _, _, _, _, .cons h r, s => .cons h (RzA.append r s)
theorem RzA.take : ∀ {vs : List V} {ds : List D} (n : Nat), RzA K O b H vs ds → RzA K O b H (vs.take n) (ds.take n)
  | _, _, 0, _ => .nil
  | _, _, _ + 1, .nil => .nil
  | _, _, n + 1, .cons h r => .cons h (RzA.take n r)
theorem RzA.drop : ∀ {vs : List V} {ds : List D} (n : Nat), RzA K O b H vs ds → RzA K O b H (vs.drop n) (ds.drop n)
  | _, _, 0, h => h
  | _, _, _ + 1, .nil => .nil
  | _, _, n + 1, .cons _ r => RzA.drop n r
theorem RzA.set : ∀ {vs : List V} {ds : List D} {v : V} {d : D} (n : Nat), RzA K O b H vs ds → Rz K O b H v d → RzA K O b H (vs.set n v) (ds.set n d)
  | _, _, _, _, _, .nil, _ => .nil
  | _, _, _, _, 0, .cons _ r, h => .cons h r
  | _, _, _, _, n + 1, .cons h r, h' => .cons h (RzA.set n r h')
theorem RzA.erase : ∀ {vs : List V} {ds : List D} (n : Nat), RzA K O b H vs ds → RzA K O b H (vs.eraseIdx n) (ds.eraseIdx n)
  | _, _, _, .nil => .nil
  | _, _, 0, .cons _ r => r
  | _, _, n + 1, .cons h r => .cons h (RzA.erase n r)
theorem RzA.reverse {vs : List V} {ds : List D} (h : RzA K O b H vs ds) : RzA K O b H vs.reverse ds.reverse := by
  induction h using RzA.rec (motive_1 := fun _ _ _ => True) with
  | non => trivial
  | bl => trivial
  | int => trivial
  | str => trivial
  | box => trivial
  | lst => trivial
  | tup => trivial
  | nil => exact .nil
  | cons h r _ ih =>
    rw [List.reverse_cons, List.reverse_cons]
    exact ih.append (.cons h .nil)
mutual
theorem Rz.dp : ∀ {v : V} {d : D}, d.plain = true → Rz K O b H v d → Dp K H v d.py
  | _, _, _, .non => .non
  | _, _, _, .bl x => .bl x
  | _, _, _, .int i => .int i
  | _, _, _, .str x => .str x
  | _, _, p, .box => by cases p
  | _, _, p, .lst h _ r => .lst (SqL.of h) (RzA.dp p r)
  | _, _, p, .tup h r => .tup h.sq (RzA.dp p r)
theorem RzA.dp : ∀ {vs : List V} {ds : List D}, D.plains ds = true → RzA K O b H vs ds → DpAll K H vs (D.pys ds)
  | _, _, _, .nil => .nil
  | _ :: _, d :: ds, p, .cons h r => by
    have p' : (d.plain && D.plains ds) = true := p
    rw [Bool.and_eq_true] at p'
    exact .cons (Rz.dp p'.1 h) (RzA.dp p'.2 r)
end
end
end Ip

set_option Elab.async false
set_option linter.all false
set_option maxRecDepth 100000
set_option maxHeartbeats 2000000
set_option autoImplicit false
/-! Ip2: frames, what an expression's value is, the canonical readings -/
namespace Ip
open PySem L2

/-- a name of a frame: nothing known, data that no one changes, a list of its own, a list of its own that is being walked -/
inductive Slot where
  | non | fz (d : D) | ow (d : D) | lk (d : D)
abbrev Rho := List Slot
/-- an expression's value: data, a new list, one of the frame's own lists -/
inductive Res where
  | fz (d : D) | ow (d : D) | bw (i : Nat)
def Slot.data : Slot → Option D
  | .non => none
  | .fz d => some d
  | .ow d => some d
  | .lk d => some d
def slotAt (ρ : Rho) (i : Nat) : Slot := match ρ[i]? with
  | some s => s
  | none => .non
def Res.data (ρ : Rho) : Res → Option D
  | .fz d => some d
  | .ow d => some d
  | .bw i => (slotAt ρ i).data
abbrev WE := Rho → (Res → Rho → Prop) → Prop
abbrev WT := Rho → (Bool → Rho → Prop) → Prop
abbrev WA := Rho → (List D → Rho → Prop) → Prop
def need {α : Type} (o : Option α) (k : α → Prop) : Prop := match o with
  | some a => k a
  | none => False
theorem need_some {α : Type} {a : α} {k : α → Prop} : need (some a) k = k a := rfl
theorem need_none {α : Type} {k : α → Prop} : need none k = False := rfl
theorem need_of {α : Type} {o : Option α} {k : α → Prop} (h : need o k) : ∃ a, o = some a ∧ k a := by
  cases o with
  | none => exact h.elim
  | some a => exact ⟨a, rfl, h⟩

structure Fr where
  O0 : ASet
  b : Addr
  c : Addr
  H0 : Hp
  /-- values that are held by a loop -/
  E : List (V × D)
  /-- own lists that are walked: the slot, the place, what it holds -/
  L : List (Nat × Addr × D)
  /-- lists that a comprehension makes -/
  P : List (Addr × HO)
abbrev Own := Nat → Option Addr
def Fr.av (F : Fr) (own : Own) : ASet := fun a => F.O0 a ∨ (∃ i, own i = some a) ∨ ∃ o, (a, o) ∈ F.P
/-- an object that changes bears data -/
def Cn (K : Frag) (O : ASet) (b : Addr) (H : Hp) : HO → D → Prop
  | .lst xs, .lst ds => RzA K O b H xs ds
  | _, _ => False
/-- the content at a -/
def Ct (K : Frag) (O : ASet) (b : Addr) (H : Hp) (a : Addr) (d : D) : Prop := ∃ o, H a = some o ∧ Cn K O b H o d
abbrev BoxPred := Addr → Addr → Hp → Prop
structure BoxGood (B : BoxPred) : Prop where
  st : ∀ {b c H H'}, B b c H → H' b = H b → H' c = H c → B b c H'
  lb : ∀ {b c H}, B b c H → ∃ xs, H b = some (.lst xs)
  lc : ∀ {b c H}, B b c H → ∃ xs, H c = some (.lst xs)

theorem Cn.ntup {K : Frag} {O : ASet} {b : Addr} {H : Hp} {o : HO} {d : D} (h : Cn K O b H o d) : ∀ xs, o ≠ .tup xs := fun xs e => by
  subst e
  cases d <;> exact h
theorem Cn.kept {K : Frag} {O O' : ASet} {b : Addr} {H H' : Hp} {o : HO} {d : D} (k : Kept O H O' H') (h : Cn K O b H o d) : Cn K O' b H' o d := by
  cases o <;> cases d <;> first | exact RzA.kept k h | exact h.elim
structure Rel (K : Frag) (B : BoxPred) (F : Fr) (own : Own) (ρ : Rho) (σ : L2.St) (H : Hp) : Prop where
  hb : F.O0 F.b
  hc : F.O0 F.c
  good : BoxGood B
  box : B F.b F.c H
  there : ∀ a, F.O0 a → ∃ o, F.H0 a = some o ∧ ∀ xs, o ≠ .tup xs
  base : ∀ a o, a ≠ F.b → a ≠ F.c → F.H0 a = some o → H a = some o
  fresh : ∀ (i : Nat) (a : Addr), own i = some a → F.H0 a = none
  inj : ∀ (i j : Nat) (a : Addr), own i = some a → own j = some a → i = j
  dom : ∀ (i : Nat) (a : Addr), own i = some a → ∃ d : D, ρ[i]? = some (Slot.ow d) ∨ ρ[i]? = some (Slot.lk d)
  fz : ∀ (i : Nat) (d : D), ρ[i]? = some (Slot.fz d) → ∃ v, σ[i]? = some (some v) ∧ Rz K (F.av own) F.b H v d
  ow : ∀ (i : Nat) (d : D), (ρ[i]? = some (Slot.ow d) ∨ ρ[i]? = some (Slot.lk d)) → ∃ a, own i = some a ∧ σ[i]? = some (some (.ref a)) ∧ Ct K (F.av own) F.b H a d
  len : ρ.length = σ.length
  ex : ∀ p ∈ F.E, Rz K (F.av own) F.b H p.1 p.2
  lks : ∀ p ∈ F.L, own p.1 = some p.2.1 ∧ ρ[p.1]? = some (Slot.lk p.2.2)
  pv : ∀ p ∈ F.P, F.H0 p.1 = none ∧ H p.1 = some p.2 ∧ ∀ xs, p.2 ≠ .tup xs
  pvo : ∀ p ∈ F.P, ∀ i, own i ≠ some p.1
  pvn : (F.P.map Prod.fst).Nodup

section
variable {K : Frag} {B : BoxPred} {F : Fr} {own own' : Own} {ρ ρ' : Rho} {σ : L2.St} {H H' : Hp}
theorem Rel.nt (R : Rel K B F own ρ σ H) {a : Addr} (h : F.av own a) : ∃ o, H a = some o ∧ ∀ xs, o ≠ .tup xs := by
  rcases h with h | ⟨i, h⟩ | ⟨xs, h⟩
  · by_cases hb : a = F.b
    · obtain ⟨xs, e⟩ := R.good.lb R.box
      subst hb
      exact ⟨_, e, fun xs z => by cases z⟩
    · by_cases hc : a = F.c
      · obtain ⟨xs, e⟩ := R.good.lc R.box
        subst hc
        exact ⟨_, e, fun xs z => by cases z⟩
      · obtain ⟨o, e, n⟩ := R.there a h
        exact ⟨o, R.base a o hb hc e, n⟩
  · obtain ⟨d, hd⟩ := R.dom i a h
    obtain ⟨a', e, _, c⟩ := R.ow i d hd
    rw [h] at e
    cases e
    obtain ⟨o, e, c⟩ := c
    exact ⟨o, e, c.ntup⟩
  · exact ⟨_, (R.pv _ h).2⟩
theorem Rel.nav (R : Rel K B F own ρ σ H) {p : Addr} (h : H p = none) : ¬ F.av own p := fun z => by
  obtain ⟨o, e, _⟩ := R.nt z
  rw [h] at e; cases e
theorem Rel.ntup (R : Rel K B F own ρ σ H) : ∀ a xs, F.av own a → H a ≠ some (.tup xs) := fun a xs h e => by
  obtain ⟨o, e', n⟩ := R.nt h
  rw [e] at e'
  cases e'
  exact n _ rfl

def addP (F : Fr) (a : Addr) (o : HO) : Fr := { F with P := (a, o) :: F.P }
/-- what an expression's value is, as long as it is held -/
def Rw (K : Frag) (F : Fr) (own : Own) (σ : L2.St) (H : Hp) (v : V) : Res → Prop
  | .fz d => Rz K (F.av own) F.b H v d
  | .ow d => Rz K (F.av own) F.b H v d
  | .bw i => σ[i]? = some (some v)
/-- .. when it comes: a new list is nowhere else -/
def Rs (K : Frag) (B : BoxPred) (F : Fr) (own : Own) (ρ : Rho) (σ : L2.St) (H : Hp) (v : V) : Res → Prop
  | .fz d => Rz K (F.av own) F.b H v d
  | .ow d => ∃ a o, v = .ref a ∧ Rel K B (addP F a o) own ρ σ H ∧ Cn K ((addP F a o).av own) F.b H o d
  | .bw i => σ[i]? = some (some v)
theorem Kept.add {O O' : ASet} {a : Addr} (k : Kept O H O' H') : Kept (fun x => O x ∨ x = a) H (fun x => O' x ∨ x = a) H' :=
  ⟨fun _ h => h.elim (fun z => .inl (k.sub _ z)) .inr, fun x o h n => k.st x o h fun z => n (.inl z), k.dom⟩
theorem Ct.kept {O O' : ASet} {b a : Addr} {d : D} (k : Kept O H O' H') (ha : ∀ o, H a = some o → H' a = some o) (h : Ct K O b H a d) : Ct K O' b H' a d := by
  obtain ⟨o, e, c⟩ := h
  exact ⟨o, ha _ e, c.kept k⟩
theorem Rw.kept {v : V} {r : Res} (k : Kept (F.av own) H (F.av own') H') (h : Rw K F own σ H v r) : Rw K F own' σ H' v r := by
  cases r with
  | fz d => exact Rz.kept k h
  | ow d => exact Rz.kept k h
  | bw i => exact h
theorem av_addP {a : Addr} {o : HO} {x : Addr} : (Ip.addP F a o).av own x ↔ F.av own x ∨ x = a := by
  constructor
  · rintro (h | h | ⟨ys, h⟩)
    · exact .inl (.inl h)
    · exact .inl (.inr (.inl h))
    · rcases List.mem_cons.mp h with e | h
      · cases e; exact .inr rfl
      · exact .inl (.inr (.inr ⟨ys, h⟩))
  · rintro ((h | h | ⟨ys, h⟩) | rfl)
    · exact .inl h
    · exact .inr (.inl h)
    · exact .inr (.inr ⟨ys, List.mem_cons_of_mem _ h⟩)
    · exact .inr (.inr ⟨o, List.mem_cons_self⟩)
theorem av_addP_eq {a : Addr} {o : HO} : (Ip.addP F a o).av own = fun x => F.av own x ∨ x = a := funext fun _ => propext av_addP
/-- a private object is no longer private -/
theorem Rel.dropP {p : Addr} {o : HO} (R : Rel K B (Ip.addP F p o) own ρ σ H) : Rel K B F own ρ σ H ∧ H p = some o ∧ F.H0 p = none ∧ ¬ F.av own p := by
  have hk : Kept ((Ip.addP F p o).av own) H (F.av own) H := ⟨fun x z => av_addP.mpr (.inl z), fun _ _ e _ => e, fun _ e => e⟩
  obtain ⟨h0, hp, _⟩ := R.pv _ List.mem_cons_self
  have h0 : F.H0 p = none := h0
  refine ⟨{ R with
    fz := fun i d e => by
      obtain ⟨v, e2, z⟩ := R.fz i d e
      exact ⟨v, e2, z.kept hk⟩
    ow := fun i d e => by
      obtain ⟨a, e1, e2, c⟩ := R.ow i d e
      exact ⟨a, e1, e2, c.kept hk fun _ z => z⟩
    ex := fun q hq => (R.ex q hq).kept hk
    pv := fun q hq => R.pv q (List.mem_cons_of_mem _ hq)
    pvo := fun q hq => R.pvo q (List.mem_cons_of_mem _ hq)
    pvn := (List.nodup_cons.mp R.pvn).2 }, hp, h0, fun z => ?_⟩
  rcases z with z | ⟨i, z⟩ | ⟨ys, z⟩
  · obtain ⟨o, e, _⟩ := R.there p z
    have e : F.H0 p = some o := e
    rw [h0] at e; cases e
  · exact R.pvo _ List.mem_cons_self i z
  · have n : (p :: F.P.map Prod.fst).Nodup := R.pvn
    exact (List.nodup_cons.mp n).1 (List.mem_map.mpr ⟨_, z, rfl⟩)
theorem Cn.rz {O : ASet} {b a : Addr} {o : HO} {d : D} (e : H a = some o) (n : ¬ O a) (c : Cn K O b H o d) : Rz K O b H (.ref a) d := by
  cases o <;> cases d <;> first | exact .lst e n c | exact c.elim
theorem Rs.w {v : V} {r : Res} (h : Rs K B F own ρ σ H v r) : Rw K F own σ H v r := by
  cases r with
  | fz d => exact h
  | ow d =>
    obtain ⟨a, o, rfl, R, c⟩ := h
    obtain ⟨_, e, _, n⟩ := R.dropP
    exact Cn.rz e n (c.kept ⟨fun x z => av_addP.mpr (.inl z), fun _ _ e _ => e, fun _ e => e⟩)
  | bw i => exact h
/-- a value seen from outside: a list's items -/
def Vw (K : Frag) (O : ASet) (b : Addr) (H : Hp) (v : V) : D → Prop
  | .lst ds => ∃ a xs, v = .ref a ∧ H a = some (.lst xs) ∧ RzA K O b H xs ds
  | d => Rz K O b H v d
theorem Rz.vw {O : ASet} {b : Addr} {v : V} {d : D} (h : Rz K O b H v d) : Vw K O b H v d := by
  cases h with
  | lst e n r => exact ⟨_, _, rfl, e, r⟩
  | non => exact .non
  | bl x => exact .bl x
  | int i => exact .int i
  | str x => exact .str x
  | box => exact .box
  | tup e r => exact .tup e r
theorem kept_less {O O' : ASet} (h : ∀ a, O' a → O a) : Kept O H O' H := ⟨h, fun _ _ e _ => e, fun _ e => e⟩
theorem upd_none {H : Hp} {p a : Addr} {o : HO} (h : upd H p o a = none) : H a = none := by
  unfold upd at h
  by_cases e : a = p
  · rw [if_pos e] at h; cases h
  · rw [if_neg e] at h; exact h
theorem Vw.rz0 {O : ASet} {b : Addr} {v : V} {d : D} (h : Vw K O b H v d) : Rz K (fun _ => False) b H v d := by
  cases d with
  | lst ds =>
    obtain ⟨a, xs, rfl, e, r⟩ := h
    exact .lst e (fun z => z) (r.kept (kept_less fun _ z => z.elim))
  | _ => exact Rz.kept (kept_less fun _ z => z.elim) h
theorem Cn.vw {O : ASet} {b a : Addr} {o : HO} {d : D} (e : H a = some o) (c : Cn K O b H o d) : Vw K O b H (.ref a) d := by
  cases o <;> cases d <;> first | exact ⟨_, _, rfl, e, c⟩ | exact c.elim
theorem Rel.view (R : Rel K B F own ρ σ H) {v : V} {r : Res} {d : D} (h : Rw K F own σ H v r) (e : r.data ρ = some d) : Vw K (F.av own) F.b H v d := by
  cases r with
  | fz d' =>
    cases e
    exact Rz.vw h
  | ow d' =>
    cases e
    exact Rz.vw h
  | bw i =>
    have h : σ[i]? = some (some v) := h
    have e : (slotAt ρ i).data = some d := e
    unfold slotAt at e
    cases q : ρ[i]? with
    | none => rw [q] at e; cases e
    | some s =>
      rw [q] at e
      have own_ : ∀ d, s = .ow d ∨ s = .lk d → Vw K (F.av own) F.b H v d := fun d hs => by
        obtain ⟨a, _, e2, o, eo, c⟩ := R.ow i d (hs.elim (fun z => .inl (by rw [q, z])) fun z => .inr (by rw [q, z]))
        rw [h] at e2
        cases e2
        exact c.vw eo
      cases s with
      | non => cases e
      | fz d' =>
        cases e
        obtain ⟨v', e2, r⟩ := R.fz i d q
        rw [h] at e2
        cases e2
        exact r.vw
      | ow d' =>
        cases e
        exact own_ d (.inl rfl)
      | lk d' =>
        cases e
        exact own_ d (.inr rfl)
/-- a new object -/
theorem Kept.new {O : ASet} {p : Addr} {o : HO} (h : H p = none) : Kept O H O (upd H p o) := ⟨fun _ z => z, fun a u e _ => by rw [upd_ne (ne_of_none e h)]; exact e, fun _ => upd_none⟩
theorem Rel.new (R : Rel K B F own ρ σ H) {p : Addr} {o : HO} (h : H p = none) : Rel K B F own ρ σ (upd H p o) := by
  have hk : Kept (F.av own) H (F.av own) (upd H p o) := Kept.new h
  have hbp : ∀ {a}, F.av own a → a ≠ p := fun {a} z e => R.nav h (e ▸ z)
  exact { R with
    box := R.good.st R.box (upd_ne (hbp (.inl R.hb))) (upd_ne (hbp (.inl R.hc)))
    base := fun a u x y e => by rw [upd_ne (ne_of_none (R.base a u x y e) h)]; exact R.base a u x y e
    fz := fun i d e => by
      obtain ⟨v, e2, r⟩ := R.fz i d e
      exact ⟨v, e2, r.kept hk⟩
    ow := fun i d e => by
      obtain ⟨a, e1, e2, c⟩ := R.ow i d e
      exact ⟨a, e1, e2, c.kept hk fun u q => by rw [upd_ne (ne_of_none q h)]; exact q⟩
    ex := fun p hp => (R.ex p hp).kept hk
    pv := fun p hp => ⟨(R.pv p hp).1, by rw [upd_ne (ne_of_none (R.pv p hp).2.1 h)]; exact (R.pv p hp).2.1, (R.pv p hp).2.2⟩ }
theorem Rel.free0 (R : Rel K B F own ρ σ H) {p : Addr} (h : H p = none) : F.H0 p = none := by
  cases q : F.H0 p with
  | none => rfl
  | some o =>
    have hb : p ≠ F.b := fun z => R.nav h (.inl (by rw [z]; exact R.hb))
    have hc : p ≠ F.c := fun z => R.nav h (.inl (by rw [z]; exact R.hc))
    rw [R.base p o hb hc q] at h
    cases h
theorem Cn.more {O : ASet} {b p : Addr} {o : HO} {d : D} (hp : H p = none) (h : Cn K O b H o d) : Cn K (fun x => O x ∨ x = p) b H o d := by
  cases o <;> cases d <;> first | exact RzA.more hp h | exact h.elim
/-- an object that was not there when all was known: nothing bears it -/
theorem Rel.born (R : Rel K B F own ρ σ H) (R' : Rel K B F own ρ σ H') {a : Addr} {o : HO} (ha : H a = none) (k : Kept (F.av own) H (F.av own) H') (ko : ∀ i x, own i = some x → H' x = H x) (ea : H' a = some o) (nt : ∀ xs, o ≠ .tup xs) : Rel K B (Ip.addP F a o) own ρ σ H' := by
  have hk : Kept (fun x => F.av own x ∨ x = a) H ((Ip.addP F a o).av own) H' := by
    rw [av_addP_eq]
    exact k.add
  exact { R' with
    fz := fun i d e => by
      obtain ⟨v, e2, z⟩ := R.fz i d e
      exact ⟨v, e2, (Rz.more ha z).kept hk⟩
    ow := fun i d e => by
      obtain ⟨x, e1, e2, u, eu, c⟩ := R.ow i d e
      exact ⟨x, e1, e2, u, by rw [ko i x e1]; exact eu, (Cn.more ha c).kept hk⟩
    ex := fun q hq => (Rz.more ha (R.ex q hq)).kept hk
    pv := fun q hq => by
      rcases List.mem_cons.mp hq with rfl | hq
      · exact ⟨R.free0 ha, ea, nt⟩
      · exact R'.pv q hq
    pvo := fun q hq i e => by
      rcases List.mem_cons.mp hq with rfl | hq
      · exact R.nav ha (.inr (.inl ⟨i, e⟩))
      · exact R.pvo q hq i e
    pvn := by
      show (a :: F.P.map Prod.fst).Nodup
      refine List.nodup_cons.mpr ⟨fun hm => ?_, R.pvn⟩
      obtain ⟨q, hq, e⟩ := List.mem_map.mp hm
      have := (R.pv q hq).2.1
      rw [e, ha] at this
      cases this }
theorem own_upd (R : Rel K B F own ρ σ H) {p : Addr} {o : HO} (h : H p = none) : ∀ i x, own i = some x → upd H p o x = H x := fun i x e => upd_ne fun z => by
  obtain ⟨u, e2, _⟩ := R.nt (.inr (.inl ⟨i, e⟩))
  rw [z, h] at e2
  cases e2
theorem Rel.newL (R : Rel K B F own ρ σ H) {p : Addr} {xs : List V} {ds : List D} (h : H p = none) (r : RzA K (F.av own) F.b H xs ds) : Rs K B F own ρ σ (upd H p (.lst xs)) (.ref p) (.ow (.lst ds)) := by
  refine ⟨p, .lst xs, rfl, R.born (R.new h) h (Kept.new h) (own_upd R h) upd_same (fun _ z => by cases z), ?_⟩
  show RzA K ((Ip.addP F p (.lst xs)).av own) F.b _ xs ds
  rw [av_addP_eq]
  exact (RzA.more h r).kept (Kept.new h)
theorem Rel.newT (R : Rel K B F own ρ σ H) {p : Addr} {xs : List V} {ds : List D} (h : H p = none) (r : RzA K (F.av own) F.b H xs ds) : Rs K B F own ρ σ (upd H p (.tup xs)) (.ref p) (.fz (.tup ds)) :=
  .tup (.inl ⟨upd_same, R.nav h⟩) (r.kept (Kept.new h))

/-! ### the canonical readings -/
variable (K B)
def tE (w : WE) : TE := fun σ H Q => ∃ F own ρ P, Rel K B F own ρ σ H ∧ w ρ P ∧
  ∀ own' ρ' v r H', Rel K B F own' ρ' σ H' → Kept (F.av own) H (F.av own') H' → Rs K B F own' ρ' σ H' v r → P r ρ' → Q v H'
def tT (w : WT) : TT := fun σ H Q => ∃ F own ρ P, Rel K B F own ρ σ H ∧ w ρ P ∧
  ∀ own' ρ' k H', Rel K B F own' ρ' σ H' → Kept (F.av own) H (F.av own') H' → P k ρ' → Q k H'
/-- arguments: all frozen -/
def tA (w : WA) : TA := fun σ H Q => ∃ F own ρ P, Rel K B F own ρ σ H ∧ w ρ P ∧
  ∀ own' ρ' vs ds H', Rel K B F own' ρ' σ H' → Kept (F.av own) H (F.av own') H' → RzA K (F.av own') F.b H' vs ds → P ds ρ' → Q vs H'
end
section
variable {X : Cx} {e : Expr} {es : List Expr} {t t' : TE} {u u' : TT} {a a' : TA}
theorem peW (h : PE X e t) (i : ∀ σ H Q, t' σ H Q → t σ H Q) : PE X e t' := ⟨fun pins s σ H Q I q => h.run pins s σ H Q I (i σ H Q q)⟩
theorem ptW (h : PT X e u) (i : ∀ σ H Q, u' σ H Q → u σ H Q) : PT X e u' := ⟨fun pins s σ H Q I q => h.run pins s σ H Q I (i σ H Q q)⟩
theorem paW (h : PA X es a) (i : ∀ σ H Q, a' σ H Q → a σ H Q) : PA X es a' := ⟨fun pos pins s σ H Q I q => h.run pos pins s σ H Q I (i σ H Q q)⟩
end
/-- sizes, as every held heap keeps them -/
def Sz (H : Hp) : Prop := ∀ a xs, (H a = some (.lst xs) ∨ H a = some (.tup xs)) → xs.length ≤ sizeLine
theorem Inv.sz_ {X : Cx} {pins : List (Addr × Obj)} {σ : L2.St} {H : Hp} {s : Shared} (I : L2.Inv X pins σ H s) : Sz H := fun a xs h => by
  rcases h with h | h
  · exact (show ObjOk X.prog X.w H s.heap a (.lst xs) from I.hok a _ h).1
  · exact (show ObjOk X.prog X.w H s.heap a (.tup xs) from I.hok a _ h).1
theorem peSz {X : Cx} {e : Expr} {t : TE} (h : PE X e t) : PE X e (fun σ H Q => Sz H → t σ H Q) := ⟨fun pins s σ H Q I q => h.run pins s σ H Q I (q (Inv.sz_ I))⟩
end Ip

set_option Elab.async false
set_option linter.all false
set_option maxRecDepth 100000
set_option maxHeartbeats 2000000
set_option autoImplicit false
/-! Ip3: names, constants, operators, tests -/
namespace Ip
open PySem L2
abbrev lim : Nat := 10000000
theorem lim_line : lim ≤ sizeLine := by rw [sizeLine_eq]; decide

/-! ### what the operators make of data -/
def addD : D → D → Option Res
  | .int i, .int j => some (.fz (.int (i + j)))
  | .str x, .str y => if x.length + y.length ≤ lim then some (.fz (.str (x ++ y))) else none
  | .tup xs, .tup ys => if xs.length + ys.length ≤ lim then some (.fz (.tup (xs ++ ys))) else none
  | .lst xs, .lst ys => if xs.length + ys.length ≤ lim then some (.ow (.lst (xs ++ ys))) else none
  | _, _ => none
def subD : D → D → Option Res
  | .int i, .int j => some (.fz (.int (i - j)))
  | _, _ => none
def small (i : Int) : Prop := -1000000000000000000000 ≤ i ∧ i ≤ 1000000000000000000000
instance (i : Int) : Decidable (small i) := inferInstanceAs (Decidable (_ ∧ _))
def mulD : D → D → Option Res
  | .int i, .int j => if small i ∧ small j then some (.fz (.int (i * j))) else none
  | _, _ => none
def fdivD : D → D → Option Res
  | .int i, .int j => if 0 < j ∧ small j then some (.fz (.int (i / j))) else none
  | _, _ => none
def modD : D → D → Option Res
  | .int i, .int j => if 0 < j then some (.fz (.int (i % j))) else none
  | _, _ => none
def binD : Operator → D → D → Option Res
  | .Add => addD
  | .Sub => subD
  | .Mult => mulD
  | .FloorDiv => fdivD
  | .Mod => modD
  | _ => fun _ _ => none
def negD : D → Option Res
  | .int i => some (.fz (.int (-i)))
  | _ => none
def D.eqv (x y : D) : Bool := PyData.eqv x.py y.py
def eqD (x y : D) : Option Bool := if x.ok && y.ok then some (x.eqv y) else none
def neD (x y : D) : Option Bool := if x.ok && y.ok then some (!x.eqv y) else none
def intsOf : List D → Option (List Int)
  | [] => some []
  | .int i :: r => (intsOf r).map (i :: ·)
  | _ :: _ => none
def ltD : D → D → Option Bool
  | .int i, .int j => some (decide (i < j))
  | .str x, .str y => some (decide (x.cps.toList < y.cps.toList))
  | .tup xs, .tup ys => match intsOf xs, intsOf ys with
    | some ns, some ms => some (HT.lexLt ns ms)
    | _, _ => none
  | _, _ => none
def leD : D → D → Option Bool
  | .int i, .int j => some (decide (i ≤ j))
  | _, _ => none
def gtD : D → D → Option Bool
  | .int i, .int j => some (decide (j < i))
  | _, _ => none
def geD : D → D → Option Bool
  | .int i, .int j => some (decide (j ≤ i))
  | _, _ => none
def isNon : D → Bool
  | .non => true
  | _ => false
def isD : D → D → Option Bool
  | x, .non => some (isNon x)
  | .bl a, .bl b => some (decide (a = b))
  | _, _ => none
def itemsOf : D → Option (List D)
  | .tup ds => some ds
  | .lst ds => some ds
  | _ => none
def inD (x y : D) : Option Bool := match y with
  | .str t => match x with
    | .str s => some (!(Builtin.Str.occurrences t s 0 t.length 1).isEmpty)
    | _ => none
  | _ => match itemsOf y with
    | some ds => if x.ok && y.ok then some (ds.any fun z => z.eqv x) else none
    | none => none
def notD (o : Option Bool) : Option Bool := match o with
  | some b => some (!b)
  | none => none
def cmpD : CmpOp → D → D → Option Bool
  | .Eq => eqD
  | .NotEq => neD
  | .Lt => ltD
  | .LtE => leD
  | .Gt => gtD
  | .GtE => geD
  | .Is => isD
  | .IsNot => fun x y => notD (isD x y)
  | .In => inD
  | .NotIn => fun x y => notD (inD x y)
def cmpR (op : CmpOp) (x y : D) : Option Res := match cmpD op x y with
  | some b => some (.fz (.bl b))
  | none => none
def truthD : D → Option Bool
  | .non => some false
  | .bl b => some b
  | .int i => some (i != 0)
  | .str s => if s.length ≤ lim then some ((s.length : Int) != 0) else none
  | .tup ds => some (!ds.isEmpty)
  | .lst ds => some (!ds.isEmpty)
  | _ => none

/-! ### the combinators -/
def wLit (d : D) : WE := fun ρ P => P (.fz d) ρ
def wVar (i : Nat) : WE := fun ρ P => match slotAt ρ i with
  | .fz d => P (.fz d) ρ
  | .ow _ => P (.bw i) ρ
  | .lk _ => P (.bw i) ρ
  | .non => False
def w2 (f : D → D → Option Res) (wa wb : WE) : WE := fun ρ P => wa ρ fun ra ρ1 => wb ρ1 fun rb ρ2 => need (ra.data ρ2) fun x => need (rb.data ρ2) fun y => need (f x y) fun r => P r ρ2
def w1 (f : D → Option Res) (wa : WE) : WE := fun ρ P => wa ρ fun ra ρ1 => need (ra.data ρ1) fun x => need (f x) fun r => P r ρ1
def wTest (w : WE) : WT := fun ρ P => w ρ fun r ρ1 => need (r.data ρ1) fun d => need (truthD d) fun k => P k ρ1
def wCmpT (f : CmpOp) (wa wb : WE) : WT := fun ρ P => wa ρ fun ra ρ1 => wb ρ1 fun rb ρ2 => need (ra.data ρ2) fun x => need (rb.data ρ2) fun y => need (cmpD f x y) fun k => P k ρ2
def wChain (f f' : CmpOp) (wa wb wc : WE) : WT := fun ρ P => wa ρ fun ra ρ1 => wb ρ1 fun rb ρ2 => need (ra.data ρ2) fun x => need (rb.data ρ2) fun y => need (cmpD f x y) fun k =>
  if k = true then wc ρ2 fun rc ρ3 => need (rb.data ρ3) fun y => need (rc.data ρ3) fun z => need (cmpD f' y z) fun k' => P k' ρ3 else P false ρ2
/-- a test's answer as a value -/
def wOfT (t : WT) : WE := fun ρ P => t ρ fun k ρ1 => P (.fz (.bl k)) ρ1
def asBl : D → Option Bool
  | .bl b => some b
  | _ => none
def wAnd (wa wb : WE) : WE := fun ρ P => wa ρ fun ra ρ1 => need (ra.data ρ1) fun d => need (asBl d) fun k => if k = true then wb ρ1 P else P (.fz (.bl false)) ρ1
def wOr (wa wb : WE) : WE := fun ρ P => wa ρ fun ra ρ1 => need (ra.data ρ1) fun d => need (asBl d) fun k => if k = true then P (.fz (.bl true)) ρ1 else wb ρ1 P
def wAndT (ta tb : WT) : WT := fun ρ P => ta ρ fun k ρ1 => if k = true then tb ρ1 P else P false ρ1
def wOrT (ta tb : WT) : WT := fun ρ P => ta ρ fun k ρ1 => if k = true then P true ρ1 else tb ρ1 P
def wNotT (ta : WT) : WT := fun ρ P => ta ρ fun k ρ1 => P (!k) ρ1
def wNot (wa : WE) : WE := fun ρ P => wa ρ fun ra ρ1 => need (ra.data ρ1) fun d => need (asBl d) fun k => P (.fz (.bl (!k))) ρ1
def wIf (t : WT) (wa wb : WE) : WE := fun ρ P => t ρ fun k ρ1 => if k = true then wa ρ1 P else wb ρ1 P

/-! ### soundness -/
/-- a two-place reading does what f says -/
def Op2 (K : Frag) (B : BoxPred) (r : R2) (f : D → D → Option Res) : Prop := ∀ (F : Fr) (own : Own) (ρ : Rho) (σ : L2.St) (H : Hp) (x y : V) (dx dy : D) (res : Res) (Q : VK), Rel K B F own ρ σ H → Sz H →
  Vw K (F.av own) F.b H x dx → Vw K (F.av own) F.b H y dy → f dx dy = some res →
  (∀ v H', Rel K B F own ρ σ H' → Kept (F.av own) H (F.av own) H' → Rs K B F own ρ σ H' v res → Q v H') → r x y H Q
/-- .. a comparison -/
def OpB (K : Frag) (B : BoxPred) (r : R2) (f : D → D → Option Bool) : Prop := ∀ (F : Fr) (own : Own) (ρ : Rho) (σ : L2.St) (H : Hp) (x y : V) (dx dy : D) (k : Bool) (Q : VK), Rel K B F own ρ σ H → Sz H →
  Vw K (F.av own) F.b H x dx → Vw K (F.av own) F.b H y dy → f dx dy = some k → Q (.bl k) H → r x y H Q
def Op1 (K : Frag) (B : BoxPred) (r : V → Hp → VK → Prop) (f : D → Option Res) : Prop := ∀ (F : Fr) (own : Own) (ρ : Rho) (σ : L2.St) (H : Hp) (x : V) (dx : D) (res : Res) (Q : VK), Rel K B F own ρ σ H → Sz H →
  Vw K (F.av own) F.b H x dx → f dx = some res →
  (∀ v H', Rel K B F own ρ σ H' → Kept (F.av own) H (F.av own) H' → Rs K B F own ρ σ H' v res → Q v H') → r x H Q
/-- sizes may be used at an operator -/
def szR (r : R2) : R2 := fun x y H Q => Sz H → r x y H Q
def szU (r : V → Hp → VK → Prop) : V → Hp → VK → Prop := fun x H Q => Sz H → r x H Q
section
variable {X : Cx} {B : BoxPred} {a b c : Expr} {es : List Expr} {wa wb wc : WE} {ta tb : WT} {pos : Pos}
theorem opSz {f : Value → Value → Sem Value} {r : R2} (h : OpR X f r) : OpR X f (szR r) := fun pins s σ H x y v u Q I rx ry q => h pins s σ H x y v u Q I rx ry (q (Inv.sz_ I))
theorem unSz {f : Value → Sem Value} {r : V → Hp → VK → Prop} (h : UnR X f r) : UnR X f (szU r) := fun pins s σ H x v Q I rx q => h pins s σ H x v Q I rx (q (Inv.sz_ I))
theorem ixSz {r : R2} (h : IxR X r) : IxR X (szR r) := fun va sl pins s σ H x y v u Q I rx ry q => h va sl pins s σ H x y v u Q I rx ry (q (Inv.sz_ I))

theorem sVar {i : Nat} {x : Str} (hN : X.N[i]? = some x) (hv : Vis X.env.scope x) (hd : (x == ("__debug__" : Str)) = false) (hcd : (x == ("__classdict__" : Str)) = false) : PE X (.Name x pos) (tE X.K B (wVar i)) :=
  peW (pe_var hN hv hd hcd) fun σ H Q h => by
    obtain ⟨F, own, ρ, P, R, w, k⟩ := h
    unfold wVar slotAt at w
    cases q : ρ[i]? with
    | none => rw [q] at w; exact w.elim
    | some s =>
      rw [q] at w
      cases s with
      | non => exact w.elim
      | fz d =>
        obtain ⟨v, e, r⟩ := R.fz i d q
        exact ⟨v, e, k own ρ v (.fz d) H R Kept.refl r w⟩
      | ow d =>
        obtain ⟨a, _, e, _⟩ := R.ow i d (.inl q)
        exact ⟨_, e, k own ρ _ (.bw i) H R Kept.refl e w⟩
      | lk d =>
        obtain ⟨a, _, e, _⟩ := R.ow i d (.inr q)
        exact ⟨_, e, k own ρ _ (.bw i) H R Kept.refl e w⟩
theorem sLit {e : Expr} {v : V} {d : D} (h : PE X e (tC v)) (hv : ∀ (O : ASet) (b : Addr) (H : Hp), Rz X.K O b H v d) : PE X e (tE X.K B (wLit d)) :=
  peW h fun σ H Q h => by
    obtain ⟨F, own, ρ, P, R, w, k⟩ := h
    exact k own ρ v (.fz d) H R Kept.refl (hv _ _ _) w
theorem red2 {r : R2} {f : D → D → Option Res} (h : Op2 X.K B r f) : ∀ σ H Q, tE X.K B (w2 f wa wb) σ H Q → tOp (szR r) (tE X.K B wa) (tE X.K B wb) σ H Q := by
  rintro σ H Q ⟨F, own, ρ, P, R, w, k⟩
  refine ⟨F, own, ρ, _, R, w, fun own1 ρ1 x ra H1 R1 k1 s1 w1 => ⟨F, own1, ρ1, _, R1, w1, fun own2 ρ2 y rb H2 R2 k2 s2 w2 hz => ?_⟩⟩
  obtain ⟨dx, e1, w3⟩ := need_of w2
  obtain ⟨dy, e2, w4⟩ := need_of w3
  obtain ⟨r, e3, w5⟩ := need_of w4
  exact h F own2 ρ2 σ H2 x y dx dy r Q R2 hz (R2.view (s1.w.kept k2) e1) (R2.view s2.w e2) e3 fun v H' R' k' s' => k own2 ρ2 v r H' R' ((k1.trans k2).trans k') s' w5
theorem OpB.op2 {r : R2} {op : CmpOp} (h : OpB X.K B r (cmpD op)) : Op2 X.K B r (cmpR op) := fun F own ρ σ H x y dx dy res Q R hz hx hy e q => by
  unfold cmpR at e
  cases q' : cmpD op dx dy with
  | none => rw [q'] at e; cases e
  | some k =>
    rw [q'] at e
    cases e
    exact h F own ρ σ H x y dx dy k Q R hz hx hy q' (q _ _ R Kept.refl (.bl k))
theorem sBin {op : Operator} {r : R2} {f : D → D → Option Res} (ho : OpR X (binaryOp op) r) (h : Op2 X.K B r f) (ha : PE X a (tE X.K B wa)) (hb : PE X b (tE X.K B wb)) : PE X (.BinOp a op b pos) (tE X.K B (w2 f wa wb)) :=
  peW (pe_op (opSz ho) ha hb) (red2 h)
theorem sCmp {op : CmpOp} {r : R2} (ho : OpR X (compareOp op) r) (hm : behindInMarks op b = false) (h : OpB X.K B r (cmpD op)) (ha : PE X a (tE X.K B wa)) (hb : PE X b (tE X.K B wb)) : PE X (.Compare a [op] [b] pos) (tE X.K B (w2 (cmpR op) wa wb)) :=
  peW (pe_cmpR (opSz ho) ha hb hm) (red2 h.op2)
theorem sIx {r : R2} {f : D → D → Option Res} (ho : IxR X r) (hs : PlainIx b) (h : Op2 X.K B r f) (ha : PE X a (tE X.K B wa)) (hb : PE X b (tE X.K B wb)) : PE X (.Subscript a b pos) (tE X.K B (w2 f wa wb)) :=
  peW (pe_ix (ixSz ho) ha hb hs) (red2 h)
theorem sUn {op : UnaryOp} {r : V → Hp → VK → Prop} {f : D → Option Res} (ho : UnR X (unaryOp op) r) (h : Op1 X.K B r f) (ha : PE X a (tE X.K B wa)) : PE X (.UnaryOp op a pos) (tE X.K B (w1 f wa)) :=
  peW (pe_un (unSz ho) ha) fun σ H Q h' => by
    obtain ⟨F, own, ρ, P, R, w, k⟩ := h'
    refine ⟨F, own, ρ, _, R, w, fun own1 ρ1 x ra H1 R1 k1 s1 w1 hz => ?_⟩
    obtain ⟨dx, e1, w3⟩ := need_of w1
    obtain ⟨r, e3, w5⟩ := need_of w3
    exact h F own1 ρ1 σ H1 x dx r Q R1 hz (R1.view s1.w e1) e3 fun v H' R' k' s' => k own1 ρ1 v r H' R' (k1.trans k') s' w5
/-- a comparison as a test -/
theorem sCmpT {op : CmpOp} {r : R2} (ho : OpR X (compareOp op) r) (hm : behindInMarks op b = false) (h : OpB X.K B r (cmpD op)) (ha : PE X a (tE X.K B wa)) (hb : PE X b (tE X.K B wb)) : PT X (.Compare a [op] [b] pos) (tT X.K B (wCmpT op wa wb)) :=
  ptW (pt_cmpR (opSz ho) ha hb hm) fun σ H Q h' => by
    obtain ⟨F, own, ρ, P, R, w, k⟩ := h'
    refine ⟨F, own, ρ, _, R, w, fun own1 ρ1 x ra H1 R1 k1 s1 w1 => ⟨F, own1, ρ1, _, R1, w1, fun own2 ρ2 y rb H2 R2 k2 s2 w2 hz => ?_⟩⟩
    obtain ⟨dx, e1, w3⟩ := need_of w2
    obtain ⟨dy, e2, w4⟩ := need_of w3
    obtain ⟨b', e3, w5⟩ := need_of w4
    exact h F own2 ρ2 σ H2 x y dx dy b' _ R2 hz (R2.view (s1.w.kept k2) e1) (R2.view s2.w e2) e3 ⟨b', rfl, k own2 ρ2 b' H2 R2 (k1.trans k2) w5⟩
end
end Ip

set_option Elab.async false
set_option linter.all false
set_option maxRecDepth 100000
set_option maxHeartbeats 2000000
set_option autoImplicit false
/-! Ip4: chains, and, or, not, if, displays, lists of operands -/
namespace Ip
open PySem L2

/-! ### operands, one after another -/
abbrev WO := Rho → (List Res → Rho → Prop) → Prop
def wNil : WO := fun ρ P => P [] ρ
def wCons (w : WE) (ws : WO) : WO := fun ρ P => w ρ fun r ρ1 => ws ρ1 fun rs ρ2 => P (r :: rs) ρ2
/-- a value is handed on: a list of the frame's own is frozen -/
def frz1 (ρ : Rho) : Res → Option (D × Rho)
  | .fz d => some (d, ρ)
  | .ow d => some (d, ρ)
  | .bw i => match slotAt ρ i with
    | .fz d => some (d, ρ)
    | .ow d => some (d, ρ.set i (.fz d))
    | _ => none
def frzAll (ρ : Rho) : List Res → Option (List D × Rho)
  | [] => some ([], ρ)
  | r :: rs => match frz1 ρ r with
    | some (d, ρ1) => match frzAll ρ1 rs with
      | some (ds, ρ2) => some (d :: ds, ρ2)
      | none => none
    | none => none
def dataAll (ρ : Rho) : List Res → Option (List D)
  | [] => some []
  | r :: rs => match r.data ρ with
    | some d => match dataAll ρ rs with
      | some ds => some (d :: ds)
      | none => none
    | none => none
def wTup (ws : WO) : WE := fun ρ P => ws ρ fun rs ρ1 => need (frzAll ρ1 rs) fun q => q.1.length ≤ lim ∧ P (.fz (.tup q.1)) q.2
def wLst (ws : WO) : WE := fun ρ P => ws ρ fun rs ρ1 => need (frzAll ρ1 rs) fun q => q.1.length ≤ lim ∧ P (.ow (.lst q.1)) q.2
def RsA (K : Frag) (F : Fr) (own : Own) (σ : L2.St) (H : Hp) : List V → List Res → Prop
  | [], [] => True
  | v :: vs, r :: rs => Rw K F own σ H v r ∧ RsA K F own σ H vs rs
  | _, _ => False
section
variable {K : Frag} {B : BoxPred} {F : Fr} {own own' : Own} {ρ ρ' : Rho} {σ : L2.St} {H H' : Hp}
theorem RsA.kept (k : Kept (F.av own) H (F.av own') H') : ∀ {vs : List V} {rs : List Res}, RsA K F own σ H vs rs → RsA K F own' σ H' vs rs
  | [], [], _ => True.intro
  | _ :: _, _ :: _, ⟨a, b⟩ => ⟨a.kept k, RsA.kept k b⟩
  | [], _ :: _, h => h.elim
  | _ :: _, [], h => h.elim
/-- views of all operands -/
def VwA (K : Frag) (O : ASet) (b : Addr) (H : Hp) : List V → List D → Prop
  | [], [] => True
  | v :: vs, d :: ds => Vw K O b H v d ∧ VwA K O b H vs ds
  | _, _ => False
theorem Rel.viewA (R : Rel K B F own ρ σ H) : ∀ {vs : List V} {rs : List Res} {ds : List D}, RsA K F own σ H vs rs → dataAll ρ rs = some ds → VwA K (F.av own) F.b H vs ds
  | [], [], _, _, e => by cases e; exact True.intro
  | v :: vs, r :: rs, ds, ⟨a, b⟩, e => by
    unfold dataAll at e
    cases q : r.data ρ with
    | none => rw [q] at e; cases e
    | some d =>
      rw [q] at e
      cases q2 : dataAll ρ rs with
      | none => rw [q2] at e; cases e
      | some ds' =>
        rw [q2] at e
        cases e
        exact ⟨R.view a q, R.viewA b q2⟩
  | [], _ :: _, _, h, _ => h.elim
  | _ :: _, [], _, h, _ => h.elim
theorem slot_of {ρ : Rho} {i : Nat} {s : Slot} (h : slotAt ρ i = s) (n : s ≠ .non) : ρ[i]? = some s := by
  unfold slotAt at h
  cases q : ρ[i]? with
  | none => rw [q] at h; exact absurd h.symm n
  | some t => rw [q] at h; exact congrArg some h
def dropO (own : Own) (i : Nat) : Own := fun j => if j = i then none else own j
theorem dropO_some {own : Own} {i j : Nat} {a : Addr} (h : dropO own i j = some a) : j ≠ i ∧ own j = some a := by
  unfold dropO at h
  by_cases q : j = i
  · rw [if_pos q] at h; cases h
  · rw [if_neg q] at h; exact ⟨q, h⟩
theorem dropO_ne {own : Own} {i j : Nat} (h : j ≠ i) : dropO own i j = own j := if_neg h
theorem av_less {F : Fr} {own own' : Own} (h : ∀ j a, own' j = some a → own j = some a) {x : Addr} (z : F.av own' x) : F.av own x := z.elim .inl fun z => z.elim (fun ⟨j, e⟩ => .inr (.inl ⟨j, h j x e⟩)) fun q => .inr (.inr q)
theorem av_drop {F : Fr} {own : Own} {i : Nat} {x : Addr} (z : F.av (dropO own i) x) : F.av own x := av_less (fun _ _ e => (dropO_some e).2) z
/-- an own list is frozen -/
theorem Rel.freeze (R : Rel K B F own ρ σ H) {i : Nat} {d : D} (h : ρ[i]? = some (.ow d)) : Rel K B F (dropO own i) (ρ.set i (.fz d)) σ H ∧ ∃ v, σ[i]? = some (some v) ∧ Rz K (F.av (dropO own i)) F.b H v d := by
  obtain ⟨a, ha, hs, c⟩ := R.ow i d (.inl h)
  have na : ¬ F.av (dropO own i) a := fun z => by
    rcases z with z | ⟨j, e⟩ | ⟨xs, z⟩
    · obtain ⟨o, e, _⟩ := R.there a z
      rw [R.fresh i a ha] at e; cases e
    · have q := dropO_some e
      exact q.1 (R.inj j i a q.2 ha)
    · exact R.pvo _ z i ha
  have hk : Kept (F.av own) H (F.av (dropO own i)) H := kept_less fun _ => av_drop
  have hi : i < ρ.length := (List.getElem?_eq_some_iff.mp h).1
  have rz : Rz K (F.av (dropO own i)) F.b H (.ref a) d := by
    obtain ⟨o, e, c⟩ := c
    exact (c.kept hk).rz e na
  refine ⟨?_, _, hs, rz⟩
  exact { R with
    fresh := fun j x e => R.fresh j x (dropO_some e).2
    inj := fun j l x e e2 => R.inj j l x (dropO_some e).2 (dropO_some e2).2
    dom := fun j x e => by
      obtain ⟨q, e⟩ := dropO_some e
      obtain ⟨d', hd⟩ := R.dom j x e
      exact ⟨d', by rw [List.getElem?_set_ne (Ne.symm q)]; exact hd⟩
    fz := fun j d' e => by
      by_cases q : j = i
      · subst q
        rw [List.getElem?_set_self hi] at e
        cases e
        exact ⟨_, hs, rz⟩
      · rw [List.getElem?_set_ne (Ne.symm q)] at e
        obtain ⟨v, e2, r⟩ := R.fz j d' e
        exact ⟨v, e2, r.kept hk⟩
    ow := fun j d' e => by
      by_cases q : j = i
      · subst q
        rw [List.getElem?_set_self hi] at e
        rcases e with e | e <;> cases e
      · rw [List.getElem?_set_ne (Ne.symm q)] at e
        obtain ⟨x, e1, e2, c⟩ := R.ow j d' e
        exact ⟨x, by rw [dropO_ne q]; exact e1, e2, c.kept hk fun _ z => z⟩
    len := by rw [List.length_set]; exact R.len
    ex := fun p hp => (R.ex p hp).kept hk
    lks := fun p hp => by
      obtain ⟨e1, e2⟩ := R.lks p hp
      have q : p.1 ≠ i := fun e => by
        rw [e, h] at e2
        cases e2
      exact ⟨by rw [dropO_ne q]; exact e1, by rw [List.getElem?_set_ne (Ne.symm q)]; exact e2⟩
    pvo := fun p hp j e => R.pvo p hp j (dropO_some e).2 }
/-- own', less than own -/
structure Less (own own' : Own) : Prop where
  sub : ∀ j a, own' j = some a → own j = some a
theorem Less.refl {own : Own} : Less own own := ⟨fun _ _ e => e⟩
theorem Less.trans {o o' o'' : Own} (a : Less o o') (b : Less o' o'') : Less o o'' := ⟨fun j x e => a.sub j x (b.sub j x e)⟩
theorem Less.kept {own own' : Own} {F : Fr} {H : Hp} (l : Less own own') : Kept (F.av own) H (F.av own') H := kept_less fun _ z => av_less l.sub z
theorem Rel.frz1 (R : Rel K B F own ρ σ H) {v : V} {r : Res} {d : D} {ρ' : Rho} (h : Rw K F own σ H v r) (e : frz1 ρ r = some (d, ρ')) : ∃ own', Rel K B F own' ρ' σ H ∧ Less own own' ∧ (∀ i, r = .bw i → own' i = none) ∧ Rz K (F.av own') F.b H v d := by
  cases r with
  | fz d' =>
    cases e
    exact ⟨own, R, Less.refl, fun _ z => (by cases z), h⟩
  | ow d' =>
    cases e
    exact ⟨own, R, Less.refl, fun _ z => (by cases z), h⟩
  | bw i =>
    have h : σ[i]? = some (some v) := h
    unfold Ip.frz1 at e
    cases q : slotAt ρ i with
    | non => simp only [q] at e; cases e
    | lk d' => simp only [q] at e; cases e
    | fz d' =>
      simp only [q] at e
      cases e
      have hs := slot_of q (by intro z; cases z)
      obtain ⟨v', e2, r⟩ := R.fz i d hs
      rw [h] at e2
      cases e2
      refine ⟨own, R, Less.refl, fun j z => ?_, r⟩
      cases z
      cases qo : own i with
      | none => rfl
      | some a =>
        obtain ⟨d2, hd⟩ := R.dom i a qo
        rw [hs] at hd
        rcases hd with hd | hd <;> cases hd
    | ow d' =>
      simp only [q] at e
      cases e
      obtain ⟨R', v', e2, r⟩ := R.freeze (slot_of q (by intro z; cases z))
      rw [h] at e2
      cases e2
      exact ⟨_, R', ⟨fun _ _ e => (dropO_some e).2⟩, fun j z => by cases z; exact if_pos rfl, r⟩
theorem Rel.frzAll : ∀ {rs : List Res} {own : Own} {ρ : Rho} (R : Rel K B F own ρ σ H) {vs : List V} {ds : List D} {ρ' : Rho} (h : RsA K F own σ H vs rs) (e : frzAll ρ rs = some (ds, ρ')),
    ∃ own', Rel K B F own' ρ' σ H ∧ Less own own' ∧ (∀ i, Res.bw i ∈ rs → own' i = none) ∧ RzA K (F.av own') F.b H vs ds
  | [], own, ρ, R, [], ds, ρ', _, e => by
    cases e
    exact ⟨own, R, Less.refl, fun _ z => (by cases z), .nil⟩
  | r :: rs, own, ρ, R, v :: vs, ds, ρ', ⟨a, b⟩, e => by
    unfold Ip.frzAll at e
    cases q : Ip.frz1 ρ r with
    | none => rw [q] at e; cases e
    | some p =>
      obtain ⟨d, ρ1⟩ := p
      simp only [q] at e
      cases q2 : Ip.frzAll ρ1 rs with
      | none => rw [q2] at e; cases e
      | some p2 =>
        obtain ⟨ds2, ρ2⟩ := p2
        simp only [q2] at e
        cases e
        obtain ⟨own1, R1, k1, n1, z1⟩ := R.frz1 a q
        obtain ⟨own2, R2, k2, n2, z2⟩ := Rel.frzAll R1 (b.kept k1.kept) q2
        refine ⟨own2, R2, k1.trans k2, fun i hi => ?_, .cons (z1.kept k2.kept) z2⟩
        rcases List.mem_cons.mp hi with e | hi
        · have h1 := n1 i e.symm
          cases q3 : own2 i with
          | none => rfl
          | some a => rw [k2.sub i a q3] at h1; cases h1
        · exact n2 i hi
  | [], _, _, _, _ :: _, _, _, h, _ => h.elim
  | _ :: _, _, _, _, [], _, _, h, _ => h.elim
variable (K B)
def tO (w : WO) : TA := fun σ H Q => ∃ F own ρ P, Rel K B F own ρ σ H ∧ w ρ P ∧
  ∀ own' ρ' vs rs H', Rel K B F own' ρ' σ H' → Kept (F.av own) H (F.av own') H' → RsA K F own' σ H' vs rs → P rs ρ' → Q vs H'
end

section
variable {X : Cx} {B : BoxPred} {a b c e : Expr} {es : List Expr} {wa wb wc w : WE} {ws : WO} {ta tb : WT} {pos : Pos}
theorem sNil : PA X [] (tO X.K B wNil) := paW pa_nil fun σ H Q h => by
  obtain ⟨F, own, ρ, P, R, w, k⟩ := h
  exact k own ρ [] [] H R Kept.refl True.intro w
theorem sCons (hs : starEach (e :: es) X.env = (false, eval e X.env) :: starEach es X.env) (ha : PE X e (tE X.K B w)) (hb : PA X es (tO X.K B ws)) : PA X (e :: es) (tO X.K B (wCons w ws)) :=
  paW (pa_cons ha hb hs) fun σ H Q h => by
    obtain ⟨F, own, ρ, P, R, w, k⟩ := h
    refine ⟨F, own, ρ, _, R, w, fun own1 ρ1 v r H1 R1 k1 s1 w1 => ⟨F, own1, ρ1, _, R1, w1, fun own2 ρ2 vs rs H2 R2 k2 s2 w2 => ?_⟩⟩
    exact k own2 ρ2 (v :: vs) (r :: rs) H2 R2 (k1.trans k2) ⟨s1.w.kept k2, s2⟩ w2
theorem sTup {x1 : Nat} (h : PA X es (tO X.K B ws)) : PE X (.Tuple es x1 pos) (tE X.K B (wTup ws)) :=
  peW (pe_tup h) fun σ H Q h => by
    obtain ⟨F, own, ρ, P, R, w, k⟩ := h
    refine ⟨F, own, ρ, _, R, w, fun own1 ρ1 vs rs H1 R1 k1 s1 w1 => ?_⟩
    obtain ⟨⟨ds, ρ2⟩, e, hl, w2⟩ := need_of w1
    obtain ⟨own2, R2, k2, _, z⟩ := R1.frzAll s1 e
    have hl : ds.length ≤ lim := hl
    refine ⟨by rw [z.length]; exact Nat.le_trans hl lim_line, fun p hp => ?_⟩
    exact k own2 ρ2 _ _ _ (R2.new hp) ((k1.trans k2.kept).trans (Kept.new hp)) (R2.newT hp z) w2
theorem sLst (h : PA X es (tO X.K B ws)) : PE X (.List es pos) (tE X.K B (wLst ws)) :=
  peW (pe_lst h) fun σ H Q h => by
    obtain ⟨F, own, ρ, P, R, w, k⟩ := h
    refine ⟨F, own, ρ, _, R, w, fun own1 ρ1 vs rs H1 R1 k1 s1 w1 => ?_⟩
    obtain ⟨⟨ds, ρ2⟩, e, hl, w2⟩ := need_of w1
    obtain ⟨own2, R2, k2, _, z⟩ := R1.frzAll s1 e
    have hl : ds.length ≤ lim := hl
    refine ⟨by rw [z.length]; exact Nat.le_trans hl lim_line, fun p hp => ?_⟩
    exact k own2 ρ2 _ _ _ (R2.new hp) ((k1.trans k2.kept).trans (Kept.new hp)) (R2.newL hp z) w2

/-! ### chains -/
theorem chainRed {op op' : CmpOp} {r r' : R2} (h : OpB X.K B r (cmpD op)) (h' : OpB X.K B r' (cmpD op')) {σ : L2.St} {H : Hp} {Q : VK} {P : Bool → Rho → Prop} {F : Fr} {own : Own} {ρ : Rho}
    (R : Rel X.K B F own ρ σ H) (w : wChain op op' wa wb wc ρ P) (k : ∀ own' ρ' b H', Rel X.K B F own' ρ' σ H' → Kept (F.av own) H (F.av own') H' → P b ρ' → Q (.bl b) H') :
    tChain (szR r) (szR r') (tE X.K B wa) (tE X.K B wb) (tE X.K B wc) σ H Q := by
  refine ⟨F, own, ρ, _, R, w, fun own1 ρ1 x ra H1 R1 k1 s1 w1 => ⟨F, own1, ρ1, _, R1, w1, fun own2 ρ2 y rb H2 R2 k2 s2 w2 hz => ?_⟩⟩
  obtain ⟨dx, e1, w3⟩ := need_of w2
  obtain ⟨dy, e2, w4⟩ := need_of w3
  obtain ⟨b', e3, w5⟩ := need_of w4
  refine h F own2 ρ2 σ H2 x y dx dy b' _ R2 hz (R2.view (s1.w.kept k2) e1) (R2.view s2.w e2) e3 ⟨b', rfl, ?_⟩
  cases b' with
  | false => exact k own2 ρ2 false H2 R2 (k1.trans k2) w5
  | true =>
    refine ⟨F, own2, ρ2, _, R2, w5, fun own3 ρ3 z rc H3 R3 k3 s3 w6 hz3 => ?_⟩
    obtain ⟨dy3, e4, w7⟩ := need_of w6
    obtain ⟨dz, e5, w8⟩ := need_of w7
    obtain ⟨b3, e6, w9⟩ := need_of w8
    exact h' F own3 ρ3 σ H3 y z dy3 dz b3 _ R3 hz3 (R3.view (s2.w.kept k3) e4) (R3.view s3.w e5) e6 (k own3 ρ3 b3 H3 R3 ((k1.trans k2).trans k3) w9)
theorem sChain {op op' : CmpOp} {r r' : R2} (ho : OpR X (compareOp op) r) (ho' : OpR X (compareOp op') r') (hm : lastMarks [op, op'] [b, c] = false) (h : OpB X.K B r (cmpD op)) (h' : OpB X.K B r' (cmpD op'))
    (ha : PE X a (tE X.K B wa)) (hb : PE X b (tE X.K B wb)) (hc : PE X c (tE X.K B wc)) : PE X (.Compare a [op, op'] [b, c] pos) (tE X.K B (wOfT (wChain op op' wa wb wc))) :=
  peW (pe_chain (opSz ho) (opSz ho') ha hb hc hm) fun σ H Q q => by
    obtain ⟨F, own, ρ, P, R, w, k⟩ := q
    exact chainRed h h' R w fun own' ρ' b H' R' k' p => k own' ρ' _ (.fz (.bl b)) H' R' k' (.bl b) p
theorem sChainT {op op' : CmpOp} {r r' : R2} (ho : OpR X (compareOp op) r) (ho' : OpR X (compareOp op') r') (hm : lastMarks [op, op'] [b, c] = false) (h : OpB X.K B r (cmpD op)) (h' : OpB X.K B r' (cmpD op'))
    (ha : PE X a (tE X.K B wa)) (hb : PE X b (tE X.K B wb)) (hc : PE X c (tE X.K B wc)) : PT X (.Compare a [op, op'] [b, c] pos) (tT X.K B (wChain op op' wa wb wc)) :=
  ptW (pt_chain (opSz ho) (opSz ho') ha hb hc hm) fun σ H Q q => by
    obtain ⟨F, own, ρ, P, R, w, k⟩ := q
    exact chainRed h h' R w fun own' ρ' b H' R' k' p => ⟨b, rfl, k own' ρ' b H' R' k' p⟩

/-! ### and, or, not, if -/
theorem vw_bl {K : Frag} {O : ASet} {b : Addr} {H : Hp} {v : V} {d : D} {k : Bool} (h : Vw K O b H v d) (e : asBl d = some k) : v = .bl k := by
  cases d with
  | bl k' =>
    cases e
    have h : Rz K O b H v (.bl k) := h
    cases h
    rfl
  | _ => cases e
theorem sAnd {rest : List Expr} (ha : PE X a (tE X.K B wa)) (hb : PE X (.BoolOp .And (b :: rest) pos) (tE X.K B wb)) : PE X (.BoolOp .And (a :: b :: rest) pos) (tE X.K B (wAnd wa wb)) :=
  peW (pe_and ha hb) fun σ H Q h => by
    obtain ⟨F, own, ρ, P, R, w, k⟩ := h
    refine ⟨F, own, ρ, _, R, w, fun own1 ρ1 v r H1 R1 k1 s1 w1 => ?_⟩
    obtain ⟨d, e1, w2⟩ := need_of w1
    obtain ⟨z, e2, w3⟩ := need_of w2
    refine ⟨z, vw_bl (R1.view s1.w e1) e2, ?_⟩
    cases z with
    | true => exact ⟨F, own1, ρ1, P, R1, w3, fun own2 ρ2 v2 r2 H2 R2 k2 s2 w4 => k own2 ρ2 v2 r2 H2 R2 (k1.trans k2) s2 w4⟩
    | false => exact k own1 ρ1 _ (.fz (.bl false)) H1 R1 k1 (.bl false) w3
theorem sOr {rest : List Expr} (ha : PE X a (tE X.K B wa)) (hb : PE X (.BoolOp .Or (b :: rest) pos) (tE X.K B wb)) : PE X (.BoolOp .Or (a :: b :: rest) pos) (tE X.K B (wOr wa wb)) :=
  peW (pe_or ha hb) fun σ H Q h => by
    obtain ⟨F, own, ρ, P, R, w, k⟩ := h
    refine ⟨F, own, ρ, _, R, w, fun own1 ρ1 v r H1 R1 k1 s1 w1 => ?_⟩
    obtain ⟨d, e1, w2⟩ := need_of w1
    obtain ⟨z, e2, w3⟩ := need_of w2
    refine ⟨z, vw_bl (R1.view s1.w e1) e2, ?_⟩
    cases z with
    | false => exact ⟨F, own1, ρ1, P, R1, w3, fun own2 ρ2 v2 r2 H2 R2 k2 s2 w4 => k own2 ρ2 v2 r2 H2 R2 (k1.trans k2) s2 w4⟩
    | true => exact k own1 ρ1 _ (.fz (.bl true)) H1 R1 k1 (.bl true) w3
theorem sNot (ha : PE X a (tE X.K B wa)) : PE X (.UnaryOp .Not a pos) (tE X.K B (wNot wa)) :=
  peW (pe_not ha) fun σ H Q h => by
    obtain ⟨F, own, ρ, P, R, w, k⟩ := h
    refine ⟨F, own, ρ, _, R, w, fun own1 ρ1 v r H1 R1 k1 s1 w1 => ?_⟩
    obtain ⟨d, e1, w2⟩ := need_of w1
    obtain ⟨z, e2, w3⟩ := need_of w2
    exact ⟨z, vw_bl (R1.view s1.w e1) e2, k own1 ρ1 _ (.fz (.bl (!z))) H1 R1 k1 (.bl _) w3⟩
theorem sIf (hc : PT X c (tT X.K B ta)) (ha : PE X a (tE X.K B wa)) (hb : PE X b (tE X.K B wb)) : PE X (.IfExp c a b pos) (tE X.K B (wIf ta wa wb)) :=
  peW (pe_ifExp hc ha hb) fun σ H Q h => by
    obtain ⟨F, own, ρ, P, R, w, k⟩ := h
    refine ⟨F, own, ρ, _, R, w, fun own1 ρ1 z H1 R1 k1 w1 => ?_⟩
    cases z with
    | true => exact ⟨F, own1, ρ1, P, R1, w1, fun own2 ρ2 v2 r2 H2 R2 k2 s2 w4 => k own2 ρ2 v2 r2 H2 R2 (k1.trans k2) s2 w4⟩
    | false => exact ⟨F, own1, ρ1, P, R1, w1, fun own2 ρ2 v2 r2 H2 R2 k2 s2 w4 => k own2 ρ2 v2 r2 H2 R2 (k1.trans k2) s2 w4⟩
/-! tests -/
theorem sAndT {rest : List Expr} (ha : PT X a (tT X.K B ta)) (hb : PW X (.BoolOp .And (b :: rest) pos) (tT X.K B tb)) : PW X (.BoolOp .And (a :: b :: rest) pos) (tT X.K B (wAndT ta tb)) :=
  ⟨fun whole pins s σ H Q I h => (pw_and ha hb).run whole pins s σ H Q I (by
    obtain ⟨F, own, ρ, P, R, w, k⟩ := h
    refine ⟨F, own, ρ, _, R, w, fun own1 ρ1 z H1 R1 k1 w1 => ?_⟩
    cases z with
    | true => exact ⟨F, own1, ρ1, P, R1, w1, fun own2 ρ2 v2 H2 R2 k2 w4 => k own2 ρ2 v2 H2 R2 (k1.trans k2) w4⟩
    | false => exact k own1 ρ1 false H1 R1 k1 w1)⟩
theorem sOrT {rest : List Expr} (ha : PT X a (tT X.K B ta)) (hb : PW X (.BoolOp .Or (b :: rest) pos) (tT X.K B tb)) : PW X (.BoolOp .Or (a :: b :: rest) pos) (tT X.K B (wOrT ta tb)) :=
  ⟨fun whole pins s σ H Q I h => (pw_or ha hb).run whole pins s σ H Q I (by
    obtain ⟨F, own, ρ, P, R, w, k⟩ := h
    refine ⟨F, own, ρ, _, R, w, fun own1 ρ1 z H1 R1 k1 w1 => ?_⟩
    cases z with
    | false => exact ⟨F, own1, ρ1, P, R1, w1, fun own2 ρ2 v2 H2 R2 k2 w4 => k own2 ρ2 v2 H2 R2 (k1.trans k2) w4⟩
    | true => exact k own1 ρ1 true H1 R1 k1 w1)⟩
theorem sNotT (ha : PT X a (tT X.K B ta)) : PT X (.UnaryOp .Not a pos) (tT X.K B (wNotT ta)) :=
  ptW (pt_not ha) fun σ H Q h => by
    obtain ⟨F, own, ρ, P, R, w, k⟩ := h
    exact ⟨F, own, ρ, _, R, w, fun own1 ρ1 z H1 R1 k1 w1 => k own1 ρ1 (!z) H1 R1 k1 w1⟩
theorem vw_truth {K : Frag} {O : ASet} {b : Addr} {H : Hp} {v : V} {d : D} {k : Bool} (h : Vw K O b H v d) (e : truthD d = some k) : TruV K v H k := by
  cases d with
  | lst ds =>
    obtain ⟨a, xs, rfl, e2, r⟩ := h
    cases e
    refine .inl ⟨xs, SqL.of e2, ?_⟩
    cases r <;> rfl
  | tup ds =>
    have h : Rz K O b H v (.tup ds) := h
    cases e
    cases h with
    | tup e2 r =>
      refine .inr (.inl ⟨_, e2.sq, ?_⟩)
      cases r <;> rfl
  | non =>
    have h : Rz K O b H v .non := h
    cases e; cases h; rfl
  | bl x =>
    have h : Rz K O b H v (.bl x) := h
    cases e; cases h; rfl
  | int i =>
    have h : Rz K O b H v (.int i) := h
    cases e; cases h; rfl
  | str s =>
    have h : Rz K O b H v (.str s) := h
    have e : (if s.length ≤ lim then some ((s.length : Int) != 0) else none) = some k := e
    by_cases hl : s.length ≤ lim
    · rw [if_pos hl] at e
      cases e; cases h
      exact ⟨Nat.le_trans hl lim_line, rfl⟩
    · rw [if_neg hl] at e; cases e
  | _ => cases e
theorem sTest (he : ∀ whole, isTrue a X.env whole = (do let v ← whole; standAt a.pos; holding [v] (truthy v))) (ha : PE X a (tE X.K B wa)) : PT X a (tT X.K B (wTest wa)) :=
  ptW (pt_truth ha he) fun σ H Q h => by
    obtain ⟨F, own, ρ, P, R, w, k⟩ := h
    refine ⟨F, own, ρ, _, R, w, fun own1 ρ1 v r H1 R1 k1 s1 w1 => ?_⟩
    obtain ⟨d, e1, w2⟩ := need_of w1
    obtain ⟨z, e2, w3⟩ := need_of w2
    exact ⟨z, vw_truth (R1.view s1.w e1) e2, k own1 ρ1 z H1 R1 k1 w3⟩
end
end Ip

set_option Elab.async false
set_option linter.all false
set_option maxRecDepth 100000
set_option maxHeartbeats 2000000
set_option autoImplicit false
/-! Ip5: the operators' readings, subscripts, slices -/
namespace Ip
open PySem L2

section
variable {K : Frag} {B : BoxPred}
theorem vw_int {O : ASet} {b : Addr} {H : Hp} {v : V} {i : Int} (h : Vw K O b H v (.int i)) : v = .int i := by
  have h : Rz K O b H v (.int i) := h
  cases h; rfl
theorem vw_str {O : ASet} {b : Addr} {H : Hp} {v : V} {i : Str} (h : Vw K O b H v (.str i)) : v = .str i := by
  have h : Rz K O b H v (.str i) := h
  cases h; rfl
theorem vw_bool {O : ASet} {b : Addr} {H : Hp} {v : V} {i : Bool} (h : Vw K O b H v (.bl i)) : v = .bl i := by
  have h : Rz K O b H v (.bl i) := h
  cases h; rfl
theorem vw_non {O : ASet} {b : Addr} {H : Hp} {v : V} (h : Vw K O b H v .non) : v = .non := by
  have h : Rz K O b H v .non := h
  cases h; rfl
theorem vw_tup {O : ASet} {b : Addr} {H : Hp} {v : V} {ds : List D} (h : Vw K O b H v (.tup ds)) : ∃ a xs, v = .ref a ∧ TupAt K O H a xs ∧ RzA K O b H xs ds := by
  have h : Rz K O b H v (.tup ds) := h
  cases h with
  | tup e r => exact ⟨_, _, rfl, e, r⟩
theorem nil_of {O : ASet} {b : Addr} {H : Hp} {xs : List V} (h : RzA K O b H xs []) : xs = [] := by
  cases h; rfl
theorem nil_iff {O : ASet} {b : Addr} {H : Hp} {xs : List V} {ds : List D} (h : RzA K O b H xs ds) : xs = [] ↔ ds = [] := by
  cases h with
  | nil => simp
  | cons _ _ => simp

def rAddAll (K : Frag) : R2 := fun x y H Q => (rI0 (fun i j => .int (i + j)) x y H Q) ∨ (∃ i j, x = .str i ∧ y = .str j ∧ i.length + j.length ≤ sizeLine ∧ Q (.str (i ++ j)) H) ∨ rCatA K x y H Q ∨ rCat x y H Q
theorem op_addAll {X : Cx} : OpR X (binaryOp .Add) (rAddAll X.K) := op_add.or (op_add_str.or (op_catA.or op_cat))
theorem addOk : Op2 K B (rAddAll K) addD := by
  intro F own ρ σ H x y dx dy res Q R hz hx hy e k
  cases dx with
  | int i =>
    cases dy with
    | int j =>
      cases e
      exact .inl ⟨i, j, vw_int hx, vw_int hy, k _ _ R Kept.refl (.int _)⟩
    | _ => cases e
  | str i =>
    cases dy with
    | str j =>
      have e : (if i.length + j.length ≤ lim then some (Res.fz (.str (i ++ j))) else none) = some res := e
      by_cases hl : i.length + j.length ≤ lim
      · rw [if_pos hl] at e
        cases e
        exact .inr (.inl ⟨i, j, vw_str hx, vw_str hy, Nat.le_trans hl lim_line, k _ _ R Kept.refl (.str _)⟩)
      · rw [if_neg hl] at e; cases e
    | _ => cases e
  | tup ds =>
    cases dy with
    | tup es =>
      have e : (if ds.length + es.length ≤ lim then some (Res.fz (.tup (ds ++ es))) else none) = some res := e
      by_cases hl : ds.length + es.length ≤ lim
      · rw [if_pos hl] at e
        cases e
        obtain ⟨a, xs, rfl, ta, ra⟩ := vw_tup hx
        obtain ⟨b, ys, rfl, tb, rb⟩ := vw_tup hy
        refine .inr (.inr (.inl ⟨a, b, xs, ys, rfl, rfl, ta.sq, tb.sq, ?_, fun h => ?_, fun h h2 => ?_, fun h h2 p hp => ?_⟩))
        · rw [ra.length, rb.length]; exact Nat.le_trans hl lim_line
        · have hd := (nil_iff ra).mp h
          subst hd
          exact k _ _ R Kept.refl (.tup tb rb)
        · have hd := (nil_iff rb).mp h2
          subst hd
          refine k _ _ R Kept.refl ?_
          rw [List.append_nil]
          exact .tup ta ra
        · exact k _ _ (R.new hp) (Kept.new hp) (R.newT hp (ra.append rb))
      · rw [if_neg hl] at e; cases e
    | _ => cases e
  | lst ds =>
    cases dy with
    | lst es =>
      have e : (if ds.length + es.length ≤ lim then some (Res.ow (.lst (ds ++ es))) else none) = some res := e
      by_cases hl : ds.length + es.length ≤ lim
      · rw [if_pos hl] at e
        cases e
        obtain ⟨a, xs, rfl, ta, ra⟩ := hx
        obtain ⟨b, ys, rfl, tb, rb⟩ := hy
        refine .inr (.inr (.inr ⟨a, b, xs, ys, rfl, rfl, ta, tb, ?_, fun p hp => ?_⟩))
        · rw [ra.length, rb.length]; exact Nat.le_trans hl lim_line
        · exact k _ _ (R.new hp) (Kept.new hp) (R.newL hp (ra.append rb))
      · rw [if_neg hl] at e; cases e
    | _ => cases e
  | _ => cases e
theorem subOk : Op2 K B (rI0 fun i j => .int (i - j)) subD := by
  intro F own ρ σ H x y dx dy res Q R hz hx hy e k
  cases dx with
  | int i =>
    cases dy with
    | int j =>
      cases e
      exact ⟨i, j, vw_int hx, vw_int hy, k _ _ R Kept.refl (.int _)⟩
    | _ => cases e
  | _ => cases e
theorem small_abs {i : Int} (h : small i) : i.natAbs < 2 ^ 70 := by
  have e : (2 : Nat) ^ 70 = 1180591620717411303424 := by decide
  rw [e]
  unfold small at h
  omega
theorem mulOk : Op2 K B (rI CMulW fun i j => .int (i * j)) mulD := by
  intro F own ρ σ H x y dx dy res Q R hz hx hy e k
  cases dx with
  | int i =>
    cases dy with
    | int j =>
      have e : (if small i ∧ small j then some (Res.fz (.int (i * j))) else none) = some res := e
      by_cases hl : small i ∧ small j
      · rw [if_pos hl] at e
        cases e
        exact ⟨i, j, vw_int hx, vw_int hy, wide_mul (small_abs hl.1) (small_abs hl.2) (by decide) (by decide) (by decide), k _ _ R Kept.refl (.int _)⟩
      · rw [if_neg hl] at e; cases e
    | _ => cases e
  | _ => cases e
theorem fdivOk : Op2 K B (rI CDivW fun i j => .int (i / j)) fdivD := by
  intro F own ρ σ H x y dx dy res Q R hz hx hy e k
  cases dx with
  | int i =>
    cases dy with
    | int j =>
      have e : (if 0 < j ∧ small j then some (Res.fz (.int (i / j))) else none) = some res := e
      by_cases hl : 0 < j ∧ small j
      · rw [if_pos hl] at e
        cases e
        exact ⟨i, j, vw_int hx, vw_int hy, wide_div hl.1 (small_abs hl.2) (by decide) (by decide), k _ _ R Kept.refl (.int _)⟩
      · rw [if_neg hl] at e; cases e
    | _ => cases e
  | _ => cases e
theorem modOk : Op2 K B (rI (fun _ j => 0 < j) fun i j => .int (i % j)) modD := by
  intro F own ρ σ H x y dx dy res Q R hz hx hy e k
  cases dx with
  | int i =>
    cases dy with
    | int j =>
      have e : (if 0 < j then some (Res.fz (.int (i % j))) else none) = some res := e
      by_cases hl : 0 < j
      · rw [if_pos hl] at e
        cases e
        exact ⟨i, j, vw_int hx, vw_int hy, hl, k _ _ R Kept.refl (.int _)⟩
      · rw [if_neg hl] at e; cases e
    | _ => cases e
  | _ => cases e
theorem negOk : Op1 K B (rU fun i => .int (-i)) negD := by
  intro F own ρ σ H x dx res Q R hz hx e k
  cases dx with
  | int i =>
    cases e
    exact ⟨i, vw_int hx, k _ _ R Kept.refl (.int _)⟩
  | _ => cases e
/-- all binary operators at once -/
def binR (K : Frag) : Operator → R2
  | .Add => rAddAll K
  | .Sub => rI0 fun i j => .int (i - j)
  | .Mult => rI CMulW fun i j => .int (i * j)
  | .FloorDiv => rI CDivW fun i j => .int (i / j)
  | .Mod => rI (fun _ j => 0 < j) fun i j => .int (i % j)
  | _ => fun _ _ _ _ => False
theorem op_bin {X : Cx} : ∀ op, OpR X (binaryOp op) (binR X.K op) := fun op => by
  cases op with
  | Add => exact op_addAll
  | Sub => exact op_sub
  | Mult => exact op_mulW
  | FloorDiv => exact op_fdivW
  | Mod => exact op_mod
  | _ => exact fun _ _ _ _ _ _ _ _ _ _ _ _ h => h.elim
theorem binOk : ∀ op, Op2 K B (binR K op) (binD op) := fun op => by
  cases op with
  | Add => exact addOk
  | Sub => exact subOk
  | Mult => exact mulOk
  | FloorDiv => exact fdivOk
  | Mod => exact modOk
  | _ => exact fun _ _ _ _ _ _ _ _ _ _ _ _ _ _ _ e => by cases e

/-! ### comparisons -/
theorem Dp0 {O : ASet} {b : Addr} {H : Hp} {v : V} {d : D} (h : Vw K O b H v d) (p : d.plain = true) : Dp K H v d.py := (Vw.rz0 h).dp p
theorem ok_plain {d : D} (h : d.ok = true) : d.plain = true := by
  unfold D.ok at h
  rw [Bool.and_eq_true] at h
  exact h.1
theorem and_of {a b : Bool} (h : (a && b) = true) : a = true ∧ b = true := by
  rw [Bool.and_eq_true] at h
  exact h
theorem eqOk : OpB K B (rEqD K) eqD := by
  intro F own ρ σ H x y dx dy k Q R hz hx hy e q
  unfold eqD at e
  by_cases h : (dx.ok && dy.ok) = true
  · rw [if_pos h] at e
    cases e
    obtain ⟨h1, h2⟩ := and_of h
    exact ⟨_, _, Dp0 hx (ok_plain h1), Dp0 hy (ok_plain h2), D.ok_shaped h1, D.ok_shaped h2, q⟩
  · rw [if_neg h] at e; cases e
theorem neOk : OpB K B (rNeD K) neD := by
  intro F own ρ σ H x y dx dy k Q R hz hx hy e q
  unfold neD at e
  by_cases h : (dx.ok && dy.ok) = true
  · rw [if_pos h] at e
    cases e
    obtain ⟨h1, h2⟩ := and_of h
    exact ⟨_, _, Dp0 hx (ok_plain h1), Dp0 hy (ok_plain h2), D.ok_shaped h1, D.ok_shaped h2, q⟩
  · rw [if_neg h] at e; cases e
theorem ints_rz {O : ASet} {b : Addr} {H : Hp} : ∀ {xs : List V} {ds : List D} {ns : List Int}, RzA K O b H xs ds → intsOf ds = some ns → xs = ns.map V.int
  | _, _, _, .nil, e => by cases e; rfl
  | _, _, ns, .cons (d := d) h r, e => by
    cases h with
    | int i =>
      unfold intsOf at e
      cases q : intsOf _ with
      | none => rw [q] at e; cases e
      | some ms =>
        rw [q] at e
        cases e
        rw [ints_rz r q]
        rfl
    | _ => cases e
def rLtAll (K : Frag) : R2 := fun x y H Q => (rI0 (fun i j => .bl (decide (i < j))) x y H Q) ∨ (∃ i j, x = .str i ∧ y = .str j ∧ Q (.bl (decide (i.cps.toList < j.cps.toList))) H) ∨ rLtT K x y H Q
theorem ltOk : OpB K B (rLtAll K) ltD := by
  intro F own ρ σ H x y dx dy k Q R hz hx hy e q
  cases dx with
  | int i =>
    cases dy with
    | int j =>
      cases e
      exact .inl ⟨i, j, vw_int hx, vw_int hy, q⟩
    | _ => cases e
  | str i =>
    cases dy with
    | str j =>
      cases e
      exact .inr (.inl ⟨i, j, vw_str hx, vw_str hy, q⟩)
    | _ => cases e
  | tup ds =>
    cases dy with
    | tup es =>
      have e : (match intsOf ds, intsOf es with
        | some ns, some ms => some (HT.lexLt ns ms)
        | _, _ => none) = some k := e
      cases q1 : intsOf ds with
      | none => rw [q1] at e; cases e
      | some ns =>
        cases q2 : intsOf es with
        | none => rw [q1, q2] at e; cases e
        | some ms =>
          rw [q1, q2] at e
          cases e
          obtain ⟨a, xs, rfl, ta, ra⟩ := vw_tup hx
          obtain ⟨b, ys, rfl, tb, rb⟩ := vw_tup hy
          have e1 := ints_rz ra q1
          have e2 := ints_rz rb q2
          subst e1 e2
          exact .inr (.inr ⟨a, b, ns, ms, rfl, rfl, ta.sq, tb.sq, q⟩)
    | _ => cases e
  | _ => cases e
theorem cmpI {g : Int → Int → Bool} {f : D → D → Option Bool} (h : ∀ i j, f (.int i) (.int j) = some (g i j)) (h2 : ∀ x y k, f x y = some k → (∃ i, x = .int i) ∧ ∃ j, y = .int j) : OpB K B (rI0 fun i j => .bl (g i j)) f := by
  intro F own ρ σ H x y dx dy k Q R hz hx hy e q
  obtain ⟨⟨i, rfl⟩, j, rfl⟩ := h2 _ _ _ e
  rw [h] at e
  cases e
  exact ⟨i, j, vw_int hx, vw_int hy, q⟩
theorem leOk : OpB K B (rI0 fun i j => .bl (decide (i ≤ j))) leD := cmpI (fun _ _ => rfl) fun x y k e => by
  cases x <;> cases y <;> first | exact ⟨⟨_, rfl⟩, _, rfl⟩ | cases e
theorem gtOk : OpB K B (rI0 fun i j => .bl (decide (j < i))) gtD := cmpI (fun _ _ => rfl) fun x y k e => by
  cases x <;> cases y <;> first | exact ⟨⟨_, rfl⟩, _, rfl⟩ | cases e
theorem geOk : OpB K B (rI0 fun i j => .bl (decide (j ≤ i))) geD := cmpI (fun _ _ => rfl) fun x y k e => by
  cases x <;> cases y <;> first | exact ⟨⟨_, rfl⟩, _, rfl⟩ | cases e
theorem vw_isNon {O : ASet} {b : Addr} {H : Hp} {v : V} {d : D} (h : Vw K O b H v d) : decide (v = .non) = isNon d := by
  cases d with
  | lst ds =>
    obtain ⟨a, xs, rfl, _⟩ := h
    rfl
  | dct _ _ =>
    have h : Rz K O b H v (.dct _ _) := h
    cases h
  | st _ =>
    have h : Rz K O b H v (.st _) := h
    cases h
  | non => rw [vw_non h]; rfl
  | bl x => rw [vw_bool h]; rfl
  | int x => rw [vw_int h]; rfl
  | str x => rw [vw_str h]; rfl
  | tup ds =>
    obtain ⟨a, xs, rfl, _⟩ := vw_tup h
    rfl
  | box =>
    have h : Rz K O b H v .box := h
    cases h
    rfl
def rIsAll : R2 := fun x y H Q => (y = .non ∧ Q (.bl (decide (x = .non))) H) ∨ (∃ a b, x = .bl a ∧ y = .bl b ∧ Q (.bl (decide (a = b))) H)
def rNotIsAll : R2 := fun x y H Q => (y = .non ∧ Q (.bl (!decide (x = .non))) H) ∨ (∃ a b, x = .bl a ∧ y = .bl b ∧ Q (.bl (!decide (a = b))) H)
theorem isD_inv {x y : D} {k : Bool} (h : isD x y = some k) : (y = .non ∧ k = isNon x) ∨ ∃ a b, x = .bl a ∧ y = .bl b ∧ k = decide (a = b) := by
  cases y with
  | non => cases x <;> (cases h; exact .inl ⟨rfl, rfl⟩)
  | bl b =>
    cases x with
    | bl a => cases h; exact .inr ⟨a, b, rfl, rfl, rfl⟩
    | _ => cases h
  | _ => cases x <;> cases h
theorem isOk : OpB K B rIsAll isD := by
  intro F own ρ σ H x y dx dy k Q R hz hx hy e q
  rcases isD_inv e with ⟨rfl, rfl⟩ | ⟨a, b, rfl, rfl, rfl⟩
  · exact .inl ⟨vw_non hy, by rw [vw_isNon hx]; exact q⟩
  · exact .inr ⟨a, b, vw_bool hx, vw_bool hy, q⟩
theorem notD_inv {o : Option Bool} {k : Bool} (h : notD o = some k) : o = some (!k) := by
  cases o with
  | none => cases h
  | some b =>
    cases h
    rw [Bool.not_not]
theorem isNotOk : OpB K B rNotIsAll (fun x y => notD (isD x y)) := by
  intro F own ρ σ H x y dx dy k Q R hz hx hy e q
  have e' := notD_inv e
  rcases isD_inv e' with ⟨rfl, h⟩ | ⟨a, b, rfl, rfl, h⟩
  · refine .inl ⟨vw_non hy, ?_⟩
    rw [vw_isNon hx, ← h, Bool.not_not]
    exact q
  · refine .inr ⟨a, b, vw_bool hx, vw_bool hy, ?_⟩
    rw [← h, Bool.not_not]
    exact q
/-- x in a list or a tuple of data -/
def rInC (K : Frag) : R2 := fun x y H Q => ∃ d c ds, Dp K H x d ∧ Dp K H y c ∧ (c = .list ds ∨ c = .tuple ds) ∧ SeqAt.shaped d = true ∧ SeqAt.shaped c = true ∧ Q (.bl (ds.any fun z => PyData.eqv z d)) H
def rNotInC (K : Frag) : R2 := fun x y H Q => ∃ d c ds, Dp K H x d ∧ Dp K H y c ∧ (c = .list ds ∨ c = .tuple ds) ∧ SeqAt.shaped d = true ∧ SeqAt.shaped c = true ∧ Q (.bl (!ds.any fun z => PyData.eqv z d)) H
theorem op_inC {X : Cx} (hu : X.A.units + 65 < cLine) : OpR X (compareOp .In) (rInC X.K) := by
  intro pins s σ H x y v u Q I rx ry h
  obtain ⟨d, c, ds, hd, he, hc, sd, se, q⟩ := h
  obtain ⟨as, r1⟩ := Dp.reads I d x v hd rx
  obtain ⟨bs, r2⟩ := Dp.reads I c y u he ry
  rcases hc with rfl | rfl
  · exact SeqAt.in_list_reads r2 r1 (SeqAt.canLay_of_shaped se) (SeqAt.canLay_of_shaped sd) (PyProof.Rows.room_in_shaped sd hu) ⟨.bl _, H, I, rfl, q⟩
  · exact SeqAt.in_tuple_reads r2 r1 (SeqAt.canLay_of_shaped se) (SeqAt.canLay_of_shaped sd) (PyProof.Rows.room_in_shaped sd hu) ⟨.bl _, H, I, rfl, q⟩
theorem op_notInC {X : Cx} (hu : X.A.units + 65 < cLine) : OpR X (compareOp .NotIn) (rNotInC X.K) := by
  intro pins s σ H x y v u Q I rx ry h
  obtain ⟨d, c, ds, hd, he, hc, sd, se, q⟩ := h
  obtain ⟨as, r1⟩ := Dp.reads I d x v hd rx
  obtain ⟨bs, r2⟩ := Dp.reads I c y u he ry
  rcases hc with rfl | rfl
  · exact SeqAt.notIn_list_reads r2 r1 (SeqAt.canLay_of_shaped se) (SeqAt.canLay_of_shaped sd) (PyProof.Rows.room_in_shaped sd hu) ⟨.bl _, H, I, rfl, q⟩
  · exact SeqAt.notIn_tuple_reads r2 r1 (SeqAt.canLay_of_shaped se) (SeqAt.canLay_of_shaped sd) (PyProof.Rows.room_in_shaped sd hu) ⟨.bl _, H, I, rfl, q⟩
def rInAll (K : Frag) : R2 := fun x y H Q => rInC K x y H Q ∨ (∃ i j, x = .str i ∧ y = .str j ∧ Q (.bl (!(Builtin.Str.occurrences j i 0 j.length 1).isEmpty)) H)
def rNotInAll (K : Frag) : R2 := fun x y H Q => rNotInC K x y H Q ∨ (∃ i j, x = .str i ∧ y = .str j ∧ Q (.bl (!(!(Builtin.Str.occurrences j i 0 j.length 1).isEmpty))) H)
theorem any_py (dx : D) : ∀ ds : List D, ((D.pys ds).any fun z => PyData.eqv z dx.py) = ds.any fun z => z.eqv dx
  | [] => rfl
  | d :: ds => by
    show (PyData.eqv d.py dx.py || (D.pys ds).any _) = _
    rw [any_py dx ds]
    rfl
theorem inD_inv {x y : D} {k : Bool} (h : inD x y = some k) : (∃ t s, y = .str t ∧ x = .str s ∧ k = !(Builtin.Str.occurrences t s 0 t.length 1).isEmpty) ∨
    ∃ ds, (y = .lst ds ∨ y = .tup ds) ∧ x.ok = true ∧ y.ok = true ∧ k = ds.any fun z => z.eqv x := by
  have fin : ∀ ds, (y = .lst ds ∨ y = .tup ds) → (if (x.ok && y.ok) = true then some (ds.any fun z => z.eqv x) else none) = some k → ∃ ds, (y = .lst ds ∨ y = .tup ds) ∧ x.ok = true ∧ y.ok = true ∧ k = ds.any fun z => z.eqv x := fun ds hy e => by
    by_cases q : (x.ok && y.ok) = true
    · rw [if_pos q] at e
      cases e
      exact ⟨ds, hy, (and_of q).1, (and_of q).2, rfl⟩
    · rw [if_neg q] at e; cases e
  cases y with
  | str t =>
    cases x with
    | str s => cases h; exact .inl ⟨t, s, rfl, rfl, rfl⟩
    | _ => cases h
  | lst ds => exact .inr (fin ds (.inl rfl) h)
  | tup ds => exact .inr (fin ds (.inr rfl) h)
  | _ => cases h
theorem inOk : OpB K B (rInAll K) inD := by
  intro F own ρ σ H x y dx dy k Q R hz hx hy e q
  rcases inD_inv e with ⟨t, s, rfl, rfl, rfl⟩ | ⟨ds, hd, o1, o2, rfl⟩
  · exact .inr ⟨s, t, vw_str hx, vw_str hy, q⟩
  · refine .inl ⟨dx.py, dy.py, D.pys ds, Dp0 hx (ok_plain o1), Dp0 hy (ok_plain o2), ?_, D.ok_shaped o1, D.ok_shaped o2, ?_⟩
    · rcases hd with rfl | rfl
      · exact .inl rfl
      · exact .inr rfl
    · rw [any_py]; exact q
theorem notInOk : OpB K B (rNotInAll K) (fun x y => notD (inD x y)) := by
  intro F own ρ σ H x y dx dy k Q R hz hx hy e q
  have e' := notD_inv e
  rcases inD_inv e' with ⟨t, s, rfl, rfl, h⟩ | ⟨ds, hd, o1, o2, h⟩
  · refine .inr ⟨s, t, vw_str hx, vw_str hy, ?_⟩
    rw [← h, Bool.not_not]
    exact q
  · refine .inl ⟨dx.py, dy.py, D.pys ds, Dp0 hx (ok_plain o1), Dp0 hy (ok_plain o2), ?_, D.ok_shaped o1, D.ok_shaped o2, ?_⟩
    · rcases hd with rfl | rfl
      · exact .inl rfl
      · exact .inr rfl
    · rw [any_py, ← h, Bool.not_not]; exact q
def cmpRd (K : Frag) : CmpOp → R2
  | .Eq => rEqD K
  | .NotEq => rNeD K
  | .Lt => rLtAll K
  | .LtE => rI0 fun i j => .bl (decide (i ≤ j))
  | .Gt => rI0 fun i j => .bl (decide (j < i))
  | .GtE => rI0 fun i j => .bl (decide (j ≤ i))
  | .Is => rIsAll
  | .IsNot => rNotIsAll
  | .In => rInAll K
  | .NotIn => rNotInAll K
theorem op_cmp {X : Cx} (hu : X.A.units + 65 < cLine) : ∀ op, OpR X (compareOp op) (cmpRd X.K op) := fun op => by
  cases op with
  | Eq => exact op_eqD (by omega)
  | NotEq => exact op_neD (by omega)
  | Lt => exact op_lt.or (op_lt_str.or (op_ltT (by omega)))
  | LtE => exact op_le
  | Gt => exact op_gt
  | GtE => exact op_ge
  | Is => exact op_isN.or op_is_bl
  | IsNot => exact op_notN.or op_isnot_bl
  | In => exact (op_inC hu).or op_in_str
  | NotIn => exact (op_notInC hu).or L2.op_notin_str
theorem cmpOk : ∀ op, OpB K B (cmpRd K op) (cmpD op) := fun op => by
  cases op with
  | Eq => exact eqOk
  | NotEq => exact neOk
  | Lt => exact ltOk
  | LtE => exact leOk
  | Gt => exact gtOk
  | GtE => exact geOk
  | Is => exact isOk
  | IsNot => exact isNotOk
  | In => exact inOk
  | NotIn => exact notInOk
end
end Ip

set_option Elab.async false
set_option linter.all false
set_option maxRecDepth 100000
set_option maxHeartbeats 2000000
set_option autoImplicit false
/-! Ip6: subscripts, slices -/
namespace Ip
open PySem L2

def idxD : D → D → Option Res
  | .lst ds, .int i => (atI ds i).map Res.fz
  | .tup ds, .int i => (atI ds i).map Res.fz
  | .str z, .int i => if z.length ≤ lim then (atI z.cps.toList i).map fun c => .fz (.str ⟨#[c]⟩) else none
  | _, _ => none
theorem atI_rz {K : Frag} {O : ASet} {b : Addr} {H : Hp} {xs : List V} {ds : List D} {i : Int} {d : D} (r : RzA K O b H xs ds) (h : atI ds i = some d) : ∃ v, atI xs i = some v ∧ Rz K O b H v d := by
  unfold atI at h ⊢
  rw [r.length]
  cases q : ixN ds.length i with
  | none => rw [q] at h; cases h
  | some j =>
    rw [q] at h
    exact r.at h
theorem idxOk {K : Frag} {B : BoxPred} : Op2 K B (rIx K) idxD := by
  intro F own ρ σ H x y dx dy res Q R hz hx hy e k
  cases dy with
  | int i =>
    have ey := vw_int hy
    cases dx with
    | lst ds =>
      have e : (atI ds i).map Res.fz = some res := e
      cases q : atI ds i with
      | none => rw [q] at e; cases e
      | some d =>
        rw [q] at e
        cases e
        obtain ⟨a, xs, rfl, ea, r⟩ := hx
        obtain ⟨v, hv, rv⟩ := atI_rz r q
        exact .inl ⟨a, xs, i, v, rfl, ey, SqL.of ea, hv, k _ _ R Kept.refl rv⟩
    | tup ds =>
      have e : (atI ds i).map Res.fz = some res := e
      cases q : atI ds i with
      | none => rw [q] at e; cases e
      | some d =>
        rw [q] at e
        cases e
        obtain ⟨a, xs, rfl, ea, r⟩ := vw_tup hx
        obtain ⟨v, hv, rv⟩ := atI_rz r q
        exact .inr (.inl ⟨a, xs, i, v, rfl, ey, ea.sq, hv, k _ _ R Kept.refl rv⟩)
    | str z =>
      have e : (if z.length ≤ lim then (atI z.cps.toList i).map fun c => Res.fz (.str ⟨#[c]⟩) else none) = some res := e
      by_cases hl : z.length ≤ lim
      · rw [if_pos hl] at e
        cases q : atI z.cps.toList i with
        | none => rw [q] at e; cases e
        | some c =>
          rw [q] at e
          cases e
          exact .inr (.inr ⟨z, i, c, vw_str hx, ey, Nat.le_trans hl lim_line, q, k _ _ R Kept.refl (.str _)⟩)
      · rw [if_neg hl] at e; cases e
    | _ => cases e
  | _ => cases dx <;> cases e
theorem plainIx {b : Expr} (h : ∀ l u p, b ≠ .Slice l u none p) : PlainIx b := fun o i => by
  cases b with
  | Slice l u st p =>
    cases st with
    | none => exact absurd rfl (h l u p)
    | some x => rfl
  | _ => rfl

/-! ### slices -/
abbrev WP := Rho → (Option Int → Rho → Prop) → Prop
def asInt : D → Option Int
  | .int i => some i
  | _ => none
def wNoPart : WP := fun ρ P => P none ρ
def wPart (w : WE) : WP := fun ρ P => w ρ fun r ρ1 => need (r.data ρ1) fun d => need (asInt d) fun i => P (some i) ρ1
def cutL {α : Type} (xs : List α) (lo hi : Option Int) : List α := (xs.drop (HT.sIx xs.length 0 lo)).take (HT.sIx xs.length xs.length hi - HT.sIx xs.length 0 lo)
def cutD (lo hi : Option Int) : D → Option Res
  | .lst ds => some (.ow (.lst (cutL ds lo hi)))
  | .tup ds => some (.fz (.tup (cutL ds lo hi)))
  | .str z => if z.length ≤ lim then some (.fz (.str (cutS z lo hi))) else none
  | _ => none
def wCut (w : WE) (pl pu : WP) : WE := fun ρ P => w ρ fun r ρ1 => pl ρ1 fun lo ρ2 => pu ρ2 fun hi ρ3 => need (r.data ρ3) fun d => need (cutD lo hi d) fun r' => P r' ρ3
theorem RzA.cut {K : Frag} {O : ASet} {b : Addr} {H : Hp} {xs : List V} {ds : List D} {lo hi : Option Int} (r : RzA K O b H xs ds) : RzA K O b H (cutV xs lo hi) (cutL ds lo hi) := by
  unfold cutV cutL
  rw [r.length]
  exact (r.drop _).take _
section
variable (K : Frag) (B : BoxPred)
def tP (w : WP) : TO := fun σ H Q => ∃ F own ρ P, Rel K B F own ρ σ H ∧ w ρ P ∧
  ∀ own' ρ' o H', Rel K B F own' ρ' σ H' → Kept (F.av own) H (F.av own') H' → P o ρ' → Q o H'
end
section
variable {X : Cx} {B : BoxPred} {e : Expr} {lo hi : Option Expr} {w : WE} {pl pu : WP} {pos p2 : Pos}
theorem poW {e : Option Expr} {t t' : TO} (h : PO X e t) (i : ∀ σ H Q, t' σ H Q → t σ H Q) : PO X e t' := ⟨fun pins s σ H Q I q => h.run pins s σ H Q I (i σ H Q q)⟩
theorem sNoPart : PO X none (tP X.K B wNoPart) := poW po_none fun σ H Q h => by
  obtain ⟨F, own, ρ, P, R, w, k⟩ := h
  exact k own ρ none H R Kept.refl w
theorem sPart (he : PE X e (tE X.K B w)) : PO X (some e) (tP X.K B (wPart w)) := poW (po_some he) fun σ H Q h => by
  obtain ⟨F, own, ρ, P, R, w, k⟩ := h
  refine ⟨F, own, ρ, _, R, w, fun own1 ρ1 v r H1 R1 k1 s1 w1 => ?_⟩
  obtain ⟨d, e1, w2⟩ := need_of w1
  obtain ⟨i, e2, w3⟩ := need_of w2
  cases d with
  | int j =>
    cases e2
    exact ⟨i, vw_int (R1.view s1.w e1), k own1 ρ1 _ H1 R1 k1 w3⟩
  | _ => cases e2
def rCutAll (K : Frag) : V → Option Int → Option Int → Hp → VK → Prop := fun x lo hi H Q => rSlL K x lo hi H Q ∨ rSlA K x lo hi H Q ∨ rSlS x lo hi H Q
theorem sl_all : SlR X (rCutAll X.K) := sl_list.or (sl_tupA.or sl_str)
theorem sCut (he : PE X e (tE X.K B w)) (hl : PO X lo (tP X.K B pl)) (hu : PO X hi (tP X.K B pu)) : PE X (.Subscript e (.Slice lo hi none p2) pos) (tE X.K B (wCut w pl pu)) :=
  peW (pe_slice sl_all he hl hu) fun σ H Q h => by
    obtain ⟨F, own, ρ, P, R, w, k⟩ := h
    refine ⟨F, own, ρ, _, R, w, fun own1 ρ1 v r H1 R1 k1 s1 w1 => ⟨F, own1, ρ1, _, R1, w1, fun own2 ρ2 l H2 R2 k2 w2 => ⟨F, own2, ρ2, _, R2, w2, fun own3 ρ3 u H3 R3 k3 w3 => ?_⟩⟩⟩
    obtain ⟨d, e1, w4⟩ := need_of w3
    obtain ⟨r', e2, w5⟩ := need_of w4
    have vw := R3.view ((s1.w.kept k2).kept k3) e1
    have k' := (k1.trans k2).trans k3
    cases d with
    | lst ds =>
      cases e2
      obtain ⟨a, xs, rfl, ea, rr⟩ := vw
      exact .inl ⟨a, xs, rfl, SqL.of ea, fun p hp => k own3 ρ3 _ _ _ (R3.new hp) (k'.trans (Kept.new hp)) (R3.newL hp rr.cut) w5⟩
    | tup ds =>
      cases e2
      obtain ⟨a, xs, rfl, ea, rr⟩ := vw_tup vw
      refine .inr (.inl ⟨a, xs, rfl, ea.sq, fun hw => ?_, fun hw p hp => k own3 ρ3 _ _ _ (R3.new hp) (k'.trans (Kept.new hp)) (R3.newT hp rr.cut) w5⟩)
      have hc : cutL ds l u = ds := by
        unfold cutL
        rw [rr.length] at hw
        rw [hw.1, hw.2, List.drop_zero, Nat.sub_zero, List.take_length]
      refine k own3 ρ3 _ _ _ R3 k' ?_ w5
      rw [hc]
      exact .tup ea rr
    | str z =>
      have e2 : (if z.length ≤ lim then some (Res.fz (.str (cutS z l u))) else none) = some r' := e2
      by_cases hz : z.length ≤ lim
      · rw [if_pos hz] at e2
        cases e2
        exact .inr (.inr ⟨z, vw_str vw, Nat.le_trans hz lim_line, k own3 ρ3 _ (.fz _) _ R3 k' (Rz.str _) w5⟩)
      · rw [if_neg hz] at e2; cases e2
    | _ => cases e2
end

/-! ### slices backwards, step -1 -/
def clipB (n : Int) (d : Int) : Option Int → Int
  | none => d
  | some v => if v < 0 then max (v + n) (-1) else min v (n - 1)
def idxB (n : Nat) (lo hi : Option Int) : List Nat :=
  (List.range (clipB n ((n : Int) - 1) lo - clipB n (-1) hi).toNat).map fun (k : Nat) => (clipB n ((n : Int) - 1) lo - (k : Int)).toNat
def backL {α : Type} (xs : List α) (lo hi : Option Int) : List α := (idxB xs.length lo hi).filterMap (xs[·]?)
theorem idxB_len (n : Nat) (lo hi : Option Int) : (idxB n lo hi).length ≤ n := by
  unfold idxB
  rw [List.length_map, List.length_range]
  have h1 : clipB n ((n : Int) - 1) lo ≤ (n : Int) - 1 := by
    unfold clipB
    cases lo with
    | none => exact Int.le_refl _
    | some v => dsimp only; split <;> omega
  have h2 : -1 ≤ clipB n (-1) hi := by
    unfold clipB
    cases hi with
    | none => exact Int.le_refl _
    | some v => dsimp only; split <;> omega
  omega
theorem backL_len {α : Type} (xs : List α) (lo hi : Option Int) : (backL xs lo hi).length ≤ xs.length :=
  Nat.le_trans (List.length_filterMap_le _ _) (idxB_len _ _ _)
theorem vals_pick {xs : List V} {us : List Value} (r : Vals xs us) : ∀ ks : List Nat, Vals (ks.filterMap (xs[·]?)) (ks.filterMap (us[·]?))
  | [] => .nil
  | k :: ks => by
    cases q : xs[k]? with
    | none =>
      have q2 : us[k]? = none := r.none_of q
      rw [List.filterMap_cons_none q, List.filterMap_cons_none q2]
      exact vals_pick r ks
    | some x =>
      obtain ⟨u, q2, ru⟩ := r.get q
      rw [List.filterMap_cons_some q, List.filterMap_cons_some q2]
      exact .cons ru (vals_pick r ks)
theorem rz_pick {K : Frag} {O : ASet} {b : Addr} {H : Hp} {xs : List V} {ds : List D} (r : RzA K O b H xs ds) : ∀ ks : List Nat, RzA K O b H (ks.filterMap (xs[·]?)) (ks.filterMap (ds[·]?))
  | [] => .nil
  | k :: ks => by
    cases q : ds[k]? with
    | none =>
      have q2 : xs[k]? = none := by
        rw [List.getElem?_eq_none_iff] at q ⊢
        rw [r.length]; exact q
      rw [List.filterMap_cons_none q, List.filterMap_cons_none q2]
      exact rz_pick r ks
    | some x =>
      obtain ⟨u, q2, ru⟩ := r.at q
      rw [List.filterMap_cons_some q, List.filterMap_cons_some q2]
      exact .cons ru (rz_pick r ks)
theorem RzA.back {K : Frag} {O : ASet} {b : Addr} {H : Hp} {xs : List V} {ds : List D} {lo hi : Option Int} (r : RzA K O b H xs ds) : RzA K O b H (backL xs lo hi) (backL ds lo hi) := by
  unfold backL
  rw [r.length]
  exact rz_pick r _
theorem clip_bounds (v : Int) (n : Nat) : max (-1) (min (if v < 0 then v + n else v) ((n : Int) - 1)) = if v < 0 then max (v + n) (-1) else min v ((n : Int) - 1) := by
  split <;> omega
theorem pick_back (its : List Value) (lo hi : Option Int) : slicePick its.toArray lo hi (some (-1)) = (backL its lo hi).toArray := by
  have e1 : (sliceBounds lo hi (some (-1)) its.length).1 = clipB its.length ((its.length : Int) - 1) lo := by
    unfold sliceBounds clipB
    cases lo with
    | none => rfl
    | some v => exact clip_bounds v its.length
  have e2 : (sliceBounds lo hi (some (-1)) its.length).2.1 = clipB its.length (-1) hi := by
    unfold sliceBounds clipB
    cases hi with
    | none => rfl
    | some v => exact clip_bounds v its.length
  have e3 : (sliceBounds lo hi (some (-1)) its.length).2.2 = -1 := rfl
  unfold slicePick backL
  rw [List.size_toArray, e1, e2, e3]
  have e4 : ∀ a b : Int, sliceRange a b (-1) = (List.range (a - b).toNat).map fun (k : Nat) => (a - (k : Int)).toNat := fun a b => by
    unfold sliceRange
    have h1 : ¬ ((-1 : Int) > 0) := by decide
    have h2 : ((if (-1 : Int) > 0 then (if a < b then (b - a + -1 - 1) / -1 else 0) else (if a > b then (a - b - -1 - 1) / (- -1) else 0)) : Int).toNat = (a - b).toNat := by
      rw [if_neg h1]
      by_cases h : a > b
      · rw [if_pos h, show (- -1 : Int) = 1 by decide, Int.ediv_one]
        omega
      · rw [if_neg h]
        omega
    show List.map _ (List.range _) = _
    rw [h2]
    apply List.map_congr_left
    intro k _
    omega
  rw [e4]
  have ef : (fun (k : Nat) => its.toArray[k]?) = fun k => its[k]? := funext fun k => by simp
  rw [ef]
  rfl
theorem applied_back {prog : Program} {w : World} {A : Around} {E : Value → Shared → Prop} {s : Shared} {sl : Addr} {vl vu vs : Value} {lo hi : Option Int} {n : Nat} {Q : Int × Int × Nat → Shared → Prop} (hs : s.heap.IsSliceOf sl vl vu vs) (pl : IsPart vl lo) (pu : IsPart vu hi) (ps : IsPart vs (some (-1)))
    (h : Q (clipB n ((n : Int) - 1) lo, -1, (clipB n ((n : Int) - 1) lo - clipB n (-1) hi).toNat) s) : wpAny (model prog w) A (Builtin.Slice.sliceApplied (.ref sl) (pure (n : Int))) Q E s := by
  obtain ⟨os, hos, hcs, hds⟩ := id hs
  unfold Builtin.Slice.sliceApplied Builtin.Slice.sliceFields
  refine wpAny_bind (wpAny_bind (wpAny_field hos hds (x := vl) rfl (wpAny_bind (wpAny_field hos hds (x := vu) rfl (wpAny_bind (wpAny_field hos hds (x := vs) rfl (wpAny_pure ?_)))))))
  refine wpAny_bind (HT.slicePart_ ps ?_)
  show wpAny _ _ (if ((-1 : Int) == 0) = true then _ else _) _ _ s
  rw [if_neg (by decide)]
  refine wpAny_bind (HT.slicePart_ pl (wpAny_bind (HT.slicePart_ pu (wpAny_bind (wpAny_pure ?_)))))
  have e1 : Builtin.Slice.sliceAdjust lo hi (-1) (n : Int) = (clipB n ((n : Int) - 1) lo, clipB n (-1) hi) := by
    unfold Builtin.Slice.sliceAdjust clipB
    cases lo <;> cases hi <;> rfl
  have e2 : ∀ a b : Int, Builtin.Slice.slicePlaces a b (-1) = (a - b).toNat := fun a b => by
    unfold Builtin.Slice.slicePlaces
    rw [if_neg (by decide)]
    by_cases q : a > b
    · rw [if_pos q, show (- -1 : Int) = 1 by decide, Int.ediv_one]
      omega
    · rw [if_neg q]
      omega
  show wpAny _ _ (match Builtin.Slice.sliceAdjust lo hi (-1) (n : Int) with | (lo, hi) => pure (lo, (-1 : Int), Builtin.Slice.slicePlaces lo hi (-1))) _ _ s
  rw [e1]
  show wpAny _ _ (pure (clipB n ((n : Int) - 1) lo, (-1 : Int), Builtin.Slice.slicePlaces (clipB n ((n : Int) - 1) lo) (clipB n (-1) hi) (-1))) _ _ s
  rw [e2]
  exact wpAny_pure h
theorem tuple_back {prog : Program} {w : World} {A : Around} {E : Value → Shared → Prop} {s : Shared} {t sl : Addr} {its : List Value} {vl vu vs : Value} {lo hi : Option Int} {Q : Value → Shared → Prop} (ht : PyProof.Rows.IsTup s.heap t its.toArray) (hs : s.heap.IsSliceOf sl vl vu vs) (pl : IsPart vl lo) (pu : IsPart vu hi) (ps : IsPart vs (some (-1)))
    (h : Q (.ref s.heap.objs.size) { s with heap := s.heap.push { cls := .type "tuple", data := .seq (backL its lo hi).toArray } })
    (hsz : its.length ≤ sizeLine) : wpAny (model prog w) A (getItem (.ref t) (.ref sl)) Q E s := by
  have htake : sizeOk (.seq (backL its lo hi).toArray) := by
    show (backL its lo hi).toArray.size ≤ sizeLine
    rw [List.size_toArray]
    exact Nat.le_trans (backL_len its lo hi) hsz
  obtain ⟨os, hos, hcs, hds⟩ := id hs
  have hTs : s.TypeIs (.ref sl) "slice" := ⟨os, hos, hcs⟩
  unfold getItem
  try with_reducible refine wpAny_holding ?_
  first | refine wpAny_bind (wpAny_pure ?_) | skip
  refine wpAny_bind (wpAny_sequenceKey ht.typeIs (by decide) ?_)
  refine wpAny_bind (wpAny_callSpecial?_slot (name := Str.ofString "__getitem__") ht.typeIs PyProof.Rows.slot_tuple_getitem
    (wpAny_call_entry PyProof.Rows.slot_tuple_getitem ht.typeIs PyProof.Rows.entry_tuple_getitem ?_ (PyProof.Rows.args_tuple_getitem _ _)))
  show wpAny _ _ (Builtin.Tuple.tupleItemsOf (.ref t) >>= _) _ _ s
  refine wpAny_bind (PyProof.Rows.tupleItemsOf_ ht ?_)
  refine wpAny_bind (wpAny_typeOf hTs ?_)
  rw [if_pos (by decide)]
  refine wpAny_bind (applied_back (n := its.toArray.size) hs pl pu ps ?_)
  show wpAny _ _ (if (clipB its.toArray.size ((its.toArray.size : Int) - 1) lo == 0 && (-1 : Int) == 1 && (clipB its.toArray.size ((its.toArray.size : Int) - 1) lo - clipB its.toArray.size (-1) hi).toNat == its.toArray.size) = true then _ else _) _ _ s
  rw [if_neg (by simp)]
  have hb : ((List.range (clipB its.toArray.size ((its.toArray.size : Int) - 1) lo - clipB its.toArray.size (-1) hi).toNat).filterMap fun (k : Nat) => its.toArray[(clipB its.toArray.size ((its.toArray.size : Int) - 1) lo + (k : Int) * -1).toNat]?).toArray = (backL its lo hi).toArray := by
    unfold backL idxB
    rw [List.filterMap_map, List.size_toArray]
    have ef : (fun (k : Nat) => its.toArray[(clipB its.length ((its.length : Int) - 1) lo + (k : Int) * -1).toNat]?) = (fun x => its[x]?) ∘ fun (k : Nat) => (clipB its.length ((its.length : Int) - 1) lo - (k : Int)).toNat := funext fun k => by
      have ek : (clipB its.length ((its.length : Int) - 1) lo + (k : Int) * -1) = clipB its.length ((its.length : Int) - 1) lo - (k : Int) := by omega
      show its.toArray[(clipB its.length ((its.length : Int) - 1) lo + (k : Int) * -1).toNat]? = its[(clipB its.length ((its.length : Int) - 1) lo - (k : Int)).toNat]?
      rw [ek]
      simp
    rw [ef]
  rw [hb]
  first
    | exact wpAny_bind (m := Builtin.Tuple.tupleExact _) (wpAny_newObj_type (wpAny_pure ⟨_, rfl, wpAny_pure h⟩) htake)
    | exact wpAny_bind (m := Builtin.Tuple.tupleExact _) (wpAny_newObj_type (wpAny_bind (wpAny_pure (wpAny_pure ⟨_, rfl, wpAny_pure h⟩))) htake)
    | exact wpAny_bind (wpAny_bind (m := Builtin.Tuple.tupleExact _) (wpAny_newObj_type (wpAny_pure (wpAny_pure ⟨_, rfl, wpAny_pure h⟩)) htake))
    | exact wpAny_bind (wpAny_bind (m := Builtin.Tuple.tupleExact _) (wpAny_newObj_type (wpAny_pure ⟨_, rfl, wpAny_pure h⟩) htake))
end Ip

set_option Elab.async false
set_option linter.all false
set_option maxRecDepth 100000
set_option maxHeartbeats 2000000
set_option autoImplicit false
/-! Ip7: slices backwards as a rule, calls of built-ins -/
namespace Ip
open PySem L2

def backD (lo hi : Option Int) : D → Option Res
  | .lst ds => some (.ow (.lst (backL ds lo hi)))
  | .tup ds => some (.fz (.tup (backL ds lo hi)))
  | _ => none
def wBack (w : WE) (pl pu : WP) : WE := fun ρ P => w ρ fun r ρ1 => pl ρ1 fun lo ρ2 => pu ρ2 fun hi ρ3 => need (r.data ρ3) fun d => need (backD lo hi d) fun r' => P r' ρ3
def tBackA (K : Frag) (te : TE) (tl th : TO) : TE := fun σ H Q => te σ H fun x H1 => tl σ H1 fun l H2 => th σ H2 fun u H3 => ∃ a xs, x = .ref a ∧
  ((H3 a = some (.lst xs) ∧ ∀ p, H3 p = none → Q (.ref p) (upd H3 p (.lst (backL xs l u)))) ∨ (SqT K H3 a xs ∧ ∀ p, H3 p = none → Q (.ref p) (upd H3 p (.tup (backL xs l u)))))
section
variable {X : Cx} {B : BoxPred} {e : Expr} {lo hi : Option Expr} {te : TE} {tl th : TO} {w : WE} {pl pu : WP} {pos p1 p2 p3 : Pos} {k : Nat}
theorem pe_backA (he : PE X e te) (hl : PO X lo tl) (hu : PO X hi th) : PE X (.Subscript e (.Slice lo hi (some (.UnaryOp .USub (.Constant (.int 1) k p1) p2)) p3) pos) (tBackA X.K te tl th) := by
  refine ⟨fun pins s σ H Q I h => ?_⟩
  refine PyProof.Rows.Subscript_ (thn (he.run pins s σ H _ I h) fun v s1 ⟨x, H1, I1, r1, q1⟩ => ?_)
  have hst : PO X (some (.UnaryOp .USub (.Constant (.int 1) k p1) p2)) (tPart (tUn (rU fun i => .int (-i)) (tC (.int 1)))) := po_some (pe_un un_neg pe_int)
  refine wpAny_Slice (thn (hl.run pins s1 σ H1 _ I1 q1) fun vl s2 ⟨l, H2, I2, pl, q2⟩ => thn (hu.run pins s2 σ H2 _ I2 q2) fun vu s3 ⟨u, H3, I3, pu, q3⟩ => ?_)
  refine thn (hst.run pins s3 σ H3 (fun o H4 => o = some (-1) ∧ H4 = H3) I3 ⟨1, rfl, -1, rfl, rfl, rfl⟩) fun vs s4 ⟨o, H4, I4, ps, eo, e4⟩ => ?_
  subst eo e4
  obtain ⟨a, xs, ex, q⟩ := q3
  subst ex
  cases r1
  have I5 : Inv X pins σ H4 { s4 with heap := s4.heap.push { cls := .type "slice", data := .fields #[vl, vu, vs] } } := I4.kept (t' := s4.toks) fun b ob q => Heap.get?_push_of_some _ q
  show wpAny (model X.prog X.w) X.A (PyProof.Rows.subscriptTail e (.Slice lo hi (some (.UnaryOp .USub (.Constant (.int 1) k p1) p2)) p3) (.ref a) (.ref s4.heap.objs.size)) (EP X pins σ Q) X.xe { s4 with heap := s4.heap.push { cls := .type "slice", data := .fields #[vl, vu, vs] } }
  rcases q with ⟨hx, q⟩ | ⟨hx, q⟩
  · obtain ⟨its, r, ht, hz⟩ := I5.list (SqL.of hx)
    have hlen := r.length
    refine PyProof.Rows.tail_any (ops := [.ref a, .ref s4.heap.objs.size]) ht.isList.typeIs (PySem.slot_list_getitem.lookup) ?_ (by with_unfolding_all rfl)
    refine wpAny_getItem_list_slice ht.isList (Heap.IsSliceOf.new _ vl vu vs) pl pu ps (by decide) ?_ (by rw [List.size_toArray]; omega)
    rw [pick_back]
    refine ⟨.ref _, _, I5.laid (t' := s4.toks) (o := .lst (backL xs l u)) (fun b ob q => Heap.get?_push_of_some _ q) (Nat.le_refl _) ?_, rfl, q _ (I5.hok.fresh (Nat.le_refl _))⟩
    refine ⟨Nat.le_trans (backL_len _ _ _) hz, _, 0, ?_, Heap.get?_push_size _ rfl⟩
    unfold backL
    rw [hlen]
    exact vals_pick r _
  · obtain ⟨its, r, ht, hz⟩ := I5.tuple hx
    have hlen := r.length
    refine PyProof.Rows.tail_any (ops := [.ref a, .ref s4.heap.objs.size]) ht.typeIs (PyProof.Rows.slot_tuple_getitem.lookup) ?_ (by with_unfolding_all rfl)
    refine tuple_back ht (Heap.IsSliceOf.new _ vl vu vs) pl pu ps ?_ (by omega)
    refine ⟨.ref _, _, I5.laid (t' := s4.toks) (o := .tup (backL xs l u)) (fun b ob q => Heap.get?_push_of_some _ q) (Nat.le_refl _) ?_, rfl, q _ (I5.hok.fresh (Nat.le_refl _))⟩
    refine ⟨Nat.le_trans (backL_len _ _ _) hz, _, ?_, PyProof.Rows.IsTup.new _ _⟩
    unfold backL
    rw [hlen]
    exact vals_pick r _
theorem sBack (he : PE X e (tE X.K B w)) (hl : PO X lo (tP X.K B pl)) (hu : PO X hi (tP X.K B pu)) : PE X (.Subscript e (.Slice lo hi (some (.UnaryOp .USub (.Constant (.int 1) k p1) p2)) p3) pos) (tE X.K B (wBack w pl pu)) :=
  peW (pe_backA he hl hu) fun σ H Q h => by
    obtain ⟨F, own, ρ, P, R, w, k⟩ := h
    refine ⟨F, own, ρ, _, R, w, fun own1 ρ1 v r H1 R1 k1 s1 w1 => ⟨F, own1, ρ1, _, R1, w1, fun own2 ρ2 l H2 R2 k2 w2 => ⟨F, own2, ρ2, _, R2, w2, fun own3 ρ3 u H3 R3 k3 w3 => ?_⟩⟩⟩
    obtain ⟨d, e1, w4⟩ := need_of w3
    obtain ⟨r', e2, w5⟩ := need_of w4
    have vw := R3.view ((s1.w.kept k2).kept k3) e1
    have k' := (k1.trans k2).trans k3
    cases d with
    | lst ds =>
      cases e2
      obtain ⟨a, xs, rfl, ea, rr⟩ := vw
      exact ⟨a, xs, rfl, .inl ⟨ea, fun p hp => k own3 ρ3 _ _ _ (R3.new hp) (k'.trans (Kept.new hp)) (R3.newL hp rr.back) w5⟩⟩
    | tup ds =>
      cases e2
      obtain ⟨a, xs, rfl, ea, rr⟩ := vw_tup vw
      exact ⟨a, xs, rfl, .inr ⟨ea.sq, fun p hp => k own3 ρ3 _ _ _ (R3.new hp) (k'.trans (Kept.new hp)) (R3.newT hp rr.back) w5⟩⟩
    | _ => cases e2
end

/-! ### built-ins -/
def wBlt (f : List D → Option Res) (ws : WO) : WE := fun ρ P => ws ρ fun rs ρ1 => need (dataAll ρ1 rs) fun ds => need (f ds) fun r => P r ρ1
/-- a call's reading does what f says -/
def OpC (K : Frag) (B : BoxPred) (r : List V → Hp → VK → Prop) (f : List D → Option Res) : Prop := ∀ (F : Fr) (own : Own) (ρ : Rho) (σ : L2.St) (H : Hp) (xs : List V) (ds : List D) (res : Res) (Q : VK), Rel K B F own ρ σ H → Sz H →
  VwA K (F.av own) F.b H xs ds → f ds = some res →
  (∀ v H', Rel K B F own ρ σ H' → Kept (F.av own) H (F.av own) H' → Rs K B F own ρ σ H' v res → Q v H') → r xs H Q
def szC (r : List V → Hp → VK → Prop) : List V → Hp → VK → Prop := fun xs H Q => Sz H → r xs H Q
section
variable {X : Cx} {B : BoxPred} {e : Expr} {es : List Expr} {ws : WO} {r : List V → Hp → VK → Prop} {f : List D → Option Res} {x : Str} {id T : String} {p pos : Pos}
theorem cSz {g : Value} (h : CallR X g r) : CallR X g (szC r) := fun pins s σ H xs us Q I rx q => h pins s σ H xs us Q I rx (q (Inv.sz_ I))
theorem redC (h : OpC X.K B r f) : ∀ σ H Q, tE X.K B (wBlt f ws) σ H Q → tCB (szC r) (tO X.K B ws) σ H Q := by
  rintro σ H Q ⟨F, own, ρ, P, R, w, k⟩
  refine ⟨F, own, ρ, _, R, w, fun own1 ρ1 xs rs H1 R1 k1 s1 w1 hz => ?_⟩
  obtain ⟨ds, e1, w2⟩ := need_of w1
  obtain ⟨res, e2, w3⟩ := need_of w2
  exact h F own1 ρ1 σ H1 xs ds res Q R1 hz (R1.viewA s1 e1) e2 fun v H' R' k' s' => k own1 ρ1 v res H' R' (k1.trans k') s' w3
theorem sBltB (hc : CallR X (.builtin id) r) (h : OpC X.K B r f) (hg : Gl X x) (hm : X.mg x = none) (hv : bootBuiltins x = some (.builtin id)) (ha : PA X (e :: es) (tO X.K B ws)) (hn : x ≠ "__name__") (hdb : (x == ("__debug__" : Str)) = false)
    (he : starEach (e :: es) X.env = (false, eval e X.env) :: starEach es X.env) (hpl : (backTo pos (starEach es X.env)).any (·.1) = false) : PE X (.Call (.Name x p) (e :: es) [] pos) (tE X.K B (wBlt f ws)) :=
  peW (pe_callB (cSz hc) hg hm hv ha hn hdb he hpl) (redC h)
theorem sBltT (hc : CallR X (.type T) r) (h : OpC X.K B r f) (hg : Gl X x) (hm : X.mg x = none) (hv : bootBuiltins x = some (.type T)) (ha : PA X (e :: es) (tO X.K B ws)) (hn : x ≠ "__name__") (hdb : (x == ("__debug__" : Str)) = false)
    (he : starEach (e :: es) X.env = (false, eval e X.env) :: starEach es X.env) (hpl : (backTo pos (starEach es X.env)).any (·.1) = false) : PE X (.Call (.Name x p) (e :: es) [] pos) (tE X.K B (wBlt f ws)) :=
  peW (pe_callTy (cSz hc) hg hm hv ha hn hdb he hpl) (redC h)
end
section
variable {K : Frag} {B : BoxPred}
theorem vwA1 {O : ASet} {b : Addr} {H : Hp} {xs : List V} {d : D} (h : VwA K O b H xs [d]) : ∃ x, xs = [x] ∧ Vw K O b H x d := by
  match xs, h with
  | [x], ⟨h, _⟩ => exact ⟨x, rfl, h⟩
theorem vwA2 {O : ASet} {b : Addr} {H : Hp} {xs : List V} {d e : D} (h : VwA K O b H xs [d, e]) : ∃ x y, xs = [x, y] ∧ Vw K O b H x d ∧ Vw K O b H y e := by
  match xs, h with
  | [x, y], ⟨h, h2, _⟩ => exact ⟨x, y, rfl, h, h2⟩
/-- one argument -/
def arg1 (f : D → Option Res) : List D → Option Res
  | [d] => f d
  | _ => none
theorem arg1_inv {f : D → Option Res} {ds : List D} {r : Res} (h : arg1 f ds = some r) : ∃ d, ds = [d] ∧ f d = some r := by
  match ds, h with
  | [d], h => exact ⟨d, rfl, h⟩
def lenD : D → Option Res
  | .lst ds => some (.fz (.int ds.length))
  | .tup ds => some (.fz (.int ds.length))
  | .str s => if s.length ≤ lim then some (.fz (.int s.length)) else none
  | _ => none
theorem lenOk : OpC K B (fun xs H Q => ∃ x n, xs = [x] ∧ LenV K x H n ∧ Q (.int n) H) (arg1 lenD) := by
  intro F own ρ σ H xs ds res Q R hz hx e k
  obtain ⟨d, rfl, e⟩ := arg1_inv e
  obtain ⟨x, e0, hx1⟩ := vwA1 hx
  clear hx
  subst e0
  have hx := hx1
  cases d with
  | lst ds =>
    cases e
    obtain ⟨a, xs, rfl, ea, r⟩ := hx
    exact ⟨_, _, rfl, Or.inl ⟨xs, SqL.of ea, r.length.symm⟩, k _ _ R Kept.refl (.int _)⟩
  | tup ds =>
    cases e
    obtain ⟨a, xs, rfl, ea, r⟩ := vw_tup hx
    exact ⟨_, _, rfl, Or.inr ⟨xs, ea.sq, r.length.symm⟩, k _ _ R Kept.refl (.int _)⟩
  | str s =>
    have e : (if s.length ≤ lim then some (Res.fz (.int s.length)) else none) = some res := e
    by_cases hl : s.length ≤ lim
    · rw [if_pos hl] at e
      cases e
      cases vw_str hx
      exact ⟨_, _, rfl, show _ ∧ _ from ⟨Nat.le_trans hl lim_line, rfl⟩, k _ _ R Kept.refl (.int _)⟩
    · rw [if_neg hl] at e; cases e
  | _ => cases e
def tupleD : D → Option Res
  | .lst ds => some (.fz (.tup ds))
  | .tup ds => some (.fz (.tup ds))
  | _ => none
theorem tupleOk : OpC K B (fun xs H Q => ∃ p ys, xs = [.ref p] ∧ ((SqL K H p ys ∧ ∀ l, H l = none → Q (.ref l) (upd H l (.tup ys))) ∨ (SqT K H p ys ∧ Q (.ref p) H))) (arg1 tupleD) := by
  intro F own ρ σ H xs ds res Q R hz hx e k
  obtain ⟨d, rfl, e⟩ := arg1_inv e
  obtain ⟨x, e0, hx1⟩ := vwA1 hx
  clear hx
  subst e0
  have hx := hx1
  cases d with
  | lst ds =>
    cases e
    obtain ⟨a, xs, rfl, ea, r⟩ := hx
    exact ⟨a, xs, rfl, .inl ⟨SqL.of ea, fun p hp => k _ _ (R.new hp) (Kept.new hp) (R.newT hp r)⟩⟩
  | tup ds =>
    cases e
    obtain ⟨a, xs, rfl, ea, r⟩ := vw_tup hx
    exact ⟨a, xs, rfl, .inr ⟨ea.sq, k _ _ R Kept.refl (.tup ea r)⟩⟩
  | _ => cases e
def listD : D → Option Res
  | .lst ds => some (.ow (.lst ds))
  | .tup ds => some (.ow (.lst ds))
  | _ => none
theorem listOk : OpC K B (fun xs H Q => ∃ p ys, xs = [.ref p] ∧ (SqL K H p ys ∨ SqT K H p ys) ∧ ∀ l, H l = none → Q (.ref l) (upd H l (.lst ys))) (arg1 listD) := by
  intro F own ρ σ H xs ds res Q R hz hx e k
  obtain ⟨d, rfl, e⟩ := arg1_inv e
  obtain ⟨x, e0, hx1⟩ := vwA1 hx
  clear hx
  subst e0
  have hx := hx1
  cases d with
  | lst ds =>
    cases e
    obtain ⟨a, xs, rfl, ea, r⟩ := hx
    exact ⟨a, xs, rfl, .inl (SqL.of ea), fun p hp => k _ _ (R.new hp) (Kept.new hp) (R.newL hp r)⟩
  | tup ds =>
    cases e
    obtain ⟨a, xs, rfl, ea, r⟩ := vw_tup hx
    exact ⟨a, xs, rfl, .inr ea.sq, fun p hp => k _ _ (R.new hp) (Kept.new hp) (R.newL hp r)⟩
  | _ => cases e
def blsOf : List D → Option (List Bool)
  | [] => some []
  | .bl b :: r => (blsOf r).map (b :: ·)
  | _ :: _ => none
theorem bls_rz {O : ASet} {b : Addr} {H : Hp} : ∀ {xs : List V} {ds : List D} {ns : List Bool}, RzA K O b H xs ds → blsOf ds = some ns → xs = ns.map V.bl
  | _, _, _, .nil, e => by cases e; rfl
  | _, _, ns, .cons h r, e => by
    cases h with
    | bl i =>
      unfold blsOf at e
      cases q : blsOf _ with
      | none => rw [q] at e; cases e
      | some ms =>
        rw [q] at e
        cases e
        rw [bls_rz r q]
        rfl
    | _ => cases e
def allD : D → Option Res
  | .lst ds => (blsOf ds).map fun bs => .fz (.bl (bs.all id))
  | _ => none
def anyD : D → Option Res
  | .lst ds => (blsOf ds).map fun bs => .fz (.bl (bs.any id))
  | _ => none
theorem allOk : OpC K B (rAll K) (arg1 allD) := by
  intro F own ρ σ H xs ds res Q R hz hx e k
  obtain ⟨d, rfl, e⟩ := arg1_inv e
  obtain ⟨x, e0, hx1⟩ := vwA1 hx
  clear hx
  subst e0
  have hx := hx1
  cases d with
  | lst ds =>
    have e : (blsOf ds).map (fun bs => Res.fz (.bl (bs.all id))) = some res := e
    cases q : blsOf ds with
    | none => rw [q] at e; cases e
    | some bs =>
      rw [q] at e
      cases e
      obtain ⟨a, xs, rfl, ea, r⟩ := hx
      have := bls_rz r q
      subst this
      exact ⟨a, bs, rfl, SqL.of ea, k _ _ R Kept.refl (.bl _)⟩
  | _ => cases e
theorem anyOk : OpC K B (rAny K) (arg1 anyD) := by
  intro F own ρ σ H xs ds res Q R hz hx e k
  obtain ⟨d, rfl, e⟩ := arg1_inv e
  obtain ⟨x, e0, hx1⟩ := vwA1 hx
  clear hx
  subst e0
  have hx := hx1
  cases d with
  | lst ds =>
    have e : (blsOf ds).map (fun bs => Res.fz (.bl (bs.any id))) = some res := e
    cases q : blsOf ds with
    | none => rw [q] at e; cases e
    | some bs =>
      rw [q] at e
      cases e
      obtain ⟨a, xs, rfl, ea, r⟩ := hx
      have := bls_rz r q
      subst this
      exact ⟨a, bs, rfl, SqL.of ea, k _ _ R Kept.refl (.bl _)⟩
  | _ => cases e
def sumD : D → Option Res
  | .lst ds => (intsOf ds).map fun ns => .fz (.int ns.sum)
  | _ => none
theorem sumOk : OpC K B (rSum K) (arg1 sumD) := by
  intro F own ρ σ H xs ds res Q R hz hx e k
  obtain ⟨d, rfl, e⟩ := arg1_inv e
  obtain ⟨x, e0, hx1⟩ := vwA1 hx
  clear hx
  subst e0
  have hx := hx1
  cases d with
  | lst ds =>
    have e : (intsOf ds).map (fun ns => Res.fz (.int ns.sum)) = some res := e
    cases q : intsOf ds with
    | none => rw [q] at e; cases e
    | some ns =>
      rw [q] at e
      cases e
      obtain ⟨a, xs, rfl, ea, r⟩ := hx
      have := ints_rz r q
      subst this
      exact ⟨a, ns, rfl, SqL.of ea, k _ _ R Kept.refl (.int _)⟩
  | _ => cases e
def intD : D → Option Res
  | .int i => some (.fz (.int i))
  | .bl b => some (.fz (.int (if b then 1 else 0)))
  | _ => none
theorem intOk : OpC K B (fun xs H Q => (∃ i, xs = [.int i] ∧ Q (.int i) H) ∨ ∃ k, xs = [.bl k] ∧ Q (.int (if k then 1 else 0)) H) (arg1 intD) := by
  intro F own ρ σ H xs ds res Q R hz hx e k
  obtain ⟨d, rfl, e⟩ := arg1_inv e
  obtain ⟨x, e0, hx1⟩ := vwA1 hx
  clear hx
  subst e0
  have hx := hx1
  cases d with
  | int i =>
    cases e
    cases vw_int hx
    exact .inl ⟨i, rfl, k _ _ R Kept.refl (.int _)⟩
  | bl b =>
    cases e
    cases vw_bool hx
    exact .inr ⟨b, rfl, k _ _ R Kept.refl (.int _)⟩
  | _ => cases e
def strD : D → Option Res
  | .int i => if small i then some (.fz (.str (toString i))) else none
  | _ => none
theorem strOkC : OpC K B (fun xs H Q => ∃ i, xs = [.int i] ∧ i.natAbs.log2 < 1920 ∧ Q (.str (toString i)) H) (arg1 strD) := by
  intro F own ρ σ H xs ds res Q R hz hx e k
  obtain ⟨d, rfl, e⟩ := arg1_inv e
  obtain ⟨x, e0, hx1⟩ := vwA1 hx
  clear hx
  subst e0
  have hx := hx1
  cases d with
  | int i =>
    have e : (if small i then some (Res.fz (.str (toString i))) else none) = some res := e
    by_cases hl : small i
    · rw [if_pos hl] at e
      cases e
      cases vw_int hx
      have := small_abs hl
      exact ⟨i, rfl, Nat.lt_trans (PySem.Flt.log2_lt_of (by decide : 0 < 70) this) (by decide : 70 < 1920), k _ _ R Kept.refl (.str _)⟩
    · rw [if_neg hl] at e; cases e
  | _ => cases e
/-- min, max of two -/
def max2D : List D → Option Res
  | [.int i, .int j] => some (.fz (.int (if j > i then j else i)))
  | _ => none
def min2D : List D → Option Res
  | [.int i, .int j] => some (.fz (.int (if j < i then j else i)))
  | _ => none
theorem two_ints {f : List D → Option Res} {g : Int → Int → Res} (h : ∀ ds r, f ds = some r → ∃ i j, ds = [.int i, .int j] ∧ r = g i j) {ds : List D} {r : Res} (e : f ds = some r) : ∃ i j, ds = [.int i, .int j] ∧ r = g i j := h ds r e
theorem max2_inv {ds : List D} {r : Res} (e : max2D ds = some r) : ∃ i j, ds = [.int i, .int j] ∧ r = .fz (.int (if j > i then j else i)) := by
  unfold max2D at e
  split at e
  · cases e; exact ⟨_, _, rfl, rfl⟩
  · cases e
theorem min2_inv {ds : List D} {r : Res} (e : min2D ds = some r) : ∃ i j, ds = [.int i, .int j] ∧ r = .fz (.int (if j < i then j else i)) := by
  unfold min2D at e
  split at e
  · cases e; exact ⟨_, _, rfl, rfl⟩
  · cases e
/-- the greatest, the least of a list -/
def maxI : List Int → Option Int
  | [] => none
  | x :: xs => match maxI xs with
    | none => some x
    | some m => some (if x < m then m else x)
def minI : List Int → Option Int
  | [] => none
  | x :: xs => match minI xs with
    | none => some x
    | some m => some (if m < x then m else x)
theorem maxI_spec : ∀ {ns : List Int} {m : Int}, maxI ns = some m → m ∈ ns ∧ ∀ y ∈ ns, y ≤ m
  | [], _, e => by cases e
  | x :: xs, m, e => by
    unfold maxI at e
    cases q : maxI xs with
    | none =>
      rw [q] at e
      cases e
      cases xs with
      | nil => exact ⟨List.mem_cons_self, fun y hy => by rw [List.mem_singleton] at hy; omega⟩
      | cons z zs => unfold maxI at q; split at q <;> cases q
    | some k =>
      rw [q] at e
      have e : (if x < k then k else x) = m := Option.some.inj e
      obtain ⟨h1, h2⟩ := maxI_spec q
      by_cases hx : x < k
      · rw [if_pos hx] at e
        subst e
        exact ⟨List.mem_cons_of_mem _ h1, fun y hy => by
          rcases List.mem_cons.mp hy with rfl | hy
          · omega
          · exact h2 y hy⟩
      · rw [if_neg hx] at e
        subst e
        exact ⟨List.mem_cons_self, fun y hy => by
          rcases List.mem_cons.mp hy with rfl | hy
          · omega
          · have := h2 y hy; omega⟩
theorem minI_spec : ∀ {ns : List Int} {m : Int}, minI ns = some m → m ∈ ns ∧ ∀ y ∈ ns, m ≤ y
  | [], _, e => by cases e
  | x :: xs, m, e => by
    unfold minI at e
    cases q : minI xs with
    | none =>
      rw [q] at e
      cases e
      cases xs with
      | nil => exact ⟨List.mem_cons_self, fun y hy => by rw [List.mem_singleton] at hy; omega⟩
      | cons z zs => unfold minI at q; split at q <;> cases q
    | some k =>
      rw [q] at e
      have e : (if k < x then k else x) = m := Option.some.inj e
      obtain ⟨h1, h2⟩ := minI_spec q
      by_cases hx : k < x
      · rw [if_pos hx] at e
        subst e
        exact ⟨List.mem_cons_of_mem _ h1, fun y hy => by
          rcases List.mem_cons.mp hy with rfl | hy
          · omega
          · exact h2 y hy⟩
      · rw [if_neg hx] at e
        subst e
        exact ⟨List.mem_cons_self, fun y hy => by
          rcases List.mem_cons.mp hy with rfl | hy
          · omega
          · have := h2 y hy; omega⟩
def max1D : D → Option Res
  | .lst ds => (intsOf ds).bind fun ns => (maxI ns).map fun m => .fz (.int m)
  | _ => none
def min1D : D → Option Res
  | .lst ds => (intsOf ds).bind fun ns => (minI ns).map fun m => .fz (.int m)
  | _ => none
def maxD (ds : List D) : Option Res := match ds with
  | [d] => max1D d
  | _ => max2D ds
def minD (ds : List D) : Option Res := match ds with
  | [d] => min1D d
  | _ => min2D ds
def rMaxAll (K : Frag) : List V → Hp → VK → Prop := fun xs H Q => rMax K xs H Q ∨ ∃ i j, xs = [.int i, .int j] ∧ Q (.int (if j > i then j else i)) H
def rMinAll (K : Frag) : List V → Hp → VK → Prop := fun xs H Q => rMin K xs H Q ∨ ∃ i j, xs = [.int i, .int j] ∧ Q (.int (if j < i then j else i)) H
theorem max1_inv {d : D} {r : Res} (e : max1D d = some r) : ∃ ds ns m, d = .lst ds ∧ intsOf ds = some ns ∧ maxI ns = some m ∧ r = .fz (.int m) := by
  cases d with
  | lst ds =>
    have e : ((intsOf ds).bind fun ns => (maxI ns).map fun m => Res.fz (.int m)) = some r := e
    cases q : intsOf ds with
    | none => rw [q] at e; cases e
    | some ns =>
      rw [q] at e
      have e : ((maxI ns).map fun m => Res.fz (.int m)) = some r := e
      cases q2 : maxI ns with
      | none => rw [q2] at e; cases e
      | some m =>
        rw [q2] at e
        cases e
        exact ⟨ds, ns, m, rfl, q, q2, rfl⟩
  | _ => cases e
theorem min1_inv {d : D} {r : Res} (e : min1D d = some r) : ∃ ds ns m, d = .lst ds ∧ intsOf ds = some ns ∧ minI ns = some m ∧ r = .fz (.int m) := by
  cases d with
  | lst ds =>
    have e : ((intsOf ds).bind fun ns => (minI ns).map fun m => Res.fz (.int m)) = some r := e
    cases q : intsOf ds with
    | none => rw [q] at e; cases e
    | some ns =>
      rw [q] at e
      have e : ((minI ns).map fun m => Res.fz (.int m)) = some r := e
      cases q2 : minI ns with
      | none => rw [q2] at e; cases e
      | some m =>
        rw [q2] at e
        cases e
        exact ⟨ds, ns, m, rfl, q, q2, rfl⟩
  | _ => cases e
theorem maxOk : OpC K B (rMaxAll K) maxD := by
  intro F own ρ σ H xs ds res Q R hz hx e k
  unfold maxD at e
  split at e
  · obtain ⟨x, e0, hx1⟩ := vwA1 hx
    clear hx
    subst e0
    have hx := hx1
    obtain ⟨ds, ns, m, rfl, q, q2, rfl⟩ := max1_inv e
    obtain ⟨a, xs, rfl, ea, r⟩ := hx
    have := ints_rz r q
    subst this
    obtain ⟨h1, h2⟩ := maxI_spec q2
    exact .inl ⟨a, ns, rfl, SqL.of ea, List.length_pos_of_mem h1, fun m' h1' h2' => by
      have := h2 m' h1'
      have := h2' m h1
      obtain rfl : m' = m := by omega
      exact k _ _ R Kept.refl (.int _)⟩
  · obtain ⟨i, j, rfl, rfl⟩ := max2_inv e
    obtain ⟨x, y, e0, hx1, hy⟩ := vwA2 hx
    clear hx
    subst e0
    have hx := hx1
    cases vw_int hx
    cases vw_int hy
    exact .inr ⟨i, j, rfl, k _ _ R Kept.refl (.int _)⟩
theorem minOk : OpC K B (rMinAll K) minD := by
  intro F own ρ σ H xs ds res Q R hz hx e k
  unfold minD at e
  split at e
  · obtain ⟨x, e0, hx1⟩ := vwA1 hx
    clear hx
    subst e0
    have hx := hx1
    obtain ⟨ds, ns, m, rfl, q, q2, rfl⟩ := min1_inv e
    obtain ⟨a, xs, rfl, ea, r⟩ := hx
    have := ints_rz r q
    subst this
    obtain ⟨h1, h2⟩ := minI_spec q2
    exact .inl ⟨a, ns, rfl, SqL.of ea, List.length_pos_of_mem h1, fun m' h1' h2' => by
      have := h2 m' h1'
      have := h2' m h1
      obtain rfl : m' = m := by omega
      exact k _ _ R Kept.refl (.int _)⟩
  · obtain ⟨i, j, rfl, rfl⟩ := min2_inv e
    obtain ⟨x, y, e0, hx1, hy⟩ := vwA2 hx
    clear hx
    subst e0
    have hx := hx1
    cases vw_int hx
    cases vw_int hy
    exact .inr ⟨i, j, rfl, k _ _ R Kept.refl (.int _)⟩
end
end Ip

set_option Elab.async false
set_option linter.all false
set_option maxRecDepth 100000
set_option maxHeartbeats 2000000
set_option autoImplicit false
/-! Ip8: calls of the text's own defs, isinstance, ranges as lists, pop -/
namespace Ip
open PySem L2

/-! ### a def's promise by what it makes of data -/
abbrev CallT := List D → (Res → Prop) → Prop
def noOwn : Own := fun _ => none
/-- what holds at a call -/
structure Cal (K : Frag) (B : BoxPred) (F : Fr) (H : Hp) : Prop where
  hb : F.O0 F.b
  hc : F.O0 F.c
  good : BoxGood B
  box : B F.b F.c H
  there : ∀ a, F.O0 a → ∃ o, H a = some o ∧ ∀ xs, o ≠ .tup xs
  h0 : F.H0 = H
  e0 : F.E = []
  l0 : F.L = []
  p0 : F.P = []
/-- what a def hands back -/
def Rr (K : Frag) (F : Fr) (H' : Hp) (v : V) : Res → Prop
  | .fz d => Rz K (F.av noOwn) F.b H' v d
  | .ow d => ∃ a o, v = .ref a ∧ F.H0 a = none ∧ H' a = some o ∧ Cn K (fun x => F.av noOwn x ∨ x = a) F.b H' o d
  | .bw _ => False
/-- what holds behind it -/
structure Ret (K : Frag) (B : BoxPred) (F : Fr) (H' : Hp) (v : V) (r : Res) : Prop where
  box : B F.b F.c H'
  base : ∀ a o, a ≠ F.b → a ≠ F.c → F.H0 a = some o → H' a = some o
  rs : Rr K F H' v r
def spI (K : Frag) (B : BoxPred) (n : Nat) (T : CallT) : Sp := fun vs H Q _ => ∃ F ds P, Cal K B F H ∧ vs.length = n ∧ RzA K (F.av noOwn) F.b H vs ds ∧ T ds P ∧ ∀ v r H', Ret K B F H' v r → P r → Q v H'
/-- operands, what is avoided told -/
def RwO (K : Frag) (O : ASet) (b : Addr) (σ : L2.St) (H : Hp) : List V → List Res → Prop
  | [], [] => True
  | v :: vs, r :: rs => (match r with
    | .fz d => Rz K O b H v d
    | .ow d => Rz K O b H v d
    | .bw i => σ[i]? = some (some v)) ∧ RwO K O b σ H vs rs
  | _, _ => False
theorem RsA.more {K : Frag} {F : Fr} {own : Own} {σ : L2.St} {H : Hp} {a : Addr} (ha : H a = none) : ∀ {vs : List V} {rs : List Res}, RsA K F own σ H vs rs → RwO K (fun x => F.av own x ∨ x = a) F.b σ H vs rs
  | [], [], _ => True.intro
  | v :: vs, r :: rs, ⟨h, t⟩ => ⟨by
      cases r with
      | fz d => exact Rz.more ha h
      | ow d => exact Rz.more ha h
      | bw i => exact h, RsA.more ha t⟩
  | [], _ :: _, h => h.elim
  | _ :: _, [], h => h.elim
theorem RsA.keptP {K : Frag} {F : Fr} {own : Own} {σ : L2.St} {H H' : Hp} {O : ASet} (k : Kept O H (F.av own) H') : ∀ {vs : List V} {rs : List Res}, RwO K O F.b σ H vs rs → RsA K F own σ H' vs rs
  | [], [], _ => True.intro
  | v :: vs, r :: rs, ⟨h, t⟩ => ⟨by
      cases r with
      | fz d => exact Rz.kept k h
      | ow d => exact Rz.kept k h
      | bw i => exact h, RsA.keptP k t⟩
  | [], _ :: _, h => h.elim
  | _ :: _, [], h => h.elim
def resPure : Res → Bool
  | .fz d => d.pure
  | .ow (.lst ds) => D.pures ds
  | _ => false
def backRho (ρ : Rho) (rs : List Res) (r : Res) : Option Rho := if resPure r = true then some ρ else (frzAll ρ rs).map (·.2)
def wCall (T : CallT) (ws : WO) : WE := fun ρ P => ws ρ fun rs ρ1 => need (dataAll ρ1 rs) fun ds => T ds fun r => need (backRho ρ1 rs r) fun ρ2 => P r ρ2
section
variable {K : Frag} {B : BoxPred} {F : Fr} {own : Own} {ρ ρ' : Rho} {σ : L2.St} {H H' : Hp}
/-- the frame that a callee sees -/
def calF (F : Fr) (own : Own) (rs : List Res) (H : Hp) : Fr := ⟨fun a => F.av own a ∧ ¬ ∃ i, Res.bw i ∈ rs ∧ own i = some a, F.b, F.c, H, [], [], []⟩
theorem cal_av {rs : List Res} {a : Addr} (h : (calF F own rs H).av noOwn a) : F.av own a ∧ ¬ ∃ i, Res.bw i ∈ rs ∧ own i = some a := by
  rcases h with h | ⟨i, h⟩ | ⟨xs, h⟩
  · exact h
  · cases h
  · cases h
theorem Rel.notb (R : Rel K B F own ρ σ H) {a : Addr} (h : F.O0 a) (i : Nat) : own i ≠ some a := fun e => by
  obtain ⟨o, e2, _⟩ := R.there a h
  rw [R.fresh i a e] at e2
  cases e2
theorem Rel.cal (R : Rel K B F own ρ σ H) (rs : List Res) : Cal K B (calF F own rs H) H where
  hb := ⟨.inl R.hb, fun ⟨i, _, e⟩ => R.notb R.hb i e⟩
  hc := ⟨.inl R.hc, fun ⟨i, _, e⟩ => R.notb R.hc i e⟩
  good := R.good
  box := R.box
  there := fun a h => R.nt h.1
  h0 := rfl
  e0 := rfl
  l0 := rfl
  p0 := rfl
/-- arguments as the callee sees them -/
theorem Rel.calArg (R : Rel K B F own ρ σ H) {all : List Res} {v : V} {r : Res} {d : D} (hr : ∀ i, r = .bw i → Res.bw i ∈ all) (h : Rw K F own σ H v r) (e : r.data ρ = some d) : Rz K ((calF F own all H).av noOwn) F.b H v d := by
  have less : ∀ a, (calF F own all H).av noOwn a → F.av own a := fun a z => (cal_av z).1
  cases r with
  | fz d' =>
    cases e
    exact Rz.kept (kept_less less) h
  | ow d' =>
    cases e
    exact Rz.kept (kept_less less) h
  | bw i =>
    have h : σ[i]? = some (some v) := h
    have e : (slotAt ρ i).data = some d := e
    have own_ : ∀ d, (ρ[i]? = some (.ow d) ∨ ρ[i]? = some (.lk d)) → Rz K ((calF F own all H).av noOwn) F.b H v d := fun d hs => by
      obtain ⟨a, ha, e2, c⟩ := R.ow i d hs
      rw [h] at e2
      cases e2
      have na : ¬ (calF F own all H).av noOwn a := fun z => (cal_av z).2 ⟨i, hr i rfl, ha⟩
      obtain ⟨o, e, c⟩ := c
      exact (c.kept (kept_less less)).rz e na
    cases q : slotAt ρ i with
    | non => rw [q] at e; cases e
    | fz d' =>
      rw [q] at e
      cases e
      obtain ⟨v', e2, r⟩ := R.fz i d (slot_of q (by intro z; cases z))
      rw [h] at e2
      cases e2
      exact r.kept (kept_less less)
    | ow d' =>
      rw [q] at e
      cases e
      exact own_ d (.inl (slot_of q (by intro z; cases z)))
    | lk d' =>
      rw [q] at e
      cases e
      exact own_ d (.inr (slot_of q (by intro z; cases z)))
theorem Rel.calArgs (R : Rel K B F own ρ σ H) {all : List Res} : ∀ {vs : List V} {rs : List Res} {ds : List D}, (∀ r ∈ rs, r ∈ all) → RsA K F own σ H vs rs → dataAll ρ rs = some ds → RzA K ((calF F own all H).av noOwn) F.b H vs ds
  | [], [], _, _, _, e => by cases e; exact .nil
  | v :: vs, r :: rs, ds, hs, ⟨a, b⟩, e => by
    unfold dataAll at e
    cases q : r.data ρ with
    | none => rw [q] at e; cases e
    | some d =>
      rw [q] at e
      cases q2 : dataAll ρ rs with
      | none => rw [q2] at e; cases e
      | some ds' =>
        rw [q2] at e
        cases e
        exact .cons (R.calArg (fun i e => e ▸ hs r List.mem_cons_self) a q) (R.calArgs (fun x hx => hs x (List.mem_cons_of_mem _ hx)) b q2)
  | [], _ :: _, _, _, h, _ => h.elim
  | _ :: _, [], _, _, h, _ => h.elim
/-- the frame behind a call -/
theorem Rel.ret (R : Rel K B F own ρ σ H) {rs : List Res} {v : V} {r : Res} (T : Ret K B (calF F own rs H) H' v r) : Rel K B F own ρ σ H' ∧ Kept (F.av own) H (F.av own) H' := by
  have nb : ∀ {a}, ¬ F.av own a → a ≠ F.b ∧ a ≠ F.c := fun {a} n => ⟨fun e => n (.inl (e ▸ R.hb)), fun e => n (.inl (e ▸ R.hc))⟩
  have st : ∀ a o, a ≠ F.b → a ≠ F.c → H a = some o → H' a = some o := T.base
  have hk : Kept (F.av own) H (F.av own) H' := ⟨fun _ z => z, fun a o e n => st a o (nb n).1 (nb n).2 e, fun a e => by
    cases q : H a with
    | none => rfl
    | some o =>
      by_cases h1 : a = F.b
      · obtain ⟨xs, e2⟩ := R.good.lb T.box
        have e2 : H' F.b = some (.lst xs) := e2
        rw [h1, e2] at e
        cases e
      · by_cases h2 : a = F.c
        · obtain ⟨xs, e2⟩ := R.good.lc T.box
          have e2 : H' F.c = some (.lst xs) := e2
          rw [h2, e2] at e
          cases e
        · rw [st a o h1 h2 q] at e
          cases e⟩
  refine ⟨{ R with
    box := T.box
    base := fun a o x y e => st a o x y (R.base a o x y e)
    fz := fun i d e => by
      obtain ⟨v, e2, r⟩ := R.fz i d e
      exact ⟨v, e2, r.kept hk⟩
    ow := fun i d e => by
      obtain ⟨a, e1, e2, c⟩ := R.ow i d e
      refine ⟨a, e1, e2, c.kept hk fun o q => st a o (fun z => ?_) (fun z => ?_) q⟩
      · exact R.notb (z ▸ R.hb) i e1
      · exact R.notb (z ▸ R.hc) i e1
    ex := fun p hp => (R.ex p hp).kept hk
    pv := fun p hp => by
      obtain ⟨h0, e, nt⟩ := R.pv p hp
      refine ⟨h0, st _ _ (fun z => ?_) (fun z => ?_) e, nt⟩
      · obtain ⟨o, e2, _⟩ := R.there F.b R.hb
        rw [← z, h0] at e2; cases e2
      · obtain ⟨o, e2, _⟩ := R.there F.c R.hc
        rw [← z, h0] at e2; cases e2 }, hk⟩
theorem Rel.wideS (R : Rel K B F own ρ σ H) {O : ASet} {v : V} {d : D} (p : d.pure = true) (h : Rz K O F.b H v d) : Rz K (F.av own) F.b H v d := h.wide R.ntup p
theorem Cn.wide {O O' : ASet} {b : Addr} {o : HO} {d : D} (hO : ∀ a xs, O' a → H a ≠ some (.tup xs)) (p : resPure (.ow d) = true) (h : Cn K O b H o d) : Cn K O' b H o d := by
  cases o <;> cases d <;> first | exact RzA.wide hO p h | exact h.elim
theorem Rel.callRed (R : Rel K B F own ρ σ H) {rs : List Res} {vs : List V} {v : V} {r : Res} (hs : RsA K F own σ H vs rs) (T : Ret K B (calF F own rs H) H' v r) (e : backRho ρ rs r = some ρ') :
    ∃ own', Rel K B F own' ρ' σ H' ∧ Kept (F.av own) H (F.av own') H' ∧ Rs K B F own' ρ' σ H' v r := by
  obtain ⟨R', hk⟩ := R.ret T
  have rs0 := T.rs
  have own_ : ∀ i x, own i = some x → H' x = H x := fun i x e => by
    obtain ⟨u, e2, _⟩ := R.nt (.inr (.inl ⟨i, e⟩))
    have e3 : H' x = some u := T.base x u (fun z => R.notb (z ▸ R.hb) i e) (fun z => R.notb (z ▸ R.hc) i e) e2
    rw [e2, e3]
  unfold backRho at e
  by_cases hp : resPure r = true
  · rw [if_pos hp] at e
    cases e
    refine ⟨own, R', hk, ?_⟩
    cases r with
    | fz d => exact R'.wideS hp rs0
    | ow d =>
      obtain ⟨a, o, e1, h0, ea, c⟩ := rs0
      have h0 : H a = none := h0
      refine ⟨a, o, e1, R.born R' h0 hk own_ ea c.ntup, c.wide (fun x ys hx => ?_) hp⟩
      rw [av_addP] at hx
      rcases hx with hx | hx
      · exact R'.ntup x ys hx
      · subst hx
        rw [ea]
        exact fun z => c.ntup ys (Option.some.inj z)
    | bw i => cases hp
  · rw [if_neg hp] at e
    cases q : Ip.frzAll ρ rs with
    | none => rw [q] at e; cases e
    | some p =>
      obtain ⟨ds, ρ2⟩ := p
      rw [q] at e
      cases e
      have less : ∀ own', Less own own' → (∀ i, Res.bw i ∈ rs → own' i = none) → ∀ a, F.av own' a → (calF F own rs H).av noOwn a := fun own' l nn a z => .inl ⟨av_less l.sub z, fun ⟨i, hi, e⟩ => by
        rcases z with z | ⟨j, z⟩ | ⟨xs, z⟩
        · exact R.notb z i e
        · have := R.inj i j a e (l.sub j a z)
          subst this
          rw [nn i hi] at z
          cases z
        · exact R.pvo _ z i e⟩
      cases r with
      | fz d =>
        obtain ⟨own', R2, l, nn, _⟩ := R'.frzAll (hs.kept hk) q
        exact ⟨own', R2, hk.trans l.kept, Rz.kept (kept_less (less own' l nn)) rs0⟩
      | ow d =>
        obtain ⟨a, o, e1, h0, ea, c⟩ := rs0
        have h0 : H a = none := h0
        have RP := R.born R' h0 hk own_ ea c.ntup
        have hs' : RsA K (Ip.addP F a o) own σ H' vs rs := by
          refine RsA.keptP (F := Ip.addP F a o) (H := H) (O := fun x => F.av own x ∨ x = a) ?_ (hs.more h0)
          rw [av_addP_eq]
          exact hk.add
        obtain ⟨own', R2, l, nn, _⟩ := RP.frzAll hs' q
        refine ⟨own', R2.dropP.1, hk.trans l.kept, a, o, e1, R2, c.kept (kept_less fun x hx => ?_)⟩
        rw [av_addP] at hx
        exact hx.elim (fun z => .inl (less own' l nn x z)) .inr
      | bw i => exact rs0.elim
end
section
variable {X : Cx} {B : BoxPred} {e : Expr} {es : List Expr} {w wa wb : WE} {ws : WO} {T : CallT} {x : Str} {p p2 pos : Pos} {k n : Nat} {f : Addr} {fd : FuncData} {ps : List Str}
theorem sCall (Fn : FnOk X.prog X.w X.K X.mg X.base CX0 k f fd ps (spI X.K B n T)) (hr : Room k X.A) (hg : Gl X x) (hm : X.mg x = some (.ref f)) (hk : PySem.W.keepIn X.K (.ref f) = true) (hb : Binds X.K fd ps [])
    (hl : (e :: es).length = n) (ha : PA X (e :: es) (tO X.K B ws)) (hlen : ∀ ρ P, ws ρ P → ws ρ fun rs ρ1 => rs.length = (e :: es).length ∧ P rs ρ1) (hdb : (x == ("__debug__" : Str)) = false) (he : starEach (e :: es) X.env = (false, eval e X.env) :: starEach es X.env) (hpl : (backTo pos (starEach es X.env)).any (·.1) = false) :
    PE X (.Call (.Name x p) (e :: es) [] pos) (tE X.K B (wCall T ws)) :=
  peW (pe_call (E := E0) (dvs := []) Fn hr hg hm hk hb .nil pass0 ha hdb he hpl) fun σ H Q h => by
    obtain ⟨F, own, ρ, P, R, w, kk⟩ := h
    refine ⟨F, own, ρ, _, R, hlen ρ _ w, fun own1 ρ1 vs rs H1 R1 k1 s1 w1 => ?_⟩
    obtain ⟨hlr, w1⟩ := w1
    obtain ⟨ds, e1, w2⟩ := need_of w1
    rw [List.append_nil]
    have hvl : vs.length = rs.length := by
      have : ∀ {vs : List V} {rs : List Res}, RsA X.K F own1 σ H1 vs rs → vs.length = rs.length := fun {vs} => by
        induction vs with
        | nil => intro rs h; cases rs with
          | nil => rfl
          | cons _ _ => exact h.elim
        | cons v vs ih => intro rs h; cases rs with
          | nil => exact h.elim
          | cons r rs => exact congrArg (· + 1) (ih h.2)
      exact this s1
    refine ⟨calF F own1 rs H1, ds, _, R1.cal rs, by rw [hvl, hlr, hl], R1.calArgs (fun _ h => h) s1 e1, w2, fun v r H' T' hP => ?_⟩
    obtain ⟨ρ2, e2, w3⟩ := need_of hP
    obtain ⟨own2, R2, k2, s2⟩ := R1.callRed s1 T' e2
    exact kk own2 ρ2 v r H' R2 (k1.trans k2) s2 w3

/-! ### isinstance -/
inductive Ty | int | bool | str | tuple | list
  deriving DecidableEq
def Ty.name : Ty → String
  | .int => "int"
  | .bool => "bool"
  | .str => "str"
  | .tuple => "tuple"
  | .list => "list"
def isiD : Ty → D → Option Bool
  | _, .dct _ _ => none
  | _, .st _ => none
  | _, .box => none
  | .int, .int _ => some true
  | .int, .bl _ => some true
  | .bool, .bl _ => some true
  | .str, .str _ => some true
  | .tuple, .tup _ => some true
  | .list, .lst _ => some true
  | _, _ => some false
def wIsi (T : Ty) (w : WE) : WE := fun ρ P => w ρ fun r ρ1 => need (r.data ρ1) fun d => need (isiD T d) fun k => P (.fz (.bl k)) ρ1
theorem vw_ty {K : Frag} {O : ASet} {b : Addr} {H : Hp} {v : V} {d : D} {T : Ty} {k : Bool} (h : Vw K O b H v d) (e : isiD T d = some k) : ∃ t : String, TyX K H v (.type t) ∧ kitB t T.name = some k := by
  cases d with
  | non =>
    cases vw_non h
    refine ⟨"NoneType", .base .non, ?_⟩
    cases T <;> (cases e; decide +kernel)
  | bl x =>
    cases vw_bool h
    refine ⟨"bool", .base (.bl x), ?_⟩
    cases T <;> (cases e; decide +kernel)
  | int x =>
    cases vw_int h
    refine ⟨"int", .base (.int x), ?_⟩
    cases T <;> (cases e; decide +kernel)
  | str x =>
    cases vw_str h
    refine ⟨"str", .base (.str x), ?_⟩
    cases T <;> (cases e; decide +kernel)
  | tup ds =>
    obtain ⟨a, xs, rfl, ea, _⟩ := vw_tup h
    refine ⟨"tuple", ?_, ?_⟩
    · rcases ea with ea | ea
      · exact .base (.tup ea.1)
      · rcases ea with (ea | ⟨_, ea⟩) | ⟨o, its, n, hk, hc, _⟩
        · cases ea
        · cases ea
        · exact .kTuple hk hc
    · cases T <;> (cases e; decide +kernel)
  | lst ds =>
    obtain ⟨a, xs, rfl, ea, _⟩ := h
    refine ⟨"list", .base (.lst ea), ?_⟩
    cases T <;> (cases e; decide +kernel)
  | _ => cases T <;> cases e
theorem sIsi {T : Ty} {t : Str} (he : PE X e (tE X.K B w)) (hg : Gl X "isinstance") (hm : X.mg "isinstance" = none) (hgt : Gl X t) (hmt : X.mg t = none) (hbt : bootBuiltins t = some (.type T.name)) (hn : t ≠ "__name__") (hd : (t == ("__debug__" : Str)) = false)
    (hs : starEach [e, .Name t p2] X.env = (false, eval e X.env) :: starEach [.Name t p2] X.env) : PE X (.Call (.Name "isinstance" p) [e, .Name t p2] [] pos) (tE X.K B (wIsi T w)) :=
  peW (pe_callB call_isi hg hm (by decide +kernel) (pa_cons he (pa_cons (pe_bltn (v := .ty T.name) hgt hmt hbt rfl hn hd) pa_nil) hs) (by decide) (by decide) hs rfl) fun σ H Q h => by
    obtain ⟨F, own, ρ, P, R, w, k⟩ := h
    refine ⟨F, own, ρ, _, R, w, fun own1 ρ1 v r H1 R1 k1 s1 w1 => ?_⟩
    obtain ⟨d, e1, w2⟩ := need_of w1
    obtain ⟨b, e2, w3⟩ := need_of w2
    obtain ⟨ty, h1, h2⟩ := vw_ty (R1.view s1.w e1) e2
    exact ⟨v, .ty T.name, .type ty, .type T.name, b, rfl, .ty _, h1, kit_ty h2, k own1 ρ1 _ (.fz (.bl b)) H1 R1 k1 (.bl _) w3⟩

/-! ### ranges -/
abbrev WR := Rho → (Int → Int → Rho → Prop) → Prop
def wRg1 (w : WE) : WR := fun ρ P => w ρ fun r ρ1 => need (r.data ρ1) fun d => need (asInt d) fun n => P 0 n ρ1
def wRg2 (wa wb : WE) : WR := fun ρ P => wa ρ fun ra ρ1 => wb ρ1 fun rb ρ2 => need (ra.data ρ2) fun x => need (rb.data ρ2) fun y => need (asInt x) fun i => need (asInt y) fun j => P i j ρ2
def tR (K : Frag) (B : BoxPred) (w : WR) : L2.St → Hp → (Int → Int → Hp → Prop) → Prop := fun σ H Q => ∃ F own ρ P, Rel K B F own ρ σ H ∧ w ρ P ∧
  ∀ own' ρ' i j H', Rel K B F own' ρ' σ H' → Kept (F.av own) H (F.av own') H' → P i j ρ' → Q i j H'
def rgD (a b : Int) : List D := (List.range (b - a).toNat).map fun i => D.int (a + (i : Nat))
def rgOk (a b : Int) : Prop := -5000000 ≤ a ∧ a ≤ 5000000 ∧ -5000000 ≤ b ∧ b ≤ 5000000
instance (a b : Int) : Decidable (rgOk a b) := inferInstanceAs (Decidable (_ ∧ _))
theorem rgOk.ok {a b : Int} (h : rgOk a b) : RgOk a b := by
  unfold rgOk at h
  exact ⟨by omega, by omega, by omega, by omega, by omega⟩
def wRgL (w : WR) : WE := fun ρ P => w ρ fun a b ρ1 => rgOk a b ∧ P (.ow (.lst (rgD a b))) ρ1
def wRgT (w : WR) : WE := fun ρ P => w ρ fun a b ρ1 => rgOk a b ∧ P (.fz (.tup (rgD a b))) ρ1
theorem asInt_inv {d : D} {i : Int} (h : asInt d = some i) : d = .int i := by
  cases d with
  | int j => cases h; rfl
  | _ => cases h
theorem prW {e : Expr} {t t' : L2.St → Hp → (Int → Int → Hp → Prop) → Prop} (h : PRg X e t) (i : ∀ σ H Q, t' σ H Q → t σ H Q) : PRg X e t' := fun pins s σ H Q I q => h pins s σ H Q I (i σ H Q q)
theorem sRg1 (hg : Gl X "range") (hm : X.mg "range" = none) (ha : PE X e (tE X.K B w)) (hs : starEach [e] X.env = (false, eval e X.env) :: starEach [] X.env) : PRg X (.Call (.Name "range" p) [e] [] pos) (tR X.K B (wRg1 w)) :=
  prW (prg_1 hg hm ha hs) fun σ H Q h => by
    obtain ⟨F, own, ρ, P, R, w, k⟩ := h
    refine ⟨F, own, ρ, _, R, w, fun own1 ρ1 v r H1 R1 k1 s1 w1 => ?_⟩
    obtain ⟨d, e1, w2⟩ := need_of w1
    obtain ⟨n, e2, w3⟩ := need_of w2
    cases asInt_inv e2
    exact ⟨n, vw_int (R1.view s1.w e1), k own1 ρ1 0 n H1 R1 k1 w3⟩
theorem sRg2 {e2 : Expr} (hg : Gl X "range") (hm : X.mg "range" = none) (ha : PE X e (tE X.K B wa)) (hb : PE X e2 (tE X.K B wb)) (hs : starEach [e, e2] X.env = (false, eval e X.env) :: starEach [e2] X.env) (hs2 : starEach [e2] X.env = (false, eval e2 X.env) :: starEach [] X.env) :
    PRg X (.Call (.Name "range" p) [e, e2] [] pos) (tR X.K B (wRg2 wa wb)) :=
  prW (prg_2 hg hm ha hb hs hs2 (hp := by rw [hs2]; rfl)) fun σ H Q h => by
    obtain ⟨F, own, ρ, P, R, w, k⟩ := h
    refine ⟨F, own, ρ, _, R, w, fun own1 ρ1 v r H1 R1 k1 s1 w1 => ⟨F, own1, ρ1, _, R1, w1, fun own2 ρ2 u r2 H2 R2 k2 s2 w2 => ?_⟩⟩
    obtain ⟨dx, e1, w3⟩ := need_of w2
    obtain ⟨dy, e2, w4⟩ := need_of w3
    obtain ⟨i, e3, w5⟩ := need_of w4
    obtain ⟨j, e4, w6⟩ := need_of w5
    cases asInt_inv e3
    cases asInt_inv e4
    exact ⟨i, j, vw_int (R2.view (s1.w.kept k2) e1), vw_int (R2.view s2.w e2), k own2 ρ2 i j H2 R2 (k1.trans k2) w6⟩
theorem rz_rg {K : Frag} {O : ASet} {b : Addr} {H : Hp} (i j : Int) : RzA K O b H (rgV i j) (rgD i j) := by
  unfold rgV rgD
  induction List.range (j - i).toNat with
  | nil => exact .nil
  | cons n ns ih => exact .cons (.int _) ih
theorem sRgL {wr : WR} (hc : X.calm = true) (hg : Gl X "list") (hm : X.mg "list" = none) (he : PRg X e (tR X.K B wr)) (hs : starEach [e] X.env = (false, eval e X.env) :: starEach [] X.env) : PE X (.Call (.Name "list" p) [e] [] pos) (tE X.K B (wRgL wr)) :=
  peW (pe_listRg hc hg hm he hs) fun σ H Q h => by
    obtain ⟨F, own, ρ, P, R, w, k⟩ := h
    refine ⟨F, own, ρ, _, R, w, fun own1 ρ1 i j H1 R1 k1 w1 => ⟨w1.1.ok, fun q hq => ?_⟩⟩
    exact k own1 ρ1 _ _ _ (R1.new hq) (k1.trans (Kept.new hq)) (R1.newL hq (rz_rg i j)) w1.2
theorem sRgT {wr : WR} (hc : X.calm = true) (hg : Gl X "tuple") (hm : X.mg "tuple" = none) (he : PRg X e (tR X.K B wr)) (hs : starEach [e] X.env = (false, eval e X.env) :: starEach [] X.env) : PE X (.Call (.Name "tuple" p) [e] [] pos) (tE X.K B (wRgT wr)) :=
  peW (pe_tupRg hc hg hm he hs) fun σ H Q h => by
    obtain ⟨F, own, ρ, P, R, w, k⟩ := h
    refine ⟨F, own, ρ, _, R, w, fun own1 ρ1 i j H1 R1 k1 w1 => ⟨w1.1.ok, fun q hq => ?_⟩⟩
    exact k own1 ρ1 _ _ _ (R1.new hq) (k1.trans (Kept.new hq)) (R1.newT hq (rz_rg i j)) w1.2
end
end Ip

set_option Elab.async false
set_option linter.all false
set_option maxRecDepth 100000
set_option maxHeartbeats 2000000
set_option autoImplicit false
/-! Ip9: targets, what is walked, comprehensions -/
namespace Ip
open PySem L2

/-! ### targets -/
abbrev WG := D → Rho → (Rho → Prop) → Prop
abbrev WGs := List D → Rho → (Rho → Prop) → Prop
def notLk : Slot → Bool
  | .lk _ => false
  | _ => true
def gSet (i : Nat) : WG := fun d ρ P => notLk (slotAt ρ i) = true ∧ P (ρ.set i (.fz d))
def gNilW : WGs := fun ds ρ P => match ds with
  | [] => P ρ
  | _ :: _ => False
def gConsW (g : WG) (gs : WGs) : WGs := fun ds ρ P => match ds with
  | [] => False
  | d :: ds => g d ρ fun ρ1 => gs ds ρ1 P
def gTupW (gs : WGs) : WG := fun d ρ P => match d with
  | .tup ds => gs ds ρ P
  | _ => False
/-- σ' is σ but for the slots vs -/
structure Only (vs : List Nat) (σ σ' : L2.St) : Prop where
  out : ∀ i, i ∉ vs → σ'[i]? = σ[i]?
  len : σ'.length = σ.length
theorem Only.refl {vs : List Nat} {σ : L2.St} : Only vs σ σ := ⟨fun _ _ => rfl, rfl⟩
theorem Only.trans {vs : List Nat} {σ σ' σ'' : L2.St} (a : Only vs σ σ') (b : Only vs σ' σ'') : Only vs σ σ'' := ⟨fun i h => (b.out i h).trans (a.out i h), b.len.trans a.len⟩
theorem Only.mono {vs ws : List Nat} {σ σ' : L2.St} (a : Only vs σ σ') (h : ∀ i ∈ vs, i ∈ ws) : Only ws σ σ' := ⟨fun i n => a.out i fun z => n (h i z), a.len⟩
theorem wipe_at {σ : L2.St} {i : Nat} : ∀ {vs : List Nat}, i ∈ vs → (h : i < σ.length) → (wipe σ vs)[i]? = some none
  | v :: vs, hv, h => by
    show ((wipe σ vs).set v none)[i]? = _
    by_cases e : v = i
    · subst e
      rw [List.getElem?_set_self (by rw [wipe_length]; exact h)]
    · rw [List.getElem?_set_ne e]
      exact wipe_at ((List.mem_cons.mp hv).resolve_left fun z => e z.symm) h
theorem Only.wipe {vs : List Nat} {σ σ' : L2.St} (o : Only vs σ σ') : wipe σ' vs = wipe σ vs := by
  apply List.ext_getElem?
  intro i
  by_cases hi : i ∈ vs
  · by_cases hl : i < σ.length
    · rw [wipe_at hi hl, wipe_at hi (by rw [o.len]; exact hl)]
    · rw [List.getElem?_eq_none (by rw [wipe_length, o.len]; omega), List.getElem?_eq_none (by rw [wipe_length]; omega)]
  · rw [wipe_out hi, wipe_out hi, o.out i hi]
section
variable {K : Frag} {B : BoxPred} {F : Fr} {own : Own} {ρ : Rho} {σ : L2.St} {H : Hp}
theorem slot_none {ρ : Rho} {i : Nat} (h : ρ[i]? = none) : slotAt ρ i = .non := by
  unfold slotAt; rw [h]
/-- a slot takes data -/
theorem Rel.put (R : Rel K B F own ρ σ H) {i : Nat} {v : V} {d : D} (n : notLk (slotAt ρ i) = true) (h : Rz K (F.av own) F.b H v d) : Rel K B F (dropO own i) (ρ.set i (.fz d)) (σ.set i (some v)) H ∧ Less own (dropO own i) := by
  have l : Less own (dropO own i) := ⟨fun _ _ e => (dropO_some e).2⟩
  have hk : Kept (F.av own) H (F.av (dropO own i)) H := l.kept
  refine ⟨?_, l⟩
  exact { R with
    fresh := fun j x e => R.fresh j x (dropO_some e).2
    inj := fun j k x e e2 => R.inj j k x (dropO_some e).2 (dropO_some e2).2
    dom := fun j x e => by
      obtain ⟨q, e⟩ := dropO_some e
      obtain ⟨d', hd⟩ := R.dom j x e
      exact ⟨d', by rw [List.getElem?_set_ne (Ne.symm q)]; exact hd⟩
    fz := fun j d' e => by
      by_cases q : j = i
      · subst q
        by_cases hl : j < ρ.length
        · rw [List.getElem?_set_self hl] at e
          cases e
          exact ⟨v, by rw [List.getElem?_set_self (by rw [← R.len]; exact hl)], h.kept hk⟩
        · rw [List.getElem?_eq_none (by rw [List.length_set]; omega)] at e
          cases e
      · rw [List.getElem?_set_ne (Ne.symm q)] at e
        obtain ⟨v', e2, r⟩ := R.fz j d' e
        exact ⟨v', by rw [List.getElem?_set_ne (Ne.symm q)]; exact e2, r.kept hk⟩
    ow := fun j d' e => by
      by_cases q : j = i
      · subst q
        by_cases hl : j < ρ.length
        · rw [List.getElem?_set_self hl] at e
          rcases e with e | e <;> cases e
        · rw [List.getElem?_eq_none (by rw [List.length_set]; omega)] at e
          rcases e with e | e <;> cases e
      · rw [List.getElem?_set_ne (Ne.symm q)] at e
        obtain ⟨x, e1, e2, c⟩ := R.ow j d' e
        exact ⟨x, by rw [dropO_ne q]; exact e1, by rw [List.getElem?_set_ne (Ne.symm q)]; exact e2, c.kept hk fun _ z => z⟩
    len := by rw [List.length_set, List.length_set]; exact R.len
    ex := fun p hp => (R.ex p hp).kept hk
    lks := fun p hp => by
      obtain ⟨e1, e2⟩ := R.lks p hp
      have q : p.1 ≠ i := fun e => by
        unfold slotAt at n
        rw [← e, e2] at n
        cases n
      exact ⟨by rw [dropO_ne q]; exact e1, by rw [List.getElem?_set_ne (Ne.symm q)]; exact e2⟩
    pvo := fun p hp j e => R.pvo p hp j (dropO_some e).2 }
variable (K B)
def tG (vs : List Nat) (w : WG) : TG := fun v σ H Q => ∃ F own ρ d P, Rel K B F own ρ σ H ∧ Rz K (F.av own) F.b H v d ∧ w d ρ P ∧
  ∀ own' ρ' σ', Rel K B F own' ρ' σ' H → Less own own' → Only vs σ σ' → P ρ' → Q σ' H
def tGs (vs : List Nat) (w : WGs) : TGs := fun xs σ H Q => ∃ F own ρ ds P, Rel K B F own ρ σ H ∧ RzA K (F.av own) F.b H xs ds ∧ w ds ρ P ∧
  ∀ own' ρ' σ', Rel K B F own' ρ' σ' H → Less own own' → Only vs σ σ' → P ρ' → Q σ' H
end
section
variable {X : Cx} {B : BoxPred} {e : Expr} {es : List Expr} {g : WG} {gs : WGs} {vs ws : List Nat} {x : Str} {pos : Pos} {i k : Nat}
theorem pgW {t t' : TG} (h : PG X e t) (i : ∀ v σ H Q, t' v σ H Q → t v σ H Q) : PG X e t' := ⟨fun pins s σ H v u Q I r q => h.run pins s σ H v u Q I r (i v σ H Q q)⟩
theorem pgsW {t t' : TGs} (h : PGs X es t) (i : ∀ v σ H Q, t' v σ H Q → t v σ H Q) : PGs X es t' := ⟨fun pins s σ H v u Q I r q => h.run pins s σ H v u Q I r (i v σ H Q q)⟩
theorem sgName (hN : X.N.Nodup) (hi : X.N[i]? = some x) (hx : Loc X.env.scope x) (hf : X.fn x = true ∨ X.env.scope.names.lookup x = some .local) : PG X (.Name x pos) (tG X.K B [i] (gSet i)) :=
  pgW (pg_name hN hi hx hf) fun v σ H Q h => by
    obtain ⟨F, own, ρ, d, P, R, z, w, kk⟩ := h
    obtain ⟨R', l⟩ := R.put w.1 z
    exact kk _ _ _ R' l ⟨fun j hj => List.getElem?_set_ne fun e => hj (by rw [e]; exact List.mem_cons_self), List.length_set⟩ w.2
theorem sgsNil : PGs X [] (tGs X.K B [] gNilW) := pgsW pgs_nil fun xs σ H Q h => by
  obtain ⟨F, own, ρ, ds, P, R, z, w, kk⟩ := h
  cases ds with
  | nil =>
    cases z
    exact ⟨rfl, kk own ρ σ R Less.refl Only.refl w⟩
  | cons _ _ => exact w.elim
theorem sgsCons (h1 : PG X e (tG X.K B vs g)) (h2 : PGs X es (tGs X.K B ws gs)) (hs : (assignEach (e :: es) X.env).map (·.2) = assign e X.env :: (assignEach es X.env).map (·.2)) : PGs X (e :: es) (tGs X.K B (vs ++ ws) (gConsW g gs)) :=
  pgsW (pgs_cons h1 h2 hs) fun xs σ H Q h => by
    obtain ⟨F, own, ρ, ds, P, R, z, w, kk⟩ := h
    cases z with
    | nil => exact w.elim
    | cons z1 z2 =>
      rename_i v vs' d ds'
      refine ⟨v, vs', rfl, F, own, ρ, d, _, R, z1, w, fun own1 ρ1 σ1 R1 l1 o1 w1 => ⟨F, own1, ρ1, ds', P, R1, z2.kept l1.kept, w1, fun own2 ρ2 σ2 R2 l2 o2 w2 => ?_⟩⟩
      exact kk own2 ρ2 σ2 R2 (l1.trans l2) ((o1.mono fun j hj => List.mem_append_left _ hj).trans (o2.mono fun j hj => List.mem_append_right _ hj)) w2
/-- targets that are names or tuples -/
def tgPlain : Expr → Bool
  | .Name _ _ => true
  | .Tuple _ _ _ => true
  | _ => false
theorem each_len (env : Env) : ∀ es : List Expr, es.all tgPlain = true → (assignEach es env).length = es.length ∧ (assignEach es env).findIdx? (·.1) = none
  | [], _ => ⟨rfl, rfl⟩
  | e :: es, h => by
    rw [List.all_cons, Bool.and_eq_true] at h
    obtain ⟨h1, h2⟩ := each_len env es h.2
    have q : assignEach (e :: es) env = (false, assign e env) :: assignEach es env := by
      cases e <;> first | rfl | (cases h.1)
    rw [q]
    refine ⟨congrArg (· + 1) h1, ?_⟩
    rw [List.findIdx?_cons]
    simp [h2]
theorem each_map (env : Env) (e : Expr) (es : List Expr) (h : tgPlain e = true) : (assignEach (e :: es) env).map (·.2) = assign e env :: (assignEach es env).map (·.2) := by
  cases e <;> first | rfl | (cases h)
theorem sgTup (hc : X.calm = true) (hp : es.all tgPlain = true) (h : PGs X es (tGs X.K B vs gs)) (hl : ∀ ds ρ P, gs ds ρ P → ds.length = es.length) : PG X (.Tuple es k pos) (tG X.K B vs (gTupW gs)) :=
  pgW (pg_tup hc h (each_len X.env es hp).1 (each_len X.env es hp).2) fun v σ H Q h => by
    obtain ⟨F, own, ρ, d, P, R, z, w, kk⟩ := h
    cases d with
    | tup ds =>
      obtain ⟨a, xs, rfl, ea, r⟩ := vw_tup z.vw
      exact ⟨a, xs, rfl, ea.sq, by rw [r.length]; exact hl ds ρ P w, F, own, ρ, ds, P, R, r, w, kk⟩
    | _ => exact w.elim
end

/-! ### what is walked -/
abbrev Lock := Option (Nat × Slot)
abbrev WI := Rho → (List D → Lock → Rho → Prop) → Prop
def unlock (lk : Lock) (ρ : Rho) : Rho := match lk with
  | none => ρ
  | some (i, s) => ρ.set i s
def wSeq (w : WE) : WI := fun ρ P => w ρ fun r ρ1 => match r with
  | .fz d => need (itemsOf d) fun ds => P ds none ρ1
  | .ow d => need (itemsOf d) fun ds => P ds none ρ1
  | .bw i => match slotAt ρ1 i with
    | .fz d => need (itemsOf d) fun ds => P ds none ρ1
    | .ow (.lst ds) => P ds (some (i, .ow (.lst ds))) (ρ1.set i (.lk (.lst ds)))
    | .lk (.lst ds) => P ds (some (i, .lk (.lst ds))) ρ1
    | _ => False
def wRgI (w : WR) : WI := fun ρ P => w ρ fun a b ρ1 => rgOk a b ∧ P (rgD a b) none ρ1
/-- the frame while a loop runs -/
structure FrEq (F F' : Fr) : Prop where
  o0 : F'.O0 = F.O0
  b : F'.b = F.b
  c : F'.c = F.c
  h0 : F'.H0 = F.H0
  p : F'.P = F.P
theorem FrEq.av {F F' : Fr} (e : FrEq F F') (own : Own) : F'.av own = F.av own := by
  unfold Fr.av
  rw [e.o0, e.p]
theorem FrEq.refl {F : Fr} : FrEq F F := ⟨rfl, rfl, rfl, rfl, rfl⟩
/-- an iterator gives the items ds, one after another -/
structure ItOk (K : Frag) (B : BoxPred) (F : Fr) (J : It) (ds : List D) : Prop where
  go : ∀ {own ρ σ H} (i : Nat), Rel K B F own ρ σ H → i < ds.length → J.go i H
  stop : ∀ {own ρ σ H}, Rel K B F own ρ σ H → J.stop ds.length H
  yld : ∀ {own ρ σ H x H'} (i : Nat), Rel K B F own ρ σ H → i < ds.length → J.yld i H x H' → ∃ d, ds[i]? = some d ∧ Rel K B F own ρ σ H' ∧ Kept (F.av own) H (F.av own) H' ∧ Rz K (F.av own) F.b H' x d
def onP (F : Fr) (G : List (Addr × HO)) : Fr := { F with P := G }
def ItAll (K : Frag) (B : BoxPred) (F : Fr) (J : It) (ds : List D) : Prop := ∀ F2 : Fr, (∀ q ∈ F.E, q ∈ F2.E) → (∀ q ∈ F.L, q ∈ F2.L) → ItOk K B F2 J ds
def tIt (K : Frag) (B : BoxPred) (w : WI) : TI := fun σ H S => ∃ F own ρ P, Rel K B F own ρ σ H ∧ w ρ P ∧
  ∀ F' own' ρ' ds lk J H', FrEq F F' → Rel K B F' own' ρ' σ H' → (∀ (G : List (Addr × HO)) own2 ρ2 σ2 H2, Rel K B (onP F' G) own2 ρ2 σ2 H2 → Rel K B (onP F G) own2 (unlock lk ρ2) σ2 H2) → Kept (F.av own) H (F.av own') H' → ItAll K B F' J ds → ds.length ≤ sizeLine → P ds lk ρ' → S J H'
/-- a list or a tuple -/
def iSeq (K : Frag) (tl : TE) : TI := fun σ H S => tl σ H fun x H1 => ∃ a xs, x = .ref a ∧ ((SqL K H1 a xs ∧ (xs.length ≤ sizeLine → S (Itl K a) H1)) ∨ (SqT K H1 a xs ∧ (xs.length ≤ sizeLine → S (Itt K a) H1)))
section
variable {X : Cx} {B : BoxPred} {tg l : Expr} {tl : TE} {w : WE}
theorem piW {t t' : TI} (h : PI X tg l t) (i : ∀ σ H Q, t' σ H Q → t σ H Q) : PI X tg l t' := ⟨fun pins s σ H S I q => h.run pins s σ H S I (i σ H S q)⟩
theorem pi_seq (hl : PE X l tl) : PI X tg l (iSeq X.K tl) := by
  refine ⟨fun pins s σ H S I h => ?_⟩
  refine thn (hl.run pins s σ H _ I h) fun v s1 ⟨x, H1, I1, r1, q1⟩ => ?_
  obtain ⟨a, xs, e, q1⟩ := q1
  subst e
  cases r1
  rcases q1 with ⟨hq, q⟩ | ⟨hq, q⟩
  · obtain ⟨its, rv, p, hz⟩ := I1.list hq
    refine wpAny_pyIter_list p.isList ⟨s1.heap.objs.size, [s1.heap.objs.size], _, _, H1, rfl, I1.kept (t' := s1.toks) fun b o e => Heap.get?_push_of_some _ e, turn_list a _, ⟨_, Heap.get?_push_size _ rfl, rfl, rfl⟩, fun b hb => ?_, q hz⟩
    obtain rfl : b = s1.heap.objs.size := by simpa using hb
    exact I1.fpOk (Nat.le_refl _) (I1.hok.fresh (Nat.le_refl _))
  · obtain ⟨its, rv, p, hz⟩ := I1.tuple hq
    refine wpAny_pyIter_tuple (show s1.heap.IsTuple a its.toArray from p) ⟨s1.heap.objs.size, [s1.heap.objs.size], _, _, H1, rfl, I1.kept (t' := s1.toks) fun b o e => Heap.get?_push_of_some _ e, turn_tuple a _, ⟨_, Heap.get?_push_size _ rfl, rfl, rfl⟩, fun b hb => ?_, q hz⟩
    obtain rfl : b = s1.heap.objs.size := by simpa using hb
    exact I1.fpOk (Nat.le_refl _) (I1.hok.fresh (Nat.le_refl _))
end
section
variable {K : Frag} {B : BoxPred} {F : Fr} {own : Own} {ρ : Rho} {σ : L2.St} {H : Hp}
def addE (F : Fr) (v : V) (d : D) : Fr := { F with E := (v, d) :: F.E }
def addL (F : Fr) (i : Nat) (a : Addr) (d : D) : Fr := { F with L := (i, a, d) :: F.L }
theorem Rel.addE (R : Rel K B F own ρ σ H) {v : V} {d : D} (h : Rz K (F.av own) F.b H v d) : Rel K B (addE F v d) own ρ σ H :=
  { R with
    ex := fun p hp => by
      rcases List.mem_cons.mp hp with rfl | hp
      · exact h
      · exact R.ex p hp }
theorem Rel.dropE {v : V} {d : D} (R : Rel K B (Ip.addE F v d) own ρ σ H) : Rel K B F own ρ σ H :=
  { R with ex := fun p hp => R.ex p (List.mem_cons_of_mem _ hp) }
theorem listIt {a : Addr} {xs : List V} {ds : List D} (h : ∀ {own ρ σ H}, Rel K B F own ρ σ H → ∃ xs, SqL K H a xs ∧ RzA K (F.av own) F.b H xs ds) : ItOk K B F (Itl K a) ds where
  go := fun i R hi => by
    obtain ⟨xs, hs, r⟩ := h R
    have hx : i < xs.length := by rw [r.length]; exact hi
    exact ⟨xs, xs[i], hs, by simp [hx]⟩
  stop := fun R => by
    obtain ⟨xs, hs, r⟩ := h R
    exact ⟨xs, hs, Nat.le_of_eq r.length⟩
  yld := fun i R hi y => by
    obtain ⟨xs, hs, r⟩ := h R
    obtain ⟨e, y⟩ := y
    subst e
    obtain ⟨d, hd, z⟩ := r.atV (y xs hs)
    exact ⟨d, hd, R, Kept.refl, z⟩
theorem tupIt {a : Addr} {ds : List D} (h : ∀ {own ρ σ H}, Rel K B F own ρ σ H → ∃ xs, SqT K H a xs ∧ RzA K (F.av own) F.b H xs ds) : ItOk K B F (Itt K a) ds where
  go := fun i R hi => by
    obtain ⟨xs, hs, r⟩ := h R
    have hx : i < xs.length := by rw [r.length]; exact hi
    exact ⟨xs, xs[i], hs, by simp [hx]⟩
  stop := fun R => by
    obtain ⟨xs, hs, r⟩ := h R
    exact ⟨xs, hs, Nat.le_of_eq r.length⟩
  yld := fun i R hi y => by
    obtain ⟨xs, hs, r⟩ := h R
    obtain ⟨e, y⟩ := y
    subst e
    obtain ⟨d, hd, z⟩ := r.atV (y xs hs)
    exact ⟨d, hd, R, Kept.refl, z⟩
theorem rgIt (i j : Int) : ItOk K B F (Itr i (j - i).toNat) (rgD i j) where
  go := fun k _ hk => by
    have : (rgD i j).length = (j - i).toNat := by unfold rgD; rw [List.length_map, List.length_range]
    show k < (j - i).toNat
    omega
  stop := fun _ => by
    have : (rgD i j).length = (j - i).toNat := by unfold rgD; rw [List.length_map, List.length_range]
    show (j - i).toNat ≤ _
    omega
  yld := fun k R hk y => by
    obtain ⟨e, y⟩ := y
    subst e y
    have : (rgD i j).length = (j - i).toNat := by unfold rgD; rw [List.length_map, List.length_range]
    refine ⟨.int (i + (k : Nat)), ?_, R, Kept.refl, .int _⟩
    unfold rgD
    rw [List.getElem?_map, List.getElem?_range (by omega)]
    rfl
/-- data that is held: what it gives when it is walked -/
theorem Rel.seqIt (R : Rel K B F own ρ σ H) {v : V} {d : D} {ds : List D} {S : It → Hp → Prop} (h : Rz K (F.av own) F.b H v d) (e : itemsOf d = some ds)
    (k : ∀ J, Rel K B (Ip.addE F v d) own ρ σ H → ItAll K B (Ip.addE F v d) J ds → ds.length ≤ sizeLine → S J H) :
    ∃ a xs, v = .ref a ∧ ((SqL K H a xs ∧ (xs.length ≤ sizeLine → S (Itl K a) H)) ∨ (SqT K H a xs ∧ (xs.length ≤ sizeLine → S (Itt K a) H))) := by
  cases d with
  | lst es =>
    cases e
    obtain ⟨a, xs, rfl, ea, r⟩ := h.vw
    refine ⟨a, xs, rfl, .inl ⟨SqL.of ea, fun hl => k _ (R.addE h) (fun F2 hE _ => listIt (xs := xs) fun R' => ?_) (by rw [← r.length]; exact hl)⟩⟩
    obtain ⟨a', xs', e', ea', r'⟩ := (R'.ex _ (hE _ List.mem_cons_self)).vw
    cases e'
    exact ⟨xs', SqL.of ea', r'⟩
  | tup es =>
    cases e
    obtain ⟨a, xs, rfl, ea, r⟩ := vw_tup h.vw
    refine ⟨a, xs, rfl, .inr ⟨ea.sq, fun hl => k _ (R.addE h) (fun F2 hE _ => tupIt fun R' => ?_) (by rw [← r.length]; exact hl)⟩⟩
    obtain ⟨a', xs', e', ea', r'⟩ := vw_tup (R'.ex _ (hE _ List.mem_cons_self)).vw
    cases e'
    exact ⟨xs', ea'.sq, r'⟩
  | _ => cases e
theorem Rel.lock (R : Rel K B F own ρ σ H) {i : Nat} {ds : List D} {s : Slot} (h : ρ[i]? = some s) (hs : s = .ow (.lst ds) ∨ s = .lk (.lst ds)) :
    ∃ a xs, σ[i]? = some (some (.ref a)) ∧ H a = some (.lst xs) ∧ RzA K (F.av own) F.b H xs ds ∧ Rel K B (Ip.addL F i a (.lst ds)) own (ρ.set i (.lk (.lst ds))) σ H ∧
      (∀ (G : List (Addr × HO)) own2 ρ2 σ2 H2, Rel K B (onP (Ip.addL F i a (.lst ds)) G) own2 ρ2 σ2 H2 → Rel K B (onP F G) own2 (ρ2.set i s) σ2 H2) ∧ ItAll K B (Ip.addL F i a (.lst ds)) (Itl K a) ds := by
  have hi : i < ρ.length := (List.getElem?_eq_some_iff.mp h).1
  obtain ⟨a, ha, e, c⟩ := R.ow i (.lst ds) (hs.elim (fun z => .inl (by rw [h, z])) fun z => .inr (by rw [h, z]))
  obtain ⟨o, ea, r⟩ := c
  cases o with
  | lst xs =>
  have r : RzA K (F.av own) F.b H xs ds := r
  refine ⟨a, xs, e, ea, r, ?_, ?_, ?_⟩
  · exact { R with
      dom := fun j x e2 => by
        by_cases q : j = i
        · subst q
          exact ⟨.lst ds, .inr (List.getElem?_set_self hi)⟩
        · rw [List.getElem?_set_ne (Ne.symm q)]
          exact R.dom j x e2
      fz := fun j d' e2 => by
        by_cases q : j = i
        · subst q
          rw [List.getElem?_set_self hi] at e2
          cases e2
        · rw [List.getElem?_set_ne (Ne.symm q)] at e2
          exact R.fz j d' e2
      ow := fun j d' e2 => by
        by_cases q : j = i
        · subst q
          rw [List.getElem?_set_self hi] at e2
          rcases e2 with e2 | e2 <;> cases e2
          exact ⟨a, ha, e, .lst xs, ea, r⟩
        · rw [List.getElem?_set_ne (Ne.symm q)] at e2
          exact R.ow j d' e2
      len := by rw [List.length_set]; exact R.len
      lks := fun p hp => by
        rcases List.mem_cons.mp hp with rfl | hp
        · exact ⟨ha, List.getElem?_set_self hi⟩
        · obtain ⟨e1, e2⟩ := R.lks p hp
          by_cases q : p.1 = i
          · rw [q, h] at e2
            rcases hs with hs | hs
            · rw [hs] at e2; cases e2
            · rw [hs] at e2
              have e3 : D.lst ds = p.2.2 := by injection e2 with e2; injection e2
              exact ⟨e1, by rw [q, List.getElem?_set_self hi, e3]⟩
          · exact ⟨e1, by rw [List.getElem?_set_ne (Ne.symm q)]; exact e2⟩ }
  · intro G own2 ρ2 σ2 H2 R2
    obtain ⟨ha2, hl2⟩ := R2.lks _ List.mem_cons_self
    have ha2 : own2 i = some a := ha2
    have hl2 : ρ2[i]? = some (.lk (.lst ds)) := hl2
    have hi2 : i < ρ2.length := (List.getElem?_eq_some_iff.mp hl2).1
    exact { R2 with
      dom := fun j x e2 => by
        by_cases q : j = i
        · subst q
          rw [List.getElem?_set_self hi2]
          rcases hs with hs | hs
          · exact ⟨.lst ds, .inl (by rw [hs])⟩
          · exact ⟨.lst ds, .inr (by rw [hs])⟩
        · rw [List.getElem?_set_ne (Ne.symm q)]
          exact R2.dom j x e2
      fz := fun j d' e2 => by
        by_cases q : j = i
        · subst q
          rw [List.getElem?_set_self hi2] at e2
          rcases hs with hs | hs <;> (rw [hs] at e2; cases e2)
        · rw [List.getElem?_set_ne (Ne.symm q)] at e2
          exact R2.fz j d' e2
      ow := fun j d' e2 => by
        by_cases q : j = i
        · subst q
          rw [List.getElem?_set_self hi2] at e2
          have ed : d' = .lst ds := by
            rcases hs with hs | hs <;> (rw [hs] at e2; rcases e2 with e2 | e2 <;> cases e2 <;> rfl)
          subst ed
          exact R2.ow j _ (.inr hl2)
        · rw [List.getElem?_set_ne (Ne.symm q)] at e2
          exact R2.ow j d' e2
      len := by rw [List.length_set]; exact R2.len
      ex := fun p hp => R2.ex p hp
      lks := fun p hp => by
        obtain ⟨e1, e2⟩ := R2.lks p (List.mem_cons_of_mem _ hp)
        by_cases q : p.1 = i
        · obtain ⟨_, e0⟩ := R.lks p hp
          rw [q, h] at e0
          exact ⟨e1, by rw [q, List.getElem?_set_self hi2]; exact e0⟩
        · exact ⟨e1, by rw [List.getElem?_set_ne (Ne.symm q)]; exact e2⟩ }
  · refine fun F2 _ hL => listIt (xs := xs) fun {own2 ρ2 σ2 H2} R2 => ?_
    obtain ⟨ha2, hl2⟩ := R2.lks _ (hL _ List.mem_cons_self)
    have ha2 : own2 i = some a := ha2
    obtain ⟨a', e1, _, o', ea', r'⟩ := R2.ow i _ (.inr hl2)
    rw [ha2] at e1
    cases e1
    cases o' with
    | lst xs' => exact ⟨xs', SqL.of ea', r'⟩
    | _ => exact r'.elim
  | _ => exact r.elim
end
section
variable {X : Cx} {B : BoxPred} {tg l : Expr} {w : WE} {wr : WR} {p pos : Pos}
theorem frE {F : Fr} {v : V} {d : D} : FrEq F (Ip.addE F v d) := ⟨rfl, rfl, rfl, rfl, rfl⟩
theorem frL {F : Fr} {i : Nat} {a : Addr} {d : D} : FrEq F (Ip.addL F i a d) := ⟨rfl, rfl, rfl, rfl, rfl⟩
theorem sSeq (he : PE X l (tE X.K B w)) : PI X tg l (tIt X.K B (wSeq w)) :=
  piW (pi_seq he) fun σ H S h => by
    obtain ⟨F, own, ρ, P, R, w, k⟩ := h
    refine ⟨F, own, ρ, _, R, w, fun own1 ρ1 v r H1 R1 k1 s1 w1 => ?_⟩
    have held : ∀ d, Rz X.K (F.av own1) F.b H1 v d → need (itemsOf d) (fun ds => P ds none ρ1) → ∃ a xs, v = .ref a ∧ ((SqL X.K H1 a xs ∧ (xs.length ≤ sizeLine → S (Itl X.K a) H1)) ∨ (SqT X.K H1 a xs ∧ (xs.length ≤ sizeLine → S (Itt X.K a) H1))) := fun d z w2 => by
      obtain ⟨ds, e, w3⟩ := need_of w2
      exact R1.seqIt z e fun J R' it hl => k (Ip.addE F v d) own1 ρ1 ds none J H1 frE R' (fun _ _ _ _ _ R2 => Rel.dropE R2) k1 it hl w3
    cases r with
    | fz d => exact held d s1 w1
    | ow d => exact held d s1.w w1
    | bw i =>
      have s1 : σ[i]? = some (some v) := s1
      have w1 : (match slotAt ρ1 i with
        | .fz d => need (itemsOf d) fun ds => P ds none ρ1
        | .ow (.lst ds) => P ds (some (i, .ow (.lst ds))) (ρ1.set i (.lk (.lst ds)))
        | .lk (.lst ds) => P ds (some (i, .lk (.lst ds))) ρ1
        | _ => False) := w1
      have locked : ∀ (ds : List D) (s : Slot), ρ1[i]? = some s → (s = .ow (.lst ds) ∨ s = .lk (.lst ds)) → P ds (some (i, s)) (ρ1.set i (.lk (.lst ds))) → ∃ a xs, v = .ref a ∧ ((SqL X.K H1 a xs ∧ (xs.length ≤ sizeLine → S (Itl X.K a) H1)) ∨ (SqT X.K H1 a xs ∧ (xs.length ≤ sizeLine → S (Itt X.K a) H1))) := fun ds s h1 h2 w2 => by
        obtain ⟨a, xs, e, ea, r, RL, un, it⟩ := R1.lock h1 h2
        rw [s1] at e
        cases e
        exact ⟨a, xs, rfl, .inl ⟨SqL.of ea, fun hl => k _ own1 _ ds (some (i, s)) _ H1 frL RL un k1 it (by rw [← r.length]; exact hl) w2⟩⟩
      cases q : slotAt ρ1 i with
      | non => simp only [q] at w1
      | fz d =>
        simp only [q] at w1
        obtain ⟨v', e2, z⟩ := R1.fz i d (slot_of q (by intro z; cases z))
        rw [s1] at e2
        cases e2
        exact held d z w1
      | ow d =>
        cases d with
        | lst ds =>
          simp only [q] at w1
          exact locked ds _ (slot_of q (by intro z; cases z)) (.inl rfl) w1
        | _ => simp only [q] at w1
      | lk d =>
        cases d with
        | lst ds =>
          simp only [q] at w1
          have hs := slot_of q (by intro z; cases z)
          refine locked ds _ hs (.inr rfl) ?_
          have hi : i < ρ1.length := (List.getElem?_eq_some_iff.mp hs).1
          have : ρ1.set i (.lk (.lst ds)) = ρ1 := by
            apply List.ext_getElem?
            intro j
            by_cases e : i = j
            · subst e
              rw [List.getElem?_set_self hi, hs]
            · rw [List.getElem?_set_ne e]
          rw [this]
          exact w1
        | _ => simp only [q] at w1
theorem rg_len {i j : Int} (h : rgOk i j) : (rgD i j).length ≤ sizeLine := by
  unfold rgD rgOk at *
  rw [List.length_map, List.length_range, sizeLine_eq]
  omega
theorem sRgI1 {a : Expr} {wa : WE} (hg : Gl X "range") (hm : X.mg "range" = none) (ha : PE X a (tE X.K B wa)) (hs : starEach [a] X.env = (false, eval a X.env) :: starEach [] X.env) : PI X tg (.Call (.Name "range" p) [a] [] pos) (tIt X.K B (wRgI (wRg1 wa))) :=
  piW (pi_range1 hg hm (pa_cons ha pa_nil hs) hs) fun σ H S h => by
    obtain ⟨F, own, ρ, P, R, w, k⟩ := h
    refine ⟨F, own, ρ, _, R, w, fun own1 ρ1 v r H1 R1 k1 s1 w1 => ?_⟩
    obtain ⟨d, e1, w2⟩ := need_of w1
    obtain ⟨n, e2, hok, w3⟩ := need_of w2
    cases asInt_inv e2
    have hb := hok.ok
    refine ⟨n, by rw [vw_int (R1.view s1.w e1)], hb.2.2.1, hb.2.2.2.1, ?_⟩
    have it : ItAll X.K B F (Itr 0 n.toNat) (rgD 0 n) := fun F2 _ _ => by
      have it := rgIt (K := X.K) (B := B) (F := F2) 0 n
      rw [Int.sub_zero] at it
      exact it
    exact k F own1 ρ1 _ none _ H1 FrEq.refl R1 (fun _ _ _ _ _ R2 => R2) k1 it (rg_len hok) w3
theorem sRgI2 {a b : Expr} {wa wb : WE} (hg : Gl X "range") (hm : X.mg "range" = none) (ha : PE X a (tE X.K B wa)) (hb : PE X b (tE X.K B wb)) (hs : starEach [a, b] X.env = (false, eval a X.env) :: starEach [b] X.env) (hs2 : starEach [b] X.env = (false, eval b X.env) :: starEach [] X.env) :
    PI X tg (.Call (.Name "range" p) [a, b] [] pos) (tIt X.K B (wRgI (wRg2 wa wb))) :=
  piW (pi_range2 hg hm (pa_cons ha (pa_cons hb pa_nil hs2) hs) (by rw [hs, hs2]; rfl) hs2) fun σ H S h => by
    obtain ⟨F, own, ρ, P, R, w, k⟩ := h
    refine ⟨F, own, ρ, _, R, w, fun own1 ρ1 v r H1 R1 k1 s1 w1 => ⟨F, own1, ρ1, _, R1, w1, fun own2 ρ2 u r2 H2 R2 k2 s2 w2 => ?_⟩⟩
    obtain ⟨dx, e1, w3⟩ := need_of w2
    obtain ⟨dy, e2, w4⟩ := need_of w3
    obtain ⟨i, e3, w5⟩ := need_of w4
    obtain ⟨j, e4, hok, w6⟩ := need_of w5
    cases asInt_inv e3
    cases asInt_inv e4
    have hb := hok.ok
    refine ⟨i, j, by rw [vw_int (R2.view (s1.w.kept k2) e1), vw_int (R2.view s2.w e2)], ⟨hb.1, hb.2.1, hb.2.2.1, hb.2.2.2.1⟩, ?_⟩
    exact k F own2 ρ2 _ none _ H2 FrEq.refl R2 (fun _ _ _ _ _ R2 => R2) (k1.trans k2) (fun F2 _ _ => rgIt i j) (rg_len hok) w6
end

/-! ### comprehensions -/
def wipeR (ρ : Rho) : List Nat → Rho
  | [] => ρ
  | v :: vs => (wipeR ρ vs).set v .non
/-- none of these is a list of the frame's own -/
def loose (ρ : Rho) (vs : List Nat) : Bool := vs.all fun i => match slotAt ρ i with
  | .ow _ => false
  | .lk _ => false
  | _ => true
def lcGo (g : WG) (ct : WT) (we : WE) (vs : List Nat) (K : List D → Rho → Prop) : List D → List D → Rho → Prop
  | [], acc, ρ => K acc ρ
  | d :: ds, acc, ρ => g d ρ fun ρ2 => ct ρ2 fun b ρ3 => if b = true then we ρ3 fun r ρ4 => need (frz1 ρ4 r) fun q => loose q.2 vs = true ∧ lcGo g ct we vs K ds (acc ++ [q.1]) (wipeR q.2 vs)
    else loose ρ3 vs = true ∧ lcGo g ct we vs K ds acc (wipeR ρ3 vs)
def wYes : WT := fun ρ P => P true ρ
def wLc (wi : WI) (g : WG) (ct : WT) (we : WE) (vs : List Nat) : WE := fun ρ P => wi ρ fun ds lk ρ1 => loose ρ1 vs = true ∧ lcGo g ct we vs (fun acc ρ2 => P (.ow (.lst acc)) (unlock lk (wipeR ρ2 vs))) ds [] (wipeR ρ1 vs)
theorem wipeR_len (ρ : Rho) : ∀ vs : List Nat, (wipeR ρ vs).length = ρ.length
  | [] => rfl
  | v :: vs => by unfold wipeR; rw [List.length_set, wipeR_len ρ vs]
theorem wipeR_out {ρ : Rho} {i : Nat} : ∀ {vs : List Nat}, i ∉ vs → (wipeR ρ vs)[i]? = ρ[i]?
  | [], _ => rfl
  | v :: vs, h => by
    unfold wipeR
    rw [List.getElem?_set_ne fun e => h (by rw [e]; exact List.mem_cons_self)]
    exact wipeR_out fun z => h (List.mem_cons_of_mem _ z)
theorem wipeR_in {ρ : Rho} {i : Nat} : ∀ {vs : List Nat}, i ∈ vs → (wipeR ρ vs)[i]? = some .non ∨ (wipeR ρ vs)[i]? = none
  | v :: vs, h => by
    unfold wipeR
    by_cases e : v = i
    · subst e
      by_cases hl : v < (wipeR ρ vs).length
      · exact .inl (List.getElem?_set_self hl)
      · exact .inr (List.getElem?_eq_none (by rw [List.length_set]; omega))
    · rw [List.getElem?_set_ne e]
      exact wipeR_in ((List.mem_cons.mp h).resolve_left fun z => e z.symm)
theorem loose_at {ρ : Rho} {vs : List Nat} (h : loose ρ vs = true) {i : Nat} (hi : i ∈ vs) (d : D) : ρ[i]? ≠ some (.ow d) ∧ ρ[i]? ≠ some (.lk d) := by
  have q := List.all_eq_true.mp h i hi
  unfold slotAt at q
  constructor <;> (intro e; rw [e] at q; cases q)
section
variable {K : Frag} {B : BoxPred} {F : Fr} {own : Own} {ρ : Rho} {σ σ' : L2.St} {H : Hp}
/-- the slots vs are forgotten: whatever stands there -/
theorem Rel.wipeTo (R : Rel K B F own ρ σ H) {vs : List Nat} (h : loose ρ vs = true) (o : Only vs σ σ') : Rel K B F own (wipeR ρ vs) σ' H :=
  { R with
    dom := fun j x e => by
      obtain ⟨d, hd⟩ := R.dom j x e
      have hj : j ∉ vs := fun z => hd.elim (loose_at h z d).1 (loose_at h z d).2
      exact ⟨d, by rw [wipeR_out hj]; exact hd⟩
    fz := fun j d e => by
      by_cases hj : j ∈ vs
      · rcases wipeR_in (ρ := ρ) hj with q | q <;> (rw [q] at e; cases e)
      · rw [wipeR_out hj] at e
        obtain ⟨v, e2, z⟩ := R.fz j d e
        exact ⟨v, by rw [o.out j hj]; exact e2, z⟩
    ow := fun j d e => by
      by_cases hj : j ∈ vs
      · rcases wipeR_in (ρ := ρ) hj with q | q <;> (rw [q] at e; rcases e with e | e <;> cases e)
      · rw [wipeR_out hj] at e
        obtain ⟨a, e1, e2, c⟩ := R.ow j d e
        exact ⟨a, e1, by rw [o.out j hj]; exact e2, c⟩
    len := by rw [wipeR_len, o.len]; exact R.len
    lks := fun p hp => by
      obtain ⟨e1, e2⟩ := R.lks p hp
      have hj : p.1 ∉ vs := fun z => (loose_at h z _).2 e2
      exact ⟨e1, by rw [wipeR_out hj]; exact e2⟩ }
theorem only_wipe {vs : List Nat} : Only vs σ (wipe σ vs) := ⟨fun _ h => wipe_out h, wipe_length σ vs⟩
theorem Only.symm {vs : List Nat} (o : Only vs σ σ') : Only vs σ' σ := ⟨fun i h => (o.out i h).symm, o.len.symm⟩
/-- the list grows -/
theorem Rel.growP {p : Addr} {xs ys : List V} (R : Rel K B (Ip.addP F p (.lst xs)) own ρ σ H) : Rel K B (Ip.addP F p (.lst ys)) own ρ σ (upd H p (.lst ys)) := by
  have ea : (Ip.addP F p (.lst ys)).av own = (Ip.addP F p (.lst xs)).av own := by rw [av_addP_eq, av_addP_eq]
  obtain ⟨h0, hp, _⟩ := R.pv _ List.mem_cons_self
  have h0 : F.H0 p = none := h0
  have hk : Kept ((Ip.addP F p (.lst xs)).av own) H ((Ip.addP F p (.lst ys)).av own) (upd H p (.lst ys)) := ⟨fun x z => by rw [ea] at z; exact z, fun a o e n => by
    have hne : a ≠ p := fun z => n (by rw [av_addP]; exact .inr z)
    rw [upd_ne hne]; exact e, fun _ => upd_none⟩
  have nb : ∀ {a}, F.O0 a → a ≠ p := fun {a} h z => by
    obtain ⟨o, e, _⟩ := R.there a h
    have e : F.H0 a = some o := e
    rw [z, h0] at e; cases e
  exact { R with
    box := R.good.st R.box (upd_ne (nb R.hb)) (upd_ne (nb R.hc))
    base := fun a o x y e => by
      have hne : a ≠ p := fun z => by
        have e : F.H0 a = some o := e
        rw [z, h0] at e; cases e
      rw [upd_ne hne]; exact R.base a o x y e
    fz := fun i d e => by
      obtain ⟨v, e2, z⟩ := R.fz i d e
      exact ⟨v, e2, z.kept hk⟩
    ow := fun i d e => by
      obtain ⟨a, e1, e2, c⟩ := R.ow i d e
      refine ⟨a, e1, e2, c.kept hk fun o q => ?_⟩
      rw [upd_ne fun z => R.pvo _ List.mem_cons_self i (by rw [e1, z])]
      exact q
    ex := fun q hq => (R.ex q hq).kept hk
    pv := fun q hq => by
      rcases List.mem_cons.mp hq with rfl | hq
      · exact ⟨h0, upd_same, fun _ z => by cases z⟩
      · obtain ⟨e0, e1, nt⟩ := R.pv q (List.mem_cons_of_mem _ hq)
        refine ⟨e0, ?_, nt⟩
        by_cases z : q.1 = p
        · have n := R.pvn
          have n : (p :: F.P.map Prod.fst).Nodup := n
          exact absurd (List.mem_map.mpr ⟨q, hq, z⟩) (List.nodup_cons.mp n).1
        · rw [upd_ne z]; exact e1
    pvo := fun q hq i => by
      rcases List.mem_cons.mp hq with rfl | hq
      · exact R.pvo _ List.mem_cons_self i
      · exact R.pvo q (List.mem_cons_of_mem _ hq) i
    pvn := R.pvn }
end
theorem FrEq.addP {F F' : Fr} (e : FrEq F F') {p : Addr} {xs : HO} (own : Own) : (Ip.addP F' p xs).av own = (Ip.addP F p xs).av own := by
  rw [av_addP_eq, av_addP_eq, e.av]
theorem keptGrow {F : Fr} {own : Own} {H : Hp} {p : Addr} {xs ys o : HO} : Kept ((Ip.addP F p xs).av own) H ((Ip.addP F p ys).av own) (upd H p o) :=
  ⟨fun x z => by rw [av_addP_eq] at z ⊢; exact z, fun a o e n => by rw [upd_ne fun z => n (by rw [av_addP]; exact .inr z)]; exact e, fun _ => upd_none⟩
theorem keptStep {A : ASet} {F : Fr} {o o' : Own} {H0 Ha Hb : Hp} {p : Addr} {as bs : HO} (hk : Kept A H0 (F.av o) Ha) (hD : H0 p = none) (k : Kept ((Ip.addP F p as).av o) Ha ((Ip.addP F p bs).av o') Hb) (n : ¬ F.av o' p) : Kept A H0 (F.av o') Hb := by
  refine ⟨fun a z => ?_, fun a u e na => ?_, fun a e => hk.dom a (k.dom a e)⟩
  · have q := k.sub a (av_addP.mpr (.inl z))
    rw [av_addP] at q
    rcases q with q | q
    · exact hk.sub a q
    · exact absurd (q ▸ z) n
  · refine k.st a u (hk.st a u e na) fun q => ?_
    rw [av_addP] at q
    rcases q with q | q
    · exact na (hk.sub a q)
    · rw [q, hD] at e; cases e
theorem loose_wipe {ρ : Rho} {vs : List Nat} : loose (wipeR ρ vs) vs = true := List.all_eq_true.mpr fun i hi => by
  unfold slotAt
  rcases wipeR_in (ρ := ρ) hi with q | q <;> rw [q]
/-- a comprehension's turns, from item i on -/
theorem lcRed {K : Frag} {B : BoxPred} {A0 : ASet} {F : Fr} {H0 : Hp} {J : It} {ds : List D} {tg : TG} {tc : TT} {te : TE} {vs : List Nat} {σ : L2.St} {p : Addr} {Q : VK} {g : WG} {ct : WT} {we : WE} {Kf : List D → Rho → Prop}
    (itP : ∀ as, ItOk K B (Ip.addP F p (.lst as)) J ds) (hsz : ds.length ≤ sizeLine) (hD : H0 p = none) (hg : ∀ v s H Q, tG K B vs g v s H Q → tg v s H Q) (hc : ∀ s H Q, tT K B ct s H Q → tc s H Q) (he : ∀ s H Q, tE K B we s H Q → te s H Q)
    (fin : ∀ own ρ acc as H, Rel K B (Ip.addP F p (.lst as)) own ρ (wipe σ vs) H → Kept A0 H0 (F.av own) H → RzA K ((Ip.addP F p (.lst as)).av own) F.b H as acc → loose ρ vs = true → Kf acc ρ → Q (.ref p) H)
    {own : Own} {ρ : Rho} {H : Hp} (R : Rel K B (Ip.addP F p (.lst [])) own ρ (wipe σ vs) H) (hk : Kept A0 H0 (F.av own) H) (hl : loose ρ vs = true) (w : lcGo g ct we vs Kf ds [] ρ) :
    ∃ W : Nat → Nat → Hp → Prop, (∃ m, W 0 m H) ∧ ∀ i m H, W i m H →
      (J.stop i H ∧ Q (.ref p) H) ∨ (J.go i H ∧ ∃ Nx : Hp → Prop, (∀ H', Nx H' → ∃ m', m' < m ∧ W (i + 1) m' H') ∧ ∀ x H', J.yld i H x H' → tg x (wipe σ vs) H' fun σ2 H2 => wipe σ2 vs = wipe σ vs ∧ tc σ2 H2 fun b H3 =>
        if b = true then te σ2 H3 fun y H4 => ∃ acc, H4 p = some (.lst acc) ∧ acc.length < sizeLine ∧ Nx (upd H4 p (.lst (acc ++ [y]))) else Nx H3) := by
  let Pv : Nat → Hp → Prop := fun i H => ∃ own ρ acc as, Rel K B (Ip.addP F p (.lst as)) own ρ (wipe σ vs) H ∧ Kept A0 H0 (F.av own) H ∧ RzA K ((Ip.addP F p (.lst as)).av own) F.b H as acc ∧ as.length ≤ i ∧ loose ρ vs = true ∧ lcGo g ct we vs Kf (ds.drop i) acc ρ
  have turn : ∀ i H, i < ds.length → Pv i H → ∀ x H', J.yld i H x H' → tg x (wipe σ vs) H' fun σ2 H2 => wipe σ2 vs = wipe σ vs ∧ tc σ2 H2 fun b H3 =>
        if b = true then te σ2 H3 fun y H4 => ∃ acc, H4 p = some (.lst acc) ∧ acc.length < sizeLine ∧ Pv (i + 1) (upd H4 p (.lst (acc ++ [y]))) else Pv (i + 1) H3 := by
    rintro i H hi ⟨own, ρ, acc, as, R, hk, ra, hal, hl, w⟩ x H' hy
    obtain ⟨d, hd, R1, k1, zx⟩ := (itP as).yld i R hi hy
    have ew : ds.drop i = d :: ds.drop (i + 1) := by
      rw [List.drop_eq_getElem_cons hi]
      congr 1
      rw [List.getElem?_eq_getElem hi] at hd
      exact Option.some.inj hd
    rw [ew] at w
    refine hg _ _ _ _ ⟨Ip.addP F p (.lst as), own, ρ, d, _, R1, zx, w, fun own2 ρ2 σ2 R2 l2 o2 w2 => ⟨o2.wipe.trans (only_wipe (σ := σ)).wipe, ?_⟩⟩
    have k2 : Kept ((Ip.addP F p (.lst as)).av own) H ((Ip.addP F p (.lst as)).av own2) H' := k1.trans l2.kept
    refine hc _ _ _ ⟨Ip.addP F p (.lst as), own2, ρ2, _, R2, w2, fun own3 ρ3 b H3 R3 k3 w3 => ?_⟩
    have k3' := k2.trans k3
    cases b with
    | false =>
      have w3 : loose ρ3 vs = true ∧ lcGo g ct we vs Kf (ds.drop (i + 1)) acc (wipeR ρ3 vs) := w3
      exact ⟨own3, wipeR ρ3 vs, acc, as, R3.wipeTo w3.1 o2.symm, keptStep hk hD k3' R3.dropP.2.2.2, ra.kept k3', Nat.le_succ_of_le hal, loose_wipe, w3.2⟩
    | true =>
      refine he _ _ _ ⟨Ip.addP F p (.lst as), own3, ρ3, _, R3, w3, fun own4 ρ4 y r H4 R4 k4 s4 w4 => ?_⟩
      obtain ⟨⟨d', ρ5⟩, e5, hl5, w5⟩ := need_of w4
      obtain ⟨own5, R5, l5, _, z5⟩ := R4.frz1 s4.w e5
      have k5 := (k3'.trans k4).trans l5.kept
      refine ⟨as, R5.dropP.2.1, by omega, own5, wipeR ρ5 vs, acc ++ [d'], as ++ [y], (R5.growP (ys := as ++ [y])).wipeTo hl5 o2.symm, ?_, ?_, by rw [List.length_append]; exact Nat.succ_le_succ hal, loose_wipe, w5⟩
      · exact keptStep (bs := .lst (as ++ [y])) hk hD (k5.trans keptGrow) R5.dropP.2.2.2
      · exact (ra.kept (k5.trans keptGrow)).append (.cons (z5.kept keptGrow) .nil)
  refine ⟨fun i m H => m = ds.length - i ∧ i ≤ ds.length ∧ Pv i H, ⟨ds.length, by simp, Nat.zero_le _, own, ρ, [], [], R, hk, .nil, Nat.le_refl _, hl, w⟩, ?_⟩
  rintro i m H ⟨rfl, hi, pi⟩
  by_cases hlt : i < ds.length
  · obtain ⟨own', ρ', acc', as', R', rest⟩ := id pi
    exact .inr ⟨(itP as').go i R' hlt, Pv (i + 1), fun H' p' => ⟨ds.length - (i + 1), by omega, rfl, hlt, p'⟩, turn i H hlt pi⟩
  · obtain ⟨own', ρ', acc', as', R', hk', ra', hal', hl', w'⟩ := pi
    obtain rfl : i = ds.length := by omega
    rw [List.drop_length] at w'
    exact .inl ⟨(itP as').stop R', fin own' ρ' acc' as' H R' hk' ra' hl' w'⟩
theorem lcIn {K : Frag} {B : BoxPred} {vs : List Nat} {σ : L2.St} {H : Hp} {Q : VK} {wi : WI} {g : WG} {ct : WT} {we : WE} (h : tE K B (wLc wi g ct we vs) σ H Q) : tLc (tIt K B wi) (tG K B vs g) (tT K B ct) (tE K B we) vs σ H Q := by
  obtain ⟨F, own, ρ, P, R, w, k⟩ := h
  refine ⟨F, own, ρ, _, R, w, fun F' own1 ρ1 ds lk J H1 eq R1 un k1 it hl w1 p hp => ?_⟩
  obtain ⟨hlo, w1⟩ := w1
  have R2 := (R1.born (R1.new hp) hp (Kept.new hp) (own_upd R1 hp) (upd_same (o := .lst [])) fun _ z => by cases z).wipeTo hlo (only_wipe (σ := σ) (vs := vs))
  refine lcRed (F := F') (H0 := H) (A0 := F.av own) (fun as => it _ (fun _ h => h) fun _ h => h) hl (k1.dom p hp) (fun _ _ _ _ h => h) (fun _ _ _ h => h) (fun _ _ _ h => h) (fun own2 ρ2 acc as H2 R3 k3 ra hl2 w2 => ?_) R2 (by rw [eq.av]; exact k1.trans (Kept.new hp)) loose_wipe w1
  obtain ⟨R4, e4, h0, n4⟩ := R3.dropP
  have R5 : Rel K B (Ip.addP F p (.lst as)) own2 (unlock lk (wipeR ρ2 vs)) σ H2 := by
    have q := un ((p, .lst as) :: F'.P) own2 _ _ _ (R3.wipeTo hl2 (only_wipe (σ := σ) (vs := vs)).symm)
    rw [eq.p] at q
    exact q
  rw [eq.av] at k3
  refine k own2 _ (.ref p) (.ow (.lst acc)) H2 R5.dropP.1 k3 ⟨p, .lst as, rfl, R5, ?_⟩ w2
  rw [eq.addP, eq.b] at ra
  exact ra
section
variable {X : Cx} {B : BoxPred} {elt tg iter : Expr} {ifs : List Expr} {scope : Scope} {own : List (Str × Nat)} {pos : Pos} {wi : WI} {g : WG} {ct : WT} {we : WE}
theorem ptsW {t t' : TT} (h : PTs X ifs t) (i : ∀ σ H Q, t' σ H Q → t σ H Q) : PTs X ifs t' := ⟨fun pins s σ H Q I q => h.run pins s σ H Q I (i σ H Q q)⟩
theorem sYes : PTs X [] (tT X.K B wYes) := ptsW pts_nil fun σ H Q h => by
  obtain ⟨F, own, ρ, P, R, w, k⟩ := h
  exact k own ρ true H R Kept.refl w
theorem sIfs {c : Expr} {t : WT} (h : PT X c (tT X.K B t)) : PTs X [c] (tT X.K B t) := pts_one h
theorem sLc (hc : X.calm = true) (hN : X.N.Nodup) (hi : PI X tg iter (tIt X.K B wi)) (ok : BlkOk X.N X.env.scope scope own)
    (hg : ∀ (s : Shared) (H : Hp) (C : Addr) (cl : List (Str × Addr)) (fp : List Addr), PG (X.blk s H scope (compEnvC scope cl C X.env) fp) tg (tG X.K B (own.map (·.2)) g))
    (ht : ∀ (s : Shared) (H : Hp) (C : Addr) (cl : List (Str × Addr)) (fp : List Addr), PTs (X.blk s H scope (compEnvC scope cl C X.env) fp) ifs (tT X.K B ct))
    (he : ∀ (s : Shared) (H : Hp) (C : Addr) (cl : List (Str × Addr)) (fp : List Addr), PE (X.blk s H scope (compEnvC scope cl C X.env) fp) elt (tE X.K B we)) (hs : ∀ x, foldedSetIterable iter X.env x = pure x) :
    PE X (.ListComp elt [⟨tg, iter, ifs, 0⟩] scope pos) (tE X.K B (wLc wi g ct we (own.map (·.2)))) :=
  peW (pe_lc hc hN hi ok hg ht he hs) fun σ H Q h => lcIn h
end
end Ip

set_option Elab.async false
set_option linter.all false
set_option maxRecDepth 100000
set_option maxHeartbeats 2000000
set_option autoImplicit false
/-! Ip10: statements -/
namespace Ip
open PySem L2

structure WEnds where
  nx : Rho → Prop
  rt : Res → Prop
  bk : Rho → Prop := fun _ => False
  ct : Rho → Prop := fun _ => False
abbrev WS := WEnds → Rho → Prop
def tS (K : Frag) (B : BoxPred) (w : WS) : TS := fun D σ H => ∃ F own ρ E, F.P = [] ∧ Rel K B F own ρ σ H ∧ w E ρ ∧
  (∀ own' ρ' σ' H', Rel K B F own' ρ' σ' H' → E.nx ρ' → D.nx σ' H') ∧ (∀ own' ρ' σ' H', Rel K B F own' ρ' σ' H' → E.bk ρ' → D.bk σ' H') ∧
  (∀ own' ρ' σ' H', Rel K B F own' ρ' σ' H' → E.ct ρ' → D.ct σ' H') ∧ ∀ v r H', Ret K B F H' v r → E.rt r → D.rt v H'
def wSkip : WS := fun E ρ => E.nx ρ
def wSeqS (a b : WS) : WS := fun E ρ => a { E with nx := b E } ρ
def wBreak : WS := fun E ρ => E.bk ρ
def wCont : WS := fun E ρ => E.ct ρ
def wDrop (w : WE) : WS := fun E ρ => w ρ fun _ ρ1 => E.nx ρ1
def retRes (ρ : Rho) : Res → Option Res
  | .fz d => some (.fz d)
  | .ow d => some (.ow d)
  | .bw i => match slotAt ρ i with
    | .fz d => some (.fz d)
    | .ow d => some (.ow d)
    | .lk d => some (.ow d)
    | .non => none
def wRet (w : WE) : WS := fun E ρ => w ρ fun r ρ1 => need (retRes ρ1 r) fun r' => E.rt r'
def wRetN : WS := fun E _ => E.rt (.fz .non)
def wIfS (t : WT) (a b : WS) : WS := fun E ρ => t ρ fun k ρ1 => if k = true then a E ρ1 else b E ρ1
def setRes (ρ : Rho) (r : Res) : Option (Slot × Rho) := match r with
  | .fz d => some (.fz d, ρ)
  | .ow d => some (.ow d, ρ)
  | .bw j => match frz1 ρ (.bw j) with
    | some (d, ρ') => some (.fz d, ρ')
    | none => none
def wSet (i : Nat) (w : WE) : WS := fun E ρ => w ρ fun r ρ1 => need (setRes ρ1 r) fun q => notLk (slotAt q.2 i) = true ∧ i < q.2.length ∧ E.nx (q.2.set i q.1)
def wAsg (g : WG) (w : WE) : WS := fun E ρ => w ρ fun r ρ1 => need (frz1 ρ1 r) fun q => g q.1 q.2 E.nx
def forGo (g : WG) (body : WS) (nx : Rho → Prop) (rt : Res → Prop) : List D → Rho → Prop
  | [], ρ => nx ρ
  | d :: ds, ρ => g d ρ fun ρ2 => body ⟨forGo g body nx rt ds, rt, nx, forGo g body nx rt ds⟩ ρ2
def wFor (wi : WI) (g : WG) (body : WS) : WS := fun E ρ => wi ρ fun ds lk ρ1 => forGo g body (fun ρ2 => E.nx (unlock lk ρ2)) E.rt ds ρ1
def whGo (t : WT) (body : WS) (nx : Rho → Prop) (rt : Res → Prop) : Nat → Rho → Prop
  | 0, _ => False
  | n + 1, ρ => t ρ fun k ρ1 => if k = true then body ⟨whGo t body nx rt n, rt, nx, whGo t body nx rt n⟩ ρ1 else nx ρ1
def wWhile (t : WT) (body : WS) : WS := fun E ρ => ∃ n, whGo t body E.nx E.rt n ρ
/-- x.append(e), x.extend(e), x.pop(e), x.pop(), an own list's -/
def ownL (ρ : Rho) (i : Nat) : Option (List D) := match slotAt ρ i with
  | .ow (.lst ds) => some ds
  | _ => none
def wAppend (i : Nat) (w : WE) : WE := fun ρ P => need (ownL ρ i) fun _ => w ρ fun r ρ1 => need (frz1 ρ1 r) fun q => need (ownL q.2 i) fun ds => ds.length < lim ∧ P (.fz .non) (q.2.set i (.ow (.lst (ds ++ [q.1]))))
def wExtend (i : Nat) (w : WE) : WE := fun ρ P => need (ownL ρ i) fun _ => w ρ fun r ρ1 => need (r.data ρ1) fun d => match d with
  | .lst es => need (ownL ρ1 i) fun ds => ds.length + es.length ≤ lim ∧ P (.fz .non) (ρ1.set i (.ow (.lst (ds ++ es))))
  | _ => False
def wPopAt (i : Nat) (w : WE) : WE := fun ρ P => need (ownL ρ i) fun _ => w ρ fun r ρ1 => need (r.data ρ1) fun d => need (asInt d) fun k => need (ownL ρ1 i) fun ds => ds.length ≤ lim ∧ need (ixN ds.length k) fun j => need ds[j]? fun e => P (.fz e) (ρ1.set i (.ow (.lst (ds.eraseIdx j))))
def wPop (i : Nat) : WE := fun ρ P => need (ownL ρ i) fun ds => need ds[ds.length - 1]? fun e => P (.fz e) (ρ.set i (.ow (.lst ds.dropLast)))
def wSetIx (i : Nat) (wk we : WE) : WS := fun E ρ => we ρ fun r ρ1 => need (frz1 ρ1 r) fun q => need (ownL q.2 i) fun _ => wk q.2 fun rk ρ3 => need (rk.data ρ3) fun dk => need (asInt dk) fun k => need (ownL ρ3 i) fun ds => need (ixN ds.length k) fun j => E.nx (ρ3.set i (.ow (.lst (ds.set j q.1))))
def wAugI (i : Nat) (f : Int → Int → Int) (w : WE) : WS := fun E ρ => match slotAt ρ i with
  | .fz (.int a) => w ρ fun r ρ1 => need (r.data ρ1) fun d => need (asInt d) fun b => notLk (slotAt ρ1 i) = true ∧ i < ρ1.length ∧ E.nx (ρ1.set i (.fz (.int (f a b))))
  | _ => False

section
variable {K : Frag} {B : BoxPred} {F : Fr} {own : Own} {ρ : Rho} {σ : L2.St} {H : Hp}
theorem av0 {F : Fr} (hp : F.P = []) {a : Addr} (h : F.av noOwn a) : F.O0 a := by
  rcases h with h | ⟨i, h⟩ | ⟨o, h⟩
  · exact h
  · cases h
  · rw [hp] at h; cases h
theorem Rel.retOk (R : Rel K B F own ρ σ H) (hp : F.P = []) {v : V} {r r' : Res} (s : Rs K B F own ρ σ H v r) (e : retRes ρ r = some r') : Ret K B F H v r' := by
  refine ⟨R.box, R.base, ?_⟩
  have less : ∀ a, F.av noOwn a → F.av own a := fun a z => .inl (av0 hp z)
  cases r with
  | fz d =>
    cases e
    exact Rz.kept (kept_less less) s
  | ow d =>
    cases e
    obtain ⟨a, o, e1, RP, c⟩ := s
    obtain ⟨_, ea, h0, _⟩ := RP.dropP
    refine ⟨a, o, e1, h0, ea, c.kept (kept_less fun x z => ?_)⟩
    rw [av_addP]
    exact z.elim (fun z => .inl (less x z)) .inr
  | bw i =>
    have s : σ[i]? = some (some v) := s
    have e : (match slotAt ρ i with
      | .fz d => some (Res.fz d)
      | .ow d => some (Res.ow d)
      | .lk d => some (Res.ow d)
      | .non => none) = some r' := e
    have own_ : ∀ d, (ρ[i]? = some (.ow d) ∨ ρ[i]? = some (.lk d)) → Rr K F H v (.ow d) := fun d hs => by
      obtain ⟨a, ha, e2, o, eo, c⟩ := R.ow i d hs
      rw [s] at e2
      cases e2
      refine ⟨a, o, rfl, R.fresh i a ha, eo, c.kept (kept_less fun x z => ?_)⟩
      rcases z with z | z
      · exact less x z
      · exact .inr (.inl ⟨i, by rw [z]; exact ha⟩)
    cases q : slotAt ρ i with
    | non => rw [q] at e; cases e
    | fz d =>
      rw [q] at e
      cases e
      obtain ⟨v', e2, z⟩ := R.fz i d (slot_of q (by intro z; cases z))
      rw [s] at e2
      cases e2
      exact Rz.kept (kept_less less) z
    | ow d =>
      rw [q] at e
      cases e
      exact own_ d (.inl (slot_of q (by intro z; cases z)))
    | lk d =>
      rw [q] at e
      cases e
      exact own_ d (.inr (slot_of q (by intro z; cases z)))
def setO (own : Own) (i : Nat) (a : Addr) : Own := fun j => if j = i then some a else own j
/-- a slot takes a new list -/
theorem Rel.putO {a : Addr} {o : HO} {d : D} {i : Nat} (R : Rel K B (addP F a o) own ρ σ H) (c : Cn K ((addP F a o).av own) F.b H o d) (n : notLk (slotAt ρ i) = true) (hi : i < ρ.length) : Rel K B F (setO own i a) (ρ.set i (.ow d)) (σ.set i (some (.ref a))) H := by
  have hso : ∀ {j x}, setO own i a j = some x → (j = i ∧ x = a) ∨ (j ≠ i ∧ own j = some x) := fun {j x} h => by
    unfold setO at h
    by_cases q : j = i
    · rw [if_pos q] at h; exact .inl ⟨q, (Option.some.inj h).symm⟩
    · rw [if_neg q] at h; exact .inr ⟨q, h⟩
  obtain ⟨h0, ea, nt⟩ := R.pv _ List.mem_cons_self
  have h0 : F.H0 a = none := h0
  have ea : H a = some o := ea
  have hk : Kept ((addP F a o).av own) H (F.av (setO own i a)) H := kept_less fun x z => by
    rw [av_addP]
    rcases z with z | ⟨j, z⟩ | z
    · exact .inl (.inl z)
    · rcases hso z with ⟨_, z⟩ | ⟨_, z⟩
      · exact .inr z
      · exact .inl (.inr (.inl ⟨j, z⟩))
    · exact .inl (.inr (.inr z))
  have pvo : ∀ j, own j ≠ some a := R.pvo _ List.mem_cons_self
  have hσ : i < σ.length := by rw [← R.len]; exact hi
  exact { R with
    fresh := fun j x e => by
      rcases hso e with ⟨_, z⟩ | ⟨_, z⟩
      · rw [z]; exact h0
      · exact R.fresh j x z
    inj := fun j k x e1 e2 => by
      rcases hso e1 with ⟨q1, z1⟩ | ⟨q1, z1⟩
      · rcases hso e2 with ⟨q2, z2⟩ | ⟨q2, z2⟩
        · rw [q1, q2]
        · exact absurd (by rw [z2, z1]) (pvo k)
      · rcases hso e2 with ⟨q2, z2⟩ | ⟨q2, z2⟩
        · exact absurd (by rw [z1, z2]) (pvo j)
        · exact R.inj j k x z1 z2
    dom := fun j x e => by
      rcases hso e with ⟨q, _⟩ | ⟨q, z⟩
      · subst q
        exact ⟨d, .inl (List.getElem?_set_self hi)⟩
      · obtain ⟨d', hd⟩ := R.dom j x z
        exact ⟨d', by rw [List.getElem?_set_ne (Ne.symm q)]; exact hd⟩
    fz := fun j d' e => by
      by_cases q : j = i
      · subst q
        rw [List.getElem?_set_self hi] at e
        cases e
      · rw [List.getElem?_set_ne (Ne.symm q)] at e
        obtain ⟨v, e2, z⟩ := R.fz j d' e
        exact ⟨v, by rw [List.getElem?_set_ne (Ne.symm q)]; exact e2, z.kept hk⟩
    ow := fun j d' e => by
      by_cases q : j = i
      · subst q
        rw [List.getElem?_set_self hi] at e
        rcases e with e | e <;> cases e
        exact ⟨a, if_pos rfl, List.getElem?_set_self hσ, o, ea, c.kept hk⟩
      · rw [List.getElem?_set_ne (Ne.symm q)] at e
        obtain ⟨x, e1, e2, c2⟩ := R.ow j d' e
        exact ⟨x, by unfold setO; rw [if_neg q]; exact e1, by rw [List.getElem?_set_ne (Ne.symm q)]; exact e2, c2.kept hk fun _ z => z⟩
    len := by rw [List.length_set, List.length_set]; exact R.len
    ex := fun p hp => (R.ex p hp).kept hk
    lks := fun p hp => by
      obtain ⟨e1, e2⟩ := R.lks p hp
      have q : p.1 ≠ i := fun e => by
        unfold slotAt at n
        rw [← e, e2] at n
        cases n
      exact ⟨by unfold setO; rw [if_neg q]; exact e1, by rw [List.getElem?_set_ne (Ne.symm q)]; exact e2⟩
    pv := fun p hp => R.pv p (List.mem_cons_of_mem _ hp)
    pvo := fun p hp j e => by
      rcases hso e with ⟨_, z⟩ | ⟨_, z⟩
      · have n : (a :: F.P.map Prod.fst).Nodup := R.pvn
        exact (List.nodup_cons.mp n).1 (List.mem_map.mpr ⟨p, hp, z⟩)
      · exact R.pvo p (List.mem_cons_of_mem _ hp) j z
    pvn := (List.nodup_cons.mp R.pvn).2 }
theorem Rel.setOk (R : Rel K B F own ρ σ H) {v : V} {r : Res} {s : Slot} {ρ' : Rho} {i : Nat} (h : Rs K B F own ρ σ H v r) (e : setRes ρ r = some (s, ρ')) (n : notLk (slotAt ρ' i) = true) (hi : i < ρ'.length) : ∃ own', Rel K B F own' (ρ'.set i s) (σ.set i (some v)) H := by
  cases r with
  | fz d =>
    cases e
    exact ⟨_, (R.put n h).1⟩
  | ow d =>
    cases e
    obtain ⟨a, o, rfl, RP, c⟩ := h
    exact ⟨_, RP.putO c n hi⟩
  | bw j =>
    have e : (match Ip.frz1 ρ (.bw j) with
      | some (d, ρ') => some (Slot.fz d, ρ')
      | none => none) = some (s, ρ') := e
    cases q : Ip.frz1 ρ (.bw j) with
    | none => rw [q] at e; cases e
    | some p =>
      obtain ⟨d, ρ2⟩ := p
      rw [q] at e
      cases e
      obtain ⟨own', R', l, _, z⟩ := R.frz1 h.w q
      exact ⟨_, (R'.put n z).1⟩
/-- an own object changes -/
theorem Rel.mutO (R : Rel K B F own ρ σ H) {i : Nat} {a : Addr} {d d' : D} {o : HO} (h : ρ[i]? = some (.ow d)) (ha : own i = some a) (c : Cn K (F.av own) F.b (upd H a o) o d') :
    Rel K B F own (ρ.set i (.ow d')) σ (upd H a o) ∧ Kept (F.av own) H (F.av own) (upd H a o) := by
  have hav : F.av own a := .inr (.inl ⟨i, ha⟩)
  have hk : Kept (F.av own) H (F.av own) (upd H a o) := ⟨fun _ z => z, fun x u e n => by rw [upd_ne fun z => n (by rw [z]; exact hav)]; exact e, fun _ => upd_none⟩
  have hi : i < ρ.length := (List.getElem?_eq_some_iff.mp h).1
  have h0 := R.fresh i a ha
  have nO : ∀ {x}, F.O0 x → x ≠ a := fun {x} hx z => R.notb (a := a) (by rw [← z]; exact hx) i ha
  refine ⟨{ R with
    box := R.good.st R.box (upd_ne (nO R.hb)) (upd_ne (nO R.hc))
    base := fun x u n1 n2 e => by
      have : x ≠ a := fun z => by rw [z, h0] at e; cases e
      rw [upd_ne this]
      exact R.base x u n1 n2 e
    dom := fun j x e => by
      by_cases q : j = i
      · subst q
        exact ⟨d', .inl (List.getElem?_set_self hi)⟩
      · rw [List.getElem?_set_ne (Ne.symm q)]
        exact R.dom j x e
    fz := fun j d2 e => by
      by_cases q : j = i
      · subst q
        rw [List.getElem?_set_self hi] at e
        cases e
      · rw [List.getElem?_set_ne (Ne.symm q)] at e
        obtain ⟨v, e2, z⟩ := R.fz j d2 e
        exact ⟨v, e2, z.kept hk⟩
    ow := fun j d2 e => by
      by_cases q : j = i
      · subst q
        rw [List.getElem?_set_self hi] at e
        rcases e with e | e <;> cases e
        obtain ⟨a', e1, e2, _⟩ := R.ow j d (.inl h)
        rw [ha] at e1
        cases e1
        exact ⟨a, ha, e2, o, upd_same, c⟩
      · rw [List.getElem?_set_ne (Ne.symm q)] at e
        obtain ⟨x, e1, e2, c2⟩ := R.ow j d2 e
        refine ⟨x, e1, e2, c2.kept hk fun u z => ?_⟩
        rw [upd_ne fun y => q (R.inj j i a (by rw [e1, y]) ha)]
        exact z
    len := by rw [List.length_set]; exact R.len
    ex := fun p hp => (R.ex p hp).kept hk
    lks := fun p hp => by
      obtain ⟨e1, e2⟩ := R.lks p hp
      have q : p.1 ≠ i := fun e => by rw [e, h] at e2; cases e2
      exact ⟨e1, by rw [List.getElem?_set_ne (Ne.symm q)]; exact e2⟩
    pv := fun p hp => by
      obtain ⟨e0, e1, nt⟩ := R.pv p hp
      refine ⟨e0, ?_, nt⟩
      rw [upd_ne fun z => R.pvo p hp i (by rw [z]; exact ha)]
      exact e1 }, hk⟩
theorem ownL_inv {i : Nat} {ds : List D} (h : ownL ρ i = some ds) : ρ[i]? = some (.ow (.lst ds)) := by
  unfold ownL at h
  cases q : slotAt ρ i with
  | ow d =>
    rw [q] at h
    cases d with
    | lst es =>
      cases h
      exact slot_of q (by intro z; cases z)
    | _ => cases h
  | _ => rw [q] at h; cases h
/-- an own list: where it stands -/
theorem Rel.ownAt (R : Rel K B F own ρ σ H) {i : Nat} {ds : List D} (h : ownL ρ i = some ds) : ∃ a xs, own i = some a ∧ σ[i]? = some (some (.ref a)) ∧ H a = some (.lst xs) ∧ RzA K (F.av own) F.b H xs ds := by
  obtain ⟨a, e1, e2, o, eo, c⟩ := R.ow i _ (.inl (ownL_inv h))
  cases o with
  | lst xs => exact ⟨a, xs, e1, e2, eo, c⟩
  | _ => exact c.elim
/-- an own list takes other items -/
theorem Rel.mutL (R : Rel K B F own ρ σ H) {i : Nat} {a : Addr} {ds es : List D} {ys : List V} (h : ownL ρ i = some ds) (ha : own i = some a) (r : RzA K (F.av own) F.b H ys es) :
    Rel K B F own (ρ.set i (.ow (.lst es))) σ (upd H a (.lst ys)) ∧ Kept (F.av own) H (F.av own) (upd H a (.lst ys)) := by
  have hk : Kept (F.av own) H (F.av own) (upd H a (.lst ys)) := ⟨fun _ z => z, fun x u e n => by rw [upd_ne fun z => n (by rw [z]; exact .inr (.inl ⟨i, ha⟩))]; exact e, fun _ => upd_none⟩
  exact R.mutO (ownL_inv h) ha (RzA.kept hk r)
end
end Ip

set_option Elab.async false
set_option linter.all false
set_option maxRecDepth 100000
set_option maxHeartbeats 2000000
set_option autoImplicit false
/-! Ip11: statements are sound -/
namespace Ip
open PySem L2

theorem FrEq.ret {K : Frag} {B : BoxPred} {F F' : Fr} (e : FrEq F F') {H : Hp} {v : V} {r : Res} (h : Ret K B F' H v r) : Ret K B F H v r := by
  obtain ⟨o0, b, c, h0, E, L, P⟩ := F
  obtain ⟨o0', b', c', h0', E', L', P'⟩ := F'
  obtain ⟨e1, e2, e3, e4, e5⟩ := e
  cases e1; cases e2; cases e3; cases e4; cases e5
  exact ⟨h.box, h.base, h.rs⟩
section
variable {X : Cx} {B : BoxPred} {st : Stmt} {rest a b : List Stmt} {e c k : Expr} {w we wk : WE} {t : WT} {ws wb : WS} {pos : Pos} {i j : Nat} {x y : Str}
theorem psW {t t' : TS} (h : PS X st t) (i : ∀ D σ H, t' D σ H → t D σ H) : PS X st t' := ⟨fun pins s σ H D I q => h.run pins s σ H D I (i D σ H q)⟩
theorem pssW {t t' : TS} (h : PSs X rest t) (i : ∀ D σ H, t' D σ H → t D σ H) : PSs X rest t' := ⟨fun pins s σ H D I q => h.run pins s σ H D I (i D σ H q)⟩
theorem next_ {D : Ends} {σ : L2.St} {H : Hp} (h : tS X.K B wSkip D σ H) : tNext D σ H := by
  obtain ⟨F, own, ρ, E, hp, R, w, kn, kb, kc, kr⟩ := h
  exact kn own ρ σ H R w
theorem sssNil : PSs X [] (tS X.K B wSkip) := pssW pss_nil fun _ _ _ => next_
theorem ssPass : PS X (.Pass pos) (tS X.K B wSkip) := psW ps_pass fun _ _ _ => next_
theorem ssDoc {x : Str} {j : Int} {p1 p2 : Pos} {jj} : PS X (.Expr (.Constant (.str x) jj p1) p2) (tS X.K B wSkip) := psW ps_doc fun _ _ _ => next_
theorem ssBreak : PS X (.Break pos) (tS X.K B wBreak) := psW ps_break fun D σ H h => by
  obtain ⟨F, own, ρ, E, hp, R, w, kn, kb, kc, kr⟩ := h
  exact kb own ρ σ H R w
theorem ssCont : PS X (.Continue pos) (tS X.K B wCont) := psW ps_continue fun D σ H h => by
  obtain ⟨F, own, ρ, E, hp, R, w, kn, kb, kc, kr⟩ := h
  exact kc own ρ σ H R w
theorem sssCons (h1 : PS X st (tS X.K B ws)) (h2 : PSs X rest (tS X.K B wb)) : PSs X (st :: rest) (tS X.K B (wSeqS ws wb)) := pssW (pss_cons h1 h2) fun D σ H h => by
  obtain ⟨F, own, ρ, E, hp, R, w, kn, kb, kc, kr⟩ := h
  exact ⟨F, own, ρ, _, hp, R, w, fun own1 ρ1 σ1 H1 R1 w1 => ⟨F, own1, ρ1, E, hp, R1, w1, kn, kb, kc, kr⟩, kb, kc, kr⟩
theorem ssDrop (he : PE X e (tE X.K B w)) (hs : swapsWith e none pos.line X.env = pure false := by rfl) : PS X (.Expr e pos) (tS X.K B (wDrop w)) := psW (ps_expr he hs) fun D σ H h => by
  obtain ⟨F, own, ρ, E, hp, R, w, kn, kb, kc, kr⟩ := h
  exact ⟨F, own, ρ, _, R, w, fun own1 ρ1 v r H1 R1 k1 s1 w1 => kn own1 ρ1 σ H1 R1 w1⟩
theorem ssRet (he : PE X e (tE X.K B w)) : PS X (.Return (some e) pos) (tS X.K B (wRet w)) := psW (ps_ret he) fun D σ H h => by
  obtain ⟨F, own, ρ, E, hp, R, w, kn, kb, kc, kr⟩ := h
  refine ⟨F, own, ρ, _, R, w, fun own1 ρ1 v r H1 R1 k1 s1 w1 => ?_⟩
  obtain ⟨r', e1, w2⟩ := need_of w1
  exact kr v r' H1 (R1.retOk hp s1 e1) w2
theorem ssRetN : PS X (.Return none pos) (tS X.K B wRetN) := psW ps_retN fun D σ H h => by
  obtain ⟨F, own, ρ, E, hp, R, w, kn, kb, kc, kr⟩ := h
  exact kr .non (.fz .non) H (R.retOk hp (r := .fz .non) (r' := .fz .non) .non rfl) w
theorem ssIf (hc : PT X c (tT X.K B t)) (ha : PSs X a (tS X.K B ws)) (hb : PSs X b (tS X.K B wb)) : PS X (.If c a b pos) (tS X.K B (wIfS t ws wb)) := psW (ps_if hc ha hb) fun D σ H h => by
  obtain ⟨F, own, ρ, E, hp, R, w, kn, kb, kc, kr⟩ := h
  refine ⟨F, own, ρ, _, R, w, fun own1 ρ1 z H1 R1 k1 w1 => ?_⟩
  cases z with
  | true => exact ⟨F, own1, ρ1, E, hp, R1, w1, kn, kb, kc, kr⟩
  | false => exact ⟨F, own1, ρ1, E, hp, R1, w1, kn, kb, kc, kr⟩
theorem setRed {D : Ends} {σ : L2.St} {H : Hp} (h : tS X.K B (wSet i w) D σ H) : tAsg (tE X.K B w) (gName i) D σ H := by
  obtain ⟨F, own, ρ, E, hp, R, w, kn, kb, kc, kr⟩ := h
  refine ⟨F, own, ρ, _, R, w, fun own1 ρ1 v r H1 R1 k1 s1 w1 => ?_⟩
  obtain ⟨⟨s, ρ2⟩, e1, n, hi, w2⟩ := need_of w1
  obtain ⟨own2, R2⟩ := R1.setOk s1 e1 n hi
  exact kn own2 _ _ H1 R2 w2
theorem ssSet {pos' : Pos} (hN : X.N.Nodup) (hi : X.N[i]? = some x) (hx : Loc X.env.scope x) (he : PE X e (tE X.K B w)) (hf : X.fn x = true ∨ X.env.scope.names.lookup x = some .local) (hs : swapsWith e (some (.Name x pos')) pos.line X.env = pure false := by rfl) :
    PS X (.Assign [.Name x pos'] e pos) (tS X.K B (wSet i w)) := psW (ps_set hN hi hx he hs hf) fun _ _ _ => setRed
/-- name = a comprehension on the same line -/
theorem ssSetLc {py spos : Pos} {elt tg iter : Expr} {ifs : List Expr} {scope : Scope} {own : List (Str × Nat)} {wi : WI} {g : WG} {ct : WT} (hc : X.calm = true) (hN : X.N.Nodup) (hy : X.N[i]? = some y) (hyl : X.env.scope.names.lookup y = some .local)
    (hsw : swapsWith (.ListComp elt [⟨tg, iter, ifs, 0⟩] scope pos) (some (.Name y py)) spos.line X.env = pure true) (hi : PI X tg iter (tIt X.K B wi)) (ok : BlkOk X.N X.env.scope scope own)
    (hg : ∀ (s : Shared) (H : Hp) (C : Addr) (cl : List (Str × Addr)) (fp : List Addr), PG (X.blk s H scope (compEnvC scope cl C X.env) fp) tg (tG X.K B (own.map (·.2)) g))
    (ht : ∀ (s : Shared) (H : Hp) (C : Addr) (cl : List (Str × Addr)) (fp : List Addr), PTs (X.blk s H scope (compEnvC scope cl C X.env) fp) ifs (tT X.K B ct))
    (he : ∀ (s : Shared) (H : Hp) (C : Addr) (cl : List (Str × Addr)) (fp : List Addr), PE (X.blk s H scope (compEnvC scope cl C X.env) fp) elt (tE X.K B w)) (hs : ∀ x, foldedSetIterable iter X.env x = pure x) :
    PS X (.Assign [.Name y py] (.ListComp elt [⟨tg, iter, ifs, 0⟩] scope pos) spos) (tS X.K B (wSet i (wLc wi g ct w (own.map (·.2))))) :=
  psW (ps_setLc hc hN hy hyl hsw hi ok hg ht he hs) fun D σ H h => lcIn (setRed h)
theorem ssAsg {tg : Expr} {vs : List Nat} {g : WG} (he : PE X e (tE X.K B w)) (hg : PG X tg (tG X.K B vs g)) (hs : swapsWithSole [tg] e pos.line X.env = pure false := by rfl) (hw : swappedStores [tg] e X.env = pure none := by rfl)
    (h1 : (assignEach [tg] X.env).map (·.2) = [assign tg X.env] := by rfl) : PS X (.Assign [tg] e pos) (tS X.K B (wAsg g w)) := psW (ps_asg he hg hs hw h1) fun D σ H h => by
  obtain ⟨F, own, ρ, E, hp, R, w, kn, kb, kc, kr⟩ := h
  refine ⟨F, own, ρ, _, R, w, fun own1 ρ1 v r H1 R1 k1 s1 w1 => ?_⟩
  obtain ⟨⟨d, ρ2⟩, e1, w2⟩ := need_of w1
  obtain ⟨own2, R2, l, _, z⟩ := R1.frz1 s1.w e1
  exact ⟨F, own2, ρ2, d, _, R2, z, w2, fun own3 ρ3 σ3 R3 _ _ w3 => kn own3 ρ3 σ3 H1 R3 w3⟩
/-- a, b = x, y -/
def wPar (i j : Nat) (ws : WO) : WS := fun E ρ => ws ρ fun rs ρ1 => need (frzAll ρ1 rs) fun q => match q.1 with
  | [d1, d2] => notLk (slotAt q.2 i) = true ∧ notLk (slotAt (q.2.set i (.fz d1)) j) = true ∧ E.nx ((q.2.set i (.fz d1)).set j (.fz d2))
  | _ => False
theorem ssPar {ws : WO} {ea eb : Expr} {px py pt : Pos} {kt k2 pt2} (hc : X.calm = true) (hN : X.N.Nodup) (hi : X.N[i]? = some x) (hj : X.N[j]? = some y) (hij : i ≠ j)
    (hx : X.env.scope.names.lookup x = some .local) (hy : X.env.scope.names.lookup y = some .local) (ha : PA X [ea, eb] (tO X.K B ws))
    (hw : swappedStores [.Tuple [.Name x px, .Name y py] kt pt] (.Tuple [ea, eb] k2 pt2) X.env = pure (some [x, y]) := by rfl)
    (hs : swapsWithSole [.Tuple [.Name x px, .Name y py] kt pt] (.Tuple [ea, eb] k2 pt2) pos.line X.env = pure false := by rfl) :
    PS X (.Assign [.Tuple [.Name x px, .Name y py] kt pt] (.Tuple [ea, eb] k2 pt2) pos) (tS X.K B (wPar i j ws)) := psW (ps_par hc hN hi hj hij hx hy ha hw hs) fun D σ H h => by
  obtain ⟨F, own, ρ, E, hp, R, w, kn, kb, kc, kr⟩ := h
  refine ⟨F, own, ρ, _, R, w, fun own1 ρ1 vs rs H1 R1 k1 s1 w1 => ?_⟩
  obtain ⟨⟨ds, ρ2⟩, e1, w2⟩ := need_of w1
  obtain ⟨own2, R2, l, _, z⟩ := R1.frzAll s1 e1
  match ds, vs, z, w2 with
  | [d1, d2], _, .cons z1 (.cons z2 .nil), w2 =>
    obtain ⟨n1, n2, w3⟩ := w2
    obtain ⟨R3, l3⟩ := R2.put n1 z1
    obtain ⟨R4, l4⟩ := R3.put n2 (z2.kept l3.kept)
    exact ⟨_, _, rfl, kn _ _ _ H1 R4 w3⟩
theorem ssFor {iter tg : Expr} {body : List Stmt} {wi : WI} {g : WG} {vs : List Nat} (hp : PassesOwn (model X.prog X.w) X.A X.env X.xe) (hc : X.calm = true) (hi : PI X tg iter (tIt X.K B wi)) (hg : PG X tg (tG X.K B vs g)) (hb : PSs X body (tS X.K B wb))
    (hs : ∀ x, foldedSetIterable iter X.env x = pure x := by intro _; rfl) : PS X (.For tg iter body [] pos) (tS X.K B (wFor wi g wb)) := psW (ps_for hp hc hi hg hb hs) fun D σ H h => by
  obtain ⟨F, own, ρ, E, hp, R, w, kn, kb, kc, kr⟩ := h
  refine ⟨F, own, ρ, _, R, w, fun F' own1 ρ1 ds lk J H1 eq R1 un k1 it hl w1 => ?_⟩
  have hp' : F'.P = [] := eq.p.trans hp
  have itF := it F' (fun _ h => h) (fun _ h => h)
  have nxF : ∀ own' ρ' σ' H', Rel X.K B F' own' ρ' σ' H' → E.nx (unlock lk ρ') → D.nx σ' H' := fun own' ρ' σ' H' R' p => by
    have q := un F'.P own' ρ' σ' H' R'
    rw [eq.p] at q
    exact kn own' _ σ' H' q p
  refine ⟨fun i m σ H => m = ds.length - i ∧ i ≤ ds.length ∧ ∃ own ρ, Rel X.K B F' own ρ σ H ∧ forGo g wb (fun ρ2 => E.nx (unlock lk ρ2)) E.rt (ds.drop i) ρ, ⟨ds.length, by simp, Nat.zero_le _, own1, ρ1, R1, w1⟩, ?_⟩
  rintro i m σ2 H2 ⟨rfl, hi, own2, ρ2, R2, w2⟩
  by_cases hlt : i < ds.length
  · refine .inr ⟨itF.go i R2 hlt, fun σ' H' => ∃ own ρ, Rel X.K B F' own ρ σ' H' ∧ forGo g wb (fun ρ2 => E.nx (unlock lk ρ2)) E.rt (ds.drop (i + 1)) ρ, fun σ' H' p' => ⟨ds.length - (i + 1), by omega, rfl, hlt, p'⟩, fun y H3 hy => ?_⟩
    obtain ⟨d, hd, R3, k3, z⟩ := itF.yld i R2 hlt hy
    have ew : ds.drop i = d :: ds.drop (i + 1) := by
      rw [List.drop_eq_getElem_cons hlt]
      congr 1
      rw [List.getElem?_eq_getElem hlt] at hd
      exact Option.some.inj hd
    rw [ew] at w2
    exact ⟨F', own2, ρ2, d, _, R3, z, w2, fun own4 ρ4 σ4 R4 _ _ w4 => ⟨F', own4, ρ4, _, hp', R4, w4, fun own5 ρ5 σ5 H5 R5 p => ⟨own5, ρ5, R5, p⟩, nxF, fun own5 ρ5 σ5 H5 R5 p => ⟨own5, ρ5, R5, p⟩, fun v r H' ret p => kr v r H' (eq.ret ret) p⟩⟩
  · obtain rfl : i = ds.length := by omega
    rw [List.drop_length] at w2
    exact .inl ⟨itF.stop R2, nxF own2 ρ2 σ2 H2 R2 w2⟩
theorem ssWhile {body : List Stmt} (hp : PassesOwn (model X.prog X.w) X.A X.env X.xe) (hc : PT X c (tT X.K B t)) (hb : PSs X body (tS X.K B wb)) : PS X (.While c body [] pos) (tS X.K B (wWhile t wb)) := psW (ps_while hp hc hb) fun D σ H h => by
  obtain ⟨F, own, ρ, E, hp, R, ⟨n, w⟩, kn, kb, kc, kr⟩ := h
  refine ⟨fun m σ H => ∃ own ρ, Rel X.K B F own ρ σ H ∧ whGo t wb E.nx E.rt m ρ, ⟨n, own, ρ, R, w⟩, ?_⟩
  rintro m σ1 H1 ⟨own1, ρ1, R1, w1⟩
  cases m with
  | zero => exact w1.elim
  | succ m =>
    refine ⟨F, own1, ρ1, _, R1, w1, fun own2 ρ2 z H2 R2 k2 w2 => ?_⟩
    cases z with
    | true => exact ⟨fun σ' H' => ∃ own ρ, Rel X.K B F own ρ σ' H' ∧ whGo t wb E.nx E.rt m ρ, fun σ' H' p => ⟨m, Nat.lt_succ_self m, p⟩, F, own2, ρ2, _, hp, R2, w2, fun own5 ρ5 σ5 H5 R5 p => ⟨own5, ρ5, R5, p⟩, kn, fun own5 ρ5 σ5 H5 R5 p => ⟨own5, ρ5, R5, p⟩, kr⟩
    | false => exact kn own2 ρ2 σ1 H2 R2 w2
/-- x op= e, whole numbers -/
theorem ssAugI {pos' : Pos} {op : Operator} {f : Int → Int → Int} (hN : X.N.Nodup) (hi : X.N[i]? = some x) (hx : Loc X.env.scope x) (ho : PIp X op (ipI f)) (he : PE X e (tE X.K B w)) (hf : X.fn x = true ∨ X.env.scope.names.lookup x = some .local) :
    PS X (.AugAssign (.Name x pos') op e pos) (tS X.K B (wAugI i f w)) := psW (ps_aug hN hi hx he ho hf) fun D σ H h => by
  obtain ⟨F, own, ρ, E, hp, R, w, kn, kb, kc, kr⟩ := h
  unfold wAugI at w
  cases q : slotAt ρ i with
  | fz d =>
    rw [q] at w
    cases d with
    | int n =>
      obtain ⟨v, ev, zv⟩ := R.fz i _ (slot_of q (by intro z; cases z))
      cases zv
      refine ⟨_, ev, F, own, ρ, _, R, w, fun own1 ρ1 v r H1 R1 k1 s1 w1 => ?_⟩
      obtain ⟨d, e1, w2⟩ := need_of w1
      obtain ⟨m, e2, nl, hi, w3⟩ := need_of w2
      cases asInt_inv e2
      exact ⟨n, m, rfl, vw_int (R1.view s1.w e1), kn _ _ _ H1 (R1.put nl (.int _)).1 w3⟩
    | _ => exact w.elim
  | _ => rw [q] at w; exact w.elim
/-! own lists -/
theorem sPopAt {p apos cpos : Pos} (hN : X.N[i]? = some x) (hv : Vis X.env.scope x) (hd : (x == ("__debug__" : Str)) = false) (hcd : (x == ("__classdict__" : Str)) = false) (he : PE X e (tE X.K B w))
    (hbase : attributeBase (.Name x p) "pop" X.env (eval (.Name x p) X.env) = eval (.Name x p) X.env := by rfl)
    (hfew : ((backTo cpos (starEach (e :: []) X.env)).all (fun x => !x.1) && (backToKw cpos (keywordEach [] X.env)).all (fun x => x.1.isSome)
      && decide ((e :: []).length + ([] : List Keyword).length + (if ([] : List Keyword).isEmpty then 0 else 1) < 30)) = true := by rfl)
    (hline : (apos.endLine == cpos.line) = true := by rfl) (hs : starEach (e :: []) X.env = (false, eval e X.env) :: starEach [] X.env := by rfl) (hplain : (backTo cpos (starEach [] X.env)).any (·.1) = false := by rfl) :
    PE X (.Call (.Attribute (.Name x p) "pop" apos) [e] [] cpos) (tE X.K B (wPopAt i w)) :=
  peW (pe_bm PySem.F.plainAttrs_list PySem.F.slot_list_pop PySem.F.type_list_pop mt_popAt (pe_var hN hv hd hcd) (pa_cons he pa_nil hs) hbase hfew hline hs hplain) fun σ H Q h => by
    obtain ⟨F, own, ρ, P, R, w, kk⟩ := h
    obtain ⟨ds0, e0, w⟩ := need_of w
    obtain ⟨a, xs, ha, hs, hH, r⟩ := R.ownAt e0
    refine ⟨.ref a, hs, .inl ⟨rfl, xs, SqL.of hH⟩, F, own, ρ, _, R, w, fun own1 ρ1 v r H1 R1 k1 s1 w1 => ?_⟩
    obtain ⟨d, e1, w2⟩ := need_of w1
    obtain ⟨n, e2, w3⟩ := need_of w2
    obtain ⟨ds, e3, hl, w4⟩ := need_of w3
    obtain ⟨j, e4, w5⟩ := need_of w4
    obtain ⟨d', e5, w6⟩ := need_of w5
    cases asInt_inv e2
    obtain ⟨a1, xs1, ha1, hs1, hH1, r1⟩ := R1.ownAt e3
    rw [hs] at hs1
    cases hs1
    obtain ⟨y, hy, zy⟩ := r1.at e5
    obtain ⟨q1, q2, q3, q4⟩ := ixN_seq e4
    obtain ⟨R2, k2⟩ := R1.mutL e3 ha1 (r1.erase j)
    have hl : ds.length ≤ 10000000 := hl
    exact ⟨a, xs1, n, j, y, rfl, by rw [vw_int (R1.view s1.w e1)], hH1, by omega, by omega, by rw [r1.length]; exact q1, hy, kk own1 _ y (.fz d') _ R2 (k1.trans k2) (zy.kept k2) w6⟩
theorem sPop {p apos cpos : Pos} (hN : X.N[i]? = some x) (hv : Vis X.env.scope x) (hd : (x == ("__debug__" : Str)) = false) (hcd : (x == ("__classdict__" : Str)) = false)
    (hbase : attributeBase (.Name x p) "pop" X.env (eval (.Name x p) X.env) = eval (.Name x p) X.env := by rfl) (hline : (apos.endLine == cpos.line) = true := by rfl) :
    PE X (.Call (.Attribute (.Name x p) "pop" apos) [] [] cpos) (tE X.K B (wPop i)) :=
  peW (pe_bm0 PySem.F.plainAttrs_list PySem.F.slot_list_pop PySem.F.type_list_pop mt_pop (pe_var hN hv hd hcd) hbase hline) fun σ H Q h => by
    obtain ⟨F, own, ρ, P, R, w, kk⟩ := h
    obtain ⟨ds, e0, w⟩ := need_of w
    obtain ⟨d, e1, w⟩ := need_of w
    obtain ⟨a, xs, ha, hs, hH, r⟩ := R.ownAt e0
    obtain ⟨y, hy, zy⟩ := r.at e1
    have rd : RzA X.K (F.av own) F.b H xs.dropLast ds.dropLast := by
      rw [List.dropLast_eq_take, List.dropLast_eq_take, r.length]
      exact r.take _
    obtain ⟨R2, k2⟩ := R.mutL e0 ha rd
    exact ⟨.ref a, hs, .inl ⟨rfl, xs, SqL.of hH⟩, a, xs, y, rfl, rfl, hH, by rw [r.length]; exact hy, kk own _ y (.fz d) _ R2 k2 (zy.kept k2) w⟩
theorem sAppend {p apos cpos : Pos} (hN : X.N[i]? = some x) (hv : Vis X.env.scope x) (hd : (x == ("__debug__" : Str)) = false) (hcd : (x == ("__classdict__" : Str)) = false) (he : PE X e (tE X.K B w))
    (hbase : attributeBase (.Name x p) "append" X.env (eval (.Name x p) X.env) = eval (.Name x p) X.env := by rfl)
    (hfew : ((backTo cpos (starEach (e :: []) X.env)).all (fun x => !x.1) && (backToKw cpos (keywordEach [] X.env)).all (fun x => x.1.isSome)
      && decide ((e :: []).length + ([] : List Keyword).length + (if ([] : List Keyword).isEmpty then 0 else 1) < 30)) = true := by rfl)
    (hline : (apos.endLine == cpos.line) = true := by rfl) (hs : starEach (e :: []) X.env = (false, eval e X.env) :: starEach [] X.env := by rfl) (hplain : (backTo cpos (starEach [] X.env)).any (·.1) = false := by rfl) :
    PE X (.Call (.Attribute (.Name x p) "append" apos) [e] [] cpos) (tE X.K B (wAppend i w)) :=
  peW (pe_bm PySem.F.plainAttrs_list PySem.F.slot_list_append PySem.F.type_list_append mt_append (pe_var hN hv hd hcd) (pa_cons he pa_nil hs) hbase hfew hline hs hplain) fun σ H Q h => by
    obtain ⟨F, own, ρ, P, R, w, kk⟩ := h
    obtain ⟨ds0, e0, w⟩ := need_of w
    obtain ⟨a, xs, ha, hs, hH, r⟩ := R.ownAt e0
    refine ⟨.ref a, hs, .inl ⟨rfl, xs, SqL.of hH⟩, F, own, ρ, _, R, w, fun own1 ρ1 v r H1 R1 k1 s1 w1 => ?_⟩
    obtain ⟨⟨d, ρ2⟩, e1, w2⟩ := need_of w1
    obtain ⟨ds, e3, hl, w3⟩ := need_of w2
    obtain ⟨own2, R2, l2, _, z⟩ := R1.frz1 s1.w e1
    obtain ⟨a1, xs1, ha1, hs1, hH1, r1⟩ := R2.ownAt e3
    rw [hs] at hs1
    cases hs1
    obtain ⟨R3, k3⟩ := R2.mutL e3 ha1 (r1.append (.cons z .nil))
    exact ⟨a, xs1, v, rfl, rfl, hH1, by rw [r1.length]; exact Nat.lt_of_lt_of_le hl lim_line, kk own2 _ .non (.fz .non) _ R3 ((k1.trans l2.kept).trans k3) .non w3⟩
theorem sExtend {p apos cpos : Pos} (hN : X.N[i]? = some x) (hv : Vis X.env.scope x) (hd : (x == ("__debug__" : Str)) = false) (hcd : (x == ("__classdict__" : Str)) = false) (he : PE X e (tE X.K B w))
    (hbase : attributeBase (.Name x p) "extend" X.env (eval (.Name x p) X.env) = eval (.Name x p) X.env := by rfl)
    (hfew : ((backTo cpos (starEach (e :: []) X.env)).all (fun x => !x.1) && (backToKw cpos (keywordEach [] X.env)).all (fun x => x.1.isSome)
      && decide ((e :: []).length + ([] : List Keyword).length + (if ([] : List Keyword).isEmpty then 0 else 1) < 30)) = true := by rfl)
    (hline : (apos.endLine == cpos.line) = true := by rfl) (hs : starEach (e :: []) X.env = (false, eval e X.env) :: starEach [] X.env := by rfl) (hplain : (backTo cpos (starEach [] X.env)).any (·.1) = false := by rfl) :
    PE X (.Call (.Attribute (.Name x p) "extend" apos) [e] [] cpos) (tE X.K B (wExtend i w)) :=
  peW (pe_bm PySem.F.plainAttrs_list PySem.F.slot_list_extend PySem.F.type_list_extend mt_extend (pe_var hN hv hd hcd) (pa_cons he pa_nil hs) hbase hfew hline hs hplain) fun σ H Q h => by
    obtain ⟨F, own, ρ, P, R, w, kk⟩ := h
    obtain ⟨ds0, e0, w⟩ := need_of w
    obtain ⟨a, xs, ha, hs, hH, r⟩ := R.ownAt e0
    refine ⟨.ref a, hs, .inl ⟨rfl, xs, SqL.of hH⟩, F, own, ρ, _, R, w, fun own1 ρ1 v r H1 R1 k1 s1 w1 => ?_⟩
    obtain ⟨d, e1, w2⟩ := need_of w1
    cases d with
    | lst es =>
      obtain ⟨ds, e3, hl, w3⟩ := need_of w2
      obtain ⟨b, ys, rfl, eb, rb⟩ := R1.view s1.w e1
      obtain ⟨a1, xs1, ha1, hs1, hH1, r1⟩ := R1.ownAt e3
      rw [hs] at hs1
      cases hs1
      obtain ⟨R3, k3⟩ := R1.mutL e3 ha1 (r1.append rb)
      exact ⟨a, b, xs1, ys, rfl, rfl, hH1, eb, by rw [r1.length, rb.length]; exact Nat.le_trans hl lim_line, kk own1 _ .non (.fz .non) _ R3 (k1.trans k3) .non w3⟩
    | _ => exact w2.elim
theorem ssSetIx {p p2 : Pos} (hN : X.N[i]? = some x) (hv : Vis X.env.scope x) (hd : (x == ("__debug__" : Str)) = false) (hcd : (x == ("__classdict__" : Str)) = false) (hk : PE X k (tE X.K B wk)) (he : PE X e (tE X.K B we))
    (ha : ∀ v, assign (.Subscript (.Name x p) k p2) X.env v = (do
      let ov ← holding [v] (eval (.Name x p) X.env)
      let iv ← holding [v, ov] (eval k X.env)
      standAt p2
      holding [v, ov, iv] (setItem ov iv v)
      release [v, ov, iv] []) := by intro _; rfl)
    (hs : swapsWithSole [.Subscript (.Name x p) k p2] e pos.line X.env = pure false := by rfl) (hw : swappedStores [.Subscript (.Name x p) k p2] e X.env = pure none := by rfl)
    (h1 : (assignEach [.Subscript (.Name x p) k p2] X.env).map (·.2) = [assign (.Subscript (.Name x p) k p2) X.env] := by rfl) :
    PS X (.Assign [.Subscript (.Name x p) k p2] e pos) (tS X.K B (wSetIx i wk we)) := psW (ps_asg he (pg_sub (pe_var hN hv hd hcd) hk set_list ha) hs hw h1) fun D σ H h => by
  obtain ⟨F, own, ρ, E, hp, R, w, kn, kb, kc, kr⟩ := h
  refine ⟨F, own, ρ, _, R, w, fun own1 ρ1 v r H1 R1 k1 s1 w1 => ?_⟩
  obtain ⟨⟨d, ρ2⟩, e1, w2⟩ := need_of w1
  obtain ⟨ds0, e0, w3⟩ := need_of w2
  obtain ⟨own2, R2, l2, _, z⟩ := R1.frz1 s1.w e1
  obtain ⟨a, xs, ha, hs, hH, r⟩ := R2.ownAt e0
  refine ⟨.ref a, hs, F, own2, ρ2, _, R2, w3, fun own3 ρ3 u rk H3 R3 k3 s3 w4 => ?_⟩
  obtain ⟨dk, e4, w5⟩ := need_of w4
  obtain ⟨n, e5, w6⟩ := need_of w5
  obtain ⟨ds, e6, w7⟩ := need_of w6
  obtain ⟨j, e7, w8⟩ := need_of w7
  cases asInt_inv e5
  obtain ⟨a1, xs1, ha1, hs1, hH1, r1⟩ := R3.ownAt e6
  rw [hs] at hs1
  cases hs1
  obtain ⟨R4, k4⟩ := R3.mutL e6 ha1 (r1.set j (z.kept k3))
  exact ⟨a, xs1, n, j, rfl, vw_int (R3.view s3.w e4), hH1, by rw [r1.length]; exact e7, kn _ _ _ _ R4 w8⟩
end
end Ip

set_option Elab.async false
set_option linter.all false
set_option maxRecDepth 100000
set_option maxHeartbeats 2000000
set_option autoImplicit false
/-! Ip12: defs by their bodies; calls by a def's name -/
namespace Ip
open PySem L2 PySem.Spec PyProof.Rows

def callOf (m n : Nat) (w : WS) : CallT := fun ds P => ds.length = n ∧ w ⟨fun _ => P (.fz .non), P, fun _ => False, fun _ => False⟩ (ds.map Slot.fz ++ List.replicate (m - n) .non)
/-- what a frame holds at a def's entry -/
theorem Cal.rel {K : Frag} {B : BoxPred} {F : Fr} {H : Hp} (C : Cal K B F H) {vs : List V} {ds : List D} {m : Nat} (z : RzA K (F.av noOwn) F.b H vs ds) :
    Rel K B F noOwn (ds.map Slot.fz ++ List.replicate m .non) (vs.map some ++ List.replicate m none) H where
  hb := C.hb
  hc := C.hc
  good := C.good
  box := C.box
  there := fun a h => by rw [C.h0]; exact C.there a h
  base := fun a o _ _ e => by rw [C.h0] at e; exact e
  fresh := fun i a e => by cases e
  inj := fun i j a e => by cases e
  dom := fun i a e => by cases e
  fz := fun i d e => by
    by_cases hi : i < ds.length
    · rw [List.getElem?_append_left (by rw [List.length_map]; exact hi), List.getElem?_map] at e
      cases q : ds[i]? with
      | none => rw [q] at e; cases e
      | some d' =>
        rw [q] at e
        cases e
        obtain ⟨v, hv, zv⟩ := z.at q
        refine ⟨v, ?_, zv⟩
        rw [List.getElem?_append_left (by rw [List.length_map, z.length]; exact hi), List.getElem?_map, hv]
        rfl
    · rw [List.getElem?_append_right (by rw [List.length_map]; omega)] at e
      rw [List.getElem?_replicate] at e
      split at e <;> cases e
  ow := fun i d e => by
    by_cases hi : i < ds.length
    · rw [List.getElem?_append_left (by rw [List.length_map]; exact hi), List.getElem?_map] at e
      cases q : ds[i]? with
      | none => rw [q] at e; rcases e with e | e <;> cases e
      | some d' => rw [q] at e; rcases e with e | e <;> cases e
    · rw [List.getElem?_append_right (by rw [List.length_map]; omega)] at e
      rw [List.getElem?_replicate] at e
      split at e <;> rcases e with e | e <;> cases e
  len := by simp [z.length]
  ex := by rw [C.e0]; intro p hp; cases hp
  lks := by rw [C.l0]; intro p hp; cases hp
  pv := by rw [C.p0]; intro p hp; cases hp
  pvo := by rw [C.p0]; intro p hp; cases hp
  pvn := by rw [C.p0]; exact List.nodup_nil
section
variable {P : Program} {w : World} {K : Frag} {mg : Str → Option Value} {base : Heap} {B : BoxPred}
theorem mkFn {x qual : Str} {st : Stmt} {f : Addr} {fd : FuncData} {N ps : List Str} {k n : Nat} {ws : WS} (F : Fun K x qual st f fd) (S : FnScope N ps (defScope st)) (hn : ps.length = n)
    (hbody : ∀ (cdv : Value) (A : Around) (outer : List Env) (s : Shared) (H : Hp) (E : XK), Room k (A.deeper (envOfC qual (defScope st) s.heap.objs.size f cdv)) →
      PSs (cxOf CX0 P w K mg base N qual (defScope st) f cdv A outer s H E).nox (defBody st) (tS K B ws)) : FnOk P w K mg base CX0 (k + 1) f fd ps (spI K B n (callOf N.length n ws)) := by
  subst hn
  refine F.ok S (fun vs H Q E h => ?_) (fun cdv A outer s H vs Q E hr h => ⟨_, hbody cdv A outer s H E hr, ?_⟩)
  · obtain ⟨_, _, _, _, h, _⟩ := h
    exact h
  · obtain ⟨F, ds, P, C, hl, z, ⟨hd, hw⟩, k⟩ := h
    have R := C.rel (m := N.length - ps.length) z
    refine ⟨F, noOwn, _, _, C.p0, ?_, hw, fun own' ρ' σ' H' R' p => k .non (.fz .non) H' (R'.retOk C.p0 (r := .fz .non) (r' := .fz .non) .non rfl) p, fun _ _ _ _ _ p => p.elim, fun _ _ _ _ _ p => p.elim, fun v r H' T p => k v r H' T p⟩
    have : L2.start N vs = vs.map some ++ List.replicate (N.length - ps.length) none := by unfold L2.start; rw [hl]
    rw [this]
    exact R
/-- a def that may be called by its name -/
structure Cf (P : Program) (w : World) (K : Frag) (mg : Str → Option Value) (base : Heap) (B : BoxPred) (k : Nat) (x : Str) (n : Nat) (T : CallT) : Prop where
  ex : ∃ (f : Addr) (fd : FuncData) (ps : List Str), FnOk P w K mg base CX0 k f fd ps (spI K B n T) ∧ mg x = some (.ref f) ∧ PySem.W.keepIn K (.ref f) = true ∧ Binds K fd ps []
  len : ∀ ds P, T ds P → ds.length = n
theorem RsA.len {F : Fr} {own : Own} {σ : L2.St} {H : Hp} : ∀ {vs : List V} {rs : List Res}, RsA K F own σ H vs rs → vs.length = rs.length
  | [], [], _ => rfl
  | _ :: _, _ :: _, h => congrArg (· + 1) (RsA.len h.2)
  | [], _ :: _, h => h.elim
  | _ :: _, [], h => h.elim
theorem dataAll_len {ρ : Rho} : ∀ {rs : List Res} {ds : List D}, dataAll ρ rs = some ds → rs.length = ds.length
  | [], ds, e => by cases e; rfl
  | r :: rs, ds, e => by
    unfold dataAll at e
    cases q : r.data ρ with
    | none => rw [q] at e; cases e
    | some d =>
      rw [q] at e
      cases q2 : dataAll ρ rs with
      | none => rw [q2] at e; cases e
      | some ds' =>
        rw [q2] at e
        cases e
        exact congrArg (· + 1) (dataAll_len q2)
end
section
variable {X : Cx} {B : BoxPred} {e : Expr} {es : List Expr} {ws : WO} {T : CallT} {x : Str} {p pos : Pos} {k n : Nat}
theorem sCallF (c : Cf X.prog X.w X.K X.mg X.base B k x n T) (hr : Room k X.A) (hg : Gl X x) (ha : PA X (e :: es) (tO X.K B ws)) (hdb : (x == ("__debug__" : Str)) = false := by decide) (he : starEach (e :: es) X.env = (false, eval e X.env) :: starEach es X.env := by rfl) (hpl : (backTo pos (starEach es X.env)).any (·.1) = false := by rfl) :
    PE X (.Call (.Name x p) (e :: es) [] pos) (tE X.K B (wCall T ws)) := by
  obtain ⟨f, fd, ps, Fn, hm, hk, hb⟩ := c.ex
  refine peW (pe_call (E := E0) (dvs := []) Fn hr hg hm hk hb .nil pass0 ha hdb he hpl) fun σ H Q h => ?_
  obtain ⟨F, own, ρ, P, R, w, kk⟩ := h
  refine ⟨F, own, ρ, _, R, w, fun own1 ρ1 vs rs H1 R1 k1 s1 w1 => ?_⟩
  obtain ⟨ds, e1, w2⟩ := need_of w1
  rw [List.append_nil]
  refine ⟨calF F own1 rs H1, ds, _, R1.cal rs, by rw [s1.len, dataAll_len e1, c.len ds _ w2], R1.calArgs (fun _ h => h) s1 e1, w2, fun v r H' T' hP => ?_⟩
  obtain ⟨ρ2, e2, w3⟩ := need_of hP
  obtain ⟨own2, R2, k2, s2⟩ := R1.callRed s1 T' e2
  exact kk own2 ρ2 v r H' R2 (k1.trans k2) s2 w3
end
theorem op_mulA {X : Cx} : OpR X (binaryOp .Mult) (rI IntMulOk fun i j => .int (i * j)) := opI fun _ _ _ _ _ _ _ hc q => mul_int q hc
end Ip

set_option Elab.async false
set_option linter.all false
set_option maxRecDepth 100000
set_option maxHeartbeats 2000000
set_option autoImplicit false
/-! Ip13: short forms; len(set(..)) -/
namespace Ip
open PySem L2 PySem.Spec PyProof.Rows

/-! ### how many different numbers -/
def ddp (ns : List Int) : List Int := ns.foldl step_dedup []
theorem ddp_fold : ∀ (ns acc : List Int), acc.Nodup → (ns.foldl step_dedup acc).Nodup ∧ ∀ k, k ∈ ns.foldl step_dedup acc ↔ k ∈ acc ∨ k ∈ ns
  | [], acc, h => ⟨h, fun k => by simp⟩
  | n :: ns, acc, h => by
    have h2 : (step_dedup acc n).Nodup ∧ ∀ k, k ∈ step_dedup acc n ↔ k ∈ acc ∨ k = n := by
      unfold step_dedup
      by_cases q : acc.any (· == n) = true
      · rw [if_pos q]
        have hm : n ∈ acc := by
          obtain ⟨y, hy, e⟩ := List.any_eq_true.mp q
          rw [← eq_of_beq e]; exact hy
        exact ⟨h, fun k => ⟨.inl, fun z => z.elim id fun e => e ▸ hm⟩⟩
      · rw [if_neg q]
        have hm : n ∉ acc := fun z => q (List.any_eq_true.mpr ⟨n, z, by simp⟩)
        refine ⟨List.nodup_append.mpr ⟨h, by simp, fun a ha b hb => ?_⟩, fun k => by simp⟩
        rw [List.mem_singleton.mp hb]
        exact fun e => hm (e ▸ ha)
    obtain ⟨q1, q2⟩ := ddp_fold ns _ h2.1
    refine ⟨q1, fun k => ?_⟩
    rw [List.foldl_cons, q2, h2.2, List.mem_cons]
    constructor
    · rintro ((a | a) | a)
      · exact .inl a
      · exact .inr (.inl a)
      · exact .inr (.inr a)
    · rintro (a | a | a)
      · exact .inl (.inl a)
      · exact .inl (.inr a)
      · exact .inr a
theorem ddp_nodup (ns : List Int) : (ddp ns).Nodup := (ddp_fold ns [] List.nodup_nil).1
theorem ddp_mem {ns : List Int} {k : Int} : k ∈ ddp ns ↔ k ∈ ns := by
  rw [ddp, (ddp_fold ns [] List.nodup_nil).2]; simp
theorem nodup_le : ∀ {xs ys : List Int}, xs.Nodup → (∀ k ∈ xs, k ∈ ys) → xs.length ≤ ys.length
  | [], _, _, _ => Nat.zero_le _
  | x :: xs, ys, h, s => by
    have hx : x ∈ ys := s x List.mem_cons_self
    have h' := List.nodup_cons.mp h
    have := nodup_le (xs := xs) (ys := ys.erase x) h'.2 fun k hk => (List.mem_erase_of_ne (fun (e : k = x) => h'.1 (by rw [← e]; exact hk))).mpr (s k (List.mem_cons_of_mem _ hk))
    rw [List.length_erase_of_mem hx] at this
    have hp : 0 < ys.length := List.length_pos_of_mem hx
    show xs.length + 1 ≤ _
    omega
theorem ddp_len {ns ks : List Int} (h : ks.Nodup) (e : ∀ k, k ∈ ks ↔ k ∈ ns) : ks.length = (ddp ns).length :=
  Nat.le_antisymm (nodup_le h fun k hk => ddp_mem.mpr ((e k).mp hk)) (nodup_le (ddp_nodup ns) fun k hk => (e k).mpr (ddp_mem.mp hk))
theorem ddp_le (ns : List Int) : (ddp ns).length ≤ ns.length := nodup_le (ddp_nodup ns) fun k hk => ddp_mem.mp hk
theorem ddp_eq_iff {ns : List Int} : (ddp ns).length = ns.length ↔ ns.Nodup := by
  constructor
  · intro h
    induction ns with
    | nil => exact List.nodup_nil
    | cons n ns ih =>
      by_cases hm : n ∈ ns
      · have : (ddp (n :: ns)).length ≤ ns.length := nodup_le (ddp_nodup _) fun k hk => by
          rcases List.mem_cons.mp (ddp_mem.mp hk) with e | e
          · rw [e]; exact hm
          · exact e
        rw [h, List.length_cons] at this
        omega
      · have : (ddp (n :: ns)).length ≤ (n :: ddp ns).length := nodup_le (ddp_nodup _) fun k hk => by
          rcases List.mem_cons.mp (ddp_mem.mp hk) with e | e
          · rw [e]; exact List.mem_cons_self
          · exact List.mem_cons_of_mem _ (ddp_mem.mpr e)
        rw [h] at this
        have h2 := ddp_le ns
        simp at this
        exact List.nodup_cons.mpr ⟨hm, ih (by omega)⟩
  · intro h
    exact (ddp_len h fun k => Iff.rfl).symm
def setLen : D → Option Nat
  | .tup ds => (intsOf ds).bind fun ns => if ns.length ≤ 4000 then some (ddp ns).length else none
  | _ => none
theorem setLen_inv {d : D} {n : Nat} (h : setLen d = some n) : ∃ ds ns, d = .tup ds ∧ intsOf ds = some ns ∧ ns.length ≤ 4000 ∧ n = (ddp ns).length := by
  cases d with
  | tup ds =>
    have h : ((intsOf ds).bind fun ns => if ns.length ≤ 4000 then some (ddp ns).length else none) = some n := h
    cases q : intsOf ds with
    | none => rw [q] at h; cases h
    | some ns =>
      rw [q] at h
      have h : (if ns.length ≤ 4000 then some (ddp ns).length else none) = some n := h
      by_cases hl : ns.length ≤ 4000
      · rw [if_pos hl] at h
        cases h
        exact ⟨ds, ns, rfl, q, hl, rfl⟩
      · rw [if_neg hl] at h; cases h
  | _ => cases h
def wLenSet (w : WE) : WE := fun ρ P => w ρ fun r ρ1 => need (r.data ρ1) fun d => need (setLen d) fun n => P (.fz (.int n)) ρ1
def tLenSetT (K : Frag) (ta : TE) : TE := fun σ H Q => ta σ H fun x H1 => ∃ (l : Addr) (ns : List Int), x = .ref l ∧ SqT K H1 l (ns.map V.int) ∧ ns.length ≤ 4000 ∧ Q (.int ((ddp ns).length : Nat)) H1
theorem pe_lenSetT {X : Cx} {a : Expr} {ta : TE} {p p2 q pos : Pos} (hc : X.calm = true) (hg : Gl X "len") (hm : X.mg "len" = none) (hg2 : Gl X "set") (hm2 : X.mg "set" = none) (ha : PE X a ta)
    (na : starEach [a] X.env = (false, eval a X.env) :: starEach [] X.env := by rfl) : PE X (.Call (.Name "len" p) [.Call (.Name "set" p2) [a] [] q] [] pos) (tLenSetT X.K ta) := by
  refine ⟨fun pins s σ H Q I h => ?_⟩
  refine Call_ (ld_blt I hg hm boot_len ?_)
  refine PyProof.Rows.callWith_builtin1 (PyProof.Rows.args_cons ?_ rfl) rfl rfl
  refine Call_ (ld_blt I hg2 hm2 boot_set ?_)
  refine PyProof.Rows.callWith_type1 (PyProof.Rows.args_cons (thn (ha.run pins s σ H _ I h) fun v s1 ⟨x, H1, I1, r1, q1⟩ => PyProof.Rows.args_nil ?_) na) na rfl
  obtain ⟨l, ns, rfl, hq, hl, q1⟩ := q1
  cases r1
  obtain ⟨its, r, pl, hz⟩ := I1.tuple hq
  refine call_set_tupI ns (I1.ok.hd hc) pl (by simpa using RZ.intsAre_vals r) (by unfold scanBound; omega) fun h' tk c hS hc hk => ?_
  refine PyProof.Rows.args_nil ?_
  obtain ⟨o, es, ep, t, ho, hex, hd, _, hnd, hm, _, hf, hn, _⟩ := hS
  have I2 : Inv X pins σ H1 { s1 with heap := h', toks := tk } := I1.kept hk
  have e : es.size = (ddp ns).length := by
    have q := ddp_len (ns := ns) hnd fun k => by rw [← hm]; simp
    rw [List.length_map, Array.length_toList] at q
    exact q
  have hle := ddp_le ns
  exact call_len_set ho hex hd hf (by rw [e] <;> omega) ⟨.int ((ddp ns).length : Nat), H1, I2.tok _, ⟨_, by rw [e]⟩, q1⟩
section
variable {X : Cx} {B : BoxPred} {e a b : Expr} {es : List Expr} {w wa wb : WE} {ws : WO} {ta tb : WT} {pos p p2 q : Pos} {x : Str}
theorem sLenSet (hc : X.calm = true) (hm : X.mg "len" = none) (hm2 : X.mg "set" = none) (ha : PE X e (tE X.K B w)) (hg : Gl X "len" := by rfl) (hg2 : Gl X "set" := by rfl)
    (na : starEach [e] X.env = (false, eval e X.env) :: starEach [] X.env := by rfl) : PE X (.Call (.Name "len" p) [.Call (.Name "set" p2) [e] [] q] [] pos) (tE X.K B (wLenSet w)) :=
  peW (pe_lenSetT hc hg hm hg2 hm2 ha na) fun σ H Q h => by
    obtain ⟨F, own, ρ, P, R, w, k⟩ := h
    refine ⟨F, own, ρ, _, R, w, fun own1 ρ1 v r H1 R1 k1 s1 w1 => ?_⟩
    obtain ⟨d, e1, w2⟩ := need_of w1
    obtain ⟨n, e2, w3⟩ := need_of w2
    obtain ⟨ds, ns, rfl, e3, hl, rfl⟩ := setLen_inv e2
    obtain ⟨a, xs, rfl, ta, ra⟩ := vw_tup (R1.view s1.w e1)
    have := ints_rz ra e3
    subst this
    exact ⟨a, ns, rfl, ta.sq, hl, k own1 ρ1 _ (.fz (.int _)) H1 R1 k1 (.int _) w3⟩

/-! ### short forms -/
def wNever : WE := fun _ _ => False
theorem sNever : PE X e (tE X.K B wNever) := ⟨fun _ _ _ _ _ _ h => by obtain ⟨_, _, _, _, _, w, _⟩ := h; exact w.elim⟩
theorem sv (i : Nat) (hN : X.N[i]? = some x := by rfl) (hv : Vis X.env.scope x := by first | exact Or.inl rfl | exact Or.inr (Or.inl rfl) | exact Or.inr (Or.inr rfl)) (hd : (x == ("__debug__" : Str)) = false := by decide)
    (hcd : (x == ("__classdict__" : Str)) = false := by decide) : PE X (.Name x pos) (tE X.K B (wVar i)) := sVar hN hv hd hcd
theorem sInt {i : Int} {j} : PE X (.Constant (.int i) j pos) (tE X.K B (wLit (.int i))) := sLit pe_int fun _ _ _ => .int i
theorem sBl {i : Bool} {j} : PE X (.Constant (.bool i) j pos) (tE X.K B (wLit (.bl i))) := sLit pe_bl fun _ _ _ => .bl i
theorem sNon {j} : PE X (.Constant .none j pos) (tE X.K B (wLit .non)) := sLit pe_non fun _ _ _ => .non
theorem sStr {i : Str} {j} : PE X (.Constant (.str i) j pos) (tE X.K B (wLit (.str i))) := sLit pe_str fun _ _ _ => .str i
/-- a module's number -/
theorem sGlobI {i : Int} {t : Tok} (hm : X.mg x = some (.int i t)) (hg : Gl X x := by rfl) (hd : (x == ("__debug__" : Str)) = false := by decide) : PE X (.Name x pos) (tE X.K B (wLit (.int i))) := sLit (pe_glob (v := .int i) hg hm ⟨t, rfl⟩ hd) fun _ _ _ => .int i
theorem sb {op : Operator} (ha : PE X a (tE X.K B wa)) (hb : PE X b (tE X.K B wb)) : PE X (.BinOp a op b pos) (tE X.K B (w2 (binD op) wa wb)) := sBin (op_bin op) (binOk op) ha hb
theorem sNeg (ha : PE X a (tE X.K B wa)) : PE X (.UnaryOp .USub a pos) (tE X.K B (w1 negD wa)) := sUn un_neg negOk ha
theorem hu65 {A : Around} {k : Nat} (hr : Room k A) : A.units + 65 < cLine := by have := hr.un; omega
theorem sc {op : CmpOp} {k : Nat} (hr : Room k X.A) (ha : PE X a (tE X.K B wa)) (hb : PE X b (tE X.K B wb)) (hm : behindInMarks op b = false := by rfl) : PE X (.Compare a [op] [b] pos) (tE X.K B (w2 (cmpR op) wa wb)) := sCmp (op_cmp (hu65 hr) op) hm (cmpOk op) ha hb
theorem sct {op : CmpOp} {k : Nat} (hr : Room k X.A) (ha : PE X a (tE X.K B wa)) (hb : PE X b (tE X.K B wb)) (hm : behindInMarks op b = false := by rfl) : PT X (.Compare a [op] [b] pos) (tT X.K B (wCmpT op wa wb)) := sCmpT (op_cmp (hu65 hr) op) hm (cmpOk op) ha hb
theorem sch {op op' : CmpOp} {c : Expr} {wc : WE} {k : Nat} (hr : Room k X.A) (ha : PE X a (tE X.K B wa)) (hb : PE X b (tE X.K B wb)) (hc : PE X c (tE X.K B wc)) (hm : lastMarks [op, op'] [b, c] = false := by rfl) : PE X (.Compare a [op, op'] [b, c] pos) (tE X.K B (wOfT (wChain op op' wa wb wc))) :=
  sChain (op_cmp (hu65 hr) op) (op_cmp (hu65 hr) op') hm (cmpOk op) (cmpOk op') ha hb hc
theorem scht {op op' : CmpOp} {c : Expr} {wc : WE} {k : Nat} (hr : Room k X.A) (ha : PE X a (tE X.K B wa)) (hb : PE X b (tE X.K B wb)) (hc : PE X c (tE X.K B wc)) (hm : lastMarks [op, op'] [b, c] = false := by rfl) : PT X (.Compare a [op, op'] [b, c] pos) (tT X.K B (wChain op op' wa wb wc)) :=
  sChainT (op_cmp (hu65 hr) op) (op_cmp (hu65 hr) op') hm (cmpOk op) (cmpOk op') ha hb hc
theorem six (ha : PE X a (tE X.K B wa)) (hb : PE X b (tE X.K B wb)) (hs : PlainIx b := by exact fun _ _ => rfl) : PE X (.Subscript a b pos) (tE X.K B (w2 idxD wa wb)) := sIx ix_seq hs idxOk ha hb
theorem sone {op : BoolOp} (ha : PE X a (tE X.K B wa)) : PE X (.BoolOp op [a] pos) (tE X.K B wa) := pe_one ha
theorem sandt1 (ha : PT X a (tT X.K B ta)) : PW X (.BoolOp .And [a] pos) (tT X.K B ta) := pw_and1 ha
theorem sort1 (ha : PT X a (tT X.K B ta)) : PW X (.BoolOp .Or [a] pos) (tT X.K B ta) := pw_or1 ha
theorem stst (ha : PE X a (tE X.K B wa)) (he : ∀ whole, isTrue a X.env whole = (do let v ← whole; standAt a.pos; holding [v] (truthy v)) := by intro _; rfl) : PT X a (tT X.K B (wTest wa)) := sTest he ha
theorem sacons (ha : PE X e (tE X.K B w)) (hb : PA X es (tO X.K B ws)) (hs : starEach (e :: es) X.env = (false, eval e X.env) :: starEach es X.env := by rfl) : PA X (e :: es) (tO X.K B (wCons w ws)) := sCons hs ha hb
theorem sisi {t : Str} (T : Ty) (hm : X.mg "isinstance" = none) (hmt : X.mg t = none) (he : PE X e (tE X.K B w)) (hg : Gl X "isinstance" := by rfl) (hgt : Gl X t := by rfl) (hbt : bootBuiltins t = some (.type T.name) := by decide +kernel) (hn : t ≠ "__name__" := by decide) (hd : (t == ("__debug__" : Str)) = false := by decide)
    (hs : starEach [e, .Name t p2] X.env = (false, eval e X.env) :: starEach [.Name t p2] X.env := by rfl) : PE X (.Call (.Name "isinstance" p) [e, .Name t p2] [] pos) (tE X.K B (wIsi T w)) := sIsi he hg hm hgt hmt hbt hn hd hs
theorem slen (hm : X.mg "len" = none) (ha : PA X (e :: es) (tO X.K B ws)) (hg : Gl X "len" := by rfl) (he : starEach (e :: es) X.env = (false, eval e X.env) :: starEach es X.env := by rfl) (hpl : (backTo pos (starEach es X.env)).any (·.1) = false := by rfl) :
    PE X (.Call (.Name "len" p) (e :: es) [] pos) (tE X.K B (wBlt (arg1 lenD) ws)) := sBltB call_len lenOk hg hm boot_len ha (by decide) (by decide) he hpl
theorem stuple (hm : X.mg "tuple" = none) (ha : PA X (e :: es) (tO X.K B ws)) (hg : Gl X "tuple" := by rfl) (he : starEach (e :: es) X.env = (false, eval e X.env) :: starEach es X.env := by rfl) (hpl : (backTo pos (starEach es X.env)).any (·.1) = false := by rfl) :
    PE X (.Call (.Name "tuple" p) (e :: es) [] pos) (tE X.K B (wBlt (arg1 tupleD) ws)) := sBltT call_tuple_of tupleOk hg hm boot_tuple ha (by decide) (by decide) he hpl
theorem slist (hm : X.mg "list" = none) (ha : PA X (e :: es) (tO X.K B ws)) (hg : Gl X "list" := by rfl) (he : starEach (e :: es) X.env = (false, eval e X.env) :: starEach es X.env := by rfl) (hpl : (backTo pos (starEach es X.env)).any (·.1) = false := by rfl) :
    PE X (.Call (.Name "list" p) (e :: es) [] pos) (tE X.K B (wBlt (arg1 listD) ws)) := sBltT call_list_of listOk hg hm (by decide +kernel) ha (by decide) (by decide) he hpl
theorem sall (hm : X.mg "all" = none) (ha : PA X (e :: es) (tO X.K B ws)) (hc : X.calm = true := by rfl) (hg : Gl X "all" := by rfl) (he : starEach (e :: es) X.env = (false, eval e X.env) :: starEach es X.env := by rfl) (hpl : (backTo pos (starEach es X.env)).any (·.1) = false := by rfl) :
    PE X (.Call (.Name "all" p) (e :: es) [] pos) (tE X.K B (wBlt (arg1 allD) ws)) := sBltB (cr_all hc) allOk hg hm (by decide +kernel) ha (by decide) (by decide) he hpl
theorem sany (hm : X.mg "any" = none) (ha : PA X (e :: es) (tO X.K B ws)) (hc : X.calm = true := by rfl) (hg : Gl X "any" := by rfl) (he : starEach (e :: es) X.env = (false, eval e X.env) :: starEach es X.env := by rfl) (hpl : (backTo pos (starEach es X.env)).any (·.1) = false := by rfl) :
    PE X (.Call (.Name "any" p) (e :: es) [] pos) (tE X.K B (wBlt (arg1 anyD) ws)) := sBltB (cr_any hc) anyOk hg hm (by decide +kernel) ha (by decide) (by decide) he hpl
theorem ssum (hm : X.mg "sum" = none) (ha : PA X (e :: es) (tO X.K B ws)) (hc : X.calm = true := by rfl) (hg : Gl X "sum" := by rfl) (he : starEach (e :: es) X.env = (false, eval e X.env) :: starEach es X.env := by rfl) (hpl : (backTo pos (starEach es X.env)).any (·.1) = false := by rfl) :
    PE X (.Call (.Name "sum" p) (e :: es) [] pos) (tE X.K B (wBlt (arg1 sumD) ws)) := sBltB (cr_sum hc) sumOk hg hm (by decide +kernel) ha (by decide) (by decide) he hpl
theorem smax (hm : X.mg "max" = none) (ha : PA X (e :: es) (tO X.K B ws)) (hc : X.calm = true := by rfl) (hg : Gl X "max" := by rfl) (he : starEach (e :: es) X.env = (false, eval e X.env) :: starEach es X.env := by rfl) (hpl : (backTo pos (starEach es X.env)).any (·.1) = false := by rfl) :
    PE X (.Call (.Name "max" p) (e :: es) [] pos) (tE X.K B (wBlt maxD ws)) := sBltB ((cr_max hc).or (call_max2 hc)) maxOk hg hm (by decide +kernel) ha (by decide) (by decide) he hpl
theorem smin (hm : X.mg "min" = none) (ha : PA X (e :: es) (tO X.K B ws)) (hc : X.calm = true := by rfl) (hg : Gl X "min" := by rfl) (he : starEach (e :: es) X.env = (false, eval e X.env) :: starEach es X.env := by rfl) (hpl : (backTo pos (starEach es X.env)).any (·.1) = false := by rfl) :
    PE X (.Call (.Name "min" p) (e :: es) [] pos) (tE X.K B (wBlt minD ws)) := sBltB ((cr_min hc).or (call_min2 hc)) minOk hg hm (by decide +kernel) ha (by decide) (by decide) he hpl
theorem sint (hm : X.mg "int" = none) (ha : PA X (e :: es) (tO X.K B ws)) (hg : Gl X "int" := by rfl) (he : starEach (e :: es) X.env = (false, eval e X.env) :: starEach es X.env := by rfl) (hpl : (backTo pos (starEach es X.env)).any (·.1) = false := by rfl) :
    PE X (.Call (.Name "int" p) (e :: es) [] pos) (tE X.K B (wBlt (arg1 intD) ws)) := sBltT call_int1 intOk hg hm PyProof.Rows.boot_int ha (by decide) (by decide) he hpl
theorem sstr (hm : X.mg "str" = none) (ha : PA X (e :: es) (tO X.K B ws)) (hg : Gl X "str" := by rfl) (he : starEach (e :: es) X.env = (false, eval e X.env) :: starEach es X.env := by rfl) (hpl : (backTo pos (starEach es X.env)).any (·.1) = false := by rfl) :
    PE X (.Call (.Name "str" p) (e :: es) [] pos) (tE X.K B (wBlt (arg1 strD) ws)) := sBltT call_str_int strOkC hg hm (by decide +kernel) ha (by decide) (by decide) he hpl
end
end Ip

set_option Elab.async false
set_option linter.all false
set_option maxRecDepth 100000
set_option maxHeartbeats 2000000
set_option autoImplicit false
/-! Ip14: more short forms; the box of drawn numbers -/
namespace Ip
open PySem L2 PySem.Spec PyProof.Rows

def GE (g : WG) : Prop := ∀ d ρ P, g d ρ P → ∃ ρ', P ρ'
def GLn (gs : WGs) (n : Nat) : Prop := ∀ ds ρ P, gs ds ρ P → ds.length = n ∧ ∃ ρ', P ρ'
theorem ge_set (i : Nat) : GE (gSet i) := fun d ρ P h => ⟨_, h.2⟩
theorem gl_nil : GLn gNilW 0 := fun ds ρ P h => by
  cases ds with
  | nil => exact ⟨rfl, _, h⟩
  | cons _ _ => exact h.elim
theorem gl_cons {g : WG} {gs : WGs} {n : Nat} (a : GE g) (b : GLn gs n) : GLn (gConsW g gs) (n + 1) := fun ds ρ P h => by
  cases ds with
  | nil => exact h.elim
  | cons d ds =>
    obtain ⟨ρ1, h1⟩ := a d ρ _ h
    obtain ⟨e, h2⟩ := b ds ρ1 P h1
    exact ⟨congrArg (· + 1) e, h2⟩
theorem ge_tup {gs : WGs} {n : Nat} (b : GLn gs n) : GE (gTupW gs) := fun d ρ P h => by
  cases d with
  | tup ds => exact (b ds ρ P h).2
  | _ => exact h.elim
section
variable {X : Cx} {B : BoxPred} {e a b k tg : Expr} {es : List Expr} {w wa wb wk : WE} {ws : WO} {wr : WR} {g : WG} {gs : WGs} {vs us : List Nat} {pos p p2 q apos cpos : Pos} {x : Str}
theorem srg1 (hm : X.mg "range" = none) (ha : PE X e (tE X.K B w)) (hg : Gl X "range" := by rfl) (hs : starEach [e] X.env = (false, eval e X.env) :: starEach [] X.env := by rfl) : PRg X (.Call (.Name "range" p) [e] [] pos) (tR X.K B (wRg1 w)) := sRg1 hg hm ha hs
theorem srg2 (hm : X.mg "range" = none) (ha : PE X a (tE X.K B wa)) (hb : PE X b (tE X.K B wb)) (hg : Gl X "range" := by rfl) (hs : starEach [a, b] X.env = (false, eval a X.env) :: starEach [b] X.env := by rfl) (hs2 : starEach [b] X.env = (false, eval b X.env) :: starEach [] X.env := by rfl) :
    PRg X (.Call (.Name "range" p) [a, b] [] pos) (tR X.K B (wRg2 wa wb)) := sRg2 hg hm ha hb hs hs2
theorem srgl (hm : X.mg "list" = none) (he : PRg X e (tR X.K B wr)) (hc : X.calm = true := by rfl) (hg : Gl X "list" := by rfl) (hs : starEach [e] X.env = (false, eval e X.env) :: starEach [] X.env := by rfl) : PE X (.Call (.Name "list" p) [e] [] pos) (tE X.K B (wRgL wr)) := sRgL hc hg hm he hs
theorem srgt (hm : X.mg "tuple" = none) (he : PRg X e (tR X.K B wr)) (hc : X.calm = true := by rfl) (hg : Gl X "tuple" := by rfl) (hs : starEach [e] X.env = (false, eval e X.env) :: starEach [] X.env := by rfl) : PE X (.Call (.Name "tuple" p) [e] [] pos) (tE X.K B (wRgT wr)) := sRgT hc hg hm he hs
theorem srgi1 (hm : X.mg "range" = none) (ha : PE X a (tE X.K B wa)) (hg : Gl X "range" := by rfl) (hs : starEach [a] X.env = (false, eval a X.env) :: starEach [] X.env := by rfl) : PI X tg (.Call (.Name "range" p) [a] [] pos) (tIt X.K B (wRgI (wRg1 wa))) := sRgI1 hg hm ha hs
theorem srgi2 (hm : X.mg "range" = none) (ha : PE X a (tE X.K B wa)) (hb : PE X b (tE X.K B wb)) (hg : Gl X "range" := by rfl) (hs : starEach [a, b] X.env = (false, eval a X.env) :: starEach [b] X.env := by rfl) (hs2 : starEach [b] X.env = (false, eval b X.env) :: starEach [] X.env := by rfl) :
    PI X tg (.Call (.Name "range" p) [a, b] [] pos) (tIt X.K B (wRgI (wRg2 wa wb))) := sRgI2 hg hm ha hb hs hs2
theorem sgn (i : Nat) (hN : X.N.Nodup) (hi : X.N[i]? = some x := by rfl) (hx : Loc X.env.scope x := by first | exact Or.inl rfl | exact Or.inr rfl) (hf : X.fn x = true ∨ X.env.scope.names.lookup x = some .local := by first | exact Or.inl rfl | exact Or.inr rfl) :
    PG X (.Name x pos) (tG X.K B [i] (gSet i)) := sgName hN hi hx hf
theorem sgcons (h1 : PG X e (tG X.K B vs g)) (h2 : PGs X es (tGs X.K B us gs)) (hs : (assignEach (e :: es) X.env).map (·.2) = assign e X.env :: (assignEach es X.env).map (·.2) := by rfl) : PGs X (e :: es) (tGs X.K B (vs ++ us) (gConsW g gs)) := sgsCons h1 h2 hs
theorem sgtup {kk : Nat} (h : PGs X es (tGs X.K B vs gs)) (hl : GLn gs es.length := by repeat' (first | exact gl_nil | exact ge_set _ | refine gl_cons ?_ ?_ | refine ge_tup ?_)) (hc : X.calm = true := by rfl) (hp : es.all tgPlain = true := by rfl) :
    PG X (.Tuple es kk pos) (tG X.K B vs (gTupW gs)) := sgTup hc hp h fun ds ρ P z => (hl ds ρ P z).1
theorem ssset (i : Nat) {pos' : Pos} (hN : X.N.Nodup) (he : PE X e (tE X.K B w)) (hi : X.N[i]? = some x := by rfl) (hx : Loc X.env.scope x := by first | exact Or.inl rfl | exact Or.inr rfl) (hf : X.fn x = true ∨ X.env.scope.names.lookup x = some .local := by first | exact Or.inl rfl | exact Or.inr rfl)
    (hs : swapsWith e (some (.Name x pos')) pos.line X.env = pure false := by rfl) : PS X (.Assign [.Name x pos'] e pos) (tS X.K B (wSet i w)) := ssSet hN hi hx he hf hs
theorem ssaug (i : Nat) {pos' : Pos} {op : Operator} {f : Int → Int → Int} (hN : X.N.Nodup) (ho : PIp X op (ipI f)) (he : PE X e (tE X.K B w)) (hi : X.N[i]? = some x := by rfl) (hx : Loc X.env.scope x := by first | exact Or.inl rfl | exact Or.inr rfl)
    (hf : X.fn x = true ∨ X.env.scope.names.lookup x = some .local := by first | exact Or.inl rfl | exact Or.inr rfl) : PS X (.AugAssign (.Name x pos') op e pos) (tS X.K B (wAugI i f w)) := ssAugI hN hi hx ho he hf
theorem spop (i : Nat) (hN : X.N[i]? = some x := by rfl) (hv : Vis X.env.scope x := by first | exact Or.inl rfl | exact Or.inr (Or.inl rfl) | exact Or.inr (Or.inr rfl)) (hd : (x == ("__debug__" : Str)) = false := by decide) (hcd : (x == ("__classdict__" : Str)) = false := by decide)
    (hbase : attributeBase (.Name x p) "pop" X.env (eval (.Name x p) X.env) = eval (.Name x p) X.env := by rfl) (hline : (apos.endLine == cpos.line) = true := by rfl) : PE X (.Call (.Attribute (.Name x p) "pop" apos) [] [] cpos) (tE X.K B (wPop i)) := sPop hN hv hd hcd hbase hline
theorem spopat (i : Nat) (he : PE X e (tE X.K B w)) (hN : X.N[i]? = some x := by rfl) (hv : Vis X.env.scope x := by first | exact Or.inl rfl | exact Or.inr (Or.inl rfl) | exact Or.inr (Or.inr rfl)) (hd : (x == ("__debug__" : Str)) = false := by decide) (hcd : (x == ("__classdict__" : Str)) = false := by decide)
    (hbase : attributeBase (.Name x p) "pop" X.env (eval (.Name x p) X.env) = eval (.Name x p) X.env := by rfl)
    (hfew : ((backTo cpos (starEach (e :: []) X.env)).all (fun x => !x.1) && (backToKw cpos (keywordEach [] X.env)).all (fun x => x.1.isSome)
      && decide ((e :: []).length + ([] : List Keyword).length + (if ([] : List Keyword).isEmpty then 0 else 1) < 30)) = true := by rfl)
    (hline : (apos.endLine == cpos.line) = true := by rfl) (hs : starEach (e :: []) X.env = (false, eval e X.env) :: starEach [] X.env := by rfl) (hplain : (backTo cpos (starEach [] X.env)).any (·.1) = false := by rfl) :
    PE X (.Call (.Attribute (.Name x p) "pop" apos) [e] [] cpos) (tE X.K B (wPopAt i w)) := sPopAt hN hv hd hcd he hbase hfew hline hs hplain
theorem sappend (i : Nat) (he : PE X e (tE X.K B w)) (hN : X.N[i]? = some x := by rfl) (hv : Vis X.env.scope x := by first | exact Or.inl rfl | exact Or.inr (Or.inl rfl) | exact Or.inr (Or.inr rfl)) (hd : (x == ("__debug__" : Str)) = false := by decide) (hcd : (x == ("__classdict__" : Str)) = false := by decide)
    (hbase : attributeBase (.Name x p) "append" X.env (eval (.Name x p) X.env) = eval (.Name x p) X.env := by rfl)
    (hfew : ((backTo cpos (starEach (e :: []) X.env)).all (fun x => !x.1) && (backToKw cpos (keywordEach [] X.env)).all (fun x => x.1.isSome)
      && decide ((e :: []).length + ([] : List Keyword).length + (if ([] : List Keyword).isEmpty then 0 else 1) < 30)) = true := by rfl)
    (hline : (apos.endLine == cpos.line) = true := by rfl) (hs : starEach (e :: []) X.env = (false, eval e X.env) :: starEach [] X.env := by rfl) (hplain : (backTo cpos (starEach [] X.env)).any (·.1) = false := by rfl) :
    PE X (.Call (.Attribute (.Name x p) "append" apos) [e] [] cpos) (tE X.K B (wAppend i w)) := sAppend hN hv hd hcd he hbase hfew hline hs hplain
theorem sextend (i : Nat) (he : PE X e (tE X.K B w)) (hN : X.N[i]? = some x := by rfl) (hv : Vis X.env.scope x := by first | exact Or.inl rfl | exact Or.inr (Or.inl rfl) | exact Or.inr (Or.inr rfl)) (hd : (x == ("__debug__" : Str)) = false := by decide) (hcd : (x == ("__classdict__" : Str)) = false := by decide)
    (hbase : attributeBase (.Name x p) "extend" X.env (eval (.Name x p) X.env) = eval (.Name x p) X.env := by rfl)
    (hfew : ((backTo cpos (starEach (e :: []) X.env)).all (fun x => !x.1) && (backToKw cpos (keywordEach [] X.env)).all (fun x => x.1.isSome)
      && decide ((e :: []).length + ([] : List Keyword).length + (if ([] : List Keyword).isEmpty then 0 else 1) < 30)) = true := by rfl)
    (hline : (apos.endLine == cpos.line) = true := by rfl) (hs : starEach (e :: []) X.env = (false, eval e X.env) :: starEach [] X.env := by rfl) (hplain : (backTo cpos (starEach [] X.env)).any (·.1) = false := by rfl) :
    PE X (.Call (.Attribute (.Name x p) "extend" apos) [e] [] cpos) (tE X.K B (wExtend i w)) := sExtend hN hv hd hcd he hbase hfew hline hs hplain
theorem sssetix (i : Nat) (hk : PE X k (tE X.K B wk)) (he : PE X e (tE X.K B w)) (hN : X.N[i]? = some x := by rfl) (hv : Vis X.env.scope x := by first | exact Or.inl rfl | exact Or.inr (Or.inl rfl) | exact Or.inr (Or.inr rfl)) (hd : (x == ("__debug__" : Str)) = false := by decide) (hcd : (x == ("__classdict__" : Str)) = false := by decide)
    (ha : ∀ v, assign (.Subscript (.Name x p) k p2) X.env v = (do
      let ov ← holding [v] (eval (.Name x p) X.env)
      let iv ← holding [v, ov] (eval k X.env)
      standAt p2
      holding [v, ov, iv] (setItem ov iv v)
      release [v, ov, iv] []) := by intro _; rfl)
    (hs : swapsWithSole [.Subscript (.Name x p) k p2] e pos.line X.env = pure false := by rfl) (hw : swappedStores [.Subscript (.Name x p) k p2] e X.env = pure none := by rfl)
    (h1 : (assignEach [.Subscript (.Name x p) k p2] X.env).map (·.2) = [assign (.Subscript (.Name x p) k p2) X.env] := by rfl) :
    PS X (.Assign [.Subscript (.Name x p) k p2] e pos) (tS X.K B (wSetIx i wk w)) := ssSetIx hN hv hd hcd hk he ha hs hw h1
end

/-! ### the box of drawn numbers: what is left of the script, the number that is being used up, the last one made -/
def BoxAt (b c : Addr) (H : Hp) (dg : Int) : Prop := ∃ (ns : List Int) (z : Int), H b = some (.lst [.ref c, .int dg, .int z]) ∧ H c = some (.lst (ns.map V.int)) ∧ 0 ≤ z
def BoxK : BoxPred := fun b c H => ∃ dg, 0 ≤ dg ∧ BoxAt b c H dg
theorem boxGood : BoxGood BoxK where
  st := fun ⟨dg, h0, ns, z, h1, h2, h3⟩ e1 e2 => ⟨dg, h0, ns, z, by rw [e1]; exact h1, by rw [e2]; exact h2, h3⟩
  lb := fun ⟨dg, h0, ns, z, h1, h2, h3⟩ => ⟨_, h1⟩
  lc := fun ⟨dg, h0, ns, z, h1, h2, h3⟩ => ⟨_, h2⟩
/-- what a draw promises: any number below the bound -/
def drawT : CallT := fun ds P => ∃ many : Int, ds = [.box, .int many] ∧ 0 < many ∧ many ≤ 1000000000 ∧ ∀ d : Int, 0 ≤ d → d < many → P (.fz (.int d))
theorem drawT_len {ds : List D} {P : Res → Prop} (h : drawT ds P) : ds.length = 2 := by
  obtain ⟨many, rfl, _⟩ := h
  rfl
/-- what a new number costs -/
def spLoad : Sp := fun vs H Q _ => ∃ (b c : Addr) (dg : Int), vs = [.ref b] ∧ BoxAt b c H dg ∧ ∀ (H' : Hp) (r : Int), BoxAt b c H' dg → 0 ≤ r → (∀ a, a ≠ b → a ≠ c → H' a = H a) → Q (.int r) H'
end Ip

set_option Elab.async false
set_option linter.all false
set_option maxRecDepth 100000
set_option maxHeartbeats 2000000
set_option autoImplicit false
/-! Ip15: the law's own def -/
namespace Ip
open PySem L2 PySem.Spec PyProof.Rows
section
variable {P : Program} {w : World} {K : Frag} {mg : Str → Option Value} {base : Heap} {B : BoxPred}
/-- a def of the text under its name -/
structure Fx (K : Frag) (mg : Str → Option Value) (x : Str) (st : Stmt) (ps : List Str) : Prop where
  ex : ∃ (f : Addr) (fd : FuncData), Fun K x x st f fd ∧ mg x = some (.ref f) ∧ Binds K fd ps []
theorem Fx.cf {x : Str} {st : Stmt} {ps : List Str} {k n : Nat} {T : CallT} (F : Fx K mg x st ps) (h : ∀ f fd, Fun K x x st f fd → FnOk P w K mg base CX0 k f fd ps (spI K B n T)) (hl : ∀ ds Q, T ds Q → ds.length = n) : Cf P w K mg base B k x n T := by
  obtain ⟨f, fd, F, m, b⟩ := F.ex
  exact ⟨⟨f, fd, ps, h f fd F, m, F.kp, b⟩, hl⟩
theorem Fx.no {x : Str} {st : Stmt} {ps : List Str} {k n : Nat} (F : Fx K mg x st ps) : Cf P w K mg base B k x n (fun _ _ => False) :=
  F.cf (fun f fd _ => ⟨fun vs H Q E h => by
    obtain ⟨_, _, _, _, _, _, h, _⟩ := h
    exact h.elim, fun A outer s H args us vs Q E _ _ _ _ h => by
    obtain ⟨_, _, _, _, _, _, h, _⟩ := h
    exact h.elim⟩) fun _ _ h => h.elim
end
/-- the law: a list of at most 63 numbers in, True out -/
def spLaw (K : Frag) : Sp := fun vs H Q _ => ∃ (a : Addr) (ns : List Int), vs = [.ref a] ∧ SqL K H a (ns.map V.int) ∧ ns.length ≤ 63 ∧ ∀ H', Q (.bl true) H'
theorem boxRel {K : Frag} {B : BoxPred} {b c : Addr} {H : Hp} {m : Nat} {x : Option V} (good : BoxGood B) (hb : B b c H) :
    Rel K B ⟨fun y => y = b ∨ y = c, b, c, H, [], [], []⟩ noOwn (.non :: .fz .box :: List.replicate m .non) (x :: some (.ref b) :: List.replicate m none) H where
  hb := .inl rfl
  hc := .inr rfl
  good := good
  box := hb
  there := fun a h => by
    rcases h with rfl | rfl
    · obtain ⟨xs, e⟩ := good.lb hb
      exact ⟨_, e, fun _ z => by cases z⟩
    · obtain ⟨xs, e⟩ := good.lc hb
      exact ⟨_, e, fun _ z => by cases z⟩
  base := fun a o _ _ e => e
  fresh := fun i a e => by cases e
  inj := fun i j a e => by cases e
  dom := fun i a e => by cases e
  fz := fun i d e => by
    match i, e with
    | 0, e => cases e
    | 1, e =>
      cases e
      exact ⟨_, rfl, .box⟩
    | i + 2, e =>
      have e : (List.replicate m Slot.non)[i]? = some (.fz d) := e
      rw [List.getElem?_replicate] at e
      split at e <;> cases e
  ow := fun i d e => by
    match i, e with
    | 0, e => rcases e with e | e <;> cases e
    | 1, e => rcases e with e | e <;> cases e
    | i + 2, e =>
      have e : (List.replicate m Slot.non)[i]? = some (.ow d) ∨ (List.replicate m Slot.non)[i]? = some (.lk d) := e
      rw [List.getElem?_replicate] at e
      split at e <;> rcases e with e | e <;> cases e
  len := by simp
  ex := fun p hp => by cases hp
  lks := fun p hp => by cases hp
  pv := fun p hp => by cases hp
  pvo := fun p hp => by cases hp
  pvn := List.nodup_nil
theorem law_end {K : Frag} {b c : Addr} {H' : Hp} {m : Nat} {x : Option V} {ws : WS} {Q : VK} {nx : L2.St → Hp → Prop} (hB : BoxAt b c H' 0)
    (hl : ws ⟨fun _ => False, fun r => r = .fz (.bl true), fun _ => False, fun _ => False⟩ (.non :: .fz .box :: List.replicate m .non)) (k : ∀ H', Q (.bl true) H') :
    tS K BoxK ws { nx := nx, rt := Q } (x :: some (.ref b) :: List.replicate m none) H' := by
  refine ⟨_, _, _, _, rfl, boxRel boxGood ⟨0, Int.le_refl _, hB⟩, hl, fun _ _ _ _ _ p => p.elim, fun _ _ _ _ _ p => p.elim, fun _ _ _ _ _ p => p.elim, fun v r H'' T p => ?_⟩
  subst p
  have z := T.rs
  cases z
  exact k H''
end Ip

set_option Elab.async false
set_option linter.all false
set_option maxRecDepth 100000
set_option maxHeartbeats 2000000
set_option autoImplicit false
/-! Ip16: rules for the plain part -/
namespace Ip
open PySem L2 PySem.Spec PyProof.Rows

theorem forGo_rule {g : WG} {body : WS} {nx : Rho → Prop} {rt : Res → Prop} (Inv : Nat → Rho → Prop) : ∀ (ds : List D) (i : Nat) (ρ : Rho), Inv i ρ →
    (∀ j d ρ, ds[j]? = some d → Inv (i + j) ρ → ∀ C : Rho → Prop, (∀ ρ', Inv (i + j + 1) ρ' → C ρ') → g d ρ fun ρ2 => body ⟨C, rt, nx, C⟩ ρ2) →
    (∀ ρ, Inv (i + ds.length) ρ → nx ρ) → forGo g body nx rt ds ρ
  | [], i, ρ, h0, _, he => he ρ h0
  | d :: ds, i, ρ, h0, hs, he => hs 0 d ρ rfl h0 _ fun ρ' h' => forGo_rule Inv ds (i + 1) ρ' h' (fun j d' ρ2 e h2 => by
      have := hs (j + 1) d' ρ2 (by simpa using e)
      rw [show i + (j + 1) = i + 1 + j by omega] at this
      exact this h2) fun ρ2 h2 => he ρ2 (by rw [List.length_cons, show i + (ds.length + 1) = i + 1 + ds.length by omega]; exact h2)
theorem for_rule {g : WG} {body : WS} {nx : Rho → Prop} {rt : Res → Prop} {ds : List D} {ρ : Rho} (Inv : Nat → Rho → Prop) (h0 : Inv 0 ρ)
    (hs : ∀ j d ρ, ds[j]? = some d → Inv j ρ → ∀ C : Rho → Prop, (∀ ρ', Inv (j + 1) ρ' → C ρ') → g d ρ fun ρ2 => body ⟨C, rt, nx, C⟩ ρ2)
    (he : ∀ ρ, Inv ds.length ρ → nx ρ) : forGo g body nx rt ds ρ :=
  forGo_rule Inv ds 0 ρ h0 (fun j d ρ e h C k => hs j d ρ e (by rw [Nat.zero_add] at h; exact h) C fun ρ' h' => k ρ' (by rw [Nat.zero_add]; exact h')) fun ρ h => he ρ (by rw [Nat.zero_add] at h; exact h)
theorem lcGo_rule {g : WG} {ct : WT} {we : WE} {vs : List Nat} {K : List D → Rho → Prop} (Inv : Nat → List D → Rho → Prop) : ∀ (ds : List D) (i : Nat) (acc : List D) (ρ : Rho), Inv i acc ρ →
    (∀ j d acc ρ, ds[j]? = some d → Inv (i + j) acc ρ → ∀ C : List D → Rho → Prop, (∀ acc' ρ', Inv (i + j + 1) acc' ρ' → C acc' ρ') → g d ρ fun ρ2 => ct ρ2 fun b ρ3 =>
      if b = true then we ρ3 fun r ρ4 => need (frz1 ρ4 r) fun q => loose q.2 vs = true ∧ C (acc ++ [q.1]) (wipeR q.2 vs) else loose ρ3 vs = true ∧ C acc (wipeR ρ3 vs)) →
    (∀ acc ρ, Inv (i + ds.length) acc ρ → K acc ρ) → lcGo g ct we vs K ds acc ρ
  | [], i, acc, ρ, h0, _, he => he acc ρ h0
  | d :: ds, i, acc, ρ, h0, hs, he => hs 0 d acc ρ rfl h0 (fun acc' ρ' => lcGo g ct we vs K ds acc' ρ') fun acc' ρ' h' => lcGo_rule Inv ds (i + 1) acc' ρ' h' (fun j d' acc2 ρ2 e h2 => by
      have := hs (j + 1) d' acc2 ρ2 (by simpa using e)
      rw [show i + (j + 1) = i + 1 + j by omega] at this
      exact this h2) fun acc2 ρ2 h2 => he acc2 ρ2 (by rw [List.length_cons, show i + (ds.length + 1) = i + 1 + ds.length by omega]; exact h2)
/-- every turn gives one item, no name but the turn's own changes -/
theorem lc_map {g : WG} {we : WE} {vs : List Nat} {K : List D → Rho → Prop} {ds : List D} {ρ : Rho} (f : Nat → D → D) (hs : ∀ j d, ds[j]? = some d → ∀ C : D → Rho → Prop, C (f j d) ρ → g d ρ fun ρ2 => we ρ2 fun r ρ4 => need (frz1 ρ4 r) fun q => loose q.2 vs = true ∧ C q.1 (wipeR q.2 vs))
    (he : K (ds.mapIdx f) ρ) : lcGo g wYes we vs K ds [] ρ := by
  refine lcGo_rule (fun i acc ρ' => ρ' = ρ ∧ acc = (ds.take i).mapIdx f) ds 0 [] ρ ⟨rfl, by simp⟩ ?_ ?_
  · rintro j d acc ρ2 e ⟨rfl, rfl⟩ C k
    rw [Nat.zero_add] at *
    refine hs j d e (fun x ρ3 => C ((ds.take j).mapIdx f ++ [x]) ρ3) (k _ _ ⟨rfl, ?_⟩)
    have hj : j < ds.length := (List.getElem?_eq_some_iff.mp e).1
    have e2 : ds.take (j + 1) = ds.take j ++ [d] := by
      rw [List.take_succ, e]; rfl
    rw [e2, List.mapIdx_append]
    simp
    congr 1
    omega
  · rintro acc ρ2 ⟨rfl, rfl⟩
    rw [Nat.zero_add, List.take_length]
    exact he
/-- .. the item's place does not matter -/
theorem lc_map1 {g : WG} {we : WE} {vs : List Nat} {K : List D → Rho → Prop} {ds : List D} {ρ : Rho} (f : D → D) (hs : ∀ d ∈ ds, ∀ C : D → Rho → Prop, C (f d) ρ → g d ρ fun ρ2 => we ρ2 fun r ρ4 => need (frz1 ρ4 r) fun q => loose q.2 vs = true ∧ C q.1 (wipeR q.2 vs))
    (he : K (ds.map f) ρ) : lcGo g wYes we vs K ds [] ρ :=
  lc_map (fun _ => f) (fun j d e => hs d (List.mem_iff_getElem?.mpr ⟨j, e⟩)) (by
    have : ds.mapIdx (fun _ => f) = ds.map f := by
      apply List.ext_getElem?
      intro i
      simp
    rw [this]; exact he)
/-- .. items of some kind -/
theorem lc_any {g : WG} {we : WE} {vs : List Nat} {K : List D → Rho → Prop} {ds : List D} {ρ : Rho} (Ok : D → Prop) (hs : ∀ d ∈ ds, ∀ C : D → Rho → Prop, (∀ x, Ok x → C x ρ) → g d ρ fun ρ2 => we ρ2 fun r ρ4 => need (frz1 ρ4 r) fun q => loose q.2 vs = true ∧ C q.1 (wipeR q.2 vs))
    (he : ∀ xs, xs.length = ds.length → (∀ x ∈ xs, Ok x) → K xs ρ) : lcGo g wYes we vs K ds [] ρ := by
  refine lcGo_rule (fun i acc ρ' => ρ' = ρ ∧ acc.length = i ∧ ∀ x ∈ acc, Ok x) ds 0 [] ρ ⟨rfl, rfl, fun x h => by cases h⟩ ?_ ?_
  · rintro j d acc ρ2 e ⟨rfl, hl, ho⟩ C k
    refine hs d (List.mem_iff_getElem?.mpr ⟨j, e⟩) (fun x ρ3 => C (acc ++ [x]) ρ3) fun x hx => k _ _ ⟨rfl, by simp [hl], fun y hy => ?_⟩
    rcases List.mem_append.mp hy with hy | hy
    · exact ho y hy
    · rw [List.mem_singleton.mp hy]; exact hx
  · rintro acc ρ2 ⟨rfl, hl, ho⟩
    exact he acc (by omega) ho
/-- items that the turn's test lets pass -/
theorem lc_filter {g : WG} {ct : WT} {we : WE} {vs : List Nat} {K : List D → Rho → Prop} {ds : List D} {ρ : Rho} (p : D → Bool) (f : D → D)
    (hs : ∀ d ∈ ds, ∀ C : D → Rho → Prop, ∀ C2 : Rho → Prop, (p d = true → C (f d) ρ) → (p d = false → C2 ρ) → g d ρ fun ρ2 => ct ρ2 fun b ρ3 => if b = true then we ρ3 fun r ρ4 => need (frz1 ρ4 r) fun q => loose q.2 vs = true ∧ C q.1 (wipeR q.2 vs) else loose ρ3 vs = true ∧ C2 (wipeR ρ3 vs))
    (he : K ((ds.filter p).map f) ρ) : lcGo g ct we vs K ds [] ρ := by
  refine lcGo_rule (fun i acc ρ' => ρ' = ρ ∧ acc = ((ds.take i).filter p).map f) ds 0 [] ρ ⟨rfl, by simp⟩ ?_ ?_
  · rintro j d acc ρ2 e ⟨rfl, rfl⟩ C k
    rw [Nat.zero_add] at *
    have e2 : ds.take (j + 1) = ds.take j ++ [d] := by
      rw [List.take_succ, e]; rfl
    refine hs d (List.mem_iff_getElem?.mpr ⟨j, e⟩) (fun x ρ3 => C (((ds.take j).filter p).map f ++ [x]) ρ3) (fun ρ3 => C (((ds.take j).filter p).map f) ρ3) (fun hp => k _ _ ⟨rfl, ?_⟩) fun hp => k _ _ ⟨rfl, ?_⟩
    · rw [e2, List.filter_append, List.map_append]
      simp [hp]
    · rw [e2, List.filter_append, List.map_append]
      simp [hp]
  · rintro acc ρ2 ⟨rfl, rfl⟩
    rw [Nat.zero_add, List.take_length]
    exact he
theorem backRho_pure {ρ : Rho} {rs : List Res} {r : Res} (h : resPure r = true) : backRho ρ rs r = some ρ := by
  unfold backRho
  rw [if_pos h]
theorem need_intro {α : Type} {o : Option α} {a : α} {k : α → Prop} (h : o = some a) (w : k a) : need o k := by
  rw [h]; exact w
/-- an operation's three steps: both operands, then what it makes of them -/
theorem n3 {α β γ : Type} {o1 : Option α} {o2 : α → Option β} {o3 : α → β → Option γ} {a : α} {b : β} {c : γ} {k : α → β → γ → Prop} (h1 : o1 = some a) (h2 : o2 a = some b) (h3 : o3 a b = some c) (w : k a b c) :
    need o1 fun x => need (o2 x) fun y => need (o3 x y) fun z => k x y z := by
  rw [h1]
  show need (o2 a) _
  rw [h2]
  show need (o3 a b) _
  rw [h3]
  exact w
theorem n2 {α γ : Type} {o1 : Option α} {o3 : α → Option γ} {a : α} {c : γ} {k : α → γ → Prop} (h1 : o1 = some a) (h3 : o3 a = some c) (w : k a c) :
    need o1 fun x => need (o3 x) fun z => k x z := by
  rw [h1]
  show need (o3 a) _
  rw [h3]
  exact w
theorem nx {α : Type} {o : Option α} {k : α → Prop} (h : ∃ a, o = some a ∧ k a) : need o k := by
  obtain ⟨a, e, w⟩ := h
  rw [e]; exact w
end Ip

set_option Elab.async false
set_option linter.all false
set_option maxRecDepth 100000
set_option maxHeartbeats 2000000
set_option autoImplicit false
/-! Ip17: sorted(..) of a list of alike data -/
namespace Ip
open PySem L2 PySem.Spec PyProof.Rows PySem.W

def dLe : D → D → Bool := dataLe false D.py
def sortOk (ds : List D) : Bool := (ds.all fun a => a.ok && ds.all fun b => alike a.py b.py) && ((ds.all fun d => match d with
  | .tup (_ :: _) => true
  | _ => false) || ds.all fun d => match d with
  | .non => false
  | .tup _ => false
  | _ => true)
def sortL (ds : List D) : List D := ds.mergeSort dLe
def sortedD : D → Option Res
  | .lst ds => if sortOk ds = true ∧ ds.length ≤ lim then some (.ow (.lst (sortL ds))) else none
  | _ => none
theorem py_tup {d : D} {xs : List PyData} (h : d.py = .tuple xs) : ∃ ds, d = .tup ds := by
  cases d <;> first | exact ⟨_, rfl⟩ | cases h
theorem sortOk_inv {ds : List D} (h : sortOk ds = true) : (∀ a ∈ ds, a.ok = true) ∧ AllAlike (ds.map D.py) ∧ Sortable (ds.map D.py) := by
  unfold sortOk at h
  rw [Bool.and_eq_true, Bool.or_eq_true, List.all_eq_true, List.all_eq_true, List.all_eq_true] at h
  obtain ⟨h1, h2⟩ := h
  refine ⟨fun a ha => (and_of (h1 a ha)).1, fun d hd d' hd' => ?_, ?_⟩
  · obtain ⟨a, ha, rfl⟩ := List.mem_map.mp hd
    obtain ⟨b, hb, rfl⟩ := List.mem_map.mp hd'
    exact List.all_eq_true.mp (and_of (h1 a ha)).2 b hb
  · rcases h2 with h2 | h2
    · refine .inl fun d hd => ?_
      obtain ⟨a, ha, rfl⟩ := List.mem_map.mp hd
      have q := h2 a ha
      cases a with
      | tup es =>
        cases es with
        | nil => cases q
        | cons e es => exact ⟨e.py, D.pys es, rfl⟩
      | _ => cases q
    · refine .inr fun d hd => ?_
      obtain ⟨a, ha, rfl⟩ := List.mem_map.mp hd
      have q := h2 a ha
      have hok := ok_plain (and_of (h1 a ha)).1
      cases a with
      | non => cases q
      | tup es => cases q
      | dct _ _ => cases hok
      | st _ => cases hok
      | box => cases hok
      | bl b => exact ⟨fun z => (by cases z), fun xs z => (by cases z)⟩
      | int b => exact ⟨fun z => (by cases z), fun xs z => (by cases z)⟩
      | str b => exact ⟨fun z => (by cases z), fun xs z => (by cases z)⟩
      | lst b => exact ⟨fun z => (by cases z), fun xs z => (by cases z)⟩
/-- items that read as plain data -/
inductive DpL (K : Frag) (H : Hp) : List V → List D → Prop
  | nil : DpL K H [] []
  | cons {v : V} {vs : List V} {d : D} {ds : List D} : Dp K H v d.py → DpL K H vs ds → DpL K H (v :: vs) (d :: ds)
theorem RzA.dpl {K : Frag} {O : ASet} {b : Addr} {H : Hp} : ∀ {vs : List V} {ds : List D}, (∀ d ∈ ds, d.plain = true) → RzA K O b H vs ds → DpL K H vs ds
  | _, _, _, .nil => .nil
  | _, _, h, .cons z r => .cons (Rz.dp (h _ List.mem_cons_self) z) (RzA.dpl (fun d hd => h d (List.mem_cons_of_mem _ hd)) r)
def rSortedD (K : Frag) : List V → Hp → VK → Prop := fun vs H Q => ∃ (a : Addr) (xs : List V) (ds : List D), vs = [V.ref a] ∧ SqL K H a xs ∧ DpL K H xs ds ∧ sortOk ds = true ∧
  ∀ (p : Addr), H p = none → Q (.ref p) (upd H p (.lst (((xs.zip ds).mergeSort (dataLe false fun b => b.2.py)).map (·.1))))
theorem each_rel : ∀ {xs : List V} {its : List Value} {ds : List D}, Vals xs its → xs.length = ds.length → EachIs (fun v b => RelV b.1 v) its (xs.zip ds)
  | [], _, [], .nil, _ => .nil
  | _ :: _, _, _ :: _, .cons r t, h => .cons r (each_rel t (Nat.succ.inj h))
theorem DpL.length {K : Frag} {H : Hp} : ∀ {vs : List V} {ds : List D}, DpL K H vs ds → vs.length = ds.length
  | _, _, .nil => rfl
  | _, _, .cons _ t => congrArg (· + 1) t.length
theorem vals_each : ∀ {out : List Value} {bs : List (V × D)}, EachIs (fun v b => RelV b.1 v) out bs → Vals (bs.map (·.1)) out
  | [], [], .nil => .nil
  | _ :: _, _ :: _, .cons r t => .cons r (vals_each t)
theorem zip_snd : ∀ {xs : List V} {ds : List D}, xs.length = ds.length → (xs.zip ds).map (·.2) = ds
  | [], [], _ => rfl
  | _ :: _, d :: _, h => congrArg (d :: ·) (zip_snd (Nat.succ.inj h))
section
variable {X : Cx}
theorem each_reads {pins : List (Addr × Obj)} {σ : L2.St} {H : Hp} {s : Shared} (I : Inv X pins σ H s) : ∀ {xs : List V} {its : List Value} {ds : List D}, Vals xs its → DpL X.K H xs ds → EachIs (fun v b => ∃ as, Reads s.heap v b.2.py as) its (xs.zip ds)
  | _, _, _, .nil, .nil => .nil
  | _, _, _, .cons r t, .cons h q => .cons (Dp.reads I _ _ _ h r) (each_reads I t q)
theorem cr_sortedD (hu : X.A.units + 70 < cLine) : CallR X (.builtin "sorted") (rSortedD X.K) := by
  intro pins s σ H vs us Q I r h
  obtain ⟨a, xs, ds, rfl, hs, hd, hok, q⟩ := h
  obtain ⟨its, rv, hl, hz⟩ := I.list hs
  rw [Vals.ref1 r]
  obtain ⟨o1, o2, o3⟩ := sortOk_inv hok
  have hlen := hd.length
  have em : (xs.zip ds).map (fun b => b.2.py) = ds.map D.py := by
    have : (xs.zip ds).map (fun b => b.2.py) = ((xs.zip ds).map (·.2)).map D.py := by rw [List.map_map]; rfl
    rw [this, zip_snd hlen]
  refine sorted_data (vs := its) (bs := xs.zip ds) (enc := fun b => b.2.py) (R := fun v b => RelV b.1 v) hl.isList (each_rel rv hlen) (each_reads I rv hd) (by rw [em]; exact o2) (by rw [em]; exact o3) (by rw [List.length_zip, ← hlen, Nat.min_self]; exact hz) (fun b hb => ?_) fun out ho eo => ?_
  · have hb2 : b.2 ∈ ds := by
      rw [← zip_snd hlen]
      exact List.mem_map.mpr ⟨b, hb, rfl⟩
    have hb3 := o1 _ hb2
    unfold D.ok at hb3
    have hb4 := and_of hb3
    have := (D.py_lay _ hb4.1).2
    have h64 := of_decide_eq_true hb4.2
    show _ + (b.2.py).depth < _
    omega
  · obtain ⟨ep, he'⟩ := PyProof.Rows.sortedAll_at s.heap its out.toArray
    have hv := vals_each eo
    have hl2 : (((xs.zip ds).mergeSort (dataLe false fun b => b.2.py)).map (·.1)).length ≤ sizeLine := by
      rw [List.length_map, List.length_mergeSort, List.length_zip, ← hlen, Nat.min_self]
      exact hz
    exact ⟨.ref _, upd H (s.heap.objs.size + 1) (.lst (((xs.zip ds).mergeSort (dataLe false fun b => b.2.py)).map (·.1))), I.laid (t' := s.toks) (fun _ _ => PyProof.Rows.sortedAll_old) (Nat.le_succ _) ⟨hl2, out, ep, hv, he'⟩, rfl, q _ (I.hok.fresh (Nat.le_succ _))⟩
end
theorem RzA.zipMem {K : Frag} {O : ASet} {b : Addr} {H : Hp} : ∀ {vs : List V} {ds : List D}, RzA K O b H vs ds → ∀ q ∈ vs.zip ds, Rz K O b H q.1 q.2
  | _, _, .nil, q, h => by cases h
  | _, _, .cons z r, q, h => by
    rcases List.mem_cons.mp h with rfl | h
    · exact z
    · exact RzA.zipMem r q h
theorem rzA_of {K : Frag} {O : ASet} {b : Addr} {H : Hp} : ∀ {bs : List (V × D)}, (∀ q ∈ bs, Rz K O b H q.1 q.2) → RzA K O b H (bs.map (·.1)) (bs.map (·.2))
  | [], _ => .nil
  | q :: bs, h => .cons (h q List.mem_cons_self) (rzA_of fun x hx => h x (List.mem_cons_of_mem _ hx))
theorem RzA.sorted {K : Frag} {O : ASet} {b : Addr} {H : Hp} {vs : List V} {ds : List D} (r : RzA K O b H vs ds) : RzA K O b H (((vs.zip ds).mergeSort (dataLe false fun b => b.2.py)).map (·.1)) (sortL ds) := by
  have e : ((vs.zip ds).mergeSort (dataLe false fun b => b.2.py)).map (·.2) = sortL ds := by
    unfold sortL
    conv => rhs; rw [← zip_snd r.length]
    exact List.map_mergeSort fun a _ b _ => rfl
  rw [← e]
  exact rzA_of fun q hq => r.zipMem q ((List.mergeSort_perm _ _).mem_iff.mp hq)
theorem sortedOk {K : Frag} {B : BoxPred} : OpC K B (rSortedD K) (arg1 sortedD) := by
  intro F own ρ σ H xs ds res Q R hz hx e k
  obtain ⟨d, rfl, e⟩ := arg1_inv e
  obtain ⟨x, e0, hx1⟩ := vwA1 hx
  clear hx
  subst e0
  have hx := hx1
  cases d with
  | lst ds =>
    have e : (if sortOk ds = true ∧ ds.length ≤ lim then some (Res.ow (.lst (sortL ds))) else none) = some res := e
    by_cases hl : sortOk ds = true ∧ ds.length ≤ lim
    · rw [if_pos hl] at e
      cases e
      obtain ⟨a, xs, rfl, ea, r⟩ := hx
      obtain ⟨o1, _, _⟩ := sortOk_inv hl.1
      exact ⟨a, xs, ds, rfl, SqL.of ea, r.dpl fun d hd => ok_plain (o1 d hd), hl.1, fun p hp => k _ _ (R.new hp) (Kept.new hp) (R.newL hp r.sorted)⟩
    · rw [if_neg hl] at e; cases e
  | _ => cases e
theorem hu70 {A : Around} {k : Nat} (hr : Room k A) : A.units + 70 < cLine := by have := hr.un; omega
section
variable {X : Cx} {B : BoxPred} {e : Expr} {es : List Expr} {ws : WO} {pos p : Pos} {k : Nat}
theorem ssorted (hr : Room k X.A) (hm : X.mg "sorted" = none) (ha : PA X (e :: es) (tO X.K B ws)) (hg : Gl X "sorted" := by rfl) (he : starEach (e :: es) X.env = (false, eval e X.env) :: starEach es X.env := by rfl) (hpl : (backTo pos (starEach es X.env)).any (·.1) = false := by rfl) :
    PE X (.Call (.Name "sorted" p) (e :: es) [] pos) (tE X.K B (wBlt (arg1 sortedD) ws)) := sBltB (cr_sortedD (hu70 hr)) sortedOk hg hm (by decide +kernel) ha (by decide) (by decide) he hpl
end
end Ip

set_option Elab.async false
set_option linter.all false
set_option maxRecDepth 100000
set_option maxHeartbeats 2000000
set_option autoImplicit false
/-! Ip18: the tape of drawn numbers -/
namespace Ip
open PySem L2 PySem.Spec PyProof.Rows
def TapeAt (b c : Addr) (H : Hp) (dg : Int) : Prop := ∃ (ns : List Int) (i z : Int), H b = some (.lst [.ref c, .int i, .int dg, .int z]) ∧ H c = some (.lst (ns.map V.int)) ∧ 0 ≤ i ∧ 0 ≤ z
def TapeK : BoxPred := fun b c H => ∃ dg, 0 ≤ dg ∧ TapeAt b c H dg
theorem tapeGood : BoxGood TapeK where
  st := fun ⟨dg, h0, ns, i, z, h1, h2, h3⟩ e1 e2 => ⟨dg, h0, ns, i, z, by rw [e1]; exact h1, by rw [e2]; exact h2, h3⟩
  lb := fun ⟨dg, h0, ns, i, z, h1, h2, h3⟩ => ⟨_, h1⟩
  lc := fun ⟨dg, h0, ns, i, z, h1, h2, h3⟩ => ⟨_, h2⟩
/-- a number in, a number of 64 bits out -/
def spMix : Sp := fun vs H Q _ => ∃ i : Int, vs = [.int i] ∧ ∀ r : Int, 0 ≤ r → r < 18446744073709551557 → Q (.int r) H
def spTape (K : Frag) : Sp := fun vs H Q _ => ∃ (a : Addr) (ns : List Int), vs = [.ref a] ∧ SqL K H a (ns.map V.int) ∧ ns.length ≤ 63 ∧ ∀ (H' : Hp) (b c : Addr), TapeAt b c H' 0 → Q (.ref b) H'
theorem tape_end {K : Frag} {b c : Addr} {H' : Hp} {m : Nat} {x : Option V} {ws : WS} {Q : VK} {nx : L2.St → Hp → Prop} (hB : TapeAt b c H' 0)
    (hl : ws ⟨fun _ => False, fun r => r = .fz (.bl true), fun _ => False, fun _ => False⟩ (.non :: .fz .box :: List.replicate m .non)) (k : ∀ H', Q (.bl true) H') :
    tS K TapeK ws { nx := nx, rt := Q } (x :: some (.ref b) :: List.replicate m none) H' := by
  refine ⟨_, _, _, _, rfl, boxRel tapeGood ⟨0, Int.le_refl _, hB⟩, hl, fun _ _ _ _ _ p => p.elim, fun _ _ _ _ _ p => p.elim, fun _ _ _ _ _ p => p.elim, fun v r H'' T p => ?_⟩
  subst p
  have z := T.rs
  cases z
  exact k H''
end Ip

set_option Elab.async false
set_option linter.all false
set_option maxRecDepth 100000
set_option maxHeartbeats 2000000
set_option autoImplicit false
/-! Ip19: comprehensions with two clauses; a & b -/
namespace Ip
open PySem L2 PySem.Spec PyProof.Rows

def andD : D → D → Option Res
  | .int i, .int j => some (.fz (.int (Builtin.bitAnd i j)))
  | _, _ => none
theorem andOk {K : Frag} {B : BoxPred} : Op2 K B (rI0 fun i j => .int (Builtin.bitAnd i j)) andD := by
  intro F own ρ σ H x y dx dy res Q R hz hx hy e k
  cases dx with
  | int i =>
    cases dy with
    | int j =>
      cases e
      exact ⟨i, j, vw_int hx, vw_int hy, k _ _ R Kept.refl (.int _)⟩
    | _ => cases e
  | _ => cases e
theorem sband {X : Cx} {B : BoxPred} {a b : Expr} {wa wb : WE} {pos : Pos} (ha : PE X a (tE X.K B wa)) (hb : PE X b (tE X.K B wb)) : PE X (.BinOp a .BitAnd b pos) (tE X.K B (w2 andD wa wb)) := sBin op_and andOk ha hb

/-- a clause's turns; the list that is made stays within its bound -/
def lcGoB (g : WG) (ct : WT) (we : WE) (vs : List Nat) (K : List D → Rho → Prop) : List D → List D → Rho → Prop
  | [], acc, ρ => K acc ρ
  | d :: ds, acc, ρ => g d ρ fun ρ2 => ct ρ2 fun b ρ3 => if b = true then we ρ3 fun r ρ4 => need (frz1 ρ4 r) fun q => acc.length < lim ∧ loose q.2 vs = true ∧ lcGoB g ct we vs K ds (acc ++ [q.1]) (wipeR q.2 vs)
    else loose ρ3 vs = true ∧ lcGoB g ct we vs K ds acc (wipeR ρ3 vs)
def lc2Go (g : WG) (ct : WT) (wi1 : WI) (g1 : WG) (ct1 : WT) (we : WE) (vs vs1 : List Nat) (K : List D → Rho → Prop) : List D → List D → Rho → Prop
  | [], acc, ρ => K acc ρ
  | d :: ds, acc, ρ => g d ρ fun ρ2 => ct ρ2 fun b ρ3 => if b = true then wi1 ρ3 fun ds1 lk ρ4 => loose ρ4 vs1 = true ∧ lcGoB g1 ct1 we vs1 (fun acc' ρ5 => loose (unlock lk ρ5) vs = true ∧ lc2Go g ct wi1 g1 ct1 we vs vs1 K ds acc' (wipeR (unlock lk ρ5) vs)) ds1 acc (wipeR ρ4 vs1)
    else loose ρ3 vs = true ∧ lc2Go g ct wi1 g1 ct1 we vs vs1 K ds acc (wipeR ρ3 vs)
def wLc2 (wi : WI) (g : WG) (ct : WT) (wi1 : WI) (g1 : WG) (ct1 : WT) (we : WE) (vs vs1 : List Nat) : WE := fun ρ P => wi ρ fun ds lk ρ1 => loose ρ1 vs = true ∧ lc2Go g ct wi1 g1 ct1 we vs vs1 (fun acc ρ2 => P (.ow (.lst acc)) (unlock lk (wipeR ρ2 vs))) ds [] (wipeR ρ1 vs)
theorem lcRedB {K : Frag} {B : BoxPred} {A0 : ASet} {F : Fr} {H0 : Hp} {J : It} {ds : List D} {tg : TG} {tc : TT} {te : TE} {vs : List Nat} {σ : L2.St} {p : Addr} {Fin : Hp → Prop} {g : WG} {ct : WT} {we : WE} {Kf : List D → Rho → Prop}
    (itP : ∀ as, ItOk K B (Ip.addP F p (.lst as)) J ds) (hD : H0 p = none) (hg : ∀ v s H Q, tG K B vs g v s H Q → tg v s H Q) (hc : ∀ s H Q, tT K B ct s H Q → tc s H Q) (he : ∀ s H Q, tE K B we s H Q → te s H Q)
    (fin : ∀ own ρ acc as H, Rel K B (Ip.addP F p (.lst as)) own ρ (wipe σ vs) H → Kept A0 H0 (F.av own) H → RzA K ((Ip.addP F p (.lst as)).av own) F.b H as acc → loose ρ vs = true → Kf acc ρ → Fin H)
    {own : Own} {ρ : Rho} {H : Hp} {as0 : List V} {acc0 : List D} (R : Rel K B (Ip.addP F p (.lst as0)) own ρ (wipe σ vs) H) (hk : Kept A0 H0 (F.av own) H) (ra : RzA K ((Ip.addP F p (.lst as0)).av own) F.b H as0 acc0) (hl : loose ρ vs = true) (w : lcGoB g ct we vs Kf ds acc0 ρ) :
    ∃ W : Nat → Nat → Hp → Prop, (∃ m, W 0 m H) ∧ ∀ i m H, W i m H →
      (J.stop i H ∧ Fin H) ∨ (J.go i H ∧ ∃ Nx : Hp → Prop, (∀ H', Nx H' → ∃ m', m' < m ∧ W (i + 1) m' H') ∧ ∀ x H', J.yld i H x H' → tg x (wipe σ vs) H' fun σ2 H2 => wipe σ2 vs = wipe σ vs ∧ tc σ2 H2 fun b H3 =>
        if b = true then te σ2 H3 fun y H4 => ∃ acc, H4 p = some (.lst acc) ∧ acc.length < sizeLine ∧ Nx (upd H4 p (.lst (acc ++ [y]))) else Nx H3) := by
  let Pv : Nat → Hp → Prop := fun i H => ∃ own ρ acc as, Rel K B (Ip.addP F p (.lst as)) own ρ (wipe σ vs) H ∧ Kept A0 H0 (F.av own) H ∧ RzA K ((Ip.addP F p (.lst as)).av own) F.b H as acc ∧ loose ρ vs = true ∧ lcGoB g ct we vs Kf (ds.drop i) acc ρ
  have turn : ∀ i H, i < ds.length → Pv i H → ∀ x H', J.yld i H x H' → tg x (wipe σ vs) H' fun σ2 H2 => wipe σ2 vs = wipe σ vs ∧ tc σ2 H2 fun b H3 =>
        if b = true then te σ2 H3 fun y H4 => ∃ acc, H4 p = some (.lst acc) ∧ acc.length < sizeLine ∧ Pv (i + 1) (upd H4 p (.lst (acc ++ [y]))) else Pv (i + 1) H3 := by
    rintro i H hi ⟨own, ρ, acc, as, R, hk, ra, hl, w⟩ x H' hy
    obtain ⟨d, hd, R1, k1, zx⟩ := (itP as).yld i R hi hy
    have ew : ds.drop i = d :: ds.drop (i + 1) := by
      rw [List.drop_eq_getElem_cons hi]
      congr 1
      rw [List.getElem?_eq_getElem hi] at hd
      exact Option.some.inj hd
    rw [ew] at w
    refine hg _ _ _ _ ⟨Ip.addP F p (.lst as), own, ρ, d, _, R1, zx, w, fun own2 ρ2 σ2 R2 l2 o2 w2 => ⟨o2.wipe.trans (only_wipe (σ := σ)).wipe, ?_⟩⟩
    have k2 : Kept ((Ip.addP F p (.lst as)).av own) H ((Ip.addP F p (.lst as)).av own2) H' := k1.trans l2.kept
    refine hc _ _ _ ⟨Ip.addP F p (.lst as), own2, ρ2, _, R2, w2, fun own3 ρ3 b H3 R3 k3 w3 => ?_⟩
    have k3' := k2.trans k3
    cases b with
    | false =>
      have w3 : loose ρ3 vs = true ∧ lcGoB g ct we vs Kf (ds.drop (i + 1)) acc (wipeR ρ3 vs) := w3
      exact ⟨own3, wipeR ρ3 vs, acc, as, R3.wipeTo w3.1 o2.symm, keptStep hk hD k3' R3.dropP.2.2.2, ra.kept k3', loose_wipe, w3.2⟩
    | true =>
      refine he _ _ _ ⟨Ip.addP F p (.lst as), own3, ρ3, _, R3, w3, fun own4 ρ4 y r H4 R4 k4 s4 w4 => ?_⟩
      obtain ⟨⟨d', ρ5⟩, e5, hlen, hl5, w5⟩ := need_of w4
      obtain ⟨own5, R5, l5, _, z5⟩ := R4.frz1 s4.w e5
      have k5 := (k3'.trans k4).trans l5.kept
      refine ⟨as, R5.dropP.2.1, ?_, own5, wipeR ρ5 vs, acc ++ [d'], as ++ [y], (R5.growP (ys := as ++ [y])).wipeTo hl5 o2.symm, ?_, ?_, loose_wipe, w5⟩
      · rw [ra.length]
        exact Nat.lt_of_lt_of_le hlen lim_line
      · exact keptStep (bs := .lst (as ++ [y])) hk hD (k5.trans keptGrow) R5.dropP.2.2.2
      · exact (ra.kept (k5.trans keptGrow)).append (.cons (z5.kept keptGrow) .nil)
  refine ⟨fun i m H => m = ds.length - i ∧ i ≤ ds.length ∧ Pv i H, ⟨ds.length, by simp, Nat.zero_le _, own, ρ, acc0, as0, R, hk, ra, hl, w⟩, ?_⟩
  rintro i m H ⟨rfl, hi, pi⟩
  by_cases hlt : i < ds.length
  · obtain ⟨own', ρ', acc', as', R', rest⟩ := id pi
    exact .inr ⟨(itP as').go i R' hlt, Pv (i + 1), fun H' p' => ⟨ds.length - (i + 1), by omega, rfl, hlt, p'⟩, turn i H hlt pi⟩
  · obtain ⟨own', ρ', acc', as', R', hk', ra', hl', w'⟩ := pi
    obtain rfl : i = ds.length := by omega
    rw [List.drop_length] at w'
    exact .inl ⟨(itP as').stop R', fin own' ρ' acc' as' H R' hk' ra' hl' w'⟩
theorem only_two {vs vs1 : List Nat} {σ σ2 : L2.St} (hv : ∀ i ∈ vs1, i ∈ vs) (e : wipe σ2 vs = wipe σ vs) : Only vs (wipe σ2 vs1) (wipe σ vs) := by
  rw [← e]
  exact ⟨fun i h => by rw [wipe_out h, wipe_out fun z => h (hv i z)], by rw [wipe_length, wipe_length]⟩
theorem lc2In {K : Frag} {B : BoxPred} {vs vs1 : List Nat} {σ : L2.St} {H : Hp} {Q : VK} {wi wi1 : WI} {g g1 : WG} {ct ct1 : WT} {we : WE} (hv : ∀ i ∈ vs1, i ∈ vs) (h : tE K B (wLc2 wi g ct wi1 g1 ct1 we vs vs1) σ H Q) :
    tLc2 (tIt K B wi) (tG K B vs g) (tT K B ct) (tIt K B wi1) (tG K B vs1 g1) (tT K B ct1) (tE K B we) vs vs1 σ H Q := by
  obtain ⟨F, own0, ρ0, P, R, w, k⟩ := h
  refine ⟨F, own0, ρ0, _, R, w, fun F' own1 ρ1 ds lk J H1 eq R1 un k1 it hl w1 p hp => ?_⟩
  obtain ⟨hlo, w1⟩ := w1
  have R2 := (R1.born (R1.new hp) hp (Kept.new hp) (own_upd R1 hp) (upd_same (o := .lst [])) fun _ z => by cases z).wipeTo hlo (only_wipe (σ := σ) (vs := vs))
  have hD : H p = none := k1.dom p hp
  have itP : ∀ as, ItOk K B (Ip.addP F' p (.lst as)) J ds := fun as => it _ (fun _ h => h) fun _ h => h
  let Kf : List D → Rho → Prop := fun acc ρ2 => P (.ow (.lst acc)) (unlock lk (wipeR ρ2 vs))
  let Pv : Nat → Hp → Prop := fun i H2 => ∃ own ρ acc as, Rel K B (Ip.addP F' p (.lst as)) own ρ (wipe σ vs) H2 ∧ Kept (F.av own0) H (F'.av own) H2 ∧ RzA K ((Ip.addP F' p (.lst as)).av own) F'.b H2 as acc ∧ loose ρ vs = true ∧ lc2Go g ct wi1 g1 ct1 we vs vs1 Kf (ds.drop i) acc ρ
  have turn : ∀ i H2, i < ds.length → Pv i H2 → ∀ x H3, J.yld i H2 x H3 → tG K B vs g x (wipe σ vs) H3 fun σ2 H4 => wipe σ2 vs = wipe σ vs ∧ tT K B ct σ2 H4 fun b H5 =>
      if b = true then tIt K B wi1 σ2 H5 fun J1 H6 => ∃ W1 : Nat → Nat → Hp → Prop, (∃ m, W1 0 m H6) ∧ ∀ j k H, W1 j k H →
        (J1.stop j H ∧ Pv (i + 1) H) ∨ (J1.go j H ∧ ∃ Nx1 : Hp → Prop, (∀ H', Nx1 H' → ∃ k', k' < k ∧ W1 (j + 1) k' H') ∧ ∀ x H', J1.yld j H x H' → tG K B vs1 g1 x (wipe σ2 vs1) H' fun σ3 H5 => wipe σ3 vs1 = wipe σ2 vs1 ∧ tT K B ct1 σ3 H5 fun b H6 =>
          if b = true then tE K B we σ3 H6 fun y H7 => ∃ acc, H7 p = some (.lst acc) ∧ acc.length < sizeLine ∧ Nx1 (upd H7 p (.lst (acc ++ [y]))) else Nx1 H6)
      else Pv (i + 1) H5 := by
    rintro i H2 hi ⟨own, ρ, acc, as, R, hk, ra, hl, w⟩ x H3 hy
    obtain ⟨d, hd, R1, k1, zx⟩ := (itP as).yld i R hi hy
    have ew : ds.drop i = d :: ds.drop (i + 1) := by
      rw [List.drop_eq_getElem_cons hi]
      congr 1
      rw [List.getElem?_eq_getElem hi] at hd
      exact Option.some.inj hd
    rw [ew] at w
    refine ⟨Ip.addP F' p (.lst as), own, ρ, d, _, R1, zx, w, fun own2 ρ2 σ2 R2 l2 o2 w2 => ⟨o2.wipe.trans (only_wipe (σ := σ)).wipe, ?_⟩⟩
    have e2 : wipe σ2 vs = wipe σ vs := o2.wipe.trans (only_wipe (σ := σ)).wipe
    have k2 : Kept ((Ip.addP F' p (.lst as)).av own) H2 ((Ip.addP F' p (.lst as)).av own2) H3 := k1.trans l2.kept
    refine ⟨Ip.addP F' p (.lst as), own2, ρ2, _, R2, w2, fun own3 ρ3 b H5 R3 k3 w3 => ?_⟩
    have k3' := k2.trans k3
    cases b with
    | false =>
      have w3 : loose ρ3 vs = true ∧ lc2Go g ct wi1 g1 ct1 we vs vs1 Kf (ds.drop (i + 1)) acc (wipeR ρ3 vs) := w3
      exact ⟨own3, wipeR ρ3 vs, acc, as, R3.wipeTo w3.1 o2.symm, keptStep hk hD k3' R3.dropP.2.2.2, ra.kept k3', loose_wipe, w3.2⟩
    | true =>
      refine ⟨Ip.addP F' p (.lst as), own3, ρ3, _, R3, w3, fun F2 own4 ρ4 ds1 lk1 J1 H6 eq1 R4 un1 k4 it1 hl1 w4 => ?_⟩
      obtain ⟨hlo1, w4⟩ := w4
      have eav : ∀ o, (onP F2 F'.P).av o = F'.av o := fun o => by
        funext a
        show (F2.O0 a ∨ _) = (F'.O0 a ∨ _)
        rw [eq1.o0]
        rfl
      have eavP : ∀ (o : Own) (q : HO), (Ip.addP (onP F2 F'.P) p q).av o = (Ip.addP F' p q).av o := fun o q => by rw [av_addP_eq, av_addP_eq, eav]
      have eb : (onP F2 F'.P).b = F'.b := eq1.b
      have R4' : Rel K B (Ip.addP (onP F2 F'.P) p (.lst as)) own4 ρ4 σ2 H6 := by
        have q : Rel K B (onP F2 F2.P) own4 ρ4 σ2 H6 := R4
        rw [eq1.p] at q
        exact q
      have n4 : ¬ F'.av own4 p := by
        rw [← eav own4]
        exact R4'.dropP.2.2.2
      have hk4 := keptStep hk hD (k3'.trans k4) n4
      refine lcRedB (F := onP F2 F'.P) (A0 := F.av own0) (H0 := H) (fun as' => it1 _ (fun _ h => h) fun _ h => h) hD (fun _ _ _ _ h => h) (fun _ _ _ h => h) (fun _ _ _ h => h) (fun own5 ρ5 acc5 as5 H7 R5 k5 ra5 hl5 w5 => ?_)
        (R4'.wipeTo hlo1 (only_wipe (σ := σ2) (vs := vs1))) (by rw [eav]; exact hk4) (by rw [eavP, eb]; exact ra.kept (k3'.trans k4)) loose_wipe w4
      have R6 : Rel K B (Ip.addP F' p (.lst as5)) own5 (unlock lk1 ρ5) (wipe σ2 vs1) H7 := un1 ((p, .lst as5) :: F'.P) own5 ρ5 _ H7 R5
      rw [eav] at k5
      rw [eavP, eb] at ra5
      exact ⟨own5, wipeR (unlock lk1 ρ5) vs, acc5, as5, R6.wipeTo w5.1 (only_two hv e2), k5, ra5, loose_wipe, w5.2⟩
  refine ⟨fun i m H2 => m = ds.length - i ∧ i ≤ ds.length ∧ Pv i H2, ⟨ds.length, by simp, Nat.zero_le _, own1, _, [], [], R2, by rw [eq.av]; exact k1.trans (Kept.new hp), .nil, loose_wipe, w1⟩, ?_⟩
  rintro i m H2 ⟨rfl, hi, pi⟩
  by_cases hlt : i < ds.length
  · obtain ⟨own', ρ', acc', as', R', rest⟩ := id pi
    exact .inr ⟨(itP as').go i R' hlt, Pv (i + 1), fun H' p' => ⟨ds.length - (i + 1), by omega, rfl, hlt, p'⟩, turn i H2 hlt pi⟩
  · obtain ⟨own2, ρ2, acc, as, R3, k3, ra, hl2, w2⟩ := pi
    obtain rfl : i = ds.length := by omega
    rw [List.drop_length] at w2
    refine .inl ⟨(itP as).stop R3, ?_⟩
    have R5 : Rel K B (Ip.addP F p (.lst as)) own2 (unlock lk (wipeR ρ2 vs)) σ H2 := by
      have q := un ((p, .lst as) :: F'.P) own2 _ _ _ (R3.wipeTo hl2 (only_wipe (σ := σ) (vs := vs)).symm)
      rw [eq.p] at q
      exact q
    rw [eq.av] at k3
    refine k own2 _ (.ref p) (.ow (.lst acc)) H2 R5.dropP.1 k3 ⟨p, .lst as, rfl, R5, ?_⟩ w2
    rw [eq.addP, eq.b] at ra
    exact ra
section
variable {X : Cx} {B : BoxPred} {elt tg iter tg1 iter1 : Expr} {ifs ifs1 : List Expr} {scope : Scope} {own : List (Str × Nat)} {vs1 : List Nat} {pos : Pos} {wi wi1 : WI} {g g1 : WG} {ct ct1 : WT} {we : WE}
theorem sLc2 (hc : X.calm = true) (hN : X.N.Nodup) (hi : PI X tg iter (tIt X.K B wi)) (ok : BlkOk X.N X.env.scope scope own) (hv : ∀ i ∈ vs1, i ∈ own.map (·.2))
    (hg : ∀ (s : Shared) (H : Hp) (C : Addr) (cl : List (Str × Addr)) (fp : List Addr), PG (X.blk s H scope (compEnvC scope cl C X.env) fp) tg (tG X.K B (own.map (·.2)) g))
    (ht : ∀ (s : Shared) (H : Hp) (C : Addr) (cl : List (Str × Addr)) (fp : List Addr), PTs (X.blk s H scope (compEnvC scope cl C X.env) fp) ifs (tT X.K B ct))
    (hi1 : ∀ (s : Shared) (H : Hp) (C : Addr) (cl : List (Str × Addr)) (fp : List Addr), PI (X.blk s H scope (compEnvC scope cl C X.env) fp) tg1 iter1 (tIt X.K B wi1))
    (hg1 : ∀ (s : Shared) (H : Hp) (C : Addr) (cl : List (Str × Addr)) (fp : List Addr), PG (X.blk s H scope (compEnvC scope cl C X.env) fp) tg1 (tG X.K B vs1 g1))
    (ht1 : ∀ (s : Shared) (H : Hp) (C : Addr) (cl : List (Str × Addr)) (fp : List Addr), PTs (X.blk s H scope (compEnvC scope cl C X.env) fp) ifs1 (tT X.K B ct1))
    (he : ∀ (s : Shared) (H : Hp) (C : Addr) (cl : List (Str × Addr)) (fp : List Addr), PE (X.blk s H scope (compEnvC scope cl C X.env) fp) elt (tE X.K B we)) (hs : ∀ x, foldedSetIterable iter X.env x = pure x) (hs1 : ∀ env x, foldedSetIterable iter1 env x = pure x) :
    PE X (.ListComp elt [⟨tg, iter, ifs, 0⟩, ⟨tg1, iter1, ifs1, 0⟩] scope pos) (tE X.K B (wLc2 wi g ct wi1 g1 ct1 we (own.map (·.2)) vs1)) :=
  peW (pe_lc2 hc hN hi ok hv hg ht hi1 hg1 ht1 he hs hs1) fun σ H Q h => lc2In hv h
end
end Ip

set_option Elab.async false
set_option linter.all false
set_option maxRecDepth 100000
set_option maxHeartbeats 2000000
set_option autoImplicit false
/-! Ip20: targets among more names -/
namespace Ip
open PySem L2 PySem.Spec PyProof.Rows
theorem sgMono {X : Cx} {B : BoxPred} {e : Expr} {g : WG} {vs ws : List Nat} (h : PG X e (tG X.K B vs g)) (hs : ∀ i ∈ vs, i ∈ ws) : PG X e (tG X.K B ws g) :=
  pgW h fun v σ H Q q => by
    obtain ⟨F, own, ρ, d, P, R, z, w, k⟩ := q
    exact ⟨F, own, ρ, d, P, R, z, w, fun own' ρ' σ' R' l o p => k own' ρ' σ' R' l (o.mono hs) p⟩
end Ip

set_option Elab.async false
set_option linter.all false
set_option maxRecDepth 100000
set_option maxHeartbeats 400000
set_option autoImplicit false
/-! Ip21: plain facts that many laws want -/
namespace Ip
open PySem L2 PySem.Spec PyProof.Rows
/-- what isinstance may look at -/
def El : D → Bool
  | .dct _ _ => false
  | .st _ => false
  | .box => false
  | _ => true
def isCnt (lo hi : Int) : D → Bool
  | .int i => decide (lo ≤ i) && decide (i ≤ hi)
  | _ => false
theorem bls_map {α : Type} (f : α → Bool) : ∀ ds : List α, blsOf (ds.map fun x => .bl (f x)) = some (ds.map f)
  | [] => rfl
  | d :: ds => by
    show (blsOf (ds.map fun x => .bl (f x))).map (f d :: ·) = _
    rw [bls_map f ds]
    rfl
theorem all_id {α : Type} (f : α → Bool) (ds : List α) : (ds.map f).all id = ds.all f := by rw [List.all_map]; rfl
theorem eqv_int {a b : Int} : D.eqv (.int a) (.int b) = decide (a = b) := by
  show PyData.eqv (.int a) (.int b) = _
  first | rfl | simp [PyData.eqv]
/-- plain things that are no lists -/
def Sm (x : D) : Prop := El x = true ∧ x.pure = true
theorem eight {p : Int} (h0 : 0 ≤ p) (h1 : p < 8) : p = 0 ∨ p = 1 ∨ p = 2 ∨ p = 3 ∨ p = 4 ∨ p = 5 ∨ p = 6 ∨ p = 7 := by omega
theorem nle {n m : Nat} (h : Nat.ble n m = true) : n ≤ m := Nat.le_of_ble_eq_true h
theorem mem_cut {α : Type} {xs : List α} {lo hi : Option Int} {x : α} (h : x ∈ cutL xs lo hi) : x ∈ xs := List.mem_of_mem_drop (List.mem_of_mem_take h)
theorem cut_le {α : Type} (xs : List α) (lo hi : Option Int) : (cutL xs lo hi).length ≤ xs.length := by
  unfold cutL
  rw [List.length_take, List.length_drop]
  omega
theorem mem_back {α : Type} {xs : List α} {lo hi : Option Int} {x : α} (h : x ∈ backL xs lo hi) : x ∈ xs := by
  obtain ⟨k, _, e⟩ := List.mem_filterMap.mp h
  exact List.mem_iff_getElem?.mpr ⟨k, e⟩
theorem pures_of : ∀ {ds : List D}, (∀ x ∈ ds, x.pure = true) → D.pures ds = true
  | [], _ => rfl
  | d :: ds, h => by
    show (d.pure && D.pures ds) = true
    rw [h d List.mem_cons_self, pures_of fun x hx => h x (List.mem_cons_of_mem _ hx)]
    rfl
def Pr (p : Int × Int) : D := .tup [.int p.1, .int p.2]
theorem pr_plains : ∀ L : List (Int × Int), D.plains (L.map Pr) = true
  | [] => rfl
  | p :: L => by
    show (D.plain (Pr p) && D.plains (L.map Pr)) = true
    rw [pr_plains L]
    rfl
theorem pr_deps : ∀ L : List (Int × Int), D.deps (L.map Pr) ≤ 1
  | [] => Nat.zero_le _
  | p :: L => by
    show max (D.dep (Pr p)) (D.deps (L.map Pr)) ≤ 1
    have := pr_deps L
    have e : D.dep (Pr p) = 1 := rfl
    rw [e]
    omega
theorem pr_ok (L : List (Int × Int)) : (D.tup (L.map Pr)).ok = true := by
  show (D.plains (L.map Pr) && decide (D.deps (L.map Pr) + 1 ≤ 64)) = true
  rw [pr_plains]
  have := pr_deps L
  exact decide_eq_true (by omega)
theorem pr_pure : ∀ L : List (Int × Int), D.pures (L.map Pr) = true
  | [] => rfl
  | p :: L => by
    show (D.pure (Pr p) && D.pures (L.map Pr)) = true
    rw [pr_pure L]
    rfl
theorem ints_pure (L : List Int) : D.pures (L.map .int) = true := pures_of fun x hx => by
  obtain ⟨i, _, rfl⟩ := List.mem_map.mp hx
  rfl
theorem at_ints {lens : List Int} {u : Nat} (h : u < lens.length) : idxD (.tup (lens.map .int)) (.int (u : Int)) = some (.fz (.int (lens.getD u 0))) := by
  show (atI (lens.map D.int) (u : Int)).map Res.fz = _
  rw [atI_nat (v := D.int (lens.getD u 0)) (by rw [List.getElem?_map, List.getElem?_eq_getElem h, List.getD_eq_getElem?_getD, List.getElem?_eq_getElem h]; rfl)]
  rfl
def simpleD (d : D) : Prop := d = .non ∨ ∃ i, d = .int i
theorem simple_ok : ∀ {ds : List D}, (∀ d ∈ ds, simpleD d) → D.plains ds = true ∧ D.deps ds = 0
  | [], _ => ⟨rfl, rfl⟩
  | d :: ds, h => by
    obtain ⟨a, b⟩ := simple_ok fun x hx => h x (List.mem_cons_of_mem _ hx)
    constructor
    · show (d.plain && D.plains ds) = true
      rw [a]
      rcases h d List.mem_cons_self with rfl | ⟨i, rfl⟩ <;> rfl
    · show max d.dep (D.deps ds) = 0
      rw [b]
      rcases h d List.mem_cons_self with rfl | ⟨i, rfl⟩ <;> rfl
theorem simple_lst {ds : List D} (h : ∀ d ∈ ds, simpleD d) : (D.lst ds).ok = true := by
  obtain ⟨a, b⟩ := simple_ok h
  show (D.plains ds && decide (D.deps ds + 1 ≤ 64)) = true
  rw [a, b]
  rfl
theorem all_cnt {ds : List D} {f : D → Bool} : allD (.lst (ds.map fun x => .bl (f x))) = some (.fz (.bl (ds.all f))) := by
  show (blsOf _).map _ = _
  rw [bls_map, Option.map_some, all_id]
theorem rg_nats (m : Nat) : rgD 0 (m : Int) = (List.range m).map fun (k : Nat) => D.int (k : Int) := by
  unfold rgD
  rw [show ((m : Int) - 0).toNat = m by omega]
  apply List.map_congr_left
  intro k _
  rw [Int.zero_add]
theorem rg0 {m : Nat} (h : m ≤ 5000000) : rgOk 0 (m : Int) := ⟨by omega, by omega, by omega, by omega⟩
theorem simple_pure {d : D} (h : simpleD d) : resPure (.fz d) = true := by
  rcases h with rfl | ⟨i, rfl⟩ <;> rfl
theorem pr_list : ∀ {ys : List D}, (∀ x ∈ ys, ∃ p, x = Pr p) → ∃ L : List (Int × Int), ys = L.map Pr
  | [], _ => ⟨[], rfl⟩
  | y :: ys, h => by
    obtain ⟨L, e⟩ := pr_list fun x hx => h x (List.mem_cons_of_mem _ hx)
    obtain ⟨p, e2⟩ := h y List.mem_cons_self
    exact ⟨p :: L, by rw [List.map_cons, ← e, e2]⟩
theorem int_list : ∀ {ys : List D}, (∀ x ∈ ys, ∃ i, x = .int i) → ∃ L : List Int, ys = L.map .int
  | [], _ => ⟨[], rfl⟩
  | y :: ys, h => by
    obtain ⟨L, e⟩ := int_list fun x hx => h x (List.mem_cons_of_mem _ hx)
    obtain ⟨p, e2⟩ := h y List.mem_cons_self
    exact ⟨p :: L, by rw [List.map_cons, ← e, e2]⟩
theorem ints_of : ∀ L : List Int, intsOf (L.map .int) = some L
  | [] => rfl
  | i :: L => by
    show (intsOf (L.map .int)).map (i :: ·) = _
    rw [ints_of L]
    rfl
theorem at_pr {S : List (Int × Int)} {u : Nat} (h : u < S.length) : idxD (.tup (S.map Pr)) (.int (u : Int)) = some (.fz (Pr (S.getD u (0, 0)))) := by
  show (atI (S.map Pr) (u : Int)).map Res.fz = _
  rw [atI_nat (v := Pr (S.getD u (0, 0))) (by rw [List.getElem?_map, List.getElem?_eq_getElem h, List.getD_eq_getElem?_getD, List.getElem?_eq_getElem h]; rfl)]
  rfl
theorem addl {xs ys : List D} (h : xs.length + ys.length ≤ lim) : binD .Add (.lst xs) (.lst ys) = some (.ow (.lst (xs ++ ys))) := if_pos h
theorem addt {xs ys : List D} (h : xs.length + ys.length ≤ lim) : binD .Add (.tup xs) (.tup ys) = some (.fz (.tup (xs ++ ys))) := if_pos h
theorem sum_ints (L : List Int) : arg1 sumD [.lst (L.map .int)] = some (.fz (.int L.sum)) := by
  show (intsOf _).map _ = _
  rw [ints_of]
  rfl
theorem cut_map {α β : Type} (f : α → β) (xs : List α) (lo hi : Option Int) : cutL (xs.map f) lo hi = (cutL xs lo hi).map f := by
  unfold cutL
  rw [List.length_map, List.map_take, List.map_drop]
theorem rg2_nats (a b : Nat) : rgD (a : Int) (b : Int) = (List.range (b - a)).map fun (k : Nat) => D.int ((a + k : Nat) : Int) := by
  unfold rgD
  rw [show ((b : Int) - a).toNat = b - a by omega]
  apply List.map_congr_left
  intro k _
  congr 1
theorem rgD_len (m : Nat) : (rgD 0 (m : Int)).length = m := by rw [rg_nats, List.length_map, List.length_range]
theorem at_rg {m j : Nat} {x : D} (e : (rgD 0 (m : Int))[j]? = some x) : j < m ∧ x = .int (j : Int) := by
  rw [rg_nats] at e
  have hj : j < m := by
    have := (List.getElem?_eq_some_iff.mp e).1
    rw [List.length_map, List.length_range] at this
    exact this
  rw [List.getElem?_map, List.getElem?_range hj] at e
  exact ⟨hj, (Option.some.inj e).symm⟩
/-- a row of numbers drawn without putting back -/
theorem pop_ok {n : Nat} {z : Int} (h0 : 0 ≤ z) (h1 : z < n) : ixN n z = some z.toNat := by
  unfold ixN
  rw [if_pos h0, if_pos h1]
theorem ints_rgD (m : Nat) : rgD 0 (m : Int) = ((List.range m).map Int.ofNat).map .int := by
  rw [rg_nats, List.map_map]
  rfl
theorem erase_map {α β : Type} (f : α → β) : ∀ (xs : List α) (i : Nat), (xs.map f).eraseIdx i = (xs.eraseIdx i).map f
  | [], _ => rfl
  | _ :: _, 0 => rfl
  | x :: xs, i + 1 => congrArg (f x :: ·) (erase_map f xs i)
theorem three {p : Int} (h0 : 0 ≤ p) (h1 : p < 3) : p = 0 ∨ p = 1 ∨ p = 2 := by omega
theorem small_nat {k : Nat} (h : k ≤ 1000) : small (k : Int) := ⟨by omega, by omega⟩
theorem py_map : ∀ L : List Int, D.pys (L.map .int) = L.map PyData.int
  | [] => rfl
  | i :: L => by show PyData.int i :: D.pys (L.map .int) = _; rw [py_map L]; rfl
theorem ints_plains (L : List Int) : D.plains (L.map .int) = true ∧ D.deps (L.map .int) = 0 := simple_ok fun d hd => by
  obtain ⟨i, _, rfl⟩ := List.mem_map.mp hd
  exact .inr ⟨i, rfl⟩
theorem ints_lst (L : List Int) : (D.lst (L.map .int)).ok = true := by
  obtain ⟨a, b⟩ := ints_plains L
  show (D.plains _ && decide (D.deps _ + 1 ≤ 64)) = true
  rw [a, b]
  rfl
theorem ints_tup (L : List Int) : (D.tup (L.map .int)).ok = true := by
  obtain ⟨a, b⟩ := ints_plains L
  show (D.plains _ && decide (D.deps _ + 1 ≤ 64)) = true
  rw [a, b]
  rfl
theorem any_int (L : List Int) (r : Int) : ((L.map D.int).any fun z => z.eqv (.int r)) = decide (r ∈ L) := by
  induction L with
  | nil => simp
  | cons i L ih =>
    rw [List.map_cons, List.any_cons, ih, eqv_int]
    by_cases h : i = r
    · subst h; simp
    · rw [decide_eq_false h, Bool.false_or]
      congr 1
      rw [List.mem_cons]
      exact propext ⟨.inr, fun z => z.elim (fun e => absurd e.symm h) id⟩
theorem in_tup (L : List Int) (r : Int) : cmpD .In (.int r) (.tup (L.map .int)) = some (decide (r ∈ L)) := by
  show (if ((D.int r).ok && (D.tup (L.map .int)).ok) = true then _ else _) = _
  rw [ints_tup, ← any_int]
  exact if_pos rfl
theorem in_lst (L : List Int) (r : Int) : cmpD .In (.int r) (.lst (L.map .int)) = some (decide (r ∈ L)) := by
  show (if ((D.int r).ok && (D.lst (L.map .int)).ok) = true then _ else _) = _
  rw [ints_lst, ← any_int]
  exact if_pos rfl
theorem notin_lst (L : List Int) (r : Int) : cmpD .NotIn (.int r) (.lst (L.map .int)) = some (!decide (r ∈ L)) := by
  show notD (cmpD .In (.int r) (.lst (L.map .int))) = _
  rw [in_lst]
  rfl
/-- sorted(..) of whole numbers -/
theorem sort_ints_ok (L : List Int) : sortOk (L.map .int) = true := by
  unfold sortOk
  rw [Bool.and_eq_true, Bool.or_eq_true]
  refine ⟨List.all_eq_true.mpr fun a ha => ?_, .inr (List.all_eq_true.mpr fun a ha => ?_)⟩
  · obtain ⟨i, _, rfl⟩ := List.mem_map.mp ha
    rw [Bool.and_eq_true]
    refine ⟨rfl, List.all_eq_true.mpr fun b hb => ?_⟩
    obtain ⟨j, _, rfl⟩ := List.mem_map.mp hb
    show PySem.W.alike (.int i) (.int j) = true
    simp [PySem.W.alike]
  · obtain ⟨i, _, rfl⟩ := List.mem_map.mp ha
    rfl
theorem sortL_perm (ds : List D) : (sortL ds).Perm ds := List.mergeSort_perm _ _
theorem sorted_ints {L : List Int} (h : L.length ≤ lim) : ∃ L' : List Int, L'.Perm L ∧ arg1 sortedD [.lst (L.map .int)] = some (.ow (.lst (L'.map .int))) := by
  have hp := sortL_perm (L.map D.int)
  obtain ⟨L', e⟩ := int_list (ys := sortL (L.map .int)) fun x hx => by
    obtain ⟨i, _, rfl⟩ := List.mem_map.mp (hp.mem_iff.mp hx)
    exact ⟨i, rfl⟩
  refine ⟨L', ?_, ?_⟩
  · rw [e] at hp
    have := hp.map (fun d => match d with
      | .int i => i
      | _ => (0 : Int))
    simpa [List.map_map, Function.comp_def] using this
  · show (if sortOk _ = true ∧ (L.map D.int).length ≤ lim then _ else _) = _
    rw [if_pos ⟨sort_ints_ok L, by rw [List.length_map]; exact h⟩, e]
theorem sort_pr_ok (L : List (Int × Int)) : sortOk (L.map Pr) = true := by
  unfold sortOk
  rw [Bool.and_eq_true, Bool.or_eq_true]
  refine ⟨List.all_eq_true.mpr fun a ha => ?_, .inl (List.all_eq_true.mpr fun a ha => ?_)⟩
  · obtain ⟨i, _, rfl⟩ := List.mem_map.mp ha
    rw [Bool.and_eq_true]
    refine ⟨rfl, List.all_eq_true.mpr fun b hb => ?_⟩
    obtain ⟨j, _, rfl⟩ := List.mem_map.mp hb
    show PySem.W.alike (.tuple [.int i.1, .int i.2]) (.tuple [.int j.1, .int j.2]) = true
    simp [PySem.W.alike, PySem.W.alikeAll]
  · obtain ⟨i, _, rfl⟩ := List.mem_map.mp ha
    rfl
theorem sorted_pr {L : List (Int × Int)} (h : L.length ≤ lim) : ∃ L' : List (Int × Int), L'.Perm L ∧ arg1 sortedD [.lst (L.map Pr)] = some (.ow (.lst (L'.map Pr))) := by
  have hp := sortL_perm (L.map Pr)
  obtain ⟨L', e⟩ := pr_list (ys := sortL (L.map Pr)) fun x hx => by
    obtain ⟨i, _, rfl⟩ := List.mem_map.mp (hp.mem_iff.mp hx)
    exact ⟨i, rfl⟩
  refine ⟨L', ?_, ?_⟩
  · rw [e] at hp
    have := hp.map (fun d => match d with
      | .tup [.int i, .int j] => (i, j)
      | _ => ((0 : Int), (0 : Int)))
    simpa [List.map_map, Function.comp_def, Pr] using this
  · show (if sortOk _ = true ∧ (L.map Pr).length ≤ lim then _ else _) = _
    rw [if_pos ⟨sort_pr_ok L, by rw [List.length_map]; exact h⟩, e]
/-- a clause's turns, by an invariant -/
theorem lcGoB_rule {g : WG} {ct : WT} {we : WE} {vs : List Nat} {K : List D → Rho → Prop} (Inv : Nat → List D → Rho → Prop) : ∀ (ds : List D) (i : Nat) (acc : List D) (ρ : Rho), Inv i acc ρ →
    (∀ j d acc ρ, ds[j]? = some d → Inv (i + j) acc ρ → ∀ C : List D → Rho → Prop, (∀ acc' ρ', Inv (i + j + 1) acc' ρ' → C acc' ρ') → g d ρ fun ρ2 => ct ρ2 fun b ρ3 =>
      if b = true then we ρ3 fun r ρ4 => need (frz1 ρ4 r) fun q => acc.length < lim ∧ loose q.2 vs = true ∧ C (acc ++ [q.1]) (wipeR q.2 vs) else loose ρ3 vs = true ∧ C acc (wipeR ρ3 vs)) →
    (∀ acc ρ, Inv (i + ds.length) acc ρ → K acc ρ) → lcGoB g ct we vs K ds acc ρ
  | [], i, acc, ρ, h0, _, he => he acc ρ h0
  | d :: ds, i, acc, ρ, h0, hs, he => hs 0 d acc ρ rfl h0 (fun acc' ρ' => lcGoB g ct we vs K ds acc' ρ') fun acc' ρ' h' => lcGoB_rule Inv ds (i + 1) acc' ρ' h' (fun j d' acc2 ρ2 e h2 => by
      have := hs (j + 1) d' acc2 ρ2 (by simpa using e)
      rw [show i + (j + 1) = i + 1 + j by omega] at this
      exact this h2) fun acc2 ρ2 h2 => he acc2 ρ2 (by rw [List.length_cons, show i + (ds.length + 1) = i + 1 + ds.length by omega]; exact h2)
theorem lc2Go_rule {g : WG} {ct : WT} {wi1 : WI} {g1 : WG} {ct1 : WT} {we : WE} {vs vs1 : List Nat} {K : List D → Rho → Prop} (Inv : Nat → List D → Rho → Prop) : ∀ (ds : List D) (i : Nat) (acc : List D) (ρ : Rho), Inv i acc ρ →
    (∀ j d acc ρ, ds[j]? = some d → Inv (i + j) acc ρ → ∀ C : List D → Rho → Prop, (∀ acc' ρ', Inv (i + j + 1) acc' ρ' → C acc' ρ') → g d ρ fun ρ2 => ct ρ2 fun b ρ3 =>
      if b = true then wi1 ρ3 fun ds1 lk ρ4 => loose ρ4 vs1 = true ∧ lcGoB g1 ct1 we vs1 (fun acc' ρ5 => loose (unlock lk ρ5) vs = true ∧ C acc' (wipeR (unlock lk ρ5) vs)) ds1 acc (wipeR ρ4 vs1) else loose ρ3 vs = true ∧ C acc (wipeR ρ3 vs)) →
    (∀ acc ρ, Inv (i + ds.length) acc ρ → K acc ρ) → lc2Go g ct wi1 g1 ct1 we vs vs1 K ds acc ρ
  | [], i, acc, ρ, h0, _, he => he acc ρ h0
  | d :: ds, i, acc, ρ, h0, hs, he => hs 0 d acc ρ rfl h0 (fun acc' ρ' => lc2Go g ct wi1 g1 ct1 we vs vs1 K ds acc' ρ') fun acc' ρ' h' => lc2Go_rule Inv ds (i + 1) acc' ρ' h' (fun j d' acc2 ρ2 e h2 => by
      have := hs (j + 1) d' acc2 ρ2 (by simpa using e)
      rw [show i + (j + 1) = i + 1 + j by omega] at this
      exact this h2) fun acc2 ρ2 h2 => he acc2 ρ2 (by rw [List.length_cons, show i + (ds.length + 1) = i + 1 + ds.length by omega]; exact h2)
end Ip

set_option Elab.async false
set_option linter.all false
set_option maxRecDepth 100000
set_option maxHeartbeats 400000
set_option autoImplicit false
namespace Lw
open PySem L2 PySem.Spec PyProof.Rows Ip
/-! the text by places -/
def top (i : Nat) : Stmt := PySem.Challenge.pw_onevisit_k75_whole_rooms_in_common.main.body.getD i (.Pass ⟨0, 0, 0, 0⟩)
abbrev s_have_room : Stmt := top 1
abbrev N_have_room : List Str := ["one", "other", "r"]
theorem sc_have_room : FnScope N_have_room ["one", "other"] (defScope s_have_room) := ⟨rfl, rfl, rfl, by decide +kernel, rfl, by decide +kernel, by decide +kernel⟩
abbrev s_shown_by_strolls : Stmt := top 2
abbrev N_shown_by_strolls : List Str := ["strolls", "n", "i", "j"]
theorem sc_shown_by_strolls : FnScope N_shown_by_strolls ["strolls"] (defScope s_shown_by_strolls) := ⟨rfl, rfl, rfl, by decide +kernel, rfl, by decide +kernel, by decide +kernel⟩
abbrev s_gather : Stmt := top 3
abbrev N_gather : List Str := ["house", "strolls", "r", "stroll", "pairs", "n", "i", "j"]
theorem sc_gather : FnScope N_gather ["house", "strolls"] (defScope s_gather) := ⟨rfl, rfl, rfl, by decide +kernel, rfl, by decide +kernel, by decide +kernel⟩
abbrev s__law_mix : Stmt := top 5
abbrev N__law_mix : List Str := ["number"]
theorem sc__law_mix : FnScope N__law_mix ["number"] (defScope s__law_mix) := ⟨rfl, rfl, rfl, by decide +kernel, rfl, by decide +kernel, by decide +kernel⟩
abbrev s__law_tape : Stmt := top 6
abbrev N__law_tape : List Str := ["script"]
theorem sc__law_tape : FnScope N__law_tape ["script"] (defScope s__law_tape) := ⟨rfl, rfl, rfl, by decide +kernel, rfl, by decide +kernel, by decide +kernel⟩
abbrev s__law_take : Stmt := top 7
abbrev N__law_take : List Str := ["tape", "many", "cell", "digit"]
theorem sc__law_take : FnScope N__law_take ["tape", "many"] (defScope s__law_take) := ⟨rfl, rfl, rfl, by decide +kernel, rfl, by decide +kernel, by decide +kernel⟩
abbrev s__law_same : Stmt := top 8
abbrev N__law_same : List Str := ["a", "b", "k"]
theorem sc__law_same : FnScope N__law_same ["a", "b"] (defScope s__law_same) := ⟨rfl, rfl, rfl, by decide +kernel, rfl, by decide +kernel, by decide +kernel⟩
abbrev s__law_mixed : Stmt := top 9
abbrev N__law_mixed : List Str := ["tape", "row", "left", "k"]
theorem sc__law_mixed : FnScope N__law_mixed ["tape", "row"] (defScope s__law_mixed) := ⟨rfl, rfl, rfl, by decide +kernel, rfl, by decide +kernel, by decide +kernel⟩
abbrev s__law_house : Stmt := top 10
abbrev N__law_house : List Str := ["tape", "most", "m", "names", "doors", "k", "j"]
theorem sc__law_house : FnScope N__law_house ["tape", "most"] (defScope s__law_house) := ⟨rfl, rfl, rfl, by decide +kernel, rfl, by decide +kernel, by decide +kernel⟩
abbrev s__law_behind : Stmt := top 11
abbrev N__law_behind : List Str := ["land", "r", "found", "door"]
theorem sc__law_behind : FnScope N__law_behind ["land", "r"] (defScope s__law_behind) := ⟨rfl, rfl, rfl, by decide +kernel, rfl, by decide +kernel, by decide +kernel⟩
abbrev s__law_stroll : Stmt := top 12
abbrev N__law_stroll : List Str := ["tape", "land", "most", "found", "turn", "near", "r", "s"]
theorem sc__law_stroll : FnScope N__law_stroll ["tape", "land", "most"] (defScope s__law_stroll) := ⟨rfl, rfl, rfl, by decide +kernel, rfl, by decide +kernel, by decide +kernel⟩
abbrev s__law_strolls : Stmt := top 13
abbrev N__law_strolls : List Str := ["tape", "land", "many", "most", "k"]
theorem sc__law_strolls : FnScope N__law_strolls ["tape", "land", "many", "most"] (defScope s__law_strolls) := ⟨rfl, rfl, rfl, by decide +kernel, rfl, by decide +kernel, by decide +kernel⟩
abbrev s__law_due : Stmt := top 14
abbrev N__law_due : List Str := ["land", "strolls", "spots", "r", "stroll", "i", "j"]
theorem sc__law_due : FnScope N__law_due ["land", "strolls"] (defScope s__law_due) := ⟨rfl, rfl, rfl, by decide +kernel, rfl, by decide +kernel, by decide +kernel⟩
abbrev s__law_through : Stmt := top 15
abbrev N__law_through : List Str := ["tape", "land", "room", "many", "most", "found", "k", "spots", "turn", "near", "r", "s"]
theorem sc__law_through : FnScope N__law_through ["tape", "land", "room", "many", "most"] (defScope s__law_through) := ⟨rfl, rfl, rfl, by decide +kernel, rfl, by decide +kernel, by decide +kernel⟩
abbrev s_law : Stmt := top 16
abbrev N_law : List Str := ["script", "tape", "most", "land", "many", "room", "sets", "strolls", "due"]
theorem sc_law : FnScope N_law ["script"] (defScope s_law) := ⟨rfl, rfl, rfl, by decide +kernel, rfl, by decide +kernel, by decide +kernel⟩
abbrev w_have_room_0 (T : Nat → CallT) : WS :=
  wSeqS (wRet (wBlt (arg1 anyD) (wCons (wLc (wSeq (wVar 0)) (gSet 2) wYes (w2 (cmpR .In) (wVar 2) (wVar 1)) [2]) wNil)))
  wSkip
abbrev w_have_room (T : Nat → CallT) : WS := w_have_room_0 T
abbrev w_shown_by_strolls_1 (T : Nat → CallT) : WS :=
  wSeqS (wRet (wTup (wCons (wVar 1) (wCons (wBlt (arg1 tupleD) (wCons (wLc2 (wRgI (wRg1 (wVar 1))) (gSet 2) wYes (wRgI (wRg2 (w2 (binD .Add) (wVar 2) (wLit (.int 1))) (wVar 1))) (gSet 3) (wTest (wCall (T 1) (wCons (w2 idxD (wVar 0) (wVar 2)) (wCons (w2 idxD (wVar 0) (wVar 3)) wNil)))) (wTup (wCons (wVar 2) (wCons (wVar 3) wNil))) [2, 3] [3]) wNil)) wNil))))
  wSkip
abbrev w_shown_by_strolls_0 (T : Nat → CallT) : WS :=
  wSeqS (wSet 1 (wBlt (arg1 lenD) (wCons (wVar 0) wNil)))
  (w_shown_by_strolls_1 T)
abbrev w_shown_by_strolls (T : Nat → CallT) : WS := w_shown_by_strolls_0 T
abbrev w_gather_B1_0 (T : Nat → CallT) : WS :=
  wSeqS (wIfS (wTest (wBlt (arg1 allD) (wCons (wLc (wSeq (wVar 1)) (gSet 3) wYes (w2 (cmpR .In) (wVar 2) (wVar 3)) [3]) wNil))) (wSeqS (wRet (wTup (wCons (wLit (.str "room")) (wCons (wVar 2) wNil))))
  wSkip) wSkip)
  wSkip
abbrev w_gather_3 (T : Nat → CallT) : WS :=
  wSeqS (wRet (w2 (binD .Add) (wTup (wCons (wLit (.str "apart")) wNil)) (w2 idxD (wLc2 (wRgI (wRg1 (wVar 5))) (gSet 6) wYes (wRgI (wRg2 (w2 (binD .Add) (wVar 6) (wLit (.int 1))) (wVar 5))) (gSet 7) (wCmpT .NotIn (wTup (wCons (wVar 6) (wCons (wVar 7) wNil))) (wVar 4)) (wTup (wCons (wVar 6) (wCons (wVar 7) wNil))) [6, 7] [7]) (wLit (.int 0)))))
  wSkip
abbrev w_gather_2 (T : Nat → CallT) : WS :=
  wSeqS (wSet 5 (wBlt (arg1 lenD) (wCons (wVar 1) wNil)))
  (w_gather_3 T)
abbrev w_gather_1 (T : Nat → CallT) : WS :=
  wSeqS (wSet 4 (w2 idxD (wCall (T 2) (wCons (wVar 1) wNil)) (wLit (.int 1))))
  (w_gather_2 T)
abbrev w_gather_0 (T : Nat → CallT) : WS :=
  wSeqS (wFor (wRgI (wRg1 (w2 idxD (wVar 0) (wLit (.int 0))))) (gSet 2)
  (w_gather_B1_0 T))
  (w_gather_1 T)
abbrev w_gather (T : Nat → CallT) : WS := w_gather_0 T
abbrev w__law_same_3 (T : Nat → CallT) : WS :=
  wSeqS (wRet (wAnd (w2 (cmpR .Is) (wVar 0) (wLit .non)) (w2 (cmpR .Is) (wVar 1) (wLit .non))))
  wSkip
abbrev w__law_same_2 (T : Nat → CallT) : WS :=
  wSeqS (wIfS (wOrT (wAndT (wTest (wIsi .int (wVar 0))) (wTest (wIsi .int (wVar 1)))) (wAndT (wTest (wIsi .str (wVar 0))) (wTest (wIsi .str (wVar 1))))) (wSeqS (wRet (w2 (cmpR .Eq) (wVar 0) (wVar 1)))
  wSkip) wSkip)
  (w__law_same_3 T)
abbrev w__law_same_1 (T : Nat → CallT) : WS :=
  wSeqS (wIfS (wOrT (wTest (wIsi .bool (wVar 0))) (wTest (wIsi .bool (wVar 1)))) (wSeqS (wRet (wAnd (wIsi .bool (wVar 0)) (wAnd (wIsi .bool (wVar 1)) (w2 (cmpR .Eq) (wVar 0) (wVar 1)))))
  wSkip) wSkip)
  (w__law_same_2 T)
abbrev w__law_same_0 (T : Nat → CallT) : WS :=
  wSeqS (wIfS (wOrT (wAndT (wTest (wIsi .tuple (wVar 0))) (wTest (wIsi .tuple (wVar 1)))) (wAndT (wTest (wIsi .list (wVar 0))) (wTest (wIsi .list (wVar 1))))) (wSeqS (wRet (wAnd (w2 (cmpR .Eq) (wBlt (arg1 lenD) (wCons (wVar 0) wNil)) (wBlt (arg1 lenD) (wCons (wVar 1) wNil))) (wBlt (arg1 allD) (wCons (wLc (wRgI (wRg1 (wBlt (arg1 lenD) (wCons (wVar 0) wNil)))) (gSet 2) wYes (wCall (T 8) (wCons (w2 idxD (wVar 0) (wVar 2)) (wCons (w2 idxD (wVar 1) (wVar 2)) wNil))) [2]) wNil))))
  wSkip) wSkip)
  (w__law_same_1 T)
abbrev w__law_same (T : Nat → CallT) : WS := w__law_same_0 T
abbrev w__law_mixed_1 (T : Nat → CallT) : WS :=
  wSeqS (wRet (wLc (wRgI (wRg1 (wBlt (arg1 lenD) (wCons (wVar 1) wNil)))) (gSet 3) wYes (wPopAt 2 (wCall (T 7) (wCons (wVar 0) (wCons (wBlt (arg1 lenD) (wCons (wVar 2) wNil)) wNil)))) [3]))
  wSkip
abbrev w__law_mixed_0 (T : Nat → CallT) : WS :=
  wSeqS (wSet 2 (wBlt (arg1 listD) (wCons (wVar 1) wNil)))
  (w__law_mixed_1 T)
abbrev w__law_mixed (T : Nat → CallT) : WS := w__law_mixed_0 T
abbrev w__law_house_B1_1 (T : Nat → CallT) : WS :=
  wSeqS (wDrop (wAppend 4 (wTup (wCons (wBlt minD (wCons (w2 idxD (wVar 3) (wVar 5)) (wCons (w2 idxD (wVar 3) (wVar 6)) wNil))) (wCons (wBlt maxD (wCons (w2 idxD (wVar 3) (wVar 5)) (wCons (w2 idxD (wVar 3) (wVar 6)) wNil))) wNil)))))
  wSkip
abbrev w__law_house_B1_0 (T : Nat → CallT) : WS :=
  wSeqS (wSet 6 (w2 idxD (wLst (wCons (w2 (binD .Sub) (wVar 5) (wLit (.int 1))) (wCons (wCall (T 7) (wCons (wVar 0) (wCons (wVar 5) wNil))) (wCons (wLit (.int 0)) wNil)))) (wCall (T 7) (wCons (wVar 0) (wCons (wLit (.int 3)) wNil)))))
  (w__law_house_B1_1 T)
abbrev w__law_house_4 (T : Nat → CallT) : WS :=
  wSeqS (wRet (wTup (wCons (wVar 2) (wCons (wBlt (arg1 tupleD) (wCons (wBlt (arg1 sortedD) (wCons (wVar 4) wNil)) wNil)) wNil))))
  wSkip
abbrev w__law_house_3 (T : Nat → CallT) : WS :=
  wSeqS (wFor (wRgI (wRg2 (wLit (.int 1)) (wVar 2))) (gSet 5)
  (w__law_house_B1_0 T))
  (w__law_house_4 T)
abbrev w__law_house_2 (T : Nat → CallT) : WS :=
  wSeqS (wSet 4 (wLst wNil))
  (w__law_house_3 T)
abbrev w__law_house_1 (T : Nat → CallT) : WS :=
  wSeqS (wSet 3 (wCall (T 9) (wCons (wVar 0) (wCons (wRgL (wRg1 (wVar 2))) wNil))))
  (w__law_house_2 T)
abbrev w__law_house_0 (T : Nat → CallT) : WS :=
  wSeqS (wSet 2 (w2 (binD .Add) (wLit (.int 1)) (wCall (T 7) (wCons (wVar 0) (wCons (wVar 1) wNil)))))
  (w__law_house_1 T)
abbrev w__law_house (T : Nat → CallT) : WS := w__law_house_0 T
abbrev w__law_behind_B1_0 (T : Nat → CallT) : WS :=
  wSeqS (wIfS (wCmpT .In (wVar 1) (wVar 3)) (wSeqS (wDrop (wAppend 2 (w2 (binD .Sub) (w2 (binD .Add) (w2 idxD (wVar 3) (wLit (.int 0))) (w2 idxD (wVar 3) (wLit (.int 1)))) (wVar 1))))
  wSkip) wSkip)
  wSkip
abbrev w__law_behind_2 (T : Nat → CallT) : WS :=
  wSeqS (wRet (wBlt (arg1 sortedD) (wCons (wVar 2) wNil)))
  wSkip
abbrev w__law_behind_1 (T : Nat → CallT) : WS :=
  wSeqS (wFor (wSeq (w2 idxD (wVar 0) (wLit (.int 1)))) (gSet 3)
  (w__law_behind_B1_0 T))
  (w__law_behind_2 T)
abbrev w__law_behind_0 (T : Nat → CallT) : WS :=
  wSeqS (wSet 2 (wLst wNil))
  (w__law_behind_1 T)
abbrev w__law_behind (T : Nat → CallT) : WS := w__law_behind_0 T
abbrev w__law_stroll_B2_0 (T : Nat → CallT) : WS :=
  wSeqS (wDrop (wExtend 5 (wLc (wSeq (wCall (T 11) (wCons (wVar 1) (wCons (wVar 6) wNil)))) (gSet 7) (wCmpT .NotIn (wVar 7) (wVar 3)) (wVar 7) [7])))
  wSkip
abbrev w__law_stroll_B1_2 (T : Nat → CallT) : WS :=
  wSeqS (wIfS (wCmpT .NotEq (wVar 5) (wLst wNil)) (wSeqS (wDrop (wAppend 3 (w2 idxD (wVar 5) (wCall (T 7) (wCons (wVar 0) (wCons (wBlt (arg1 lenD) (wCons (wVar 5) wNil)) wNil))))))
  wSkip) wSkip)
  wSkip
abbrev w__law_stroll_B1_1 (T : Nat → CallT) : WS :=
  wSeqS (wFor (wSeq (wVar 3)) (gSet 6)
  (w__law_stroll_B2_0 T))
  (w__law_stroll_B1_2 T)
abbrev w__law_stroll_B1_0 (T : Nat → CallT) : WS :=
  wSeqS (wSet 5 (wLst wNil))
  (w__law_stroll_B1_1 T)
abbrev w__law_stroll_2 (T : Nat → CallT) : WS :=
  wSeqS (wRet (wBlt (arg1 tupleD) (wCons (wBlt (arg1 sortedD) (wCons (wVar 3) wNil)) wNil)))
  wSkip
abbrev w__law_stroll_1 (T : Nat → CallT) : WS :=
  wSeqS (wFor (wRgI (wRg1 (wCall (T 7) (wCons (wVar 0) (wCons (wVar 2) wNil))))) (gSet 4)
  (w__law_stroll_B1_0 T))
  (w__law_stroll_2 T)
abbrev w__law_stroll_0 (T : Nat → CallT) : WS :=
  wSeqS (wSet 3 (wLst (wCons (wCall (T 7) (wCons (wVar 0) (wCons (w2 idxD (wVar 1) (wLit (.int 0))) wNil))) wNil)))
  (w__law_stroll_1 T)
abbrev w__law_stroll (T : Nat → CallT) : WS := w__law_stroll_0 T
abbrev w__law_strolls_0 (T : Nat → CallT) : WS :=
  wSeqS (wRet (wBlt (arg1 tupleD) (wCons (wLc (wRgI (wRg1 (wVar 2))) (gSet 4) wYes (wCall (T 12) (wCons (wVar 0) (wCons (wVar 1) (wCons (wVar 3) wNil)))) [4]) wNil)))
  wSkip
abbrev w__law_strolls (T : Nat → CallT) : WS := w__law_strolls_0 T
abbrev w__law_due_B2_0 (T : Nat → CallT) : WS :=
  wSeqS (wIfS (wNotT (wTest (wBlt (arg1 anyD) (wCons (wLc (wSeq (w2 idxD (wVar 1) (wVar 5))) (gSet 3) wYes (w2 (cmpR .In) (wVar 3) (w2 idxD (wVar 1) (wVar 6))) [3]) wNil)))) (wSeqS (wRet (wTup (wCons (wLit (.str "apart")) (wCons (wVar 5) (wCons (wVar 6) wNil)))))
  wSkip) wSkip)
  wSkip
abbrev w__law_due_B1_0 (T : Nat → CallT) : WS :=
  wSeqS (wFor (wRgI (wRg2 (w2 (binD .Add) (wVar 5) (wLit (.int 1))) (wBlt (arg1 lenD) (wCons (wVar 1) wNil)))) (gSet 6)
  (w__law_due_B2_0 T))
  wSkip
abbrev w__law_due_3 (T : Nat → CallT) : WS :=
  wSeqS (wRet (wLit .non))
  wSkip
abbrev w__law_due_2 (T : Nat → CallT) : WS :=
  wSeqS (wFor (wRgI (wRg1 (wBlt (arg1 lenD) (wCons (wVar 1) wNil)))) (gSet 5)
  (w__law_due_B1_0 T))
  (w__law_due_3 T)
abbrev w__law_due_1 (T : Nat → CallT) : WS :=
  wSeqS (wIfS (wCmpT .NotEq (wVar 2) (wLst wNil)) (wSeqS (wRet (wTup (wCons (wLit (.str "room")) (wCons (w2 idxD (wVar 2) (wLit (.int 0))) wNil))))
  wSkip) wSkip)
  (w__law_due_2 T)
abbrev w__law_due_0 (T : Nat → CallT) : WS :=
  wSeqS (wSet 2 (wLc (wRgI (wRg1 (w2 idxD (wVar 0) (wLit (.int 0))))) (gSet 3) (wTest (wBlt (arg1 allD) (wCons (wLc (wSeq (wVar 1)) (gSet 4) wYes (w2 (cmpR .In) (wVar 3) (wVar 4)) [4]) wNil))) (wVar 3) [3]))
  (w__law_due_1 T)
abbrev w__law_due (T : Nat → CallT) : WS := w__law_due_0 T
abbrev w__law_through_B3_0 (T : Nat → CallT) : WS :=
  wSeqS (wDrop (wExtend 9 (wLc (wSeq (wCall (T 11) (wCons (wVar 1) (wCons (wVar 10) wNil)))) (gSet 11) (wCmpT .NotIn (wVar 11) (wVar 7)) (wVar 11) [11])))
  wSkip
abbrev w__law_through_B2_2 (T : Nat → CallT) : WS :=
  wSeqS (wIfS (wCmpT .NotEq (wVar 9) (wLst wNil)) (wSeqS (wDrop (wAppend 7 (w2 idxD (wVar 9) (wCall (T 7) (wCons (wVar 0) (wCons (wBlt (arg1 lenD) (wCons (wVar 9) wNil)) wNil))))))
  wSkip) wSkip)
  wSkip
abbrev w__law_through_B2_1 (T : Nat → CallT) : WS :=
  wSeqS (wFor (wSeq (wVar 7)) (gSet 10)
  (w__law_through_B3_0 T))
  (w__law_through_B2_2 T)
abbrev w__law_through_B2_0 (T : Nat → CallT) : WS :=
  wSeqS (wSet 9 (wLst wNil))
  (w__law_through_B2_1 T)
abbrev w__law_through_B1_2 (T : Nat → CallT) : WS :=
  wSeqS (wDrop (wAppend 5 (wBlt (arg1 tupleD) (wCons (wBlt (arg1 sortedD) (wCons (wVar 7) wNil)) wNil))))
  wSkip
abbrev w__law_through_B1_1 (T : Nat → CallT) : WS :=
  wSeqS (wFor (wRgI (wRg1 (wCall (T 7) (wCons (wVar 0) (wCons (wVar 4) wNil))))) (gSet 8)
  (w__law_through_B2_0 T))
  (w__law_through_B1_2 T)
abbrev w__law_through_B1_0 (T : Nat → CallT) : WS :=
  wSeqS (wSet 7 (wLst (wCons (wVar 2) wNil)))
  (w__law_through_B1_1 T)
abbrev w__law_through_2 (T : Nat → CallT) : WS :=
  wSeqS (wRet (wBlt (arg1 tupleD) (wCons (wVar 5) wNil)))
  wSkip
abbrev w__law_through_1 (T : Nat → CallT) : WS :=
  wSeqS (wFor (wRgI (wRg1 (wVar 3))) (gSet 6)
  (w__law_through_B1_0 T))
  (w__law_through_2 T)
abbrev w__law_through_0 (T : Nat → CallT) : WS :=
  wSeqS (wSet 5 (wLst wNil))
  (w__law_through_1 T)
abbrev w__law_through (T : Nat → CallT) : WS := w__law_through_0 T
abbrev w_law_B2_1 (T : Nat → CallT) : WS :=
  wSeqS (wIfS (wOrT (wCmpT .Is (wVar 8) (wLit .non)) (wNotT (wTest (wCall (T 8) (wCons (wCall (T 3) (wCons (wVar 3) (wCons (wVar 7) wNil))) (wCons (wVar 8) wNil)))))) (wSeqS (wRet (wLit (.bl false)))
  wSkip) wSkip)
  wSkip
abbrev w_law_B2_0 (T : Nat → CallT) : WS :=
  wSeqS (wSet 8 (wCall (T 14) (wCons (wVar 3) (wCons (wVar 7) wNil))))
  (w_law_B2_1 T)
abbrev w_law_B1_6 (T : Nat → CallT) : WS :=
  wSeqS (wIfS (wCmpT .NotEq (w2 idxD (wCall (T 14) (wCons (wVar 3) (wCons (w2 idxD (wVar 6) (wLit (.int 1))) wNil))) (wLit (.int 0))) (wLit (.str "room"))) (wSeqS (wRet (wLit (.bl false)))
  wSkip) wSkip)
  wSkip
abbrev w_law_B1_5 (T : Nat → CallT) : WS :=
  wSeqS (wFor (wSeq (wVar 6)) (gSet 7)
  (w_law_B2_0 T))
  (w_law_B1_6 T)
abbrev w_law_B1_4 (T : Nat → CallT) : WS :=
  wSeqS (wDrop (wAppend 6 (wCut (w2 (binD .Add) (w2 idxD (wVar 6) (wLit (.int 1))) (wCall (T 13) (wCons (wVar 1) (wCons (wVar 3) (wCons (wLit (.int 1)) (wCons (wLit (.int 4)) wNil)))))) (wPart (w1 negD (wLit (.int 24)))) wNoPart)))
  (w_law_B1_5 T)
abbrev w_law_B1_3 (T : Nat → CallT) : WS :=
  wSeqS (wSet 6 (wLst (wCons (wCall (T 13) (wCons (wVar 1) (wCons (wVar 3) (wCons (wVar 4) (wCons (wVar 2) wNil))))) (wCons (wCall (T 15) (wCons (wVar 1) (wCons (wVar 3) (wCons (wVar 5) (wCons (wVar 4) (wCons (wVar 2) wNil)))))) wNil))))
  (w_law_B1_4 T)
abbrev w_law_B1_2 (T : Nat → CallT) : WS :=
  wSeqS (wSet 5 (wCall (T 7) (wCons (wVar 1) (wCons (w2 idxD (wVar 3) (wLit (.int 0))) wNil))))
  (w_law_B1_3 T)
abbrev w_law_B1_1 (T : Nat → CallT) : WS :=
  wSeqS (wSet 4 (w2 (binD .Add) (wLit (.int 1)) (wCall (T 7) (wCons (wVar 1) (wCons (wIf (wCmpT .Eq (wVar 2) (wLit (.int 8))) (wLit (.int 6)) (wLit (.int 24))) wNil)))))
  (w_law_B1_2 T)
abbrev w_law_B1_0 (T : Nat → CallT) : WS :=
  wSeqS (wSet 3 (wCall (T 10) (wCons (wVar 1) (wCons (wVar 2) wNil))))
  (w_law_B1_1 T)
abbrev w_law_1 (T : Nat → CallT) : WS :=
  wSeqS (wRet (wLit (.bl true)))
  wSkip
abbrev w_law_0 (T : Nat → CallT) : WS :=
  wSeqS (wFor (wSeq (wTup (wCons (wLit (.int 8)) (wCons (wLit (.int 8)) (wCons (wLit (.int 24)) wNil))))) (gSet 2)
  (w_law_B1_0 T))
  (w_law_1 T)
abbrev w_law (T : Nat → CallT) : WS := w_law_0 T
/-- the top's names -/
structure Gf (mg : Str → Option Value) : Prop where
  b_all : mg "all" = none
  b_any : mg "any" = none
  b_bool : mg "bool" = none
  b_int : mg "int" = none
  b_isinstance : mg "isinstance" = none
  b_len : mg "len" = none
  b_list : mg "list" = none
  b_max : mg "max" = none
  b_min : mg "min" = none
  b_range : mg "range" = none
  b_sorted : mg "sorted" = none
  b_str : mg "str" = none
  b_tuple : mg "tuple" = none
structure Cs (P : Program) (w : World) (K : Frag) (mg : Str → Option Value) (base : Heap) (k : Nat) (T : Nat → CallT) : Prop where
  c_have_room : Cf P w K mg base TapeK k "have_room" 2 (T 1)
  c_shown_by_strolls : Cf P w K mg base TapeK k "shown_by_strolls" 1 (T 2)
  c_gather : Cf P w K mg base TapeK k "gather" 2 (T 3)
  c__law_take : Cf P w K mg base TapeK k "_law_take" 2 (T 7)
  c__law_same : Cf P w K mg base TapeK k "_law_same" 2 (T 8)
  c__law_mixed : Cf P w K mg base TapeK k "_law_mixed" 2 (T 9)
  c__law_house : Cf P w K mg base TapeK k "_law_house" 2 (T 10)
  c__law_behind : Cf P w K mg base TapeK k "_law_behind" 2 (T 11)
  c__law_stroll : Cf P w K mg base TapeK k "_law_stroll" 3 (T 12)
  c__law_strolls : Cf P w K mg base TapeK k "_law_strolls" 4 (T 13)
  c__law_due : Cf P w K mg base TapeK k "_law_due" 2 (T 14)
  c__law_through : Cf P w K mg base TapeK k "_law_through" 5 (T 15)
section
variable {P : Program} {w : World} {K : Frag} {mg : Str → Option Value} {base : Heap} {T : Nat → CallT} {k : Nat} {f : Addr} {fd : FuncData} 
theorem ok_have_room (F : Fun K "have_room" "have_room" s_have_room f fd) (G : Gf mg ) (C : Cs P w K mg base k T) : FnOk P w K mg base CX0 (k + 1) f fd ["one", "other"] (spI K TapeK 2 (callOf 3 2 (w_have_room T))) :=
  mkFn (N := N_have_room) F sc_have_room rfl fun cdv A outer s H E hr =>
  (sssCons (ssRet (sany G.b_any (sacons (sLc (own := [("r", 2)]) rfl sc_have_room.nd (sSeq (sv 0)) (blkOk_by (by rfl)) (fun s_ H_ C_ cl_ fp_ => (sgn 2 sc_have_room.nd)) (fun s_ H_ C_ cl_ fp_ => sYes) (fun s_ H_ C_ cl_ fp_ => (sc hr (sv 2) (sv 1))) (fun _ => rfl)) sNil)))
  sssNil)
theorem ok_shown_by_strolls (F : Fun K "shown_by_strolls" "shown_by_strolls" s_shown_by_strolls f fd) (G : Gf mg ) (C : Cs P w K mg base k T) : FnOk P w K mg base CX0 (k + 1) f fd ["strolls"] (spI K TapeK 1 (callOf 4 1 (w_shown_by_strolls T))) :=
  mkFn (N := N_shown_by_strolls) F sc_shown_by_strolls rfl fun cdv A outer s H E hr =>
  (sssCons (ssset 1 sc_shown_by_strolls.nd (slen G.b_len (sacons (sv 0) sNil)))
  (sssCons (ssRet (sTup (sacons (sv 1) (sacons (stuple G.b_tuple (sacons (sLc2 (own := [("i", 2), ("j", 3)]) rfl sc_shown_by_strolls.nd (srgi1 G.b_range (sv 1)) (blkOk_by (by rfl)) (by decide) (fun s_ H_ C_ cl_ fp_ => (sgMono (sgn 2 sc_shown_by_strolls.nd) (by decide))) (fun s_ H_ C_ cl_ fp_ => sYes) (fun s_ H_ C_ cl_ fp_ => (srgi2 G.b_range (sb (sv 2) sInt) (sv 1))) (fun s_ H_ C_ cl_ fp_ => (sgn 3 sc_shown_by_strolls.nd)) (fun s_ H_ C_ cl_ fp_ => (sIfs (stst (sCallF C.c_have_room hr rfl (sacons (six (sv 0) (sv 2)) (sacons (six (sv 0) (sv 3)) sNil)))))) (fun s_ H_ C_ cl_ fp_ => (sTup (sacons (sv 2) (sacons (sv 3) sNil)))) (fun _ => rfl) (fun _ _ => rfl)) sNil)) sNil))))
  sssNil))
theorem ok_gather (F : Fun K "gather" "gather" s_gather f fd) (G : Gf mg ) (C : Cs P w K mg base k T) : FnOk P w K mg base CX0 (k + 1) f fd ["house", "strolls"] (spI K TapeK 2 (callOf 8 2 (w_gather T))) :=
  mkFn (N := N_gather) F sc_gather rfl fun cdv A outer s H E hr =>
  (sssCons (ssFor PassesOwn.never rfl (srgi1 G.b_range (six (sv 0) sInt)) (sgn 2 sc_gather.nd)
  (sssCons (ssIf (stst (sall G.b_all (sacons (sLc (own := [("stroll", 3)]) rfl sc_gather.nd (sSeq (sv 1)) (blkOk_by (by rfl)) (fun s_ H_ C_ cl_ fp_ => (sgn 3 sc_gather.nd)) (fun s_ H_ C_ cl_ fp_ => sYes) (fun s_ H_ C_ cl_ fp_ => (sc hr (sv 2) (sv 3))) (fun _ => rfl)) sNil))) (sssCons (ssRet (sTup (sacons sStr (sacons (sv 2) sNil))))
  sssNil) sssNil)
  sssNil))
  (sssCons (ssset 4 sc_gather.nd (six (sCallF C.c_shown_by_strolls hr rfl (sacons (sv 1) sNil)) sInt))
  (sssCons (ssset 5 sc_gather.nd (slen G.b_len (sacons (sv 1) sNil)))
  (sssCons (ssRet (sb (sTup (sacons sStr sNil)) (six (sLc2 (own := [("i", 6), ("j", 7)]) rfl sc_gather.nd (srgi1 G.b_range (sv 5)) (blkOk_by (by rfl)) (by decide) (fun s_ H_ C_ cl_ fp_ => (sgMono (sgn 6 sc_gather.nd) (by decide))) (fun s_ H_ C_ cl_ fp_ => sYes) (fun s_ H_ C_ cl_ fp_ => (srgi2 G.b_range (sb (sv 6) sInt) (sv 5))) (fun s_ H_ C_ cl_ fp_ => (sgn 7 sc_gather.nd)) (fun s_ H_ C_ cl_ fp_ => (sIfs (sct hr (sTup (sacons (sv 6) (sacons (sv 7) sNil))) (sv 4)))) (fun s_ H_ C_ cl_ fp_ => (sTup (sacons (sv 6) (sacons (sv 7) sNil)))) (fun _ => rfl) (fun _ _ => rfl)) sInt)))
  sssNil))))
theorem ok__law_same (F : Fun K "_law_same" "_law_same" s__law_same f fd) (G : Gf mg ) (C : Cs P w K mg base k T) : FnOk P w K mg base CX0 (k + 1) f fd ["a", "b"] (spI K TapeK 2 (callOf 3 2 (w__law_same T))) :=
  mkFn (N := N__law_same) F sc__law_same rfl fun cdv A outer s H E hr =>
  (sssCons (ssIf (PW.pt (sOrT (PW.pt (sAndT (stst (sisi .tuple G.b_isinstance G.b_tuple (sv 0))) (sandt1 (stst (sisi .tuple G.b_isinstance G.b_tuple (sv 1)))))) (sort1 (PW.pt (sAndT (stst (sisi .list G.b_isinstance G.b_list (sv 0))) (sandt1 (stst (sisi .list G.b_isinstance G.b_list (sv 1))))))))) (sssCons (ssRet (sAnd (sc hr (slen G.b_len (sacons (sv 0) sNil)) (slen G.b_len (sacons (sv 1) sNil))) (sone (sall G.b_all (sacons (sLc (own := [("k", 2)]) rfl sc__law_same.nd (srgi1 G.b_range (slen G.b_len (sacons (sv 0) sNil))) (blkOk_by (by rfl)) (fun s_ H_ C_ cl_ fp_ => (sgn 2 sc__law_same.nd)) (fun s_ H_ C_ cl_ fp_ => sYes) (fun s_ H_ C_ cl_ fp_ => (sCallF C.c__law_same hr rfl (sacons (six (sv 0) (sv 2)) (sacons (six (sv 1) (sv 2)) sNil)))) (fun _ => rfl)) sNil)))))
  sssNil) sssNil)
  (sssCons (ssIf (PW.pt (sOrT (stst (sisi .bool G.b_isinstance G.b_bool (sv 0))) (sort1 (stst (sisi .bool G.b_isinstance G.b_bool (sv 1)))))) (sssCons (ssRet (sAnd (sisi .bool G.b_isinstance G.b_bool (sv 0)) (sAnd (sisi .bool G.b_isinstance G.b_bool (sv 1)) (sone (sc hr (sv 0) (sv 1))))))
  sssNil) sssNil)
  (sssCons (ssIf (PW.pt (sOrT (PW.pt (sAndT (stst (sisi .int G.b_isinstance G.b_int (sv 0))) (sandt1 (stst (sisi .int G.b_isinstance G.b_int (sv 1)))))) (sort1 (PW.pt (sAndT (stst (sisi .str G.b_isinstance G.b_str (sv 0))) (sandt1 (stst (sisi .str G.b_isinstance G.b_str (sv 1))))))))) (sssCons (ssRet (sc hr (sv 0) (sv 1)))
  sssNil) sssNil)
  (sssCons (ssRet (sAnd (sc hr (sv 0) sNon) (sone (sc hr (sv 1) sNon))))
  sssNil))))
theorem ok__law_mixed (F : Fun K "_law_mixed" "_law_mixed" s__law_mixed f fd) (G : Gf mg ) (C : Cs P w K mg base k T) : FnOk P w K mg base CX0 (k + 1) f fd ["tape", "row"] (spI K TapeK 2 (callOf 4 2 (w__law_mixed T))) :=
  mkFn (N := N__law_mixed) F sc__law_mixed rfl fun cdv A outer s H E hr =>
  (sssCons (ssset 2 sc__law_mixed.nd (slist G.b_list (sacons (sv 1) sNil)))
  (sssCons (ssRet (sLc (own := [("k", 3)]) rfl sc__law_mixed.nd (srgi1 G.b_range (slen G.b_len (sacons (sv 1) sNil))) (blkOk_by (by rfl)) (fun s_ H_ C_ cl_ fp_ => (sgn 3 sc__law_mixed.nd)) (fun s_ H_ C_ cl_ fp_ => sYes) (fun s_ H_ C_ cl_ fp_ => (spopat 2 (sCallF C.c__law_take hr rfl (sacons (sv 0) (sacons (slen G.b_len (sacons (sv 2) sNil)) sNil))))) (fun _ => rfl)))
  sssNil))
theorem ok__law_house (F : Fun K "_law_house" "_law_house" s__law_house f fd) (G : Gf mg ) (C : Cs P w K mg base k T) : FnOk P w K mg base CX0 (k + 1) f fd ["tape", "most"] (spI K TapeK 2 (callOf 7 2 (w__law_house T))) :=
  mkFn (N := N__law_house) F sc__law_house rfl fun cdv A outer s H E hr =>
  (sssCons (ssset 2 sc__law_house.nd (sb sInt (sCallF C.c__law_take hr rfl (sacons (sv 0) (sacons (sv 1) sNil)))))
  (sssCons (ssset 3 sc__law_house.nd (sCallF C.c__law_mixed hr rfl (sacons (sv 0) (sacons (srgl G.b_list (srg1 G.b_range (sv 2))) sNil))))
  (sssCons (ssset 4 sc__law_house.nd (sLst sNil))
  (sssCons (ssFor PassesOwn.never rfl (srgi2 G.b_range sInt (sv 2)) (sgn 5 sc__law_house.nd)
  (sssCons (ssset 6 sc__law_house.nd (six (sLst (sacons (sb (sv 5) sInt) (sacons (sCallF C.c__law_take hr rfl (sacons (sv 0) (sacons (sv 5) sNil))) (sacons sInt sNil)))) (sCallF C.c__law_take hr rfl (sacons (sv 0) (sacons sInt sNil)))))
  (sssCons (ssDrop (sappend 4 (sTup (sacons (smin G.b_min (sacons (six (sv 3) (sv 5)) (sacons (six (sv 3) (sv 6)) sNil))) (sacons (smax G.b_max (sacons (six (sv 3) (sv 5)) (sacons (six (sv 3) (sv 6)) sNil))) sNil)))))
  sssNil)))
  (sssCons (ssRet (sTup (sacons (sv 2) (sacons (stuple G.b_tuple (sacons (ssorted hr G.b_sorted (sacons (sv 4) sNil)) sNil)) sNil))))
  sssNil)))))
theorem ok__law_behind (F : Fun K "_law_behind" "_law_behind" s__law_behind f fd) (G : Gf mg ) (C : Cs P w K mg base k T) : FnOk P w K mg base CX0 (k + 1) f fd ["land", "r"] (spI K TapeK 2 (callOf 4 2 (w__law_behind T))) :=
  mkFn (N := N__law_behind) F sc__law_behind rfl fun cdv A outer s H E hr =>
  (sssCons (ssset 2 sc__law_behind.nd (sLst sNil))
  (sssCons (ssFor PassesOwn.never rfl (sSeq (six (sv 0) sInt)) (sgn 3 sc__law_behind.nd)
  (sssCons (ssIf (sct hr (sv 1) (sv 3)) (sssCons (ssDrop (sappend 2 (sb (sb (six (sv 3) sInt) (six (sv 3) sInt)) (sv 1))))
  sssNil) sssNil)
  sssNil))
  (sssCons (ssRet (ssorted hr G.b_sorted (sacons (sv 2) sNil)))
  sssNil)))
theorem ok__law_stroll (F : Fun K "_law_stroll" "_law_stroll" s__law_stroll f fd) (G : Gf mg ) (C : Cs P w K mg base k T) : FnOk P w K mg base CX0 (k + 1) f fd ["tape", "land", "most"] (spI K TapeK 3 (callOf 8 3 (w__law_stroll T))) :=
  mkFn (N := N__law_stroll) F sc__law_stroll rfl fun cdv A outer s H E hr =>
  (sssCons (ssset 3 sc__law_stroll.nd (sLst (sacons (sCallF C.c__law_take hr rfl (sacons (sv 0) (sacons (six (sv 1) sInt) sNil))) sNil)))
  (sssCons (ssFor PassesOwn.never rfl (srgi1 G.b_range (sCallF C.c__law_take hr rfl (sacons (sv 0) (sacons (sv 2) sNil)))) (sgn 4 sc__law_stroll.nd)
  (sssCons (ssset 5 sc__law_stroll.nd (sLst sNil))
  (sssCons (ssFor PassesOwn.never rfl (sSeq (sv 3)) (sgn 6 sc__law_stroll.nd)
  (sssCons (ssDrop (sextend 5 (sLc (own := [("s", 7)]) rfl sc__law_stroll.nd (sSeq (sCallF C.c__law_behind hr rfl (sacons (sv 1) (sacons (sv 6) sNil)))) (blkOk_by (by rfl)) (fun s_ H_ C_ cl_ fp_ => (sgn 7 sc__law_stroll.nd)) (fun s_ H_ C_ cl_ fp_ => (sIfs (sct hr (sv 7) (sv 3)))) (fun s_ H_ C_ cl_ fp_ => (sv 7)) (fun _ => rfl))))
  sssNil))
  (sssCons (ssIf (sct hr (sv 5) (sLst sNil)) (sssCons (ssDrop (sappend 3 (six (sv 5) (sCallF C.c__law_take hr rfl (sacons (sv 0) (sacons (slen G.b_len (sacons (sv 5) sNil)) sNil))))))
  sssNil) sssNil)
  sssNil))))
  (sssCons (ssRet (stuple G.b_tuple (sacons (ssorted hr G.b_sorted (sacons (sv 3) sNil)) sNil)))
  sssNil)))
theorem ok__law_strolls (F : Fun K "_law_strolls" "_law_strolls" s__law_strolls f fd) (G : Gf mg ) (C : Cs P w K mg base k T) : FnOk P w K mg base CX0 (k + 1) f fd ["tape", "land", "many", "most"] (spI K TapeK 4 (callOf 5 4 (w__law_strolls T))) :=
  mkFn (N := N__law_strolls) F sc__law_strolls rfl fun cdv A outer s H E hr =>
  (sssCons (ssRet (stuple G.b_tuple (sacons (sLc (own := [("k", 4)]) rfl sc__law_strolls.nd (srgi1 G.b_range (sv 2)) (blkOk_by (by rfl)) (fun s_ H_ C_ cl_ fp_ => (sgn 4 sc__law_strolls.nd)) (fun s_ H_ C_ cl_ fp_ => sYes) (fun s_ H_ C_ cl_ fp_ => (sCallF C.c__law_stroll hr rfl (sacons (sv 0) (sacons (sv 1) (sacons (sv 3) sNil))))) (fun _ => rfl)) sNil)))
  sssNil)
theorem ok__law_due (F : Fun K "_law_due" "_law_due" s__law_due f fd) (G : Gf mg ) (C : Cs P w K mg base k T) : FnOk P w K mg base CX0 (k + 1) f fd ["land", "strolls"] (spI K TapeK 2 (callOf 7 2 (w__law_due T))) :=
  mkFn (N := N__law_due) F sc__law_due rfl fun cdv A outer s H E hr =>
  (sssCons (ssSetLc (i := 2) (own := [("r", 3)]) rfl sc__law_due.nd rfl rfl (sw_true rfl rfl rfl rfl) (srgi1 G.b_range (six (sv 0) sInt)) (blkOk_by (by rfl)) (fun s_ H_ C_ cl_ fp_ => (sgn 3 sc__law_due.nd)) (fun s_ H_ C_ cl_ fp_ => (sIfs (stst (sall G.b_all (sacons (sLc (own := [("stroll", 4)]) rfl sc__law_due.nd (sSeq (sv 1)) (blkOk_by (by rfl)) (fun s_ H_ C_ cl_ fp_ => (sgn 4 sc__law_due.nd)) (fun s_ H_ C_ cl_ fp_ => sYes) (fun s_ H_ C_ cl_ fp_ => (sc hr (sv 3) (sv 4))) (fun _ => rfl)) sNil))))) (fun s_ H_ C_ cl_ fp_ => (sv 3)) (fun _ => rfl))
  (sssCons (ssIf (sct hr (sv 2) (sLst sNil)) (sssCons (ssRet (sTup (sacons sStr (sacons (six (sv 2) sInt) sNil))))
  sssNil) sssNil)
  (sssCons (ssFor PassesOwn.never rfl (srgi1 G.b_range (slen G.b_len (sacons (sv 1) sNil))) (sgn 5 sc__law_due.nd)
  (sssCons (ssFor PassesOwn.never rfl (srgi2 G.b_range (sb (sv 5) sInt) (slen G.b_len (sacons (sv 1) sNil))) (sgn 6 sc__law_due.nd)
  (sssCons (ssIf (sNotT (stst (sany G.b_any (sacons (sLc (own := [("r", 3)]) rfl sc__law_due.nd (sSeq (six (sv 1) (sv 5))) (blkOk_by (by rfl)) (fun s_ H_ C_ cl_ fp_ => (sgn 3 sc__law_due.nd)) (fun s_ H_ C_ cl_ fp_ => sYes) (fun s_ H_ C_ cl_ fp_ => (sc hr (sv 3) (six (sv 1) (sv 6)))) (fun _ => rfl)) sNil)))) (sssCons (ssRet (sTup (sacons sStr (sacons (sv 5) (sacons (sv 6) sNil)))))
  sssNil) sssNil)
  sssNil))
  sssNil))
  (sssCons (ssRet sNon)
  sssNil))))
theorem ok__law_through (F : Fun K "_law_through" "_law_through" s__law_through f fd) (G : Gf mg ) (C : Cs P w K mg base k T) : FnOk P w K mg base CX0 (k + 1) f fd ["tape", "land", "room", "many", "most"] (spI K TapeK 5 (callOf 12 5 (w__law_through T))) :=
  mkFn (N := N__law_through) F sc__law_through rfl fun cdv A outer s H E hr =>
  (sssCons (ssset 5 sc__law_through.nd (sLst sNil))
  (sssCons (ssFor PassesOwn.never rfl (srgi1 G.b_range (sv 3)) (sgn 6 sc__law_through.nd)
  (sssCons (ssset 7 sc__law_through.nd (sLst (sacons (sv 2) sNil)))
  (sssCons (ssFor PassesOwn.never rfl (srgi1 G.b_range (sCallF C.c__law_take hr rfl (sacons (sv 0) (sacons (sv 4) sNil)))) (sgn 8 sc__law_through.nd)
  (sssCons (ssset 9 sc__law_through.nd (sLst sNil))
  (sssCons (ssFor PassesOwn.never rfl (sSeq (sv 7)) (sgn 10 sc__law_through.nd)
  (sssCons (ssDrop (sextend 9 (sLc (own := [("s", 11)]) rfl sc__law_through.nd (sSeq (sCallF C.c__law_behind hr rfl (sacons (sv 1) (sacons (sv 10) sNil)))) (blkOk_by (by rfl)) (fun s_ H_ C_ cl_ fp_ => (sgn 11 sc__law_through.nd)) (fun s_ H_ C_ cl_ fp_ => (sIfs (sct hr (sv 11) (sv 7)))) (fun s_ H_ C_ cl_ fp_ => (sv 11)) (fun _ => rfl))))
  sssNil))
  (sssCons (ssIf (sct hr (sv 9) (sLst sNil)) (sssCons (ssDrop (sappend 7 (six (sv 9) (sCallF C.c__law_take hr rfl (sacons (sv 0) (sacons (slen G.b_len (sacons (sv 9) sNil)) sNil))))))
  sssNil) sssNil)
  sssNil))))
  (sssCons (ssDrop (sappend 5 (stuple G.b_tuple (sacons (ssorted hr G.b_sorted (sacons (sv 7) sNil)) sNil))))
  sssNil))))
  (sssCons (ssRet (stuple G.b_tuple (sacons (sv 5) sNil)))
  sssNil)))
theorem law_rest {cdv : Value} {A : Around} {outer : List Env} {s : Shared} {H : Hp} {E : XK} (G : Gf mg ) (C : Cs P w K mg base k T) (hr : Room k (A.deeper (envOfC "law" (defScope s_law) s.heap.objs.size f cdv))) :
    PSs (cxOf CX0 P w K mg base N_law "law" (defScope s_law) f cdv A outer s H E).nox ((defBody s_law).drop 1) (tS K TapeK (w_law T)) :=
  (sssCons (ssFor PassesOwn.never rfl (sSeq (sTup (sacons sInt (sacons sInt (sacons sInt sNil))))) (sgn 2 sc_law.nd)
  (sssCons (ssset 3 sc_law.nd (sCallF C.c__law_house hr rfl (sacons (sv 1) (sacons (sv 2) sNil))))
  (sssCons (ssset 4 sc_law.nd (sb sInt (sCallF C.c__law_take hr rfl (sacons (sv 1) (sacons (sIf (sct hr (sv 2) sInt) sInt sInt) sNil)))))
  (sssCons (ssset 5 sc_law.nd (sCallF C.c__law_take hr rfl (sacons (sv 1) (sacons (six (sv 3) sInt) sNil))))
  (sssCons (ssset 6 sc_law.nd (sLst (sacons (sCallF C.c__law_strolls hr rfl (sacons (sv 1) (sacons (sv 3) (sacons (sv 4) (sacons (sv 2) sNil))))) (sacons (sCallF C.c__law_through hr rfl (sacons (sv 1) (sacons (sv 3) (sacons (sv 5) (sacons (sv 4) (sacons (sv 2) sNil)))))) sNil))))
  (sssCons (ssDrop (sappend 6 (sCut (sb (six (sv 6) sInt) (sCallF C.c__law_strolls hr rfl (sacons (sv 1) (sacons (sv 3) (sacons sInt (sacons sInt sNil)))))) (sPart (sNeg sInt)) sNoPart)))
  (sssCons (ssFor PassesOwn.never rfl (sSeq (sv 6)) (sgn 7 sc_law.nd)
  (sssCons (ssset 8 sc_law.nd (sCallF C.c__law_due hr rfl (sacons (sv 3) (sacons (sv 7) sNil))))
  (sssCons (ssIf (PW.pt (sOrT (sct hr (sv 8) sNon) (sort1 (sNotT (stst (sCallF C.c__law_same hr rfl (sacons (sCallF C.c_gather hr rfl (sacons (sv 3) (sacons (sv 7) sNil))) (sacons (sv 8) sNil)))))))) (sssCons (ssRet sBl)
  sssNil) sssNil)
  sssNil)))
  (sssCons (ssIf (sct hr (six (sCallF C.c__law_due hr rfl (sacons (sv 3) (sacons (six (sv 6) sInt) sNil))) sInt) sStr) (sssCons (ssRet sBl)
  sssNil) sssNil)
  sssNil))))))))
  (sssCons (ssRet sBl)
  sssNil))
end
/-- one turn more of depth -/
def stepT (T : Nat → CallT) : Nat → CallT
  | 1 => callOf 3 2 (w_have_room T)
  | 2 => callOf 4 1 (w_shown_by_strolls T)
  | 3 => callOf 8 2 (w_gather T)
  | 7 => drawT
  | 8 => callOf 3 2 (w__law_same T)
  | 9 => callOf 4 2 (w__law_mixed T)
  | 10 => callOf 7 2 (w__law_house T)
  | 11 => callOf 4 2 (w__law_behind T)
  | 12 => callOf 8 3 (w__law_stroll T)
  | 13 => callOf 5 4 (w__law_strolls T)
  | 14 => callOf 7 2 (w__law_due T)
  | 15 => callOf 12 5 (w__law_through T)
  | _ => fun _ _ => False
@[irreducible] noncomputable def TT (d : Nat) : Nat → CallT := Nat.rec (fun _ _ _ => False) (fun _ T => stepT T) d
theorem TT_zero : TT 0 = fun _ _ _ => False := by unfold TT; exact rfl
theorem TT_succ (d : Nat) : TT (d + 1) = stepT (TT d) := by unfold TT; exact rfl
end Lw

set_option Elab.async false
set_option linter.all false
set_option maxRecDepth 100000
set_option maxHeartbeats 1000000
set_option autoImplicit false
namespace Lw
open PySem L2 PySem.Spec PyProof.Rows Ip
section
variable {P : Program} {w : World} {K : Frag} {mg : Str → Option Value} {base : Heap} {f : Addr} {fd : FuncData}
theorem mulR {i j : Int} (h : Builtin.Int.intBits j ≤ 64) : IntMulOk i j := IntMulOk.of_right h
theorem three_of {α : Type} {σ : List α} (h : σ.length = 3) : ∃ a b c, σ = [a, b, c] := by
  match σ, h with
  | [a, b, c], _ => exact ⟨a, b, c, rfl⟩
theorem four_of {α : Type} {σ : List α} (h : σ.length = 4) : ∃ a b c d, σ = [a, b, c, d] := by
  match σ, h with
  | [a, b, c, d], _ => exact ⟨a, b, c, d, rfl⟩
theorem many_small {m : Int} (h0 : 0 < m) (h : m ≤ 1000000000) : m.natAbs < 2 ^ 70 := by
  have e : (2 : Nat) ^ 70 = 1180591620717411303424 := by decide
  rw [e]
  omega
theorem mixBits {x : Int} (h0 : 0 ≤ x) (h1 : x < 18446744073709551616) : Builtin.Int.intBits x ≤ 64 := by
  unfold Builtin.Int.intBits
  split
  · decide
  · have hx : x.natAbs < 2 ^ 64 := by
      have e : (2 : Nat) ^ 64 = 18446744073709551616 := by decide
      rw [e]
      omega
    have := PySem.Flt.log2_lt_of (by decide : 0 < 64) hx
    omega
theorem ok__law_mix (F : Fun K "_law_mix" "_law_mix" s__law_mix f fd) (hint : mg "int" = none) : FnOk P w K mg base CX0 1 f fd ["number"] spMix := by
  refine F.ok sc__law_mix (fun vs H Q E h => ?_) (fun cdv A outer s H vs Q E hr h => ?_)
  · obtain ⟨i, rfl, _⟩ := h
    rfl
  · obtain ⟨i, rfl, k⟩ := h
    have nd := sc__law_mix.nd
    refine ⟨_, pss_cons (ps_set (i := 0) nd rfl (Or.inl rfl) (pe_op op_mod (pe_callTy call_int1 rfl hint boot_int (pa_cons (pe_op op_add (pe_op op_mulA (pv 0) pe_int) pe_int) pa_nil)) pe_int))
      (pss_one (ps_ret (pe_op op_mod (pe_callTy call_int1 rfl hint boot_int (pa_cons (pe_op op_add (pe_op op_fdivW (pe_op op_mulA (pv 0) (pv 0)) pe_int) (pe_op op_mulA (pv 0) pe_int)) pa_nil)) pe_int))), ?_⟩
    refine ⟨_, rfl, _, _, rfl, rfl, mulR (by decide +kernel), _, _, rfl, rfl, .inl ⟨_, rfl, _, _, rfl, rfl, (by show (0 : Int) < _; decide), ?_⟩⟩
    have hx0 : 0 ≤ (i * 6364136223846793005 + 1442695040888963407) % 18446744073709551616 := Int.emod_nonneg _ (by decide)
    have hx1 : (i * 6364136223846793005 + 1442695040888963407) % 18446744073709551616 < 18446744073709551616 := Int.emod_lt_of_pos _ (by decide)
    refine ⟨_, rfl, _, rfl, _, _, rfl, rfl, IntMulOk.of_left (mixBits hx0 hx1), _, _, rfl, rfl, wide_div (b := 64) (by decide) (by decide) (by decide) (by decide), _, rfl, _, _, rfl, rfl, mulR (by decide +kernel), _, _, rfl, rfl, .inl ⟨_, rfl, _, _, rfl, rfl, (by show (0 : Int) < _; decide), ?_⟩⟩
    exact k _ (Int.emod_nonneg _ (by decide)) (Int.emod_lt_of_pos _ (by decide))
theorem tail_take {cdv : Value} {A : Around} {outer : List Env} {s : Shared} {H : Hp} {E : XK} (hint : mg "int" = none) : PSs (cxOf CX0 P w K mg base N__law_take "_law_take" (defScope s__law_take) f cdv A outer s H E).nox ((defBody s__law_take).drop 1)
    (fun D σ H1 => ∃ b c dg many, σ[0]? = some (some (V.ref b)) ∧ σ[1]? = some (some (V.int many)) ∧ σ.length = 4 ∧ TapeAt b c H1 dg ∧ 0 ≤ dg ∧ 0 < many ∧ many ≤ 1000000000 ∧
      ∀ H' d dg', TapeAt b c H' dg' → 0 ≤ dg' → 0 ≤ d → d < many → (∀ a, a ≠ b → a ≠ c → H' a = H1 a) → D.rt (.int d) H') := by
  have nd := sc__law_take.nd
  refine pssW (pss_cons (ps_set (i := 3) nd rfl (Or.inl rfl) (pe_op op_mod (pe_callTy call_int1 rfl hint boot_int (pa_cons (pe_ix ix_list (pv 0) pe_int (fun _ _ => rfl)) pa_nil)) (pv 1)))
      (pss_cons (ps_asg (pe_op op_fdivW (pe_ix ix_list (pv 0) pe_int (fun _ _ => rfl)) (pv 1)) (pg_sub (pv 0) pe_int set_list))
      (pss_one (ps_ret (pv 3))))) fun D σ H1 h => ?_
  obtain ⟨b, c, dg, many, h0, h1, hl, ⟨ns, i, z, hb, hc, hi, hz⟩, hd, hm, hm2, k⟩ := h
  obtain ⟨y0, y1, y2, y3, rfl⟩ := four_of hl
  cases h0
  cases h1
  have hcb : c ≠ b := fun e => by
    rw [e, hb] at hc
    cases ns <;> cases hc
  refine ⟨_, rfl, b, _, 2, _, rfl, rfl, SqL.of hb, rfl, .inl ⟨_, rfl, _, rfl, _, _, rfl, rfl, hm, ?_⟩⟩
  refine ⟨_, rfl, b, _, 2, _, rfl, rfl, SqL.of hb, rfl, _, rfl, _, _, rfl, rfl, wide_div hm (many_small hm hm2) (by decide) (by decide), ?_⟩
  refine ⟨_, rfl, b, _, 2, 2, rfl, rfl, hb, rfl, ?_⟩
  exact ⟨_, rfl, k _ _ (dg / many) ⟨ns, i, z, upd_same, by rw [upd_ne hcb]; exact hc, hi, hz⟩ (Int.ediv_nonneg hd (Int.le_of_lt hm)) (Int.emod_nonneg _ (by omega)) (Int.emod_lt_of_pos _ hm) fun a n1 n2 => upd_ne n1⟩
theorem ok__law_take {fl : Addr} {fdl : FuncData} (F : Fun K "_law_take" "_law_take" s__law_take f fd) (FL : FnOk P w K mg base CX0 1 fl fdl ["number"] spMix) (bL : Binds K fdl ["number"] []) (mL : mg "_law_mix" = some (.ref fl)) (kL : PySem.W.keepIn K (.ref fl) = true) (hlen : mg "len" = none) (hint : mg "int" = none) :
    FnOk P w K mg base CX0 2 f fd ["tape", "many"] (spI K TapeK 2 drawT) := by
  refine F.ok sc__law_take (fun vs H Q E h => ?_) (fun cdv A outer s H vs Q E hr h => ?_)
  · obtain ⟨_, _, _, _, h, _⟩ := h
    exact h
  · obtain ⟨F, ds, T, C, hl, z, ⟨many, rfl, hm, hm2, hP⟩, k⟩ := h
    have nd := sc__law_take.nd
    obtain ⟨rfl⟩ : vs = [.ref F.b, .int many] := by
      cases z with
      | cons z1 z2 =>
        cases z2 with
        | cons z2 z3 =>
          cases z1
          cases z2
          cases z3
          rfl
    refine ⟨_, pss_cons (ps_if (pt_cmpR op_lt (pe_ix ix_list (pv 0) pe_int (fun _ _ => rfl)) (pv 1) (nomark _))
        (pss_one (ps_if (pt_cmpR op_lt (pe_ix ix_list (pv 0) pe_int (fun _ _ => rfl)) (pe_callB call_len rfl hlen boot_len (pa_cons (pe_ix ix_list (pv 0) pe_int (fun _ _ => rfl)) pa_nil)) (nomark _))
          (pss_cons (ps_set (i := 2) nd rfl (Or.inl rfl) (pe_ix ix_list (pe_ix ix_list (pv 0) pe_int (fun _ _ => rfl)) (pe_ix ix_list (pv 0) pe_int (fun _ _ => rfl)) (fun _ _ => rfl)))
          (pss_cons (ps_set (i := 2) nd rfl (Or.inl rfl) (pe_ifExp (pt_cmpR op_ge (pv 2) pe_int (nomark _)) (pe_op op_mulA pe_int (pv 2)) (pe_op op_sub (pe_op op_mulA (pe_un un_neg pe_int) (pv 2)) pe_int)))
          (pss_cons (ps_asg (pe_op op_add (pe_ix ix_list (pv 0) pe_int (fun _ _ => rfl)) pe_int) (pg_sub (pv 0) pe_int set_list))
          (pss_cons (ps_asg (pe_call (E := E0) (dvs := []) FL hr rfl mL kL bL .nil pass0 (pa_cons (pe_op op_add (pe_ix ix_list (pv 0) pe_int (fun _ _ => rfl)) (pv 2)) pa_nil)) (pg_sub (pv 0) pe_int set_list))
          (pss_one (ps_asg (pe_ifExp (pt_cmpR op_ge (pv 2) (pe_op op_pow pe_int pe_int) (nomark _)) (pv 2)
            (pe_call (E := E0) (dvs := []) FL hr rfl mL kL bL .nil pass0 (pa_cons (pe_op op_add (pe_call (E := E0) (dvs := []) FL hr rfl mL kL bL .nil pass0 (pa_cons (pv 2) pa_nil)) (pe_ix ix_list (pv 0) pe_int (fun _ _ => rfl))) pa_nil))) (pg_sub (pv 0) pe_int set_list)))))))
          (pss_cons (ps_asg (pe_call (E := E0) (dvs := []) FL hr rfl mL kL bL .nil pass0 (pa_cons (pe_op op_add (pe_ix ix_list (pv 0) pe_int (fun _ _ => rfl)) pe_int) pa_nil)) (pg_sub (pv 0) pe_int set_list))
          (pss_one (ps_asg (pe_ix ix_list (pv 0) pe_int (fun _ _ => rfl)) (pg_sub (pv 0) pe_int set_list)))))) pss_nil)
      (tail_take hint), ?_⟩
    obtain ⟨dg, hd, hB⟩ := C.box
    have hB0 := hB
    obtain ⟨ns, i, z', hb, hc, hi, hz⟩ := hB
    have hcb : F.c ≠ F.b := fun e => by
      rw [e, hb] at hc
      cases ns <;> cases hc
    have fin : ∀ H' d dg', TapeAt F.b F.c H' dg' → 0 ≤ dg' → 0 ≤ d → d < many → (∀ a, a ≠ F.b → a ≠ F.c → H' a = H a) → Q (.int d) H' := fun H' d dg' h1 h2 h3 h4 h5 =>
      k (.int d) (.fz (.int d)) H' ⟨⟨dg', h2, h1⟩, fun a o n1 n2 e => by rw [h5 a n1 n2, ← C.h0]; exact e, .int d⟩ (hP d h3 h4)
    -- what is asked of the tape's object ahead of the tail
    have go : ∀ (i2 dg2 z2 : Int), 0 ≤ i2 → 0 ≤ dg2 → 0 ≤ z2 → ∀ H1 : Hp, H1 F.b = some (.lst [.ref F.c, .int i2, .int dg2, .int z2]) → H1 F.c = some (.lst (ns.map V.int)) → (∀ a, a ≠ F.b → a ≠ F.c → H1 a = H a) →
        TapeAt F.b F.c H1 dg2 ∧ 0 ≤ dg2 ∧ 0 < many ∧ many ≤ 1000000000 ∧ ∀ H' d dg', TapeAt F.b F.c H' dg' → 0 ≤ dg' → 0 ≤ d → d < many → (∀ a, a ≠ F.b → a ≠ F.c → H' a = H1 a) → Q (.int d) H' :=
      fun i2 dg2 z2 p1 p2 p3 H1 e1 e2 e3 => ⟨⟨ns, i2, z2, e1, e2, p1, p3⟩, p2, hm, hm2, fun H' d dg' q1 q2 q3 q4 q5 => fin H' d dg' q1 q2 q3 q4 fun a n1 n2 => by rw [q5 a n1 n2]; exact e3 a n1 n2⟩
    refine ⟨_, rfl, F.b, _, 2, _, rfl, rfl, SqL.of hb, rfl, _, rfl, _, _, rfl, rfl, _, rfl, ite2 (fun _ => ?_) (fun _ => ?_)⟩
    · refine ⟨_, rfl, F.b, _, 1, _, rfl, rfl, SqL.of hb, rfl, _, rfl, F.b, _, 0, _, rfl, rfl, SqL.of hb, rfl, _, _, rfl, Or.inl ⟨_, SqL.of hc, rfl⟩, _, _, rfl, rfl, _, rfl, ite2 (fun q => ?_) (fun _ => ?_)⟩
      · have q : i < ((ns.map V.int).length : Nat) := of_decide_eq_true q
        rw [List.length_map] at q
        have hin : i.toNat < ns.length := by omega
        obtain ⟨n, e0⟩ : ∃ n, atI (ns.map V.int) i = some (.int n) := by
          obtain ⟨j, rfl⟩ : ∃ j : Nat, i = j := ⟨i.toNat, by omega⟩
          exact ⟨ns[j]'(by omega), atI_nat (by rw [List.getElem?_map, List.getElem?_eq_getElem (by omega)]; rfl)⟩
        refine ⟨_, rfl, F.b, _, 0, _, rfl, rfl, SqL.of hb, rfl, _, rfl, F.b, _, 1, _, rfl, rfl, SqL.of hb, rfl, F.c, _, i, _, rfl, rfl, SqL.of hc, e0, ?_⟩
        refine ⟨_, rfl, _, _, rfl, rfl, _, rfl, ite2 (fun hn => ?_) (fun hn => ?_)⟩
        · have hn := of_decide_eq_true hn
          refine ⟨_, rfl, _, _, rfl, rfl, IntMulOk.of_left (by decide +kernel), ?_⟩
          refine ⟨_, rfl, F.b, _, 1, _, rfl, rfl, SqL.of hb, rfl, _, _, rfl, rfl, _, rfl, F.b, _, 1, 1, rfl, rfl, hb, rfl, ?_⟩
          refine ⟨_, rfl, F.b, _, 3, _, rfl, rfl, SqL.of upd_same, rfl, _, rfl, _, _, rfl, rfl, _, rfl, fun r r0 r1 => ?_⟩
          refine ⟨_, rfl, F.b, _, 3, 3, rfl, rfl, upd_same, rfl, ?_⟩
          refine ⟨_, rfl, _, _, rfl, rfl, ⟨by decide, by decide, by decide⟩, _, _, rfl, rfl, _, rfl, ite2 (fun _ => ?_) (fun _ => ?_)⟩
          · refine ⟨_, rfl, _, rfl, F.b, _, 2, 2, rfl, rfl, upd_same, rfl, ?_⟩
            exact ⟨F.b, F.c, _, many, rfl, rfl, rfl, go (i + 1) _ r (by omega) (by omega) r0 _ upd_same (by rw [upd_ne hcb, upd_ne hcb, upd_ne hcb]; exact hc) fun a n1 n2 => by rw [upd_ne n1, upd_ne n1, upd_ne n1]⟩
          · refine ⟨_, rfl, _, rfl, fun r2 p0 p1 => ?_⟩
            refine ⟨_, rfl, F.b, _, 1, _, rfl, rfl, SqL.of upd_same, rfl, _, _, rfl, rfl, _, rfl, fun r3 q0 q1 => ?_⟩
            refine ⟨_, rfl, F.b, _, 2, 2, rfl, rfl, upd_same, rfl, ?_⟩
            exact ⟨F.b, F.c, r3, many, rfl, rfl, rfl, go (i + 1) r3 r (by omega) q0 r0 _ upd_same (by rw [upd_ne hcb, upd_ne hcb, upd_ne hcb]; exact hc) fun a n1 n2 => by rw [upd_ne n1, upd_ne n1, upd_ne n1]⟩
        · have hn : ¬ 0 ≤ n := fun h => hn (decide_eq_true h)
          refine ⟨_, rfl, _, rfl, _, _, rfl, rfl, IntMulOk.of_left (by decide +kernel), _, _, rfl, rfl, ?_⟩
          refine ⟨_, rfl, F.b, _, 1, _, rfl, rfl, SqL.of hb, rfl, _, _, rfl, rfl, _, rfl, F.b, _, 1, 1, rfl, rfl, hb, rfl, ?_⟩
          refine ⟨_, rfl, F.b, _, 3, _, rfl, rfl, SqL.of upd_same, rfl, _, rfl, _, _, rfl, rfl, _, rfl, fun r r0 r1 => ?_⟩
          refine ⟨_, rfl, F.b, _, 3, 3, rfl, rfl, upd_same, rfl, ?_⟩
          refine ⟨_, rfl, _, _, rfl, rfl, ⟨by decide, by decide, by decide⟩, _, _, rfl, rfl, _, rfl, ite2 (fun _ => ?_) (fun _ => ?_)⟩
          · refine ⟨_, rfl, _, rfl, F.b, _, 2, 2, rfl, rfl, upd_same, rfl, ?_⟩
            exact ⟨F.b, F.c, _, many, rfl, rfl, rfl, go (i + 1) _ r (by omega) (by omega) r0 _ upd_same (by rw [upd_ne hcb, upd_ne hcb, upd_ne hcb]; exact hc) fun a n1 n2 => by rw [upd_ne n1, upd_ne n1, upd_ne n1]⟩
          · refine ⟨_, rfl, _, rfl, fun r2 p0 p1 => ?_⟩
            refine ⟨_, rfl, F.b, _, 1, _, rfl, rfl, SqL.of upd_same, rfl, _, _, rfl, rfl, _, rfl, fun r3 q0 q1 => ?_⟩
            refine ⟨_, rfl, F.b, _, 2, 2, rfl, rfl, upd_same, rfl, ?_⟩
            exact ⟨F.b, F.c, r3, many, rfl, rfl, rfl, go (i + 1) r3 r (by omega) q0 r0 _ upd_same (by rw [upd_ne hcb, upd_ne hcb, upd_ne hcb]; exact hc) fun a n1 n2 => by rw [upd_ne n1, upd_ne n1, upd_ne n1]⟩
      · refine ⟨_, rfl, F.b, _, 3, _, rfl, rfl, SqL.of hb, rfl, _, _, rfl, rfl, _, rfl, fun r r0 r1 => ?_⟩
        refine ⟨_, rfl, F.b, _, 3, 3, rfl, rfl, hb, rfl, ?_⟩
        refine ⟨_, rfl, F.b, _, 3, _, rfl, rfl, SqL.of upd_same, rfl, ?_⟩
        refine ⟨_, rfl, F.b, _, 2, 2, rfl, rfl, upd_same, rfl, ?_⟩
        exact ⟨F.b, F.c, r, many, rfl, rfl, rfl, go i r r hi r0 r0 _ upd_same (by rw [upd_ne hcb, upd_ne hcb]; exact hc) fun a n1 n2 => by rw [upd_ne n1, upd_ne n1]⟩
    · exact ⟨F.b, F.c, dg, many, rfl, rfl, rfl, hB0, hd, hm, hm2, fin⟩
theorem ok__law_tape (F : Fun K "_law_tape" "_law_tape" s__law_tape f fd) (hlen : mg "len" = none) (hlist : mg "list" = none) : FnOk P w K mg base CX0 1 f fd ["script"] (spTape K) := by
  refine F.ok sc__law_tape (fun vs H Q E h => ?_) (fun cdv A outer s H vs Q E hr h => ?_)
  · obtain ⟨a, ns, rfl, _⟩ := h
    rfl
  · obtain ⟨a, ns, rfl, hS, hn, k⟩ := h
    refine ⟨_, pss_one (ps_ret (pe_lst (pa_cons (pe_callTy call_list_of rfl hlist boot_list (pa_cons (pe_slice sl_all (pv 0) po_none (po_some pe_int)) pa_nil)) (pa_cons pe_int (pa_cons pe_int (pa_cons (pe_op op_add pe_int (pe_callB call_len rfl hlen boot_len (pa_cons (pv 0) pa_nil))) pa_nil)))))), ?_⟩
    refine ⟨_, rfl, _, rfl, .inl ⟨a, _, rfl, hS, fun t ht => ⟨t, _, rfl, .inl (SqL.of upd_same), fun c hc => ?_⟩⟩⟩
    have hS2 : SqL K (upd (upd H t (.lst (cutV (ns.map V.int) none (some 80)))) c (.lst (cutV (ns.map V.int) none (some 80)))) a (ns.map V.int) := by
      have sm : Same H (upd (upd H t (.lst (cutV (ns.map V.int) none (some 80)))) c (.lst (cutV (ns.map V.int) none (some 80)))) := fun x o e => by
        have e1 : upd H t (.lst (cutV (ns.map V.int) none (some 80))) x = some o := by rw [upd_ne (ne_of_none e ht)]; exact e
        rw [upd_ne (ne_of_none e1 hc)]
        exact e1
      exact sm.seq hS
    refine ⟨_, rfl, _, _, rfl, Or.inl ⟨_, hS2, rfl⟩, _, _, rfl, rfl, (by rw [sizeLine_eq]; show (4 : Nat) ≤ _; decide), fun b hb => ?_⟩
    have ecut : cutV (ns.map V.int) none (some 80) = ((ns.drop (HT.sIx (ns.map V.int).length 0 none)).take (HT.sIx (ns.map V.int).length (ns.map V.int).length (some 80) - HT.sIx (ns.map V.int).length 0 none)).map V.int := by
      unfold cutV
      rw [List.map_take, List.map_drop]
    have hcb : c ≠ b := fun e => by rw [← e, upd_same] at hb; cases hb
    refine k _ b c ⟨_, _, _, upd_same, by rw [upd_ne hcb, upd_same, ecut], by omega, ?_⟩
    omega
end
end Lw

set_option Elab.async false
set_option linter.all false
set_option maxRecDepth 100000
set_option maxHeartbeats 400000
set_option autoImplicit false
namespace Lw
open PySem L2 PySem.Spec PyProof.Rows Ip
section
variable {P : Program} {w : World} {K : Frag} {mg : Str → Option Value} {base : Heap}
/-- the defs of the text -/
structure Fs (K : Frag) (mg : Str → Option Value) : Prop where
  x_have_room : Fx K mg "have_room" s_have_room ["one", "other"]
  x_shown_by_strolls : Fx K mg "shown_by_strolls" s_shown_by_strolls ["strolls"]
  x_gather : Fx K mg "gather" s_gather ["house", "strolls"]
  x__law_mix : Fx K mg "_law_mix" s__law_mix ["number"]
  x__law_tape : Fx K mg "_law_tape" s__law_tape ["script"]
  x__law_take : Fx K mg "_law_take" s__law_take ["tape", "many"]
  x__law_same : Fx K mg "_law_same" s__law_same ["a", "b"]
  x__law_mixed : Fx K mg "_law_mixed" s__law_mixed ["tape", "row"]
  x__law_house : Fx K mg "_law_house" s__law_house ["tape", "most"]
  x__law_behind : Fx K mg "_law_behind" s__law_behind ["land", "r"]
  x__law_stroll : Fx K mg "_law_stroll" s__law_stroll ["tape", "land", "most"]
  x__law_strolls : Fx K mg "_law_strolls" s__law_strolls ["tape", "land", "many", "most"]
  x__law_due : Fx K mg "_law_due" s__law_due ["land", "strolls"]
  x__law_through : Fx K mg "_law_through" s__law_through ["tape", "land", "room", "many", "most"]
  x_law : Fx K mg "law" s_law ["script"]
theorem draw_ok (F : Fs K mg) (G : Gf mg ) {f : Addr} {fd : FuncData} (h : Fun K "_law_take" "_law_take" s__law_take f fd) : FnOk P w K mg base CX0 2 f fd ["tape", "many"] (spI K TapeK 2 drawT) := by
  obtain ⟨fl, fdl, FL, mL, bL⟩ := F.x__law_mix.ex
  exact ok__law_take h (ok__law_mix FL G.b_int) bL mL FL.kp G.b_len G.b_int
theorem cs_all (F : Fs K mg) (G : Gf mg ) : ∀ d, Cs P w K mg base (d + 2) (TT d)
  | 0 => by
    rw [TT_zero]
    exact ⟨F.x_have_room.no, F.x_shown_by_strolls.no, F.x_gather.no, F.x__law_take.no, F.x__law_same.no, F.x__law_mixed.no, F.x__law_house.no, F.x__law_behind.no, F.x__law_stroll.no, F.x__law_strolls.no, F.x__law_due.no, F.x__law_through.no⟩
  | d + 1 => by
    have ih := cs_all F G d
    rw [TT_succ]
    exact ⟨F.x_have_room.cf (fun f fd h => ok_have_room h G ih) (fun _ _ h => h.1),
      F.x_shown_by_strolls.cf (fun f fd h => ok_shown_by_strolls h G ih) (fun _ _ h => h.1),
      F.x_gather.cf (fun f fd h => ok_gather h G ih) (fun _ _ h => h.1),
      F.x__law_take.cf (fun f fd h => (draw_ok F G h).mono (by omega)) (fun _ _ h => drawT_len h),
      F.x__law_same.cf (fun f fd h => ok__law_same h G ih) (fun _ _ h => h.1),
      F.x__law_mixed.cf (fun f fd h => ok__law_mixed h G ih) (fun _ _ h => h.1),
      F.x__law_house.cf (fun f fd h => ok__law_house h G ih) (fun _ _ h => h.1),
      F.x__law_behind.cf (fun f fd h => ok__law_behind h G ih) (fun _ _ h => h.1),
      F.x__law_stroll.cf (fun f fd h => ok__law_stroll h G ih) (fun _ _ h => h.1),
      F.x__law_strolls.cf (fun f fd h => ok__law_strolls h G ih) (fun _ _ h => h.1),
      F.x__law_due.cf (fun f fd h => ok__law_due h G ih) (fun _ _ h => h.1),
      F.x__law_through.cf (fun f fd h => ok__law_through h G ih) (fun _ _ h => h.1)⟩
theorem ok_law (F : Fs K mg) (G : Gf mg ) {f : Addr} {fd : FuncData} (FL : Fun K "law" "law" s_law f fd)
    (hl : w_law (TT 40) ⟨fun _ => False, fun r => r = .fz (.bl true), fun _ => False, fun _ => False⟩ (.non :: .fz .box :: List.replicate 7 .non)) : FnOk P w K mg base CX0 43 f fd ["script"] (spLaw K) := by
  obtain ⟨fb, fdb, FB, mB, bB⟩ := F.x__law_tape.ex
  have GB : FnOk P w K mg base CX0 1 fb fdb ["script"] (spTape K) := ok__law_tape FB G.b_len G.b_list
  have C := cs_all (P := P) (w := w) (base := base) F G 40
  refine FL.ok sc_law (fun vs H Q E h => ?_) (fun cdv A outer s H vs Q E hr h => ?_)
  · obtain ⟨a, ns, rfl, _⟩ := h
    rfl
  · obtain ⟨a, ns, rfl, hS, hn, k⟩ := h
    refine ⟨_, pss_cons (ps_set (i := 1) sc_law.nd rfl (by first | exact Or.inl rfl | exact Or.inr rfl) (pe_call (E := E0) (dvs := []) GB (hr.mono (by decide)) rfl mB FB.kp bB .nil pass0 (pa_cons (pv 0) pa_nil))) (law_rest G C hr), ?_⟩
    refine ⟨_, rfl, a, ns, rfl, hS, hn, fun H' b c hB => ?_⟩
    exact tape_end hB hl k
end
theorem all_mk {l : PySem.W.OpenLaw} {w : World} {K : PySem.W.Frag} {h : Heap} {mg : Str → Option Value} {fa : Addr} {f0 f1 f2 f3 f4 f5 f6 f7 f8 f9 f10 f11 f12 f13 f14 : Addr} (X : K.In h) (G : h.Ns mainGlobals mg) (hfa : mg "law" = some (.ref fa))
    {od0 an0 od1 an1 od2 an2 od3 an3 od4 an4 od5 an5 od6 an6 od7 an7 od8 an8 od9 an9 od10 an10 od11 an11 od12 an12 od13 an13 od14 an14 : Option Addr} {sl0 sl1 sl2 sl3 sl4 sl5 sl6 sl7 sl8 sl9 sl10 sl11 sl12 sl13 sl14 : Array (Option Value)} {oc0 kV0 dc0 pm0 cd0 ct0 oc1 kV1 dc1 pm1 cd1 ct1 oc2 kV2 dc2 pm2 cd2 ct2 oc3 kV3 dc3 pm3 cd3 ct3 oc4 kV4 dc4 pm4 cd4 ct4 oc5 kV5 dc5 pm5 cd5 ct5 oc6 kV6 dc6 pm6 cd6 ct6 oc7 kV7 dc7 pm7 cd7 ct7 oc8 kV8 dc8 pm8 cd8 ct8 oc9 kV9 dc9 pm9 cd9 ct9 oc10 kV10 dc10 pm10 cd10 ct10 oc11 kV11 dc11 pm11 cd11 ct11 oc12 kV12 dc12 pm12 cd12 ct12 oc13 kV13 dc13 pm13 cd13 ct13 oc14 kV14 dc14 pm14 cd14 ct14 : Value}
    (a0 : PySem.W.nsIn K mainGlobals "have_room" = some (some (.ref f0))) (l0 : K.lookup f0 = some ⟨oc0, od0, .func (PySem.W.fnOf "have_room" "have_room" (defArgs s_have_room) (defBody s_have_room) (defScope s_have_room) .none kV0 dc0 pm0 an0 cd0 ct0), sl0⟩) (c0 : PySem.W.codeIn K cd0 "have_room" = true) (k0 : PySem.W.keepIn K (.ref f0) = true)
    (a1 : PySem.W.nsIn K mainGlobals "shown_by_strolls" = some (some (.ref f1))) (l1 : K.lookup f1 = some ⟨oc1, od1, .func (PySem.W.fnOf "shown_by_strolls" "shown_by_strolls" (defArgs s_shown_by_strolls) (defBody s_shown_by_strolls) (defScope s_shown_by_strolls) .none kV1 dc1 pm1 an1 cd1 ct1), sl1⟩) (c1 : PySem.W.codeIn K cd1 "shown_by_strolls" = true) (k1 : PySem.W.keepIn K (.ref f1) = true)
    (a2 : PySem.W.nsIn K mainGlobals "gather" = some (some (.ref f2))) (l2 : K.lookup f2 = some ⟨oc2, od2, .func (PySem.W.fnOf "gather" "gather" (defArgs s_gather) (defBody s_gather) (defScope s_gather) .none kV2 dc2 pm2 an2 cd2 ct2), sl2⟩) (c2 : PySem.W.codeIn K cd2 "gather" = true) (k2 : PySem.W.keepIn K (.ref f2) = true)
    (a3 : PySem.W.nsIn K mainGlobals "_law_mix" = some (some (.ref f3))) (l3 : K.lookup f3 = some ⟨oc3, od3, .func (PySem.W.fnOf "_law_mix" "_law_mix" (defArgs s__law_mix) (defBody s__law_mix) (defScope s__law_mix) .none kV3 dc3 pm3 an3 cd3 ct3), sl3⟩) (c3 : PySem.W.codeIn K cd3 "_law_mix" = true) (k3 : PySem.W.keepIn K (.ref f3) = true)
    (a4 : PySem.W.nsIn K mainGlobals "_law_tape" = some (some (.ref f4))) (l4 : K.lookup f4 = some ⟨oc4, od4, .func (PySem.W.fnOf "_law_tape" "_law_tape" (defArgs s__law_tape) (defBody s__law_tape) (defScope s__law_tape) .none kV4 dc4 pm4 an4 cd4 ct4), sl4⟩) (c4 : PySem.W.codeIn K cd4 "_law_tape" = true) (k4 : PySem.W.keepIn K (.ref f4) = true)
    (a5 : PySem.W.nsIn K mainGlobals "_law_take" = some (some (.ref f5))) (l5 : K.lookup f5 = some ⟨oc5, od5, .func (PySem.W.fnOf "_law_take" "_law_take" (defArgs s__law_take) (defBody s__law_take) (defScope s__law_take) .none kV5 dc5 pm5 an5 cd5 ct5), sl5⟩) (c5 : PySem.W.codeIn K cd5 "_law_take" = true) (k5 : PySem.W.keepIn K (.ref f5) = true)
    (a6 : PySem.W.nsIn K mainGlobals "_law_same" = some (some (.ref f6))) (l6 : K.lookup f6 = some ⟨oc6, od6, .func (PySem.W.fnOf "_law_same" "_law_same" (defArgs s__law_same) (defBody s__law_same) (defScope s__law_same) .none kV6 dc6 pm6 an6 cd6 ct6), sl6⟩) (c6 : PySem.W.codeIn K cd6 "_law_same" = true) (k6 : PySem.W.keepIn K (.ref f6) = true)
    (a7 : PySem.W.nsIn K mainGlobals "_law_mixed" = some (some (.ref f7))) (l7 : K.lookup f7 = some ⟨oc7, od7, .func (PySem.W.fnOf "_law_mixed" "_law_mixed" (defArgs s__law_mixed) (defBody s__law_mixed) (defScope s__law_mixed) .none kV7 dc7 pm7 an7 cd7 ct7), sl7⟩) (c7 : PySem.W.codeIn K cd7 "_law_mixed" = true) (k7 : PySem.W.keepIn K (.ref f7) = true)
    (a8 : PySem.W.nsIn K mainGlobals "_law_house" = some (some (.ref f8))) (l8 : K.lookup f8 = some ⟨oc8, od8, .func (PySem.W.fnOf "_law_house" "_law_house" (defArgs s__law_house) (defBody s__law_house) (defScope s__law_house) .none kV8 dc8 pm8 an8 cd8 ct8), sl8⟩) (c8 : PySem.W.codeIn K cd8 "_law_house" = true) (k8 : PySem.W.keepIn K (.ref f8) = true)
    (a9 : PySem.W.nsIn K mainGlobals "_law_behind" = some (some (.ref f9))) (l9 : K.lookup f9 = some ⟨oc9, od9, .func (PySem.W.fnOf "_law_behind" "_law_behind" (defArgs s__law_behind) (defBody s__law_behind) (defScope s__law_behind) .none kV9 dc9 pm9 an9 cd9 ct9), sl9⟩) (c9 : PySem.W.codeIn K cd9 "_law_behind" = true) (k9 : PySem.W.keepIn K (.ref f9) = true)
    (a10 : PySem.W.nsIn K mainGlobals "_law_stroll" = some (some (.ref f10))) (l10 : K.lookup f10 = some ⟨oc10, od10, .func (PySem.W.fnOf "_law_stroll" "_law_stroll" (defArgs s__law_stroll) (defBody s__law_stroll) (defScope s__law_stroll) .none kV10 dc10 pm10 an10 cd10 ct10), sl10⟩) (c10 : PySem.W.codeIn K cd10 "_law_stroll" = true) (k10 : PySem.W.keepIn K (.ref f10) = true)
    (a11 : PySem.W.nsIn K mainGlobals "_law_strolls" = some (some (.ref f11))) (l11 : K.lookup f11 = some ⟨oc11, od11, .func (PySem.W.fnOf "_law_strolls" "_law_strolls" (defArgs s__law_strolls) (defBody s__law_strolls) (defScope s__law_strolls) .none kV11 dc11 pm11 an11 cd11 ct11), sl11⟩) (c11 : PySem.W.codeIn K cd11 "_law_strolls" = true) (k11 : PySem.W.keepIn K (.ref f11) = true)
    (a12 : PySem.W.nsIn K mainGlobals "_law_due" = some (some (.ref f12))) (l12 : K.lookup f12 = some ⟨oc12, od12, .func (PySem.W.fnOf "_law_due" "_law_due" (defArgs s__law_due) (defBody s__law_due) (defScope s__law_due) .none kV12 dc12 pm12 an12 cd12 ct12), sl12⟩) (c12 : PySem.W.codeIn K cd12 "_law_due" = true) (k12 : PySem.W.keepIn K (.ref f12) = true)
    (a13 : PySem.W.nsIn K mainGlobals "_law_through" = some (some (.ref f13))) (l13 : K.lookup f13 = some ⟨oc13, od13, .func (PySem.W.fnOf "_law_through" "_law_through" (defArgs s__law_through) (defBody s__law_through) (defScope s__law_through) .none kV13 dc13 pm13 an13 cd13 ct13), sl13⟩) (c13 : PySem.W.codeIn K cd13 "_law_through" = true) (k13 : PySem.W.keepIn K (.ref f13) = true)
    (a14 : PySem.W.nsIn K mainGlobals "law" = some (some (.ref f14))) (l14 : K.lookup f14 = some ⟨oc14, od14, .func (PySem.W.fnOf "law" "law" (defArgs s_law) (defBody s_law) (defScope s_law) .none kV14 dc14 pm14 an14 cd14 ct14), sl14⟩) (c14 : PySem.W.codeIn K cd14 "law" = true) (k14 : PySem.W.keepIn K (.ref f14) = true)
    (z_all : PySem.W.nsIn K mainGlobals "all" = some none)
    (z_any : PySem.W.nsIn K mainGlobals "any" = some none)
    (z_bool : PySem.W.nsIn K mainGlobals "bool" = some none)
    (z_int : PySem.W.nsIn K mainGlobals "int" = some none)
    (z_isinstance : PySem.W.nsIn K mainGlobals "isinstance" = some none)
    (z_len : PySem.W.nsIn K mainGlobals "len" = some none)
    (z_list : PySem.W.nsIn K mainGlobals "list" = some none)
    (z_max : PySem.W.nsIn K mainGlobals "max" = some none)
    (z_min : PySem.W.nsIn K mainGlobals "min" = some none)
    (z_range : PySem.W.nsIn K mainGlobals "range" = some none)
    (z_sorted : PySem.W.nsIn K mainGlobals "sorted" = some none)
    (z_str : PySem.W.nsIn K mainGlobals "str" = some none)
    (z_tuple : PySem.W.nsIn K mainGlobals "tuple" = some none)
    (hl : w_law (TT 40) ⟨fun _ => False, fun r => r = .fz (.bl true), fun _ => False, fun _ => False⟩ (.non :: .fz .box :: List.replicate 7 .non)) :
    ∃ fd : FuncData, (∀ (s : Shared) (v : Value), BindsTo s fd ⟨[v], []⟩ [("script", v)]) ∧ ∀ base : Heap, K.In base → base.Ns mainGlobals mg → FnOk l.prog w K mg base CX0 43 fa fd ["script"] (spLaw K) := by
  have e := hfa.symm.trans (PySem.W.mg_of X G a14)
  cases e
  have F0 := fun_mk (st := s_have_room) l0 c0 k0
  have b0 := F0.binds (ps := ["one", "other"]) fun _ _ _ _ _ _ us hl => match us, hl with | [_, _], _ => rfl
  have F1 := fun_mk (st := s_shown_by_strolls) l1 c1 k1
  have b1 := F1.binds (ps := ["strolls"]) fun _ _ _ _ _ _ us hl => match us, hl with | [_], _ => rfl
  have F2 := fun_mk (st := s_gather) l2 c2 k2
  have b2 := F2.binds (ps := ["house", "strolls"]) fun _ _ _ _ _ _ us hl => match us, hl with | [_, _], _ => rfl
  have F3 := fun_mk (st := s__law_mix) l3 c3 k3
  have b3 := F3.binds (ps := ["number"]) fun _ _ _ _ _ _ us hl => match us, hl with | [_], _ => rfl
  have F4 := fun_mk (st := s__law_tape) l4 c4 k4
  have b4 := F4.binds (ps := ["script"]) fun _ _ _ _ _ _ us hl => match us, hl with | [_], _ => rfl
  have F5 := fun_mk (st := s__law_take) l5 c5 k5
  have b5 := F5.binds (ps := ["tape", "many"]) fun _ _ _ _ _ _ us hl => match us, hl with | [_, _], _ => rfl
  have F6 := fun_mk (st := s__law_same) l6 c6 k6
  have b6 := F6.binds (ps := ["a", "b"]) fun _ _ _ _ _ _ us hl => match us, hl with | [_, _], _ => rfl
  have F7 := fun_mk (st := s__law_mixed) l7 c7 k7
  have b7 := F7.binds (ps := ["tape", "row"]) fun _ _ _ _ _ _ us hl => match us, hl with | [_, _], _ => rfl
  have F8 := fun_mk (st := s__law_house) l8 c8 k8
  have b8 := F8.binds (ps := ["tape", "most"]) fun _ _ _ _ _ _ us hl => match us, hl with | [_, _], _ => rfl
  have F9 := fun_mk (st := s__law_behind) l9 c9 k9
  have b9 := F9.binds (ps := ["land", "r"]) fun _ _ _ _ _ _ us hl => match us, hl with | [_, _], _ => rfl
  have F10 := fun_mk (st := s__law_stroll) l10 c10 k10
  have b10 := F10.binds (ps := ["tape", "land", "most"]) fun _ _ _ _ _ _ us hl => match us, hl with | [_, _, _], _ => rfl
  have F11 := fun_mk (st := s__law_strolls) l11 c11 k11
  have b11 := F11.binds (ps := ["tape", "land", "many", "most"]) fun _ _ _ _ _ _ us hl => match us, hl with | [_, _, _, _], _ => rfl
  have F12 := fun_mk (st := s__law_due) l12 c12 k12
  have b12 := F12.binds (ps := ["land", "strolls"]) fun _ _ _ _ _ _ us hl => match us, hl with | [_, _], _ => rfl
  have F13 := fun_mk (st := s__law_through) l13 c13 k13
  have b13 := F13.binds (ps := ["tape", "land", "room", "many", "most"]) fun _ _ _ _ _ _ us hl => match us, hl with | [_, _, _, _, _], _ => rfl
  have F14 := fun_mk (st := s_law) l14 c14 k14
  have b14 := F14.binds (ps := ["script"]) fun _ _ _ _ _ _ us hl => match us, hl with | [_], _ => rfl
  have Gm : Gf mg  := ⟨PySem.W.mg_none_of X G z_all, PySem.W.mg_none_of X G z_any, PySem.W.mg_none_of X G z_bool, PySem.W.mg_none_of X G z_int, PySem.W.mg_none_of X G z_isinstance, PySem.W.mg_none_of X G z_len, PySem.W.mg_none_of X G z_list, PySem.W.mg_none_of X G z_max, PySem.W.mg_none_of X G z_min, PySem.W.mg_none_of X G z_range, PySem.W.mg_none_of X G z_sorted, PySem.W.mg_none_of X G z_str, PySem.W.mg_none_of X G z_tuple⟩
  have Fm : Fs K mg := ⟨⟨_, _, F0, PySem.W.mg_of X G a0, b0⟩, ⟨_, _, F1, PySem.W.mg_of X G a1, b1⟩, ⟨_, _, F2, PySem.W.mg_of X G a2, b2⟩, ⟨_, _, F3, PySem.W.mg_of X G a3, b3⟩, ⟨_, _, F4, PySem.W.mg_of X G a4, b4⟩, ⟨_, _, F5, PySem.W.mg_of X G a5, b5⟩, ⟨_, _, F6, PySem.W.mg_of X G a6, b6⟩, ⟨_, _, F7, PySem.W.mg_of X G a7, b7⟩, ⟨_, _, F8, PySem.W.mg_of X G a8, b8⟩, ⟨_, _, F9, PySem.W.mg_of X G a9, b9⟩, ⟨_, _, F10, PySem.W.mg_of X G a10, b10⟩, ⟨_, _, F11, PySem.W.mg_of X G a11, b11⟩, ⟨_, _, F12, PySem.W.mg_of X G a12, b12⟩, ⟨_, _, F13, PySem.W.mg_of X G a13, b13⟩, ⟨_, _, F14, PySem.W.mg_of X G a14, b14⟩⟩
  exact ⟨PySem.W.fnOf "law" "law" (defArgs s_law) (defBody s_law) (defScope s_law) .none kV14 dc14 pm14 an14 cd14 ct14, fun s v => .of_eq rfl, fun base _ _ => ok_law Fm Gm F14 hl⟩
theorem walk {l : PySem.W.OpenLaw} {q : Program} {loose : List Str} {XP : (Str → Option Value) → Heap → Prop} {YP : World → Heap → Prop} {d : DefRec} {K : Params → PySem.W.Frag} (hn : l.most = some 63) (hdf : d.params.defaults = [])
    (hY : ∀ (w : World) (h : Heap), YP w h → (K w.params).In h)
    (F : ∀ (w : World) (mg : Str → Option Value) (fa : Addr) (h : Heap), (K w.params).In h → h.Ns mainGlobals mg → mg d.name = some (.ref fa) →
      ∃ fd : FuncData, (∀ (s : Shared) (u : Value), BindsTo s fd ⟨[u], []⟩ [("script", u)]) ∧ ∀ base : Heap, (K w.params).In base → base.Ns mainGlobals mg → FnOk l.prog w (K w.params) mg base CX0 43 fa fd ["script"] (spLaw (K w.params))) :
    PySem.W.WalkO q loose XP YP l.row.toRowW d [] (fun f vs => PySem.call f vs) :=
  L2.walk_of (n := 63) (k := 43) (x := "script") (CX := fun _ => CX0) (sp := fun w => spLaw (K w.params)) hn (by decide) hdf ⟨rfl, by decide, by decide⟩ hY F (fun _ _ a ns hl _ hS => ⟨a, ns, rfl, hS, hl, fun _ => rfl⟩) fun _ _ _ _ _ z => z
end Lw

set_option Elab.async false
set_option linter.all false
set_option maxRecDepth 100000
set_option maxHeartbeats 400000
set_option autoImplicit false
namespace Lw
open PySem L2 PySem.Spec PyProof.Rows Ip
theorem lc_mapE {α : Type} {g : WG} {we : WE} {vs : List Nat} {K : List D → Rho → Prop} {ρ : Rho} (e f : α → D) (L : List α) (hs : ∀ a ∈ L, ∀ C : D → Rho → Prop, C (f a) ρ → g (e a) ρ fun ρ2 => we ρ2 fun r ρ4 => need (frz1 ρ4 r) fun q => loose q.2 vs = true ∧ C q.1 (wipeR q.2 vs))
    (he : K (L.map f) ρ) : lcGo g wYes we vs K (L.map e) [] ρ := by
  refine lcGo_rule (fun i acc ρ' => ρ' = ρ ∧ acc = (L.take i).map f) _ 0 [] ρ ⟨rfl, by simp⟩ ?_ ?_
  · rintro j d acc ρ2 h ⟨rfl, rfl⟩ C k
    rw [Nat.zero_add] at *
    rw [List.getElem?_map] at h
    cases q : L[j]? with
    | none => rw [q] at h; cases h
    | some a =>
      rw [q] at h
      cases h
      have e2 : L.take (j + 1) = L.take j ++ [a] := by rw [List.take_succ, q]; rfl
      exact hs a (List.mem_iff_getElem?.mpr ⟨j, q⟩) (fun x ρ3 => C ((L.take j).map f ++ [x]) ρ3) (k _ _ ⟨rfl, by rw [e2, List.map_append]; rfl⟩)
  · rintro acc ρ2 ⟨rfl, rfl⟩
    rw [Nat.zero_add, List.length_map, List.take_length]
    exact he
theorem lc_filterE {α : Type} {g : WG} {ct : WT} {we : WE} {vs : List Nat} {K : List D → Rho → Prop} {ρ : Rho} (e f : α → D) (p : α → Bool) (L : List α)
    (hs : ∀ a ∈ L, ∀ C : D → Rho → Prop, ∀ C2 : Rho → Prop, (p a = true → C (f a) ρ) → (p a = false → C2 ρ) → g (e a) ρ fun ρ2 => ct ρ2 fun b ρ3 => if b = true then we ρ3 fun r ρ4 => need (frz1 ρ4 r) fun q => loose q.2 vs = true ∧ C q.1 (wipeR q.2 vs) else loose ρ3 vs = true ∧ C2 (wipeR ρ3 vs))
    (he : K ((L.filter p).map f) ρ) : lcGo g ct we vs K (L.map e) [] ρ := by
  refine lcGo_rule (fun i acc ρ' => ρ' = ρ ∧ acc = ((L.take i).filter p).map f) _ 0 [] ρ ⟨rfl, by simp⟩ ?_ ?_
  · rintro j d acc ρ2 h ⟨rfl, rfl⟩ C k
    rw [Nat.zero_add] at *
    rw [List.getElem?_map] at h
    cases q : L[j]? with
    | none => rw [q] at h; cases h
    | some a =>
      rw [q] at h
      cases h
      have e2 : L.take (j + 1) = L.take j ++ [a] := by rw [List.take_succ, q]; rfl
      refine hs a (List.mem_iff_getElem?.mpr ⟨j, q⟩) (fun x ρ3 => C (((L.take j).filter p).map f ++ [x]) ρ3) (fun ρ3 => C (((L.take j).filter p).map f) ρ3) (fun hp => k _ _ ⟨rfl, ?_⟩) fun hp => k _ _ ⟨rfl, ?_⟩
      · rw [e2, List.filter_append, List.map_append]; simp [hp]
      · rw [e2, List.filter_append, List.map_append]; simp [hp]
  · rintro acc ρ2 ⟨rfl, rfl⟩
    rw [Nat.zero_add, List.length_map, List.take_length]
    exact he
abbrev stD (l : List Int) : D := .tup (l.map .int)
def hB (a b : List Int) : Bool := a.any fun r => decide (r ∈ b)
theorem inR_tup (L : List Int) (r : Int) : cmpR .In (.int r) (.tup (L.map .int)) = some (.fz (.bl (decide (r ∈ L)))) := by
  unfold cmpR
  rw [in_tup]
theorem any_bls {α : Type} (f : α → Bool) (L : List α) : anyD (.lst (L.map fun a => .bl (f a))) = some (.fz (.bl (L.any f))) := by
  show (blsOf _).map _ = _
  rw [bls_map, Option.map_some, List.any_map]
  rfl
theorem all_bls {α : Type} (f : α → Bool) (L : List α) : allD (.lst (L.map fun a => .bl (f a))) = some (.fz (.bl (L.all f))) := by
  show (blsOf _).map _ = _
  rw [bls_map, Option.map_some, List.all_map]
  rfl
theorem sp_have {d : Nat} {a b : List Int} {P : Res → Prop} (h : P (.fz (.bl (hB a b)))) : TT (d + 1) 1 [stD a, stD b] P := by
  rw [TT_succ]
  refine ⟨rfl, ?_⟩
  refine ⟨rfl, lc_mapE _ (fun r => .bl (decide (r ∈ b))) a (fun r hr C hC => ?_) ?_⟩
  · refine ⟨rfl, ?_⟩
    refine need_intro (inR_tup b r) ?_
    exact ⟨rfl, hC⟩
  · exact need_intro (any_bls _ a) h
theorem at_st {S : List (List Int)} {u : Nat} (h : u < S.length) : idxD (.tup (S.map stD)) (.int (u : Int)) = some (.fz (stD (S.getD u []))) := by
  show (atI (S.map stD) (u : Int)).map Res.fz = _
  rw [atI_nat (v := stD (S.getD u [])) (by rw [List.getElem?_map, List.getElem?_eq_getElem h, List.getD_eq_getElem?_getD, List.getElem?_eq_getElem h]; rfl)]
  rfl
/-- strolls i, j have a room in common -/
def mt (S : List (List Int)) (i j : Nat) : Bool := hB (S.getD i []) (S.getD j [])
theorem sp_shown {d : Nat} {S : List (List Int)} {P : Res → Prop} (hS : S.length ≤ 1000) (h : ∀ L : List (Int × Int), (∀ i j : Nat, i < j → j < S.length → (((i : Int), (j : Int)) ∈ L ↔ mt S i j = true)) → P (.fz (.tup [.int S.length, .tup (L.map Pr)]))) :
    TT (d + 2) 2 [.tup (S.map stD)] P := by
  have hl : (S.map stD).length = S.length := List.length_map _
  rw [TT_succ]
  refine ⟨rfl, ?_⟩
  refine ⟨rfl, nle rfl, ?_⟩
  show w_shown_by_strolls_1 (TT (d + 1)) ⟨fun _ => P (.fz .non), P, fun _ => False, fun _ => False⟩ [.fz (.tup (S.map stD)), .fz (.int ((S.map stD).length : Nat)), .non, .non]
  rw [hl]
  refine ⟨rg0 (by omega), rfl, ?_⟩
  rw [rg_nats]
  let ρ0 : Rho := [.fz (.tup (S.map stD)), .fz (.int (S.length : Nat)), .non, .non]
  refine lc2Go_rule (fun i acc ρ => ρ = ρ0 ∧ ∃ L : List (Int × Int), acc = L.map Pr ∧ L.length ≤ i * 1000 ∧ ∀ a b : Nat, a < b → b < S.length → (((a : Int), (b : Int)) ∈ L ↔ a < i ∧ mt S a b = true)) _ 0 [] ρ0 ⟨rfl, [], rfl, Nat.zero_le _, fun a b _ _ => ⟨fun z => (by cases z), fun z => (by omega)⟩⟩ ?_ ?_
  · rintro i x acc ρ e ⟨rfl, L, rfl, hL, hm⟩ C k
    rw [Nat.zero_add] at *
    have hi : i < S.length := by
      have := (List.getElem?_eq_some_iff.mp e).1
      rw [List.length_map, List.length_range] at this
      exact this
    obtain rfl : x = .int (i : Int) := by
      rw [List.getElem?_map, List.getElem?_range hi] at e
      exact (Option.some.inj e).symm
    refine ⟨rfl, ?_⟩
    refine ⟨⟨by omega, by omega, by omega, by omega⟩, rfl, ?_⟩
    have er : ((i : Int) + 1) = ((i + 1 : Nat) : Int) := by omega
    rw [er, rg2_nats]
    refine lcGoB_rule (fun b acc ρ => ρ = [.fz (.tup (S.map stD)), .fz (.int (S.length : Nat)), .fz (.int (i : Int)), .non] ∧ ∃ L : List (Int × Int), acc = L.map Pr ∧ L.length ≤ i * 1000 + b ∧ ∀ a' b' : Nat, a' < b' → b' < S.length → (((a' : Int), (b' : Int)) ∈ L ↔ (a' < i ∨ (a' = i ∧ b' < i + 1 + b)) ∧ mt S a' b' = true)) _ 0 _ _
      ⟨rfl, L, rfl, by omega, fun a' b' h1 h2 => by
        rw [hm a' b' h1 h2]
        constructor
        · exact fun z => ⟨.inl z.1, z.2⟩
        · exact fun z => ⟨z.1.elim id fun y => by omega, z.2⟩⟩ ?_ ?_
    · rintro b x acc ρ e ⟨rfl, L, rfl, hL, hm⟩ C2 k2
      rw [Nat.zero_add] at *
      have hb : b < S.length - (i + 1) := by
        have := (List.getElem?_eq_some_iff.mp e).1
        rw [List.length_map, List.length_range] at this
        exact this
      obtain rfl : x = .int ((i + 1 + b : Nat) : Int) := by
        rw [List.getElem?_map, List.getElem?_range hb] at e
        exact (Option.some.inj e).symm
      have hb2 : i + 1 + b < S.length := by omega
      have hlim : (L.map Pr).length < lim := by
        rw [List.length_map]
        have : i * 1000 ≤ 1000 * 1000 := Nat.mul_le_mul_right _ (by omega)
        show _ < 10000000
        omega
      refine ⟨rfl, ?_⟩
      refine need_intro (at_st hi) ?_
      refine need_intro (at_st hb2) ?_
      refine sp_have ?_
      refine ite2 (fun q => ?_) (fun q => ?_)
      · have q : mt S i (i + 1 + b) = true := q
        refine ⟨nle rfl, hlim, rfl, ?_⟩
        refine k2 _ _ ⟨rfl, L ++ [((i : Int), ((i + 1 + b : Nat) : Int))], by rw [List.map_append]; rfl, by rw [List.length_append, List.length_singleton]; omega, fun a' b' h1 h2 => ?_⟩
        rw [List.mem_append, hm a' b' h1 h2, List.mem_singleton]
        constructor
        · rintro (⟨z, y⟩ | z)
          · exact ⟨z.elim .inl fun z => .inr ⟨z.1, by omega⟩, y⟩
          · have z1 := congrArg Prod.fst z
            have z2 := congrArg Prod.snd z
            simp only at z1 z2
            obtain rfl : a' = i := by omega
            obtain rfl : b' = a' + 1 + b := by omega
            exact ⟨.inr ⟨rfl, by omega⟩, q⟩
        · rintro ⟨z, y⟩
          rcases z with z | ⟨rfl, z⟩
          · exact .inl ⟨.inl z, y⟩
          · by_cases hh : b' = a' + 1 + b
            · subst hh
              exact .inr rfl
            · exact .inl ⟨.inr ⟨rfl, by omega⟩, y⟩
      · have q : mt S i (i + 1 + b) = false := Bool.eq_false_iff.mpr q
        refine ⟨rfl, k2 _ _ ⟨rfl, L, rfl, by omega, fun a' b' h1 h2 => ?_⟩⟩
        rw [hm a' b' h1 h2]
        constructor
        · exact fun ⟨z, y⟩ => ⟨z.elim .inl fun z => .inr ⟨z.1, by omega⟩, y⟩
        · rintro ⟨z, y⟩
          rcases z with z | ⟨rfl, z⟩
          · exact ⟨.inl z, y⟩
          · by_cases hh : b' = a' + 1 + b
            · subst hh
              rw [q] at y
              cases y
            · exact ⟨.inr ⟨rfl, by omega⟩, y⟩
    · rintro acc ρ ⟨rfl, L, rfl, hL, hm⟩
      rw [Nat.zero_add, List.length_map, List.length_range] at hL hm
      refine ⟨rfl, k _ _ ⟨rfl, L, rfl, ?_, fun a' b' h1 h2 => ?_⟩⟩
      · have : (i + 1) * 1000 = i * 1000 + 1000 := by omega
        omega
      · rw [hm a' b' h1 h2]
        constructor
        · exact fun ⟨z, y⟩ => ⟨by omega, y⟩
        · exact fun ⟨z, y⟩ => ⟨by omega, y⟩
  · rintro acc ρ ⟨rfl, L, rfl, hL, hm⟩
    rw [Nat.zero_add, List.length_map, List.length_range] at hm
    refine ⟨nle rfl, ?_⟩
    refine h L fun i j h1 h2 => ?_
    rw [hm i j h1 h2]
    exact ⟨fun z => z.2, fun z => ⟨by omega, z⟩⟩
end Lw

set_option Elab.async false
set_option linter.all false
set_option maxRecDepth 100000
set_option maxHeartbeats 400000
set_option autoImplicit false
namespace Lw
open PySem L2 PySem.Spec PyProof.Rows Ip
theorem eqv_pr (p : Int × Int) (u v : Int) : (Pr p).eqv (Pr (u, v)) = decide (p = (u, v)) := by
  obtain ⟨a, b⟩ := p
  have e : (Pr (a, b)).eqv (Pr (u, v)) = (a == u && (b == v && true)) := by
    show PyData.eqv (.tuple [.int a, .int b]) (.tuple [.int u, .int v]) = _
    simp [PyData.eqv, PyData.eqvAll]
  rw [e]
  by_cases h : (a, b) = (u, v)
  · rw [decide_eq_true h]
    cases h
    simp
  · rw [decide_eq_false h]
    simp only [Bool.and_true, Bool.and_eq_false_iff, beq_eq_false_iff_ne]
    by_cases h1 : a = u
    · exact .inr fun h2 => h (by rw [h1, h2])
    · exact .inl h1
theorem any_pr (L : List (Int × Int)) (u v : Int) : ((L.map Pr).any fun z => z.eqv (Pr (u, v))) = decide ((u, v) ∈ L) := by
  induction L with
  | nil => simp
  | cons p L ih =>
    rw [List.map_cons, List.any_cons, ih, eqv_pr]
    by_cases h : p = (u, v)
    · subst h; simp
    · rw [decide_eq_false h, Bool.false_or]
      congr 1
      rw [List.mem_cons]
      exact propext ⟨.inr, fun z => z.elim (fun e => absurd e.symm h) id⟩
theorem in_pr (L : List (Int × Int)) (u v : Int) : cmpD .In (.tup [.int u, .int v]) (.tup (L.map Pr)) = some (decide ((u, v) ∈ L)) := by
  show (if ((D.tup [.int u, .int v]).ok && (D.tup (L.map Pr)).ok) = true then _ else _) = _
  rw [pr_ok, ← any_pr]
  exact if_pos rfl
theorem notin_pr (L : List (Int × Int)) (u v : Int) : cmpD .NotIn (.tup [.int u, .int v]) (.tup (L.map Pr)) = some (!decide ((u, v) ∈ L)) := by
  show notD (cmpD .In (.tup [.int u, .int v]) (.tup (L.map Pr))) = _
  rw [in_pr]
  rfl
def comm (S : List (List Int)) (r : Int) : Bool := S.all fun l => decide (r ∈ l)
theorem idx0 (x : D) (xs : List D) : idxD (.lst (x :: xs)) (.int 0) = some (.fz x) := by
  show (atI (x :: xs) ((0 : Nat) : Int)).map Res.fz = _
  rw [atI_nat (v := x) rfl]
  rfl
structure FirstAp (S : List (List Int)) (i j : Nat) : Prop where
  lt : i < j
  ln : j < S.length
  ap : mt S i j = false
  first : ∀ a b : Nat, a < b → b < S.length → mt S a b = false → i < a ∨ (i = a ∧ j ≤ b)
theorem FirstAp.uniq {S : List (List Int)} {i j i' j' : Nat} (h : FirstAp S i j) (h' : FirstAp S i' j') : i = i' ∧ j = j' := by
  have a := h.first i' j' h'.lt h'.ln h'.ap
  have b := h'.first i j h.lt h.ln h.ap
  omega
theorem pair_pure {m : Int} (L : List (Int × Int)) : resPure (.fz (.tup [.int m, .tup (L.map Pr)])) = true := by
  show (true && (D.pures (L.map Pr) && true)) = true
  rw [pr_pure]
  rfl
theorem all_step {T : Nat → CallT} {S : List (List Int)} {r : Int} {C : Bool → Prop} (h : C (comm S r)) : ∃ b, allD (.lst (S.map fun l => .bl (decide (r ∈ l)))) = some (.fz (.bl b)) ∧ C b := ⟨_, all_bls _ S, h⟩
theorem sp_gather {d m : Nat} {dD : D} {S : List (List Int)} {P : Res → Prop} (hm : m ≤ 1000) (hS : S.length ≤ 1000)
    (hA : ∀ r : Nat, r < m → comm S r = true → (∀ i : Nat, i < r → comm S i = false) → P (.fz (.tup [.str "room", .int r])))
    (hB : (∀ r : Nat, r < m → comm S r = false) → (∃ a b, a < b ∧ b < S.length ∧ mt S a b = false) ∧ ∀ i j : Nat, FirstAp S i j → P (.fz (.tup [.str "apart", .int i, .int j]))) :
    TT (d + 3) 3 [.tup [.int m, dD], .tup (S.map stD)] P := by
  rw [TT_succ]
  refine ⟨rfl, ?_⟩
  refine ⟨rg0 (by omega), ?_⟩
  refine for_rule (fun j ρ => (∀ i : Nat, i < j → comm S i = false) ∧ ∃ s, ρ = [.fz (.tup [.int m, dD]), .fz (.tup (S.map stD)), s, .non, .non, .non, .non, .non] ∧ notLk s = true) ⟨fun i hi => by omega, .non, rfl, rfl⟩ ?_ ?_
  · rintro j x ρ e ⟨hno, s, rfl, hs⟩ C k
    obtain ⟨hj, rfl⟩ := at_rg e
    refine ⟨hs, ?_⟩
    refine ⟨rfl, lc_mapE stD (fun l => .bl (decide ((j : Int) ∈ l))) S (fun l hl C hC => ⟨rfl, need_intro (inR_tup l (j : Int)) ⟨rfl, hC⟩⟩) ?_⟩
    refine need_intro (all_bls _ S) ?_
    cases q : comm S (j : Int) with
    | true =>
      have q' : (S.all fun l => decide ((j : Int) ∈ l)) = true := q
      rw [q']
      refine ⟨nle rfl, ?_⟩
      exact hA j hj q hno
    | false =>
      have q' : (S.all fun l => decide ((j : Int) ∈ l)) = false := q
      rw [q']
      exact k _ ⟨fun i hi => by
        rcases Nat.lt_succ_iff_lt_or_eq.mp hi with h | h
        · exact hno i h
        · rw [h]; exact q, .fz (.int (j : Int)), rfl, rfl⟩
  · rintro ρ ⟨hno, s, rfl, hs⟩
    rw [rgD_len] at hno
    obtain ⟨⟨a0, b0, h1, h2, h3⟩, hP⟩ := hB hno
    refine sp_shown (d := d) hS fun L hL => ?_
    refine need_intro (backRho_pure (pair_pure L)) ?_
    refine ⟨rfl, nle rfl, ?_⟩
    refine ⟨rfl, nle rfl, ?_⟩
    have hl : (S.map stD).length = S.length := List.length_map _
    show w_gather_3 (TT (d + 2)) ⟨fun _ => P (.fz .non), P, fun _ => False, fun _ => False⟩ [.fz (.tup [.int m, dD]), .fz (.tup (S.map stD)), s, .non, .fz (.tup (L.map Pr)), .fz (.int ((S.map stD).length : Nat)), .non, .non]
    rw [hl]
    refine ⟨nle rfl, ?_⟩
    refine ⟨rg0 (by omega), rfl, ?_⟩
    rw [rg_nats]
    let ρ0 : Rho := [.fz (.tup [.int m, dD]), .fz (.tup (S.map stD)), s, .non, .fz (.tup (L.map Pr)), .fz (.int (S.length : Nat)), .non, .non]
    refine lc2Go_rule (fun i acc ρ => ρ = ρ0 ∧ ∃ A : List (Int × Int), acc = A.map Pr ∧ A.length ≤ i * 1000 ∧ ((A = [] ∧ ∀ a b : Nat, a < b → b < S.length → mt S a b = false → i ≤ a) ∨ ∃ (a b : Nat) (rest : List (Int × Int)), A = ((a : Int), (b : Int)) :: rest ∧ FirstAp S a b)) _ 0 [] ρ0 ⟨rfl, [], rfl, Nat.zero_le _, .inl ⟨rfl, fun a b _ _ _ => Nat.zero_le _⟩⟩ ?_ ?_
    · rintro i x acc ρ e ⟨rfl, A, rfl, hA', hm'⟩ C k
      rw [Nat.zero_add] at *
      have hi : i < S.length := by
        have := (List.getElem?_eq_some_iff.mp e).1
        rw [List.length_map, List.length_range] at this
        exact this
      obtain rfl : x = .int (i : Int) := by
        rw [List.getElem?_map, List.getElem?_range hi] at e
        exact (Option.some.inj e).symm
      refine ⟨rfl, ?_⟩
      refine ⟨⟨by omega, by omega, by omega, by omega⟩, rfl, ?_⟩
      have er : ((i : Int) + 1) = ((i + 1 : Nat) : Int) := by omega
      rw [er, rg2_nats]
      refine lcGoB_rule (fun b acc ρ => ρ = [.fz (.tup [.int m, dD]), .fz (.tup (S.map stD)), s, .non, .fz (.tup (L.map Pr)), .fz (.int (S.length : Nat)), .fz (.int (i : Int)), .non] ∧ ∃ A : List (Int × Int), acc = A.map Pr ∧ A.length ≤ i * 1000 + b ∧
        ((A = [] ∧ ∀ a' b' : Nat, a' < b' → b' < S.length → mt S a' b' = false → i < a' ∨ (i = a' ∧ i + 1 + b ≤ b')) ∨ ∃ (a b : Nat) (rest : List (Int × Int)), A = ((a : Int), (b : Int)) :: rest ∧ FirstAp S a b)) _ 0 _ _
        ⟨rfl, A, rfl, by omega, hm'.elim (fun z => .inl ⟨z.1, fun a' b' g1 g2 g3 => by have := z.2 a' b' g1 g2 g3; omega⟩) .inr⟩ ?_ ?_
      · rintro b x acc ρ e ⟨rfl, A, rfl, hA', hm'⟩ C2 k2
        rw [Nat.zero_add] at *
        have hb : b < S.length - (i + 1) := by
          have := (List.getElem?_eq_some_iff.mp e).1
          rw [List.length_map, List.length_range] at this
          exact this
        obtain rfl : x = .int ((i + 1 + b : Nat) : Int) := by
          rw [List.getElem?_map, List.getElem?_range hb] at e
          exact (Option.some.inj e).symm
        have hb2 : i + 1 + b < S.length := by omega
        have hlim : (A.map Pr).length < lim := by
          rw [List.length_map]
          have : i * 1000 ≤ 1000 * 1000 := Nat.mul_le_mul_right _ (by omega)
          show _ < 10000000
          omega
        refine ⟨rfl, ?_⟩
        refine ⟨nle rfl, ?_⟩
        refine need_intro (notin_pr L (i : Int) ((i + 1 + b : Nat) : Int)) ?_
        have hmem := hL i (i + 1 + b) (by omega) hb2
        cases q : mt S i (i + 1 + b) with
        | false =>
          have hq : decide (((i : Int), ((i + 1 + b : Nat) : Int)) ∈ L) = false := decide_eq_false fun z => by rw [hmem, q] at z; cases z
          rw [hq]
          refine iteT ?_
          refine ⟨nle rfl, hlim, rfl, ?_⟩
          refine k2 _ _ ⟨rfl, A ++ [((i : Int), ((i + 1 + b : Nat) : Int))], by rw [List.map_append]; rfl, by rw [List.length_append, List.length_singleton]; omega, ?_⟩
          rcases hm' with ⟨rfl, hn⟩ | ⟨a, b', rest, rfl, hF⟩
          · refine .inr ⟨i, i + 1 + b, [], rfl, ⟨by omega, hb2, q, fun a' b' g1 g2 g3 => ?_⟩⟩
            exact hn a' b' g1 g2 g3
          · exact .inr ⟨a, b', rest ++ [((i : Int), ((i + 1 + b : Nat) : Int))], rfl, hF⟩
        | true =>
          have hq : decide (((i : Int), ((i + 1 + b : Nat) : Int)) ∈ L) = true := decide_eq_true (hmem.mpr q)
          rw [hq]
          refine iteF ?_
          refine ⟨rfl, k2 _ _ ⟨rfl, A, rfl, by omega, hm'.elim (fun z => .inl ⟨z.1, fun a' b' g1 g2 g3 => ?_⟩) .inr⟩⟩
          rcases z.2 a' b' g1 g2 g3 with y | ⟨y1, y2⟩
          · exact .inl y
          · refine .inr ⟨y1, ?_⟩
            by_cases hh : b' = i + 1 + b
            · subst hh
              rw [← y1, q] at g3
              cases g3
            · omega
      · rintro acc ρ ⟨rfl, A, rfl, hA', hm'⟩
        rw [Nat.zero_add, List.length_map, List.length_range] at hA' hm'
        refine ⟨rfl, k _ _ ⟨rfl, A, rfl, by omega, hm'.elim (fun z => .inl ⟨z.1, fun a' b' g1 g2 g3 => ?_⟩) .inr⟩⟩
        have := z.2 a' b' g1 g2 g3
        omega
    · rintro acc ρ ⟨rfl, A, rfl, hA', hm'⟩
      rw [Nat.zero_add, List.length_map, List.length_range] at hm'
      rcases hm' with ⟨rfl, hn⟩ | ⟨a, b, rest, rfl, hF⟩
      · have := hn a0 b0 h1 h2 h3
        omega
      · have e0 : idxD (.lst ((((a : Int), (b : Int)) :: rest).map Pr)) (.int 0) = some (.fz (Pr ((a : Int), (b : Int)))) := idx0 _ _
        refine need_intro e0 ?_
        exact hP a b hF
end Lw

set_option Elab.async false
set_option linter.all false
set_option maxRecDepth 100000
set_option maxHeartbeats 400000
set_option autoImplicit false
namespace Lw
open PySem L2 PySem.Spec PyProof.Rows Ip
theorem head_range {m r : Nat} {p : Nat → Bool} {rest : List Nat} (h : (List.range m).filter p = r :: rest) : r < m ∧ p r = true ∧ ∀ i : Nat, i < r → p i = false := by
  have e : (List.range m).find? p = some r := by rw [← List.head?_filter, h]; rfl
  rw [List.find?_range_eq_some] at e
  obtain ⟨a, b, c⟩ := e
  exact ⟨List.mem_range.mp b, a, fun i hi => by have := c i hi; simpa using this⟩
theorem ne_nil (L : List Int) : cmpD .NotEq (.lst (L.map .int)) (.lst []) = some (!L.isEmpty) := by
  show (if ((D.lst (L.map .int)).ok && (D.lst []).ok) = true then some (!(D.lst (L.map .int)).eqv (.lst [])) else none) = _
  rw [ints_lst]
  refine (if_pos rfl).trans ?_
  congr 2
  cases L with
  | nil =>
    show PyData.eqv (.list []) (.list []) = _
    simp [PyData.eqv, PyData.eqvAll]
  | cons i L =>
    show PyData.eqv (.list (_ :: _)) (.list []) = _
    simp [PyData.eqv, PyData.eqvAll]
theorem sp_due {d m : Nat} {dD : D} {S : List (List Int)} {P : Res → Prop} (hm : m ≤ 1000) (hS : S.length ≤ 1000)
    (hA : ∀ r : Nat, r < m → comm S r = true → (∀ i : Nat, i < r → comm S i = false) → P (.fz (.tup [.str "room", .int r])))
    (hB : (∀ r : Nat, r < m → comm S r = false) → (∀ i j : Nat, FirstAp S i j → P (.fz (.tup [.str "apart", .int i, .int j]))) ∧ ((∀ a b : Nat, a < b → b < S.length → mt S a b = true) → P (.fz .non))) :
    TT (d + 1) 14 [.tup [.int m, dD], .tup (S.map stD)] P := by
  have hl : (S.map stD).length = S.length := List.length_map _
  rw [TT_succ]
  refine ⟨rfl, ?_⟩
  refine ⟨rg0 (by omega), rfl, ?_⟩
  rw [rg_nats]
  refine lc_filterE (fun k : Nat => D.int (k : Int)) (fun k : Nat => D.int (k : Int)) (fun k => comm S (k : Int)) (List.range m) (fun r hr C C2 h1 h2 => ?_) ?_
  · refine ⟨rfl, ?_⟩
    refine ⟨rfl, lc_mapE stD (fun l => .bl (decide ((r : Int) ∈ l))) S (fun l hl C hC => ⟨rfl, need_intro (inR_tup l (r : Int)) ⟨rfl, hC⟩⟩) ?_⟩
    refine need_intro (all_bls _ S) ?_
    cases q : comm S (r : Int) with
    | true =>
      have q' : (S.all fun l => decide ((r : Int) ∈ l)) = true := q
      rw [q']
      exact ⟨rfl, h1 q⟩
    | false =>
      have q' : (S.all fun l => decide ((r : Int) ∈ l)) = false := q
      rw [q']
      exact ⟨rfl, h2 q⟩
  refine ⟨rfl, nle rfl, ?_⟩
  show w__law_due_1 (TT d) ⟨fun _ => P (.fz .non), P, fun _ => False, fun _ => False⟩ [.fz (.tup [.int m, dD]), .fz (.tup (S.map stD)), .ow (.lst (((List.range m).filter fun k : Nat => comm S (k : Int)).map fun k : Nat => D.int (k : Int))), .non, .non, .non, .non]
  have e1 : ∀ L : List Nat, (L.map fun k : Nat => D.int (k : Int)) = (L.map Int.ofNat).map .int := fun L => by rw [List.map_map]; rfl
  have e2 : cmpD .NotEq (.lst (((List.range m).filter fun k : Nat => comm S (k : Int)).map fun k : Nat => D.int (k : Int))) (.lst []) = some (!((List.range m).filter fun k : Nat => comm S (k : Int)).isEmpty) := by
    rw [e1, ne_nil]
    cases (List.range m).filter fun k : Nat => comm S (k : Int) <;> rfl
  refine ⟨nle rfl, ?_⟩
  refine n3 rfl rfl e2 ?_
  cases q : (List.range m).filter fun k : Nat => comm S (k : Int) with
  | cons r rest =>
    obtain ⟨h1, h2, h3⟩ := head_range q
    have e0 : idxD (.lst ((r :: rest).map fun k : Nat => D.int (k : Int))) (.int 0) = some (.fz (.int (r : Int))) := idx0 _ _
    refine need_intro e0 ?_
    refine ⟨nle rfl, ?_⟩
    exact hA r h1 h2 h3
  | nil =>
    have hno : ∀ r : Nat, r < m → comm S r = false := fun r hr => by
      have := List.filter_eq_nil_iff.mp q r (List.mem_range.mpr hr)
      simpa using this
    obtain ⟨hB1, hB2⟩ := hB hno
    show w__law_due_2 (TT d) ⟨fun _ => P (.fz .non), P, fun _ => False, fun _ => False⟩ [.fz (.tup [.int m, dD]), .fz (.tup (S.map stD)), .ow (.lst []), .non, .non, .non, .non]
    refine ⟨rg0 (by omega), ?_⟩
    rw [hl]
    refine for_rule (fun i ρ => (∀ a b : Nat, a < b → b < S.length → mt S a b = false → i ≤ a) ∧ ∃ s5 s6, ρ = [.fz (.tup [.int m, dD]), .fz (.tup (S.map stD)), .ow (.lst []), .non, .non, s5, s6] ∧ notLk s5 = true ∧ notLk s6 = true) ⟨fun a b _ _ _ => Nat.zero_le _, .non, .non, rfl, rfl, rfl⟩ ?_ ?_
    · rintro i x ρ e ⟨hn, s5, s6, rfl, n5, n6⟩ C k
      obtain ⟨hi, rfl⟩ := at_rg e
      refine ⟨n5, ?_⟩
      refine ⟨⟨by omega, by omega, by rw [hl]; omega, by rw [hl]; omega⟩, ?_⟩
      rw [hl]
      have er : ((i : Int) + 1) = ((i + 1 : Nat) : Int) := by omega
      rw [er, rg2_nats]
      refine for_rule (fun j ρ => (∀ a b : Nat, a < b → b < S.length → mt S a b = false → i < a ∨ (i = a ∧ i + 1 + j ≤ b)) ∧ ∃ s6, ρ = [.fz (.tup [.int m, dD]), .fz (.tup (S.map stD)), .ow (.lst []), .non, .non, .fz (.int (i : Int)), s6] ∧ notLk s6 = true) ⟨fun a b g1 g2 g3 => by have := hn a b g1 g2 g3; omega, s6, rfl, n6⟩ ?_ ?_
      · rintro j x ρ e ⟨hn, s6, rfl, n6⟩ C2 k2
        have hj : j < S.length - (i + 1) := by
          have := (List.getElem?_eq_some_iff.mp e).1
          rw [List.length_map, List.length_range] at this
          exact this
        obtain rfl : x = .int ((i + 1 + j : Nat) : Int) := by
          rw [List.getElem?_map, List.getElem?_range hj] at e
          exact (Option.some.inj e).symm
        have hj2 : i + 1 + j < S.length := by omega
        refine ⟨n6, ?_⟩
        show w__law_due_B2_0 (TT d) _ [.fz (.tup [.int m, dD]), .fz (.tup (S.map stD)), .ow (.lst []), .non, .non, .fz (.int (i : Int)), .fz (.int ((i + 1 + j : Nat) : Int))]
        refine need_intro (at_st hi) ?_
        refine ⟨rfl, lc_mapE (fun z : Int => D.int z) (fun z => .bl (decide (z ∈ S.getD (i + 1 + j) []))) (S.getD i []) (fun z hz C hC => ?_) ?_⟩
        · refine ⟨rfl, ?_⟩
          refine need_intro (at_st hj2) ?_
          refine n3 rfl rfl (inR_tup (S.getD (i + 1 + j) []) z) ?_
          exact ⟨rfl, hC⟩
        · refine need_intro (any_bls _ (S.getD i [])) ?_
          cases q : mt S i (i + 1 + j) with
          | true =>
            have q' : ((S.getD i []).any fun z => decide (z ∈ S.getD (i + 1 + j) [])) = true := q
            rw [q']
            refine k2 _ ⟨fun a b g1 g2 g3 => ?_, .fz (.int ((i + 1 + j : Nat) : Int)), rfl, rfl⟩
            rcases hn a b g1 g2 g3 with y | ⟨y1, y2⟩
            · exact .inl y
            · refine .inr ⟨y1, ?_⟩
              by_cases hh : b = i + 1 + j
              · subst hh
                rw [← y1, q] at g3
                cases g3
              · omega
          | false =>
            have q' : ((S.getD i []).any fun z => decide (z ∈ S.getD (i + 1 + j) [])) = false := q
            rw [q']
            refine ⟨nle rfl, ?_⟩
            exact hB1 i (i + 1 + j) ⟨by omega, hj2, q, hn⟩
      · rintro ρ ⟨hn, s6, rfl, n6⟩
        rw [List.length_map, List.length_range] at hn
        exact k _ ⟨fun a b g1 g2 g3 => by have := hn a b g1 g2 g3; omega, _, s6, rfl, rfl, n6⟩
    · rintro ρ ⟨hn, s5, s6, rfl, n5, n6⟩
      rw [rgD_len] at hn
      refine hB2 fun a b g1 g2 => ?_
      cases q : mt S a b with
      | true => rfl
      | false =>
        have := hn a b g1 g2 q
        omega
end Lw

set_option Elab.async false
set_option linter.all false
set_option maxRecDepth 100000
set_option maxHeartbeats 400000
set_option autoImplicit false
namespace Lw
open PySem L2 PySem.Spec PyProof.Rows Ip
theorem sp_take {d : Nat} {m : Int} {P : Res → Prop} (h0 : 0 < m) (h1 : m ≤ 1000000000) (h : ∀ x, 0 ≤ x → x < m → P (.fz (.int x))) : TT (d + 1) 7 [.box, .int m] P := by
  rw [TT_succ]
  exact ⟨m, rfl, h0, h1, h⟩
theorem same_int {d : Nat} {i : Int} {P : Res → Prop} (h : P (.fz (.bl true))) : TT (d + 1) 8 [.int i, .int i] P := by
  rw [TT_succ]
  refine ⟨rfl, ?_⟩
  show P (.fz (.bl ((D.int i).eqv (D.int i))))
  rw [eqv_int, decide_eq_true rfl]
  exact h
theorem eq_room : cmpR .Eq (.str "room") (.str "room") = some (.fz (.bl true)) := by
  have e : cmpD .Eq (.str "room") (.str "room") = some true := by decide +kernel
  unfold cmpR
  rw [e]
theorem eq_apart : cmpR .Eq (.str "apart") (.str "apart") = some (.fz (.bl true)) := by
  have e : cmpD .Eq (.str "apart") (.str "apart") = some true := by decide +kernel
  unfold cmpR
  rw [e]
theorem same_room {d : Nat} {P : Res → Prop} (h : P (.fz (.bl true))) : TT (d + 1) 8 [.str "room", .str "room"] P := by
  rw [TT_succ]
  refine ⟨rfl, ?_⟩
  exact need_intro eq_room h
theorem same_apart {d : Nat} {P : Res → Prop} (h : P (.fz (.bl true))) : TT (d + 1) 8 [.str "apart", .str "apart"] P := by
  rw [TT_succ]
  refine ⟨rfl, ?_⟩
  exact need_intro eq_apart h
theorem at_any {xs : List D} {k : Nat} {x : D} (h : xs[k]? = some x) : idxD (.tup xs) (.int (k : Int)) = some (.fz x) := by
  show (atI xs (k : Int)).map Res.fz = _
  rw [atI_nat h]
  rfl
theorem same_tup {d : Nat} {xs : List D} {P : Res → Prop} (hx : ∀ x ∈ xs, ∀ Q : Res → Prop, Q (.fz (.bl true)) → TT d 8 [x, x] Q) (hl : xs.length ≤ 1000000) (h : P (.fz (.bl true))) : TT (d + 1) 8 [.tup xs, .tup xs] P := by
  rw [TT_succ]
  refine ⟨rfl, ?_⟩
  show if (D.int (xs.length : Nat)).eqv (D.int (xs.length : Nat)) = true then _ else _
  rw [eqv_int, decide_eq_true rfl]
  refine iteT ?_
  refine ⟨rg0 (by omega), rfl, ?_⟩
  rw [rg_nats]
  refine lc_mapE (fun k : Nat => D.int (k : Int)) (fun _ => .bl true) (List.range xs.length) (fun k hk C hC => ?_) ?_
  · have hk := List.mem_range.mp hk
    have e := at_any (List.getElem?_eq_getElem hk)
    refine ⟨rfl, ?_⟩
    refine need_intro e ?_
    refine need_intro e ?_
    exact hx _ (List.getElem_mem hk) _ ⟨rfl, hC⟩
  · refine need_intro (all_bls (fun _ => true) (List.range xs.length)) ?_
    have : (List.range xs.length).all (fun _ => true) = true := by rw [List.all_eq_true]; exact fun _ _ => rfl
    rw [this]
    exact h
theorem same_ans_room {d : Nat} {r : Int} {P : Res → Prop} (h : P (.fz (.bl true))) : TT (d + 2) 8 [.tup [.str "room", .int r], .tup [.str "room", .int r]] P :=
  same_tup (fun x hx Q hQ => by
    rcases List.mem_cons.mp hx with rfl | hx
    · exact same_room hQ
    · rw [List.mem_singleton.mp hx]
      exact same_int hQ) (nle rfl) h
theorem same_ans_apart {d : Nat} {i j : Int} {P : Res → Prop} (h : P (.fz (.bl true))) : TT (d + 2) 8 [.tup [.str "apart", .int i, .int j], .tup [.str "apart", .int i, .int j]] P :=
  same_tup (fun x hx Q hQ => by
    rcases List.mem_cons.mp hx with rfl | hx
    · exact same_apart hQ
    rcases List.mem_cons.mp hx with rfl | hx
    · exact same_int hQ
    · rw [List.mem_singleton.mp hx]
      exact same_int hQ) (nle rfl) h

/-! ### trees and strolls -/
/-- the doors are those of a tree: each leads from a room to the one above it -/
structure Tree (m : Nat) (E : List (Int × Int)) (rk par : Int → Int) : Prop where
  up : ∀ a b, (a, b) ∈ E → (par a = b ∧ rk b < rk a) ∨ (par b = a ∧ rk a < rk b)
  inn : ∀ a b, (a, b) ∈ E → (0 ≤ a ∧ a < m) ∧ (0 ≤ b ∧ b < m)
/-- a stroll: with every room but its uppermost the one above it -/
def Good (m : Nat) (rk par : Int → Int) (l : List Int) : Prop := (∀ x ∈ l, 0 ≤ x ∧ x < m) ∧ ∃ t ∈ l, (∀ x ∈ l, rk t ≤ rk x) ∧ ∀ x ∈ l, x ≠ t → par x ∈ l ∧ rk (par x) < rk x
theorem Good.perm {m : Nat} {rk par : Int → Int} {l l' : List Int} (h : Good m rk par l) (e : l'.Perm l) : Good m rk par l' := by
  obtain ⟨a, t, ht, h1, h2⟩ := h
  exact ⟨fun x hx => a x (e.mem_iff.mp hx), t, e.mem_iff.mpr ht, fun x hx => h1 x (e.mem_iff.mp hx), fun x hx hn => ⟨e.mem_iff.mpr (h2 x (e.mem_iff.mp hx) hn).1, (h2 x (e.mem_iff.mp hx) hn).2⟩⟩
theorem Good.one {m : Nat} {rk par : Int → Int} {x : Int} (h : 0 ≤ x ∧ x < m) : Good m rk par [x] :=
  ⟨fun y hy => by rw [List.mem_singleton.mp hy]; exact h, x, List.mem_singleton.mpr rfl, fun y hy => by rw [List.mem_singleton.mp hy]; exact Int.le_refl _, fun y hy hn => absurd (List.mem_singleton.mp hy) hn⟩
/-- a door on -/
def Nb (E : List (Int × Int)) (r s : Int) : Prop := (r, s) ∈ E ∨ (s, r) ∈ E
theorem Good.grow {m : Nat} {E : List (Int × Int)} {rk par : Int → Int} (T : Tree m E rk par) {l : List Int} (h : Good m rk par l) {r s : Int} (hr : r ∈ l) (hs : s ∉ l) (n : Nb E r s) : Good m rk par (l ++ [s]) := by
  obtain ⟨a, t, ht, h1, h2⟩ := h
  have hs' : 0 ≤ s ∧ s < m := n.elim (fun z => (T.inn _ _ z).2) fun z => (T.inn _ _ z).1
  have ap : ∀ {y}, y ∈ l ++ [s] ↔ y ∈ l ∨ y = s := fun {y} => by rw [List.mem_append, List.mem_singleton]
  have up : (par r = s ∧ rk s < rk r) ∨ (par s = r ∧ rk r < rk s) := by
    rcases n with z | z
    · exact T.up _ _ z
    · rcases T.up _ _ z with y | y
      · exact .inr y
      · exact .inl y
  refine ⟨fun x hx => (ap.mp hx).elim (a x) fun e => e ▸ hs', ?_⟩
  rcases up with ⟨u1, u2⟩ | ⟨u1, u2⟩
  · have hrt : r = t := by
      by_cases e : r = t
      · exact e
      · exact absurd (u1 ▸ (h2 r hr e).1) hs
    subst hrt
    refine ⟨s, ap.mpr (.inr rfl), fun x hx => ?_, fun x hx hn => ?_⟩
    · rcases ap.mp hx with z | z
      · have := h1 x z; omega
      · rw [z]; exact Int.le_refl _
    · rcases ap.mp hx with z | z
      · by_cases e : x = r
        · subst e
          rw [u1]
          exact ⟨ap.mpr (.inr rfl), u2⟩
        · exact ⟨ap.mpr (.inl (h2 x z e).1), (h2 x z e).2⟩
      · exact absurd z hn
  · refine ⟨t, ap.mpr (.inl ht), fun x hx => ?_, fun x hx hn => ?_⟩
    · rcases ap.mp hx with z | z
      · exact h1 x z
      · rw [z]
        have := h1 r hr
        omega
    · rcases ap.mp hx with z | z
      · exact ⟨ap.mpr (.inl (h2 x z hn).1), (h2 x z hn).2⟩
      · rw [z, u1]
        exact ⟨ap.mpr (.inl hr), u2⟩
/-- climbing from a common room one comes to the lower of the two uppermost rooms -/
theorem climb {m : Nat} {rk par : Int → Int} {l l' : List Int} {t : Int} (ht : ∀ x ∈ l, rk t ≤ rk x) (h2 : ∀ x ∈ l, x ≠ t → par x ∈ l ∧ rk (par x) < rk x)
    (h' : Good m rk par l') (hlow : ∃ s ∈ l', (∀ x ∈ l', rk s ≤ rk x) ∧ (∀ x ∈ l', x ≠ s → par x ∈ l' ∧ rk (par x) < rk x) ∧ rk s ≤ rk t) :
    ∀ (k : Nat) (x : Int), (rk x - rk t).toNat ≤ k → x ∈ l → x ∈ l' → t ∈ l' := by
  obtain ⟨s, hs, g1, g2, g3⟩ := hlow
  intro k
  induction k with
  | zero =>
    intro x hk hx hx'
    by_cases e : x = t
    · exact e ▸ hx'
    · have a := h2 x hx e
      have b := ht (par x) a.1
      omega
  | succ k ih =>
    intro x hk hx hx'
    by_cases e : x = t
    · exact e ▸ hx'
    · have a := h2 x hx e
      have b := ht (par x) a.1
      have hxs : x ≠ s := fun z => by
        have e3 := congrArg rk z
        have := a.2
        omega
      exact ih (par x) (by omega) a.1 (g2 x hx' hxs).1
/-- strolls that meet two by two have a room in common -/
theorem helly {m : Nat} {rk par : Int → Int} : ∀ {S : List (List Int)}, S ≠ [] → (∀ l ∈ S, Good m rk par l) → (∀ l ∈ S, ∀ l' ∈ S, ∃ x ∈ l, x ∈ l') → ∃ r : Int, 0 ≤ r ∧ r < m ∧ ∀ l ∈ S, r ∈ l := by
  intro S hne hg hm
  -- the stroll whose uppermost room lies lowest
  have pick : ∀ (L : List (List Int)), L ≠ [] → (∀ l ∈ L, Good m rk par l) → ∃ l ∈ L, ∃ t ∈ l, (∀ x ∈ l, rk t ≤ rk x) ∧ (∀ x ∈ l, x ≠ t → par x ∈ l ∧ rk (par x) < rk x) ∧
      ∀ l' ∈ L, ∃ s ∈ l', (∀ x ∈ l', rk s ≤ rk x) ∧ (∀ x ∈ l', x ≠ s → par x ∈ l' ∧ rk (par x) < rk x) ∧ rk s ≤ rk t := by
    intro L
    induction L with
    | nil => intro h; exact absurd rfl h
    | cons l L ih =>
      intro _ hg
      obtain ⟨_, t, ht, h1, h2⟩ := hg l List.mem_cons_self
      by_cases hL : L = []
      · subst hL
        exact ⟨l, List.mem_cons_self, t, ht, h1, h2, fun l' hl' => by
          rw [List.mem_singleton.mp hl']
          exact ⟨t, ht, h1, h2, Int.le_refl _⟩⟩
      · obtain ⟨l0, hl0, t0, ht0, g1, g2, g3⟩ := ih hL fun l' hl' => hg l' (List.mem_cons_of_mem _ hl')
        by_cases hh : rk t ≤ rk t0
        · refine ⟨l0, List.mem_cons_of_mem _ hl0, t0, ht0, g1, g2, fun l' hl' => ?_⟩
          rcases List.mem_cons.mp hl' with rfl | hl'
          · exact ⟨t, ht, h1, h2, hh⟩
          · exact g3 l' hl'
        · refine ⟨l, List.mem_cons_self, t, ht, h1, h2, fun l' hl' => ?_⟩
          rcases List.mem_cons.mp hl' with rfl | hl'
          · exact ⟨t, ht, h1, h2, Int.le_refl _⟩
          · obtain ⟨s, hs, e1, e2, e3⟩ := g3 l' hl'
            exact ⟨s, hs, e1, e2, by omega⟩
  obtain ⟨l, hl, t, ht, h1, h2, h3⟩ := pick S hne hg
  refine ⟨t, ((hg l hl).1 t ht).1, ((hg l hl).1 t ht).2, fun l' hl' => ?_⟩
  obtain ⟨x, hx, hx'⟩ := hm l hl l' hl'
  exact climb (m := m) h1 h2 (hg l' hl') (h3 l' hl') _ x (Nat.le_refl _) hx hx'
end Lw

set_option Elab.async false
set_option linter.all false
set_option maxRecDepth 100000
set_option maxHeartbeats 400000
set_option autoImplicit false
namespace Lw
open PySem L2 PySem.Spec PyProof.Rows Ip
theorem perm_erase : ∀ {l : List Int} {i : Nat} (h : i < l.length), (l[i] :: l.eraseIdx i).Perm l
  | x :: l, 0, _ => List.Perm.refl _
  | x :: l, i + 1, h => by
    have := perm_erase (l := l) (i := i) (by simpa using h)
    exact (List.Perm.swap x _ _).trans (this.cons x)
theorem sp_mixed {d : Nat} {row : List Int} {P : Res → Prop} (hr : row.length ≤ 1000) (h : ∀ ns : List Int, ns.Perm row → P (.ow (.lst (ns.map .int)))) : TT (d + 2) 9 [.box, .lst (row.map .int)] P := by
  rw [TT_succ]
  refine ⟨rfl, ?_⟩
  refine ⟨rfl, nle rfl, ?_⟩
  show w__law_mixed_1 (TT (d + 1)) ⟨fun _ => P (.fz .non), P, fun _ => False, fun _ => False⟩ [.fz .box, .fz (.lst (row.map .int)), .ow (.lst (row.map .int)), .non]
  have hl : (row.map D.int).length = row.length := List.length_map _
  refine ⟨rg0 (by rw [hl]; omega), rfl, ?_⟩
  rw [hl]
  refine lcGo_rule (fun i acc ρ' => ∃ (rest ns : List Int), ρ' = [.fz .box, .fz (.lst (row.map .int)), .ow (.lst (rest.map .int)), .non] ∧ (ns ++ rest).Perm row ∧ acc = ns.map .int ∧ ns.length = i) _ 0 [] _
    ⟨row, [], rfl, List.Perm.refl _, rfl, rfl⟩ ?_ ?_
  · rintro i x acc ρ e ⟨rest, ns, rfl, hp, rfl, hnl⟩ C k
    rw [Nat.zero_add] at *
    obtain ⟨hi, rfl⟩ := at_rg e
    have hlen := hp.length_eq
    rw [List.length_append] at hlen
    have hr0 : 0 < rest.length := by omega
    refine ⟨rfl, ?_⟩
    refine sp_take (d := d) (m := ((rest.map D.int).length : Nat)) (by rw [List.length_map]; omega) (by rw [List.length_map]; omega) fun z z0 z1 => ?_
    rw [List.length_map] at z1
    refine ⟨by rw [List.length_map]; show _ ≤ 10000000; omega, ?_⟩
    refine need_intro (pop_ok z0 (by rw [List.length_map]; exact z1)) ?_
    have hz : z.toNat < rest.length := by omega
    have e2 : (rest.map D.int)[z.toNat]? = some (.int rest[z.toNat]) := by
      rw [List.getElem?_map, List.getElem?_eq_getElem hz]; rfl
    refine need_intro e2 ?_
    refine ⟨rfl, ?_⟩
    refine k _ _ ⟨rest.eraseIdx z.toNat, ns ++ [rest[z.toNat]], ?_, ?_, by rw [List.map_append]; rfl, by rw [List.length_append, hnl]; rfl⟩
    · have e3 : (rest.map D.int).eraseIdx z.toNat = (rest.eraseIdx z.toNat).map D.int := erase_map _ _ _
      rw [← e3]
      rfl
    · rw [List.append_assoc]
      exact ((perm_erase hz).append_left ns).trans hp
  · rintro acc ρ ⟨rest, ns, rfl, hp, rfl, hnl⟩
    rw [Nat.zero_add, rgD_len] at hnl
    have hlen := hp.length_eq
    rw [List.length_append] at hlen
    have hr : rest = [] := List.eq_nil_of_length_eq_zero (by omega)
    subst hr
    rw [List.append_nil] at hp
    exact h ns hp
theorem at_lst {L : List Int} {u : Nat} (h : u < L.length) : idxD (.lst (L.map .int)) (.int (u : Int)) = some (.fz (.int L[u])) := by
  show (atI (L.map D.int) (u : Int)).map Res.fz = _
  rw [atI_nat (v := D.int L[u]) (by rw [List.getElem?_map, List.getElem?_eq_getElem h]; rfl)]
  rfl
theorem idx_of : ∀ {l : List Int} {i : Nat} (h : i < l.length), l.Nodup → l.idxOf l[i] = i
  | x :: l, 0, _, _ => by simp
  | x :: l, i + 1, h, hn => by
    have hn' := List.nodup_cons.mp hn
    have hi : i < l.length := by simpa using h
    have ih := idx_of hi hn'.2
    have hne : l[i] ≠ x := fun e => hn'.1 (e ▸ List.getElem_mem hi)
    show (x :: l).idxOf l[i] = i + 1
    rw [List.idxOf_cons]
    have : (x == l[i]) = false := by simpa using fun e => hne e.symm
    rw [this]
    simp [ih]
/-- the doors so far -/
def Doors (names : List Int) (k : Nat) (par : Int → Int) (E : List (Int × Int)) : Prop := ∀ a b, (a, b) ∈ E → ∃ (u v : Nat) (hu : u < names.length) (hv : v < names.length), v < u ∧ u < k ∧ par names[u] = names[v] ∧ ((a = names[u] ∧ b = names[v]) ∨ (a = names[v] ∧ b = names[u]))
theorem Doors.tree {names : List Int} {k m : Nat} {par : Int → Int} {E : List (Int × Int)} (h : Doors names k par E) (hn : names.Nodup) (hi : ∀ x ∈ names, 0 ≤ x ∧ x < m) : Tree m E (fun x => (names.idxOf x : Nat)) par where
  up := fun a b hab => by
    obtain ⟨u, v, hu, hv, h1, h2, h3, h4⟩ := h a b hab
    have e1 := idx_of hu hn
    have e2 := idx_of hv hn
    rcases h4 with ⟨rfl, rfl⟩ | ⟨rfl, rfl⟩
    · refine .inl ⟨h3, ?_⟩
      show ((names.idxOf names[v] : Nat) : Int) < ((names.idxOf names[u] : Nat) : Int)
      rw [e1, e2]; omega
    · refine .inr ⟨h3, ?_⟩
      show ((names.idxOf names[v] : Nat) : Int) < ((names.idxOf names[u] : Nat) : Int)
      rw [e1, e2]; omega
  inn := fun a b hab => by
    obtain ⟨u, v, hu, hv, h1, h2, h3, h4⟩ := h a b hab
    rcases h4 with ⟨rfl, rfl⟩ | ⟨rfl, rfl⟩
    · exact ⟨hi _ (List.getElem_mem hu), hi _ (List.getElem_mem hv)⟩
    · exact ⟨hi _ (List.getElem_mem hv), hi _ (List.getElem_mem hu)⟩
theorem Doors.more {names : List Int} {k j : Nat} {par : Int → Int} {E : List (Int × Int)} (h : Doors names k par E) (hn : names.Nodup) (hk : k < names.length) (hj : j < k) {p : Int × Int} (hp : (p.1 = names[k] ∧ p.2 = names[j]) ∨ (p.1 = names[j] ∧ p.2 = names[k])) :
    ∃ par', Doors names (k + 1) par' (E ++ [p]) := by
  have inj : ∀ {u v : Nat} (hu : u < names.length) (hv : v < names.length), names[u] = names[v] → u = v := fun hu hv e => by
    have a := idx_of hu hn
    rw [e, idx_of hv hn] at a
    exact a.symm
  refine ⟨fun x => if x = names[k] then names[j] else par x, fun a b hab => ?_⟩
  rcases List.mem_append.mp hab with hab | hab
  · obtain ⟨u, v, hu, hv, h1, h2, h3, h4⟩ := h a b hab
    refine ⟨u, v, hu, hv, h1, by omega, ?_, h4⟩
    show (if names[u] = names[k] then names[j] else par names[u]) = names[v]
    rw [if_neg fun e => by have := inj hu hk e; omega]
    exact h3
  · have e := List.mem_singleton.mp hab
    subst e
    exact ⟨k, j, hk, by omega, hj, by omega, if_pos rfl, hp⟩
theorem sp_house {d : Nat} {most : Int} {P : Res → Prop} (h0 : 0 < most) (h1 : most ≤ 100) (h : ∀ (m : Nat) (E : List (Int × Int)) (rk par : Int → Int), 1 ≤ m → m ≤ 100 → E.length ≤ 100 → Tree m E rk par → P (.fz (.tup [.int m, .tup (E.map Pr)]))) : TT (d + 3) 10 [.box, .int most] P := by
  rw [TT_succ]
  refine ⟨rfl, ?_⟩
  refine sp_take (d := d + 1) h0 (by omega) fun y y0 y1 => ?_
  refine ⟨rfl, nle rfl, ?_⟩
  obtain ⟨m, hm, hm1, hm2⟩ : ∃ m : Nat, (1 + y) = (m : Int) ∧ 1 ≤ m ∧ m ≤ 100 := ⟨(1 + y).toNat, by omega, by omega, by omega⟩
  show w__law_house_1 (TT (d + 2)) ⟨fun _ => P (.fz .non), P, fun _ => False, fun _ => False⟩ [.fz .box, .fz (.int most), .fz (.int (1 + y)), .non, .non, .non, .non]
  rw [hm]
  refine ⟨rg0 (by omega), ?_⟩
  have e0 := ints_rgD m
  show TT (d + 2) 9 [.box, .lst (rgD 0 (m : Int))] _
  rw [e0]
  refine sp_mixed (d := d) (by rw [List.length_map, List.length_range]; omega) fun names hp => ?_
  refine need_intro (backRho_pure (r := .ow (.lst (names.map .int))) (ints_pure names)) ?_
  have hnl : names.length = m := by rw [hp.length_eq, List.length_map, List.length_range]
  have hnd : names.Nodup := hp.nodup_iff.mpr (List.Pairwise.map Int.ofNat (fun a b hab e => hab (Int.ofNat.inj e)) List.nodup_range)
  have hni : ∀ x ∈ names, 0 ≤ x ∧ x < m := fun x hx => by
    obtain ⟨k, hk, rfl⟩ := List.mem_map.mp (hp.mem_iff.mp hx)
    have := List.mem_range.mp hk
    exact ⟨by show 0 ≤ (k : Int); omega, by show (k : Int) < _; omega⟩
  refine ⟨rfl, nle rfl, ?_⟩
  refine ⟨nle rfl, rfl, nle rfl, ?_⟩
  refine ⟨⟨by omega, by omega, by omega, by omega⟩, ?_⟩
  have er : rgD 1 (m : Int) = (List.range (m - 1)).map fun (k : Nat) => D.int ((1 + k : Nat) : Int) := rg2_nats 1 m
  rw [er]
  refine for_rule (fun i ρ => ∃ (E : List (Int × Int)) (par : Int → Int) (s5 s6 : Ip.Slot), ρ = [.fz .box, .fz (.int most), .fz (.int (m : Int)), .ow (.lst (names.map .int)), .ow (.lst (E.map Pr)), s5, s6] ∧ E.length = i ∧ Doors names (1 + i) par E ∧ notLk s5 = true ∧ notLk s6 = true)
    ⟨[], fun x => x, .non, .non, rfl, rfl, (fun a b z => by cases z), rfl, rfl⟩ ?_ ?_
  · rintro i x ρ e ⟨E, par, s5, s6, rfl, hE, hD, n5, n6⟩ C k
    have hi : i < m - 1 := by
      have := (List.getElem?_eq_some_iff.mp e).1
      rw [List.length_map, List.length_range] at this
      exact this
    obtain rfl : x = .int ((1 + i : Nat) : Int) := by
      rw [List.getElem?_map, List.getElem?_range hi] at e
      exact (Option.some.inj e).symm
    refine ⟨n5, ?_⟩
    refine sp_take (d := d + 1) (m := ((1 + i : Nat) : Int)) (by omega) (by omega) fun z z0 z1 => ?_
    refine ⟨nle rfl, ?_⟩
    refine sp_take (d := d + 1) (m := 3) (by decide) (by decide) fun p p0 p1 => ?_
    have fin : ∀ j : Int, 0 ≤ j → j < ((1 + i : Nat) : Int) → w__law_house_B1_1 (TT (d + 2)) ⟨C, P, fun _ => False, C⟩ [.fz .box, .fz (.int most), .fz (.int (m : Int)), .ow (.lst (names.map .int)), .ow (.lst (E.map Pr)), .fz (.int ((1 + i : Nat) : Int)), .fz (.int j)] := fun j j0 j1 => by
      obtain ⟨v, rfl⟩ : ∃ v : Nat, j = v := ⟨j.toNat, by omega⟩
      have hv : v < 1 + i := by omega
      have hk : 1 + i < names.length := by omega
      have ek := at_lst hk
      have ev := at_lst (L := names) (u := v) (by omega)
      refine need_intro ek ?_
      refine need_intro ev ?_
      refine need_intro ek ?_
      refine need_intro ev ?_
      refine ⟨nle rfl, ?_⟩
      refine ⟨by rw [List.length_map]; show _ < 10000000; omega, ?_⟩
      have hp : ∃ p : Int × Int, (p.1 = names[1 + i] ∧ p.2 = names[v] ∨ p.1 = names[v] ∧ p.2 = names[1 + i]) ∧ p = (if names[v]'(by omega) < names[1 + i] then names[v]'(by omega) else names[1 + i], if names[v]'(by omega) > names[1 + i] then names[v]'(by omega) else names[1 + i]) := by
        refine ⟨_, ?_, rfl⟩
        by_cases c : names[v]'(by omega) < names[1 + i]
        · rw [if_pos c, if_neg (by omega)]
          exact .inr ⟨rfl, rfl⟩
        · rw [if_neg c]
          by_cases c2 : names[v]'(by omega) > names[1 + i]
          · rw [if_pos c2]
            exact .inl ⟨rfl, rfl⟩
          · rw [if_neg c2]
            have : names[v]'(by omega) = names[1 + i] := by omega
            exact .inl ⟨rfl, this.symm⟩
      obtain ⟨p, hp1, hp2⟩ := hp
      obtain ⟨par', hD'⟩ := hD.more hnd hk hv hp1
      refine k _ ⟨E ++ [p], par', .fz (.int ((1 + i : Nat) : Int)), .fz (.int (v : Int)), ?_, by rw [List.length_append, hE]; rfl, hD', rfl, rfl⟩
      rw [List.map_append, hp2]
      rfl
    rcases three p0 p1 with rfl | rfl | rfl
    · exact ⟨n6, nle rfl, fin _ (by omega) (by omega)⟩
    · exact ⟨n6, nle rfl, fin _ z0 z1⟩
    · exact ⟨n6, nle rfl, fin _ (by omega) (by omega)⟩
  · rintro ρ ⟨E, par, s5, s6, rfl, hE, hD, n5, n6⟩
    rw [List.length_map, List.length_range] at hE
    obtain ⟨E', hE', es⟩ := sorted_pr (L := E) (by show _ ≤ 10000000; omega)
    refine need_intro es ?_
    refine ⟨nle rfl, ?_⟩
    refine h m E' (fun x => (names.idxOf x : Nat)) par hm1 hm2 (by rw [hE'.length_eq]; omega) ?_
    have T := hD.tree (m := m) hnd hni
    exact ⟨fun a b hab => T.up a b (hE'.mem_iff.mp hab), fun a b hab => T.inn a b (hE'.mem_iff.mp hab)⟩
end Lw

set_option Elab.async false
set_option linter.all false
set_option maxRecDepth 100000
set_option maxHeartbeats 400000
set_option autoImplicit false
namespace Lw
open PySem L2 PySem.Spec PyProof.Rows Ip
theorem sp_behind {d : Nat} {m r : Int} {E : List (Int × Int)} {P : Res → Prop} (hE : E.length ≤ 1000) (h : ∀ xs : List Int, (∀ s ∈ xs, Nb E r s) → xs.length ≤ E.length → P (.ow (.lst (xs.map .int)))) : TT (d + 1) 11 [.tup [.int m, .tup (E.map Pr)], .int r] P := by
  rw [TT_succ]
  refine ⟨rfl, ?_⟩
  refine ⟨nle rfl, rfl, nle rfl, ?_⟩
  show forGo (gSet 3) (w__law_behind_B1_0 (TT d)) _ P (E.map Pr) [.fz (.tup [.int m, .tup (E.map Pr)]), .fz (.int r), .ow (.lst []), .non]
  refine for_rule (fun i ρ => ∃ (xs : List Int) (s3 : Ip.Slot), ρ = [.fz (.tup [.int m, .tup (E.map Pr)]), .fz (.int r), .ow (.lst (xs.map .int)), s3] ∧ xs.length ≤ i ∧ (∀ s ∈ xs, Nb E r s) ∧ notLk s3 = true) ⟨[], .non, rfl, Nat.zero_le _, (fun s z => by cases z), rfl⟩ ?_ ?_
  · rintro i x ρ e ⟨xs, s3, rfl, hl, hx, n3'⟩ C k
    rw [List.getElem?_map] at e
    cases q : E[i]? with
    | none => rw [q] at e; cases e
    | some p =>
      rw [q] at e
      cases e
      obtain ⟨a, b⟩ := p
      have hi : i < E.length := (List.getElem?_eq_some_iff.mp q).1
      have hab : (a, b) ∈ E := List.mem_iff_getElem?.mpr ⟨i, q⟩
      refine ⟨n3', ?_⟩
      refine ite2 (fun q2 => ?_) (fun q2 => ?_)
      case refine_2 => exact k _ ⟨xs, .fz (Pr (a, b)), rfl, by omega, hx, rfl⟩
      case refine_1 =>
        have q2 : (([a, b].map D.int).any fun z => z.eqv (.int r)) = true := q2
        rw [any_int] at q2
        refine ⟨by rw [List.length_map]; show _ < 10000000; omega, ?_⟩
        refine k _ ⟨xs ++ [a + b - r], .fz (Pr (a, b)), by rw [List.map_append]; rfl, by rw [List.length_append]; simp; omega, fun s hs => ?_, rfl⟩
        rcases List.mem_append.mp hs with hs | hs
        · exact hx s hs
        · rw [List.mem_singleton.mp hs]
          have hr := of_decide_eq_true q2
          rcases List.mem_cons.mp hr with rfl | hr
          · refine .inl ?_
            rw [show r + b - r = b by omega]
            exact hab
          · have := List.mem_singleton.mp hr
            subst this
            refine .inr ?_
            rw [show a + r - r = a by omega]
            exact hab
  · rintro ρ ⟨xs, s3, rfl, hl, hx, n3'⟩
    rw [List.length_map] at hl
    obtain ⟨xs', hp, es⟩ := sorted_ints (L := xs) (by show _ ≤ 10000000; omega)
    refine need_intro es ?_
    refine h xs' (fun s hs => hx s (hp.mem_iff.mp hs)) ?_
    rw [hp.length_eq]
    exact hl
theorem inR_notlst (L : List Int) (s : Int) : cmpD .NotIn (.int s) (.lst (L.map .int)) = some (!decide (s ∈ L)) := notin_lst L s
theorem ne_nilL (L : List Int) : cmpD .NotEq (.lst (L.map .int)) (.lst []) = some (!L.isEmpty) := ne_nil L
/-- what stands beside the rooms of l, and not in l -/
def Beside (E : List (Int × Int)) (l xs : List Int) : Prop := ∀ s ∈ xs, s ∉ l ∧ ∃ r ∈ l, Nb E r s
theorem Beside.filter {E : List (Int × Int)} {l xs ys : List Int} {r : Int} (h : Beside E l xs) (hr : r ∈ l) (hy : ∀ s ∈ ys, Nb E r s) : Beside E l (xs ++ ys.filter fun s => !decide (s ∈ l)) := fun s hs => by
  rcases List.mem_append.mp hs with hs | hs
  · exact h s hs
  · obtain ⟨a, b⟩ := List.mem_filter.mp hs
    exact ⟨by simpa using b, r, hr, hy s a⟩
theorem sp_stroll {d m : Nat} {E : List (Int × Int)} {rk par : Int → Int} {most : Int} {P : Res → Prop} (T : Tree m E rk par) (hm : 1 ≤ m) (hm2 : m ≤ 100) (hE : E.length ≤ 100) (h0 : 0 < most) (h1 : most ≤ 100)
    (h : ∀ l : List Int, Good m rk par l → l.length ≤ 200 → P (.fz (stD l))) : TT (d + 2) 12 [.box, .tup [.int m, .tup (E.map Pr)], .int most] P := by
  rw [TT_succ]
  refine ⟨rfl, ?_⟩
  refine sp_take (d := d) (m := (m : Int)) (by omega) (by omega) fun x x0 x1 => ?_
  refine ⟨nle rfl, rfl, nle rfl, ?_⟩
  refine sp_take (d := d) h0 (by omega) fun tn t0 t1 => ?_
  obtain ⟨tk, rfl⟩ : ∃ tk : Nat, tn = tk := ⟨tn.toNat, by omega⟩
  refine ⟨rg0 (by omega), ?_⟩
  refine for_rule (fun i ρ => ∃ (l : List Int) (s4 s5 s6 : Ip.Slot), ρ = [.fz .box, .fz (.tup [.int m, .tup (E.map Pr)]), .fz (.int most), .ow (.lst (l.map .int)), s4, s5, s6, .non] ∧ l.length ≤ 1 + i ∧ Good m rk par l ∧ notLk s4 = true ∧ notLk s5 = true ∧ notLk s6 = true)
    ⟨[x], .non, .non, .non, rfl, Nat.le_refl _, Good.one ⟨x0, x1⟩, rfl, rfl, rfl⟩ ?_ ?_
  · rintro i y ρ e ⟨l, s4, s5, s6, rfl, hl, hG, n4, n5, n6⟩ C k
    obtain ⟨hi, rfl⟩ := at_rg e
    refine ⟨n4, ?_⟩
    refine ⟨nle rfl, n5, nle rfl, ?_⟩
    show forGo (gSet 6) (w__law_stroll_B2_0 (TT (d + 1))) _ P (l.map D.int) [.fz .box, .fz (.tup [.int m, .tup (E.map Pr)]), .fz (.int most), .lk (.lst (l.map .int)), .fz (.int (i : Int)), .ow (.lst []), s6, .non]
    refine for_rule (fun j ρ => ∃ (xs : List Int) (s6 : Ip.Slot), ρ = [.fz .box, .fz (.tup [.int m, .tup (E.map Pr)]), .fz (.int most), .lk (.lst (l.map .int)), .fz (.int (i : Int)), .ow (.lst (xs.map .int)), s6, .non] ∧ xs.length ≤ j * 100 ∧ Beside E l xs ∧ notLk s6 = true) ⟨[], s6, rfl, Nat.zero_le _, (fun s z => by cases z), n6⟩ ?_ ?_
    · rintro j y ρ e ⟨xs, s6, rfl, hxl, hB, n6⟩ C2 k2
      rw [List.getElem?_map] at e
      cases q : l[j]? with
      | none => rw [q] at e; cases e
      | some r =>
        rw [q] at e
        cases e
        have hj : j < l.length := (List.getElem?_eq_some_iff.mp q).1
        have hr : r ∈ l := List.mem_iff_getElem?.mpr ⟨j, q⟩
        refine ⟨n6, ?_⟩
        refine sp_behind (d := d) (by omega) fun ys hy hyl => ?_
        refine need_intro (backRho_pure (r := .ow (.lst (ys.map .int))) (ints_pure ys)) ?_
        refine ⟨rfl, ?_⟩
        refine lc_filterE (fun s : Int => D.int s) (fun s : Int => D.int s) (fun s => !decide (s ∈ l)) ys (fun s hs C C2 h1 h2 => ?_) ?_
        · refine ⟨rfl, ?_⟩
          refine need_intro (inR_notlst l s) ?_
          refine ite2 (fun q => ⟨rfl, h1 q⟩) (fun q => ⟨rfl, h2 (Bool.eq_false_iff.mpr q)⟩)
        have hfl : (ys.filter fun s => !decide (s ∈ l)).length ≤ 100 := Nat.le_trans (List.length_filter_le _ _) (by omega)
        refine ⟨by rw [List.length_map, List.length_map]; show _ ≤ 10000000; omega, ?_⟩
        refine k2 _ ⟨xs ++ ys.filter fun s => !decide (s ∈ l), .fz (.int r), by rw [List.map_append]; rfl, by rw [List.length_append]; omega, hB.filter hr hy, rfl⟩
    · rintro ρ ⟨xs, s6, rfl, hxl, hB, n6⟩
      rw [List.length_map] at hxl
      show w__law_stroll_B1_2 (TT (d + 1)) ⟨C, P, _, C⟩ [.fz .box, .fz (.tup [.int m, .tup (E.map Pr)]), .fz (.int most), .ow (.lst (l.map .int)), .fz (.int (i : Int)), .ow (.lst (xs.map .int)), s6, .non]
      refine ⟨nle rfl, ?_⟩
      refine n3 rfl rfl (ne_nilL xs) ?_
      cases hxs : xs with
      | nil =>
        exact k _ ⟨l, .fz (.int (i : Int)), .ow (.lst []), s6, rfl, by omega, hG, rfl, rfl, n6⟩
      | cons x0' xs' =>
        rw [← hxs]
        have hx0 : 0 < xs.length := by rw [hxs]; exact Nat.succ_pos _
        rw [show xs.isEmpty = false by rw [hxs]; rfl]
        refine iteT ?_
        refine sp_take (d := d) (m := ((xs.map D.int).length : Nat)) (by rw [List.length_map]; omega) (by rw [List.length_map]; omega) fun z z0 z1 => ?_
        rw [List.length_map] at z1
        obtain ⟨zk, rfl⟩ : ∃ zk : Nat, z = zk := ⟨z.toNat, by omega⟩
        have hz : zk < xs.length := by omega
        refine need_intro (a := _) rfl (n3 rfl rfl (at_lst hz) ?_)
        refine ⟨by rw [List.length_map]; show _ < 10000000; omega, ?_⟩
        obtain ⟨b1, r, b2, b3⟩ := hB xs[zk] (List.getElem_mem hz)
        refine k _ ⟨l ++ [xs[zk]], .fz (.int (i : Int)), .ow (.lst (xs.map .int)), s6, ?_, by rw [List.length_append]; simp; omega, hG.grow T b2 b1 b3, rfl, rfl, n6⟩
        rw [List.map_append]
        rfl
  · rintro ρ ⟨l, s4, s5, s6, rfl, hl, hG, n4, n5, n6⟩
    rw [rgD_len] at hl
    obtain ⟨l', hp, es⟩ := sorted_ints (L := l) (by show _ ≤ 10000000; omega)
    refine need_intro es ?_
    exact h l' (hG.perm hp) (by rw [hp.length_eq]; omega)
end Lw

set_option Elab.async false
set_option linter.all false
set_option maxRecDepth 100000
set_option maxHeartbeats 400000
set_option autoImplicit false
namespace Lw
open PySem L2 PySem.Spec PyProof.Rows Ip
theorem st_list : ∀ {ys : List D} {Q : List Int → Prop}, (∀ x ∈ ys, ∃ l, x = stD l ∧ Q l) → ∃ S : List (List Int), ys = S.map stD ∧ ∀ l ∈ S, Q l
  | [], _, _ => ⟨[], rfl, fun l z => by cases z⟩
  | y :: ys, Q, h => by
    obtain ⟨S, e, hq⟩ := st_list (Q := Q) fun x hx => h x (List.mem_cons_of_mem _ hx)
    obtain ⟨l, e2, h2⟩ := h y List.mem_cons_self
    refine ⟨l :: S, by rw [List.map_cons, ← e, e2], fun z hz => ?_⟩
    rcases List.mem_cons.mp hz with rfl | hz
    · exact h2
    · exact hq z hz
theorem st_pure (S : List (List Int)) : D.pures (S.map stD) = true := pures_of fun x hx => by
  obtain ⟨l, _, rfl⟩ := List.mem_map.mp hx
  exact ints_pure l
theorem sp_strolls {d m : Nat} {E : List (Int × Int)} {rk par : Int → Int} {most : Int} {many : Nat} {P : Res → Prop} (T : Tree m E rk par) (hm : 1 ≤ m) (hm2 : m ≤ 100) (hE : E.length ≤ 100) (h0 : 0 < most) (h1 : most ≤ 100) (hmany : many ≤ 100)
    (h : ∀ S : List (List Int), S.length = many → (∀ l ∈ S, Good m rk par l) → P (.fz (.tup (S.map stD)))) : TT (d + 3) 13 [.box, .tup [.int m, .tup (E.map Pr)], .int many, .int most] P := by
  rw [TT_succ]
  refine ⟨rfl, ?_⟩
  refine ⟨rg0 (by omega), rfl, ?_⟩
  refine lc_any (fun x => ∃ l, x = stD l ∧ Good m rk par l) (fun x hx C hC => ⟨rfl, sp_stroll (d := d) T hm hm2 hE h0 h1 fun l hG hl => ?_⟩) fun xs hl hx => ?_
  · refine need_intro (backRho_pure (r := .fz (stD l)) (ints_pure l)) ?_
    exact ⟨rfl, hC _ ⟨l, rfl, hG⟩⟩
  · obtain ⟨S, rfl, hS⟩ := st_list hx
    rw [List.length_map, rgD_len] at hl
    exact h S hl hS
theorem sp_through {d m : Nat} {E : List (Int × Int)} {rk par : Int → Int} {most room : Int} {many : Nat} {P : Res → Prop} (T : Tree m E rk par) (hroom : 0 ≤ room ∧ room < m) (hm2 : m ≤ 100) (hE : E.length ≤ 100) (h0 : 0 < most) (h1 : most ≤ 100) (hmany : many ≤ 100)
    (h : ∀ S : List (List Int), S.length = many → (∀ l ∈ S, Good m rk par l ∧ room ∈ l) → P (.fz (.tup (S.map stD)))) : TT (d + 2) 15 [.box, .tup [.int m, .tup (E.map Pr)], .int room, .int many, .int most] P := by
  rw [TT_succ]
  refine ⟨rfl, ?_⟩
  refine ⟨nle rfl, rfl, nle rfl, ?_⟩
  refine ⟨rg0 (by omega), ?_⟩
  refine for_rule (fun i ρ => ∃ (S : List (List Int)) (s6 s7 s8 s9 s10 : Ip.Slot), ρ = [.fz .box, .fz (.tup [.int m, .tup (E.map Pr)]), .fz (.int room), .fz (.int many), .fz (.int most), .ow (.lst (S.map stD)), s6, s7, s8, s9, s10, .non] ∧ S.length = i ∧ (∀ l ∈ S, Good m rk par l ∧ room ∈ l) ∧
    notLk s6 = true ∧ notLk s7 = true ∧ notLk s8 = true ∧ notLk s9 = true ∧ notLk s10 = true) ⟨[], .non, .non, .non, .non, .non, rfl, rfl, (fun l z => by cases z), rfl, rfl, rfl, rfl, rfl⟩ ?_ ?_
  · rintro i0 y ρ e ⟨S, s6, s7, s8, s9, s10, rfl, hSl, hSG, n6, n7, n8, n9, n10⟩ C0 k0
    obtain ⟨hi0, rfl⟩ := at_rg e
    refine ⟨n6, ?_⟩
    refine ⟨nle rfl, n7, nle rfl, ?_⟩
    refine sp_take (d := d) h0 (by omega) fun tn t0 t1 => ?_
    obtain ⟨tk, rfl⟩ : ∃ tk : Nat, tn = tk := ⟨tn.toNat, by omega⟩
    refine ⟨rg0 (by omega), ?_⟩
    refine for_rule (fun i ρ => ∃ (l : List Int) (s8 s9 s10 : Ip.Slot), ρ = [.fz .box, .fz (.tup [.int m, .tup (E.map Pr)]), .fz (.int room), .fz (.int many), .fz (.int most), .ow (.lst (S.map stD)), .fz (.int (i0 : Int)), .ow (.lst (l.map .int)), s8, s9, s10, .non] ∧ l.length ≤ 1 + i ∧ (Good m rk par l ∧ room ∈ l) ∧ notLk s8 = true ∧ notLk s9 = true ∧ notLk s10 = true)
      ⟨[room], s8, s9, s10, rfl, Nat.le_refl _, ⟨Good.one hroom, List.mem_singleton.mpr rfl⟩, n8, n9, n10⟩ ?_ ?_
    · rintro i y ρ e ⟨l, s8, s9, s10, rfl, hl, ⟨hG, hRm⟩, n8, n9, n10⟩ C k
      obtain ⟨hi, rfl⟩ := at_rg e
      refine ⟨n8, ?_⟩
      refine ⟨nle rfl, n9, nle rfl, ?_⟩
      refine for_rule (fun j ρ => ∃ (xs : List Int) (s10 : Ip.Slot), ρ = [.fz .box, .fz (.tup [.int m, .tup (E.map Pr)]), .fz (.int room), .fz (.int many), .fz (.int most), .ow (.lst (S.map stD)), .fz (.int (i0 : Int)), .lk (.lst (l.map .int)), .fz (.int (i : Int)), .ow (.lst (xs.map .int)), s10, .non] ∧ xs.length ≤ j * 100 ∧ Beside E l xs ∧ notLk s10 = true) ⟨[], s10, rfl, Nat.zero_le _, (fun s z => by cases z), n10⟩ ?_ ?_
      · rintro j y ρ e ⟨xs, s10, rfl, hxl, hB, n10⟩ C2 k2
        rw [List.getElem?_map] at e
        cases q : l[j]? with
        | none => rw [q] at e; cases e
        | some r =>
          rw [q] at e
          cases e
          have hj : j < l.length := (List.getElem?_eq_some_iff.mp q).1
          have hr : r ∈ l := List.mem_iff_getElem?.mpr ⟨j, q⟩
          refine ⟨n10, ?_⟩
          refine sp_behind (d := d) (by omega) fun ys hy hyl => ?_
          refine need_intro (backRho_pure (r := .ow (.lst (ys.map .int))) (ints_pure ys)) ?_
          refine ⟨rfl, ?_⟩
          refine lc_filterE (fun s : Int => D.int s) (fun s : Int => D.int s) (fun s => !decide (s ∈ l)) ys (fun s hs C C2 h1 h2 => ?_) ?_
          · refine ⟨rfl, ?_⟩
            refine need_intro (inR_notlst l s) ?_
            refine ite2 (fun q => ⟨rfl, h1 q⟩) (fun q => ⟨rfl, h2 (Bool.eq_false_iff.mpr q)⟩)
          have hfl : (ys.filter fun s => !decide (s ∈ l)).length ≤ 100 := Nat.le_trans (List.length_filter_le _ _) (by omega)
          refine ⟨by rw [List.length_map, List.length_map]; show _ ≤ 10000000; omega, ?_⟩
          refine k2 _ ⟨xs ++ ys.filter fun s => !decide (s ∈ l), .fz (.int r), by rw [List.map_append]; rfl, by rw [List.length_append]; omega, hB.filter hr hy, rfl⟩
      · rintro ρ ⟨xs, s10, rfl, hxl, hB, n10⟩
        rw [List.length_map] at hxl
        show w__law_through_B2_2 (TT (d + 1)) ⟨C, P, _, C⟩ [.fz .box, .fz (.tup [.int m, .tup (E.map Pr)]), .fz (.int room), .fz (.int many), .fz (.int most), .ow (.lst (S.map stD)), .fz (.int (i0 : Int)), .ow (.lst (l.map .int)), .fz (.int (i : Int)), .ow (.lst (xs.map .int)), s10, .non]
        refine ⟨nle rfl, ?_⟩
        refine n3 rfl rfl (ne_nilL xs) ?_
        cases hxs : xs with
        | nil =>
          exact k _ ⟨l, .fz (.int (i : Int)), .ow (.lst []), s10, rfl, by omega, ⟨hG, hRm⟩, rfl, rfl, n10⟩
        | cons x0' xs' =>
          rw [← hxs]
          have hx0 : 0 < xs.length := by rw [hxs]; exact Nat.succ_pos _
          rw [show xs.isEmpty = false by rw [hxs]; rfl]
          refine iteT ?_
          refine sp_take (d := d) (m := ((xs.map D.int).length : Nat)) (by rw [List.length_map]; omega) (by rw [List.length_map]; omega) fun z z0 z1 => ?_
          rw [List.length_map] at z1
          obtain ⟨zk, rfl⟩ : ∃ zk : Nat, z = zk := ⟨z.toNat, by omega⟩
          have hz : zk < xs.length := by omega
          refine need_intro (a := _) rfl (n3 rfl rfl (at_lst hz) ?_)
          refine ⟨by rw [List.length_map]; show _ < 10000000; omega, ?_⟩
          obtain ⟨b1, r, b2, b3⟩ := hB xs[zk] (List.getElem_mem hz)
          refine k _ ⟨l ++ [xs[zk]], .fz (.int (i : Int)), .ow (.lst (xs.map .int)), s10, ?_, by rw [List.length_append]; simp; omega, ⟨hG.grow T b2 b1 b3, List.mem_append.mpr (.inl hRm)⟩, rfl, rfl, n10⟩
          rw [List.map_append]
          rfl
    · rintro ρ ⟨l, s8, s9, s10, rfl, hl, ⟨hG, hRm⟩, n8, n9, n10⟩
      rw [rgD_len] at hl
      obtain ⟨l', hp, es⟩ := sorted_ints (L := l) (by show _ ≤ 10000000; omega)
      refine need_intro es ?_
      refine ⟨by rw [List.length_map]; show _ < 10000000; omega, ?_⟩
      refine k0 _ ⟨S ++ [l'], .fz (.int (i0 : Int)), .ow (.lst (l.map .int)), s8, s9, s10, by rw [List.map_append]; rfl, by rw [List.length_append, hSl]; rfl, fun z hz => ?_, rfl, rfl, n8, n9, n10⟩
      rcases List.mem_append.mp hz with hz | hz
      · exact hSG z hz
      · rw [List.mem_singleton.mp hz]
        exact ⟨hG.perm hp, hp.mem_iff.mpr hRm⟩
  · rintro ρ ⟨S, s6, s7, s8, s9, s10, rfl, hSl, hSG, n6, n7, n8, n9, n10⟩
    rw [rgD_len] at hSl
    exact h S hSl hSG
end Lw

set_option Elab.async false
set_option linter.all false
set_option maxRecDepth 100000
set_option maxHeartbeats 1000000
set_option autoImplicit false
namespace Lw
open PySem L2 PySem.Spec PyProof.Rows Ip
theorem comm_iff {S : List (List Int)} {r : Int} : comm S r = true ↔ ∀ l ∈ S, r ∈ l := by
  unfold comm
  rw [List.all_eq_true]
  exact ⟨fun h l hl => of_decide_eq_true (h l hl), fun h l hl => decide_eq_true (h l hl)⟩
theorem mt_iff {S : List (List Int)} {a b : Nat} : mt S a b = true ↔ ∃ x ∈ S.getD a [], x ∈ S.getD b [] := by
  unfold mt hB
  rw [List.any_eq_true]
  exact ⟨fun ⟨x, h1, h2⟩ => ⟨x, h1, of_decide_eq_true h2⟩, fun ⟨x, h1, h2⟩ => ⟨x, h1, decide_eq_true h2⟩⟩
theorem some_common {m : Nat} {rk par : Int → Int} {S : List (List Int)} (hm : 1 ≤ m) (hG : ∀ l ∈ S, Good m rk par l) (h : ∀ a b : Nat, a < b → b < S.length → mt S a b = true) : ∃ r : Nat, r < m ∧ comm S r = true := by
  by_cases hS : S = []
  · subst hS
    exact ⟨0, hm, rfl⟩
  · have pair : ∀ a b : Nat, a < S.length → b < S.length → ∃ x ∈ S.getD a [], x ∈ S.getD b [] := fun a b ha hb => by
      rcases Nat.lt_trichotomy a b with c | c | c
      · exact mt_iff.mp (h a b c hb)
      · subst c
        have hl : S.getD a [] ∈ S := by
          rw [List.getD_eq_getElem?_getD, List.getElem?_eq_getElem ha]
          exact List.getElem_mem ha
        obtain ⟨_, t, ht, _⟩ := hG _ hl
        exact ⟨t, ht, ht⟩
      · obtain ⟨x, h1, h2⟩ := mt_iff.mp (h b a c ha)
        exact ⟨x, h2, h1⟩
    obtain ⟨r, r0, r1, hr⟩ := helly (m := m) hS hG fun l hl l' hl' => by
      obtain ⟨a, ha, rfl⟩ := List.getElem_of_mem hl
      obtain ⟨b, hb, rfl⟩ := List.getElem_of_mem hl'
      have := pair a b ha hb
      rw [List.getD_eq_getElem?_getD, List.getElem?_eq_getElem ha, List.getD_eq_getElem?_getD, List.getElem?_eq_getElem hb] at this
      exact this
    refine ⟨r.toNat, by omega, comm_iff.mpr fun l hl => ?_⟩
    rw [show ((r.toNat : Nat) : Int) = r by omega]
    exact hr l hl
theorem B2_ok {m : Nat} {E : List (Int × Int)} {rk par : Int → Int} {S : List (List Int)} (hm : 1 ≤ m) (hm2 : m ≤ 100) (hS : S.length ≤ 1000) (hG : ∀ l ∈ S, Good m rk par l) {C : Rho → Prop} {W : WEnds} {s2 s4 s5 s6 s8 : Ip.Slot} (hW : W.nx = C) (n8 : notLk s8 = true)
    (h : ∀ x, C [.non, .fz .box, s2, .fz (.tup [.int m, .tup (E.map Pr)]), s4, s5, s6, .fz (.tup (S.map stD)), .fz x]) :
    w_law_B2_0 (TT 40) W [.non, .fz .box, s2, .fz (.tup [.int m, .tup (E.map Pr)]), s4, s5, s6, .fz (.tup (S.map stD)), s8] := by
  subst hW
  refine sp_due (d := 39) (by omega) hS (fun r hr hc hl => ?_) (fun hno => ⟨fun i j hF => ?_, fun hall => ?_⟩)
  · refine ⟨n8, nle rfl, ?_⟩
    refine sp_gather (d := 37) (by omega) hS (fun r' hr' hc' hl' => ?_) (fun hno => ?_)
    · have e : r' = r := by
        rcases Nat.lt_trichotomy r' r with c | c | c
        · rw [hl r' c] at hc'; cases hc'
        · exact c
        · rw [hl' r c] at hc; cases hc
      subst e
      exact same_ans_room (d := 38) (h _)
    · rw [hno r hr] at hc
      cases hc
  · refine ⟨n8, nle rfl, ?_⟩
    refine sp_gather (d := 37) (by omega) hS (fun r' hr' hc' hl' => ?_) (fun _ => ⟨⟨i, j, hF.lt, hF.ln, hF.ap⟩, fun i' j' hF' => ?_⟩)
    · rw [hno r' hr'] at hc'
      cases hc'
    · obtain ⟨rfl, rfl⟩ := hF'.uniq hF
      exact same_ans_apart (d := 38) (h _)
  · obtain ⟨r, hr, hc⟩ := some_common hm hG hall
    rw [hno r hr] at hc
    cases hc
theorem ne_room : cmpD .NotEq (.str "room") (.str "room") = some false := by decide +kernel
theorem B1_ok {most : Int} (h0 : 0 < most) (h1 : most ≤ 24) {C : Rho → Prop} {W : WEnds} {s3 s4 s5 s6 s7 s8 : Ip.Slot} (hW : W.nx = C) (n3' : notLk s3 = true) (n4 : notLk s4 = true) (n5 : notLk s5 = true) (n6 : notLk s6 = true) (n7 : notLk s7 = true) (n8 : notLk s8 = true)
    (h : ∀ t3 t4 t5 t6 t7 t8, notLk t3 = true → notLk t4 = true → notLk t5 = true → notLk t6 = true → notLk t7 = true → notLk t8 = true → C [.non, .fz .box, .fz (.int most), t3, t4, t5, t6, t7, t8]) :
    w_law_B1_0 (TT 40) W [.non, .fz .box, .fz (.int most), s3, s4, s5, s6, s7, s8] := by
  subst hW
  refine sp_house (d := 37) h0 (by omega) fun m E rk par hm hm2 hE T => ?_
  refine need_intro (backRho_pure (pair_pure E)) ?_
  refine ⟨n3', nle rfl, ?_⟩
  have rest : ∀ many : Nat, 1 ≤ many → many ≤ 24 → w_law_B1_2 (TT 40) W [.non, .fz .box, .fz (.int most), .fz (.tup [.int m, .tup (E.map Pr)]), .fz (.int many), s5, s6, s7, s8] := fun many k0 k1 => by
    refine sp_take (d := 39) (m := (m : Int)) (by omega) (by omega) fun room r0 r1 => ?_
    refine ⟨n5, nle rfl, ?_⟩
    refine sp_strolls (d := 37) T hm hm2 hE h0 (by omega) (by omega) fun S1 l1 g1 => ?_
    refine need_intro (backRho_pure (r := .fz (.tup (S1.map stD))) (st_pure S1)) ?_
    refine sp_through (d := 38) T ⟨r0, r1⟩ hm2 hE h0 (by omega) (by omega) fun S2 l2 g2 => ?_
    refine need_intro (backRho_pure (r := .fz (.tup (S2.map stD))) (st_pure S2)) ?_
    refine ⟨nle rfl, ?_⟩
    refine ⟨n6, nle rfl, ?_⟩
    show w_law_B1_4 (TT 40) W [.non, .fz .box, .fz (.int most), .fz (.tup [.int m, .tup (E.map Pr)]), .fz (.int many), .fz (.int room), .ow (.lst [.tup (S1.map stD), .tup (S2.map stD)]), s7, s8]
    refine sp_strolls (d := 37) (most := 4) (many := 1) T hm hm2 hE (by decide) (by decide) (by decide) fun S3 l3 g3 => ?_
    refine need_intro (backRho_pure (r := .fz (.tup (S3.map stD))) (st_pure S3)) ?_
    refine n3 rfl rfl (addt (xs := S2.map stD) (ys := S3.map stD) (by rw [List.length_map, List.length_map]; show _ ≤ 10000000; omega)) ?_
    rw [← List.map_append]
    refine ⟨nle rfl, ?_⟩
    show w_law_B1_5 (TT 40) W [.non, .fz .box, .fz (.int most), .fz (.tup [.int m, .tup (E.map Pr)]), .fz (.int many), .fz (.int room), .ow (.lst [.tup (S1.map stD), .tup (S2.map stD), .tup (cutL ((S2 ++ S3).map stD) (some (-24)) none)]), s7, s8]
    rw [cut_map]
    have g4 : ∀ l ∈ cutL (S2 ++ S3) (some (-24)) none, Good m rk par l := fun l hl => (List.mem_append.mp (mem_cut hl)).elim (fun z => (g2 l z).1) (g3 l)
    have l4 : (cutL (S2 ++ S3) (some (-24)) none).length ≤ 1000 := Nat.le_trans (cut_le _ _ _) (by rw [List.length_append]; omega)
    generalize cutL (S2 ++ S3) (some (-24)) none = S4 at *
    refine for_rule (fun j ρ => ∃ s7 s8, ρ = [.non, .fz .box, .fz (.int most), .fz (.tup [.int m, .tup (E.map Pr)]), .fz (.int many), .fz (.int room), .lk (.lst [.tup (S1.map stD), .tup (S2.map stD), .tup (S4.map stD)]), s7, s8] ∧ notLk s7 = true ∧ notLk s8 = true) ⟨s7, s8, rfl, n7, n8⟩ ?_ ?_
    · rintro j x ρ e ⟨s7, s8, rfl, n7, n8⟩ C k
      have hx : ∃ S : List (List Int), x = .tup (S.map stD) ∧ S.length ≤ 1000 ∧ ∀ l ∈ S, Good m rk par l := by
        have hm' : x ∈ [D.tup (S1.map stD), .tup (S2.map stD), .tup (S4.map stD)] := List.mem_iff_getElem?.mpr ⟨j, e⟩
        rcases List.mem_cons.mp hm' with rfl | hm'
        · exact ⟨S1, rfl, by omega, g1⟩
        rcases List.mem_cons.mp hm' with rfl | hm'
        · exact ⟨S2, rfl, by omega, fun l hl => (g2 l hl).1⟩
        · rw [List.mem_singleton.mp hm']
          exact ⟨S4, rfl, l4, g4⟩
      obtain ⟨S, rfl, hS, hG⟩ := hx
      refine ⟨n7, ?_⟩
      exact B2_ok (C := C) hm hm2 hS hG rfl n8 fun y => k _ ⟨_, _, rfl, rfl, rfl⟩
    · rintro ρ ⟨s7, s8, rfl, n7, n8⟩
      have hc0 : comm S2 room = true := comm_iff.mpr fun l hl => (g2 l hl).2
      refine sp_due (d := 39) (dD := .tup (E.map Pr)) (S := S2) (by omega) (by omega) (fun r hr hc hl => ?_) (fun hno => ?_)
      · refine need_intro (a := _) rfl ?_
        refine need_intro ne_room ?_
        exact h _ _ _ _ _ _ rfl rfl rfl rfl n7 n8
      · have := hno room.toNat (by omega)
        rw [show ((room.toNat : Nat) : Int) = room by omega, hc0] at this
        cases this
  refine ite2 (fun q => ?_) (fun q => ?_)
  · refine sp_take (d := 39) (m := 6) (by decide) (by decide) fun y y0 y1 => ?_
    refine ⟨n4, nle rfl, ?_⟩
    have := rest (1 + y).toNat (by omega) (by omega)
    rw [show (((1 + y).toNat : Nat) : Int) = 1 + y by omega] at this
    exact this
  · refine sp_take (d := 39) (m := 24) (by decide) (by decide) fun y y0 y1 => ?_
    refine ⟨n4, nle rfl, ?_⟩
    have := rest (1 + y).toNat (by omega) (by omega)
    rw [show (((1 + y).toNat : Nat) : Int) = 1 + y by omega] at this
    exact this
theorem law_true : w_law (TT 40) ⟨fun _ => False, fun r => r = .fz (.bl true), fun _ => False, fun _ => False⟩ (.non :: .fz .box :: List.replicate 7 .non) := by
  refine ⟨nle rfl, ?_⟩
  refine for_rule (fun j ρ => ∃ s2 s3 s4 s5 s6 s7 s8, ρ = [.non, .fz .box, s2, s3, s4, s5, s6, s7, s8] ∧ notLk s2 = true ∧ notLk s3 = true ∧ notLk s4 = true ∧ notLk s5 = true ∧ notLk s6 = true ∧ notLk s7 = true ∧ notLk s8 = true)
    ⟨.non, .non, .non, .non, .non, .non, .non, rfl, rfl, rfl, rfl, rfl, rfl, rfl, rfl⟩ ?_ ?_
  · rintro j x ρ e ⟨s2, s3, s4, s5, s6, s7, s8, rfl, n2, n3', n4, n5, n6, n7, n8⟩ C k
    have hx : ∃ most : Int, x = .int most ∧ 0 < most ∧ most ≤ 24 := by
      have hm' : x ∈ [D.int 8, .int 8, .int 24] := List.mem_iff_getElem?.mpr ⟨j, e⟩
      rcases List.mem_cons.mp hm' with rfl | hm'
      · exact ⟨8, rfl, by decide, by decide⟩
      rcases List.mem_cons.mp hm' with rfl | hm'
      · exact ⟨8, rfl, by decide, by decide⟩
      · rw [List.mem_singleton.mp hm']
        exact ⟨24, rfl, by decide, by decide⟩
    obtain ⟨most, rfl, h0, h1⟩ := hx
    refine ⟨n2, ?_⟩
    exact B1_ok (C := C) h0 h1 rfl n3' n4 n5 n6 n7 n8 fun t3 t4 t5 t6 t7 t8 m3 m4 m5 m6 m7 m8 => k _ ⟨_, t3, t4, t5, t6, t7, t8, rfl, rfl, m3, m4, m5, m6, m7, m8⟩
  · rintro ρ ⟨s2, s3, s4, s5, s6, s7, s8, rfl, n2, n3', n4, n5, n6, n7, n8⟩
    exact rfl
end Lw

open PySem PySem.W PyProof.Rows
set_option maxRecDepth 100000 in
set_option maxHeartbeats 0 in
theorem PySem.Challenge.cw_onevisit_k75_whole_rooms_in_common_holds : PySem.Challenge.rw_onevisit_k75_whole_rooms_in_common.Holds := by
  w_on; o_law; k_head; (case hw => w_witness2)
  k_fill
  refine Lw.walk (l := PySem.Challenge.rw_onevisit_k75_whole_rooms_in_common) rfl rfl (fun w h Y => PySem.W.kIn_of Y) ?F
  case F =>
    intro w mg fa h KX G hmg
    refine' Lw.all_mk KX G hmg ?a0 ?l0 ?c0 ?k0 ?a1 ?l1 ?c1 ?k1 ?a2 ?l2 ?c2 ?k2 ?a3 ?l3 ?c3 ?k3 ?a4 ?l4 ?c4 ?k4 ?a5 ?l5 ?c5 ?k5 ?a6 ?l6 ?c6 ?k6 ?a7 ?l7 ?c7 ?k7 ?a8 ?l8 ?c8 ?k8 ?a9 ?l9 ?c9 ?k9 ?a10 ?l10 ?c10 ?k10 ?a11 ?l11 ?c11 ?k11 ?a12 ?l12 ?c12 ?k12 ?a13 ?l13 ?c13 ?k13 ?a14 ?l14 ?c14 ?k14 ?z_all ?z_any ?z_bool ?z_int ?z_isinstance ?z_len ?z_list ?z_max ?z_min ?z_range ?z_sorted ?z_str ?z_tuple Lw.law_true
    (case a0 => k_is); (case l0 => k_is); (case c0 => k_is); (case k0 => k_is); (case a1 => k_is); (case l1 => k_is)
    (case c1 => k_is); (case k1 => k_is); (case a2 => k_is); (case l2 => k_is); (case c2 => k_is); (case k2 => k_is)
    (case a3 => k_is); (case l3 => k_is); (case c3 => k_is); (case k3 => k_is); (case a4 => k_is); (case l4 => k_is)
    (case c4 => k_is); (case k4 => k_is); (case a5 => k_is); (case l5 => k_is); (case c5 => k_is); (case k5 => k_is)
    (case a6 => k_is); (case l6 => k_is); (case c6 => k_is); (case k6 => k_is); (case a7 => k_is); (case l7 => k_is)
    (case c7 => k_is); (case k7 => k_is); (case a8 => k_is); (case l8 => k_is); (case c8 => k_is); (case k8 => k_is)
    (case a9 => k_is); (case l9 => k_is); (case c9 => k_is); (case k9 => k_is); (case a10 => k_is); (case l10 => k_is)
    (case c10 => k_is); (case k10 => k_is); (case a11 => k_is); (case l11 => k_is); (case c11 => k_is); (case k11 => k_is)
    (case a12 => k_is); (case l12 => k_is); (case c12 => k_is); (case k12 => k_is); (case a13 => k_is); (case l13 => k_is)
    (case c13 => k_is); (case k13 => k_is); (case a14 => k_is); (case l14 => k_is); (case c14 => k_is); (case k14 => k_is)
    (case z_all => k_is); (case z_any => k_is); (case z_bool => k_is); (case z_int => k_is); (case z_isinstance => k_is); (case z_len => k_is)
    (case z_list => k_is); (case z_max => k_is); (case z_min => k_is); (case z_range => k_is); (case z_sorted => k_is); (case z_str => k_is)
    (case z_tuple => k_is)
#print axioms PySem.Challenge.cw_onevisit_k75_whole_rooms_in_common_holds
