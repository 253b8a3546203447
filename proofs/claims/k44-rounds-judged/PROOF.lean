import PyProof.Rows.All
import Wide.All
import OpenK.AllK
import Wide.FinOn
import HandS.ForMost
import HandS.Deep
import HandS.IsInst
import HandS.TupAny
import HandS.TupMul
import HandS.TupLe
import HandS.Style
import HandS.Walk
import HandS.Wide
import HandS.Conv
import HandS.SetFor
import HandS.Zip
import PySem.Challenge.RW_onevisit_k44_rounds_judged
set_option Elab.async false
set_option linter.all false
set_option maxRecDepth 100000
set_option maxHeartbeats 2000000
/-! Ip1: plain data by value, how a value of the abstract heap bears it, frames with owned lists -/
namespace Ip
open PySem L2

/-- plain data -/
inductive D where
  | non | bl (b : Bool) | int (i : Int) | str (s : Str) | tup (ds : List D) | lst (ds : List D)
  | dct (ks vs : List D) | st (ds : List D) | box
abbrev Frag := PySem.W.Frag
abbrev ASet := Addr → Prop

mutual
def D.py : D → PyData
  | .non => .none
  | .bl b => .bool b
  | .int i => .int i
  | .str s => .str s
  | .tup ds => .tuple (D.pys ds)
  | .lst ds => .list (D.pys ds)
  | .dct _ _ => .none
  | .st _ => .none
  | .box => .none
def D.pys : List D → List PyData
  | [] => []
  | d :: ds => D.py d :: D.pys ds
end
mutual
/-- no dicts, sets, boxes; texts of true signs -/
def D.plain : D → Bool
  | .non => true
  | .bl _ => true
  | .int _ => true
  | .str s => PyData.strOk s
  | .tup ds => D.plains ds
  | .lst ds => D.plains ds
  | .dct _ _ => false
  | .st _ => false
  | .box => false
def D.plains : List D → Bool
  | [] => true
  | d :: ds => D.plain d && D.plains ds
end
mutual
def D.dep : D → Nat
  | .tup ds => D.deps ds + 1
  | .lst ds => D.deps ds + 1
  | .non => 0
  | .bl _ => 0
  | .int _ => 0
  | .str _ => 0
  | .dct _ _ => 0
  | .st _ => 0
  | .box => 0
def D.deps : List D → Nat
  | [] => 0
  | d :: ds => max (D.dep d) (D.deps ds)
end
mutual
/-- no lists, dicts, sets within: what never changes -/
def D.pure : D → Bool
  | .non => true
  | .bl _ => true
  | .int _ => true
  | .str _ => true
  | .tup ds => D.pures ds
  | .lst _ => false
  | .dct _ _ => false
  | .st _ => false
  | .box => true
def D.pures : List D → Bool
  | [] => true
  | d :: ds => D.pure d && D.pures ds
end
mutual
theorem D.py_lay : ∀ d : D, d.plain = true → d.py.canLay0 = true ∧ d.py.depth = d.dep
  | .non, _ => ⟨rfl, rfl⟩
  | .bl _, _ => ⟨rfl, rfl⟩
  | .int _, _ => ⟨rfl, rfl⟩
  | .str s, h => ⟨h, rfl⟩
  | .tup ds, h => by
    have q := D.pys_lay ds h
    refine ⟨q.1, ?_⟩
    show PyData.depthAll (D.pys ds) + 1 = D.deps ds + 1
    rw [q.2]
  | .lst ds, h => by
    have q := D.pys_lay ds h
    refine ⟨q.1, ?_⟩
    show PyData.depthAll (D.pys ds) + 1 = D.deps ds + 1
    rw [q.2]
  | .dct _ _, h => by cases h
  | .st _, h => by cases h
  | .box, h => by cases h
theorem D.pys_lay : ∀ ds : List D, D.plains ds = true → PyData.canLayAll0 (D.pys ds) = true ∧ PyData.depthAll (D.pys ds) = D.deps ds
  | [], _ => ⟨rfl, rfl⟩
  | d :: ds, h => by
    have h' : (d.plain && D.plains ds) = true := h
    rw [Bool.and_eq_true] at h'
    have a := D.py_lay d h'.1
    have b := D.pys_lay ds h'.2
    constructor
    · show (d.py.canLay0 && PyData.canLayAll0 (D.pys ds)) = true
      rw [a.1, b.1]; rfl
    · show max d.py.depth (PyData.depthAll (D.pys ds)) = max d.dep (D.deps ds)
      rw [a.2, b.2]
end
/-- what == and in may look at -/
def D.ok (d : D) : Bool := d.plain && decide (d.dep ≤ 64)
theorem D.ok_shaped {d : D} (h : d.ok = true) : SeqAt.shaped d.py = true := by
  unfold D.ok at h
  rw [Bool.and_eq_true] at h
  have q := D.py_lay d h.1
  unfold SeqAt.shaped
  rw [q.1, q.2, h.2]; rfl

theorem pys_map : ∀ ds : List D, D.pys ds = ds.map D.py
  | [] => rfl
  | d :: ds => by show d.py :: D.pys ds = _; rw [pys_map ds]; rfl

/-! ### how a value bears data -/
/-- a tuple of the text itself -/
def KT (K : Frag) (a : Addr) (xs : List V) : Prop := SqT K (fun _ => none) a xs
theorem KT.sq {K : Frag} {a : Addr} {xs : List V} {H : Hp} (h : KT K a xs) : SqT K H a xs := by
  rcases h with (h | ⟨_, h⟩) | h
  · cases h
  · cases h
  · exact .inr h
def TupAt (K : Frag) (O : ASet) (H : Hp) (a : Addr) (xs : List V) : Prop := (H a = some (.tup xs) ∧ ¬ O a) ∨ KT K a xs
theorem TupAt.sq {K : Frag} {O : ASet} {H : Hp} {a : Addr} {xs : List V} (h : TupAt K O H a xs) : SqT K H a xs := by
  rcases h with h | h
  · exact SqT.of h.1
  · exact h.sq
mutual
inductive Rz (K : Frag) (O : ASet) (b : Addr) (H : Hp) : V → D → Prop
  | non : Rz K O b H .non .non
  | bl (x : Bool) : Rz K O b H (.bl x) (.bl x)
  | int (i : Int) : Rz K O b H (.int i) (.int i)
  | str (x : Str) : Rz K O b H (.str x) (.str x)
  | box : Rz K O b H (.ref b) .box
  | lst {a : Addr} {xs : List V} {ds : List D} : H a = some (.lst xs) → ¬ O a → RzA K O b H xs ds → Rz K O b H (.ref a) (.lst ds)
  | tup {a : Addr} {xs : List V} {ds : List D} : TupAt K O H a xs → RzA K O b H xs ds → Rz K O b H (.ref a) (.tup ds)
inductive RzA (K : Frag) (O : ASet) (b : Addr) (H : Hp) : List V → List D → Prop
  | nil : RzA K O b H [] []
  | cons {v : V} {vs : List V} {d : D} {ds : List D} : Rz K O b H v d → RzA K O b H vs ds → RzA K O b H (v :: vs) (d :: ds)
end
section
variable {K : Frag} {O O' : ASet} {b : Addr} {H H' : Hp}
/-- what was known of objects outside O stands, and O' is no more than O -/
structure Kept (O : ASet) (H : Hp) (O' : ASet) (H' : Hp) : Prop where
  sub : ∀ a, O' a → O a
  st : ∀ a o, H a = some o → ¬ O a → H' a = some o
  dom : ∀ a, H' a = none → H a = none
theorem Kept.refl : Kept O H O H := ⟨fun _ h => h, fun _ _ h _ => h, fun _ h => h⟩
theorem Kept.trans {O'' : ASet} {H'' : Hp} (x : Kept O H O' H') (y : Kept O' H' O'' H'') : Kept O H O'' H'' :=
  ⟨fun a h => x.sub a (y.sub a h), fun a o h n => y.st a o (x.st a o h n) fun z => n (x.sub a z), fun a h => x.dom a (y.dom a h)⟩
theorem TupAt.kept {a : Addr} {xs : List V} (k : Kept O H O' H') (h : TupAt K O H a xs) : TupAt K O' H' a xs := by
  rcases h with ⟨h, n⟩ | h
  · exact .inl ⟨k.st _ _ h n, fun z => n (k.sub _ z)⟩
  · exact .inr h
mutual
theorem Rz.kept (k : Kept O H O' H') : ∀ {v : V} {d : D}, Rz K O b H v d → Rz K O' b H' v d
  | _, _, .non => .non
  | _, _, .bl x => .bl x
  | _, _, .int i => .int i
  | _, _, .str x => .str x
  | _, _, .box => .box
  | _, _, .lst h n r => .lst (k.st _ _ h n) (fun z => n (k.sub _ z)) (RzA.kept k r)
  | _, _, .tup h r => .tup (h.kept k) (RzA.kept k r)
theorem RzA.kept (k : Kept O H O' H') : ∀ {vs : List V} {ds : List D}, RzA K O b H vs ds → RzA K O' b H' vs ds
  | _, _, .nil => .nil
  | _, _, .cons h r => .cons (Rz.kept k h) (RzA.kept k r)
end
/-- a new address may be avoided too -/
theorem TupAt.more {a p : Addr} {xs : List V} (hp : H p = none) (h : TupAt K O H a xs) : TupAt K (fun x => O x ∨ x = p) H a xs := by
  rcases h with ⟨h, n⟩ | h
  · refine .inl ⟨h, fun z => z.elim n fun e => ?_⟩
    subst e; rw [h] at hp; cases hp
  · exact .inr h
mutual
theorem Rz.more {p : Addr} (hp : H p = none) : ∀ {v : V} {d : D}, Rz K O b H v d → Rz K (fun x => O x ∨ x = p) b H v d
  | _, _, .non => .non
  | _, _, .bl x => .bl x
  | _, _, .int i => .int i
  | _, _, .str x => .str x
  | _, _, .box => .box
  | _, _, .lst h n r => .lst h (fun z => z.elim n fun e => by subst e; rw [h] at hp; cases hp) (RzA.more hp r)
  | _, _, .tup h r => .tup (h.more hp) (RzA.more hp r)
theorem RzA.more {p : Addr} (hp : H p = none) : ∀ {vs : List V} {ds : List D}, RzA K O b H vs ds → RzA K (fun x => O x ∨ x = p) b H vs ds
  | _, _, .nil => .nil
  | _, _, .cons h r => .cons (Rz.more hp h) (RzA.more hp r)
end
/-- what holds no list is borne whatever is avoided, as long as tuples are not -/
theorem TupAt.wide {a : Addr} {xs : List V} (hO : ∀ a xs, O' a → H a ≠ some (.tup xs)) (h : TupAt K O H a xs) : TupAt K O' H a xs := by
  rcases h with ⟨h, n⟩ | h
  · exact .inl ⟨h, fun z => hO _ _ z h⟩
  · exact .inr h
mutual
theorem Rz.wide (hO : ∀ a xs, O' a → H a ≠ some (.tup xs)) : ∀ {v : V} {d : D}, d.pure = true → Rz K O b H v d → Rz K O' b H v d
  | _, _, _, .non => .non
  | _, _, _, .bl x => .bl x
  | _, _, _, .int i => .int i
  | _, _, _, .str x => .str x
  | _, _, _, .box => .box
  | _, _, p, .lst _ _ _ => by cases p
  | _, _, p, .tup h r => .tup (h.wide hO) (RzA.wide hO p r)
theorem RzA.wide (hO : ∀ a xs, O' a → H a ≠ some (.tup xs)) : ∀ {vs : List V} {ds : List D}, D.pures ds = true → RzA K O b H vs ds → RzA K O' b H vs ds
  | _, _, _, .nil => .nil
  | _ :: _, d :: ds, p, .cons h r => by
    have p' : (d.pure && D.pures ds) = true := p
    rw [Bool.and_eq_true] at p'
    exact .cons (Rz.wide hO p'.1 h) (RzA.wide hO p'.2 r)
end
theorem RzA.length : ∀ {vs : List V} {ds : List D}, RzA K O b H vs ds → vs.length = ds.length
  | _, _, .nil => rfl
  | _, _, .cons _ r => congrArg (· + 1) (RzA.length r)
theorem RzA.at : ∀ {vs : List V} {ds : List D} {i : Nat} {d : D}, RzA K O b H vs ds → ds[i]? = some d → ∃ v, vs[i]? = some v ∧ Rz K O b H v d
  | _, _, _, _, .nil, e => by simp at e
  | _, _, 0, _, .cons h _, e => by
    simp at e; subst e
    exact ⟨_, rfl, h⟩
  | _, _, i + 1, _, .cons _ r, e => by
    obtain ⟨v, h1, h2⟩ := RzA.at (i := i) r (by simpa using e)
    exact ⟨v, by simpa using h1, h2⟩
theorem RzA.atV : ∀ {vs : List V} {ds : List D} {i : Nat} {v : V}, RzA K O b H vs ds → vs[i]? = some v → ∃ d, ds[i]? = some d ∧ Rz K O b H v d
  | _, _, _, _, .nil, e => by simp at e
  | _, _, 0, _, .cons h _, e => by
    simp at e; subst e
    exact ⟨_, rfl, h⟩
  | _, _, i + 1, _, .cons _ r, e => by
    obtain ⟨v, h1, h2⟩ := RzA.atV (i := i) r (by simpa using e)
    exact ⟨v, by simpa using h1, h2⟩
theorem RzA.append : ∀ {vs ws : List V} {ds es : List D}, RzA K O b H vs ds → RzA K O b H ws es → RzA K O b H (vs ++ ws) (ds ++ es)
  | _, _, _, _, .nil, s => s
  | _, _, _, _, .cons h r, s => .cons h (RzA.append r s)
theorem RzA.take : ∀ {vs : List V} {ds : List D} (n : Nat), RzA K O b H vs ds → RzA K O b H (vs.take n) (ds.take n)
  | _, _, 0, _ => .nil
  | _, _, _ + 1, .nil => .nil
  | _, _, n + 1, .cons h r => .cons h (RzA.take n r)
theorem RzA.drop : ∀ {vs : List V} {ds : List D} (n : Nat), RzA K O b H vs ds → RzA K O b H (vs.drop n) (ds.drop n)
  | _, _, 0, h => h
  | _, _, _ + 1, .nil => .nil
  | _, _, n + 1, .cons _ r => RzA.drop n r
theorem RzA.set : ∀ {vs : List V} {ds : List D} {v : V} {d : D} (n : Nat), RzA K O b H vs ds → Rz K O b H v d → RzA K O b H (vs.set n v) (ds.set n d)
  | _, _, _, _, _, .nil, _ => .nil
  | _, _, _, _, 0, .cons _ r, h => .cons h r
  | _, _, _, _, n + 1, .cons h r, h' => .cons h (RzA.set n r h')
theorem RzA.erase : ∀ {vs : List V} {ds : List D} (n : Nat), RzA K O b H vs ds → RzA K O b H (vs.eraseIdx n) (ds.eraseIdx n)
  | _, _, _, .nil => .nil
  | _, _, 0, .cons _ r => r
  | _, _, n + 1, .cons h r => .cons h (RzA.erase n r)
theorem RzA.reverse {vs : List V} {ds : List D} (h : RzA K O b H vs ds) : RzA K O b H vs.reverse ds.reverse := by
  induction h using RzA.rec (motive_1 := fun _ _ _ => True) with
  | non => trivial
  | bl => trivial
  | int => trivial
  | str => trivial
  | box => trivial
  | lst => trivial
  | tup => trivial
  | nil => exact .nil
  | cons h r _ ih =>
    rw [List.reverse_cons, List.reverse_cons]
    exact ih.append (.cons h .nil)
mutual
theorem Rz.dp : ∀ {v : V} {d : D}, d.plain = true → Rz K O b H v d → Dp K H v d.py
  | _, _, _, .non => .non
  | _, _, _, .bl x => .bl x
  | _, _, _, .int i => .int i
  | _, _, _, .str x => .str x
  | _, _, p, .box => by cases p
  | _, _, p, .lst h _ r => .lst (SqL.of h) (RzA.dp p r)
  | _, _, p, .tup h r => .tup h.sq (RzA.dp p r)
theorem RzA.dp : ∀ {vs : List V} {ds : List D}, D.plains ds = true → RzA K O b H vs ds → DpAll K H vs (D.pys ds)
  | _, _, _, .nil => .nil
  | _ :: _, d :: ds, p, .cons h r => by
    have p' : (d.plain && D.plains ds) = true := p
    rw [Bool.and_eq_true] at p'
    exact .cons (Rz.dp p'.1 h) (RzA.dp p'.2 r)
end
end
end Ip

set_option Elab.async false
set_option linter.all false
set_option maxRecDepth 100000
set_option maxHeartbeats 2000000
set_option autoImplicit false
/-! Ip2: frames, what an expression's value is, the canonical readings -/
namespace Ip
open PySem L2

/-- a name of a frame: nothing known, data that no one changes, a list of its own, a list of its own that is being walked -/
inductive Slot where
  | non | fz (d : D) | ow (d : D) | lk (d : D)
abbrev Rho := List Slot
/-- an expression's value: data, a new list, one of the frame's own lists -/
inductive Res where
  | fz (d : D) | ow (d : D) | bw (i : Nat)
def Slot.data : Slot → Option D
  | .non => none
  | .fz d => some d
  | .ow d => some d
  | .lk d => some d
def slotAt (ρ : Rho) (i : Nat) : Slot := match ρ[i]? with
  | some s => s
  | none => .non
def Res.data (ρ : Rho) : Res → Option D
  | .fz d => some d
  | .ow d => some d
  | .bw i => (slotAt ρ i).data
abbrev WE := Rho → (Res → Rho → Prop) → Prop
abbrev WT := Rho → (Bool → Rho → Prop) → Prop
abbrev WA := Rho → (List D → Rho → Prop) → Prop
def need {α : Type} (o : Option α) (k : α → Prop) : Prop := match o with
  | some a => k a
  | none => False
theorem need_some {α : Type} {a : α} {k : α → Prop} : need (some a) k = k a := rfl
theorem need_none {α : Type} {k : α → Prop} : need none k = False := rfl
theorem need_of {α : Type} {o : Option α} {k : α → Prop} (h : need o k) : ∃ a, o = some a ∧ k a := by
  cases o with
  | none => exact h.elim
  | some a => exact ⟨a, rfl, h⟩

structure Fr where
  O0 : ASet
  b : Addr
  c : Addr
  H0 : Hp
  /-- values that are held by a loop -/
  E : List (V × D)
  /-- own lists that are walked: the slot, the place, what it holds -/
  L : List (Nat × Addr × D)
  /-- lists that a comprehension makes -/
  P : List (Addr × HO)
abbrev Own := Nat → Option Addr
def Fr.av (F : Fr) (own : Own) : ASet := fun a => F.O0 a ∨ (∃ i, own i = some a) ∨ ∃ o, (a, o) ∈ F.P
/-- an object that changes bears data -/
def Cn (K : Frag) (O : ASet) (b : Addr) (H : Hp) : HO → D → Prop
  | .lst xs, .lst ds => RzA K O b H xs ds
  | _, _ => False
/-- the content at a -/
def Ct (K : Frag) (O : ASet) (b : Addr) (H : Hp) (a : Addr) (d : D) : Prop := ∃ o, H a = some o ∧ Cn K O b H o d
abbrev BoxPred := Addr → Addr → Hp → Prop
structure BoxGood (B : BoxPred) : Prop where
  st : ∀ {b c H H'}, B b c H → H' b = H b → H' c = H c → B b c H'
  lb : ∀ {b c H}, B b c H → ∃ xs, H b = some (.lst xs)
  lc : ∀ {b c H}, B b c H → ∃ xs, H c = some (.lst xs)

theorem Cn.ntup {K : Frag} {O : ASet} {b : Addr} {H : Hp} {o : HO} {d : D} (h : Cn K O b H o d) : ∀ xs, o ≠ .tup xs := fun xs e => by
  subst e
  cases d <;> exact h
theorem Cn.kept {K : Frag} {O O' : ASet} {b : Addr} {H H' : Hp} {o : HO} {d : D} (k : Kept O H O' H') (h : Cn K O b H o d) : Cn K O' b H' o d := by
  cases o <;> cases d <;> first | exact RzA.kept k h | exact h.elim
structure Rel (K : Frag) (B : BoxPred) (F : Fr) (own : Own) (ρ : Rho) (σ : L2.St) (H : Hp) : Prop where
  hb : F.O0 F.b
  hc : F.O0 F.c
  good : BoxGood B
  box : B F.b F.c H
  there : ∀ a, F.O0 a → ∃ o, F.H0 a = some o ∧ ∀ xs, o ≠ .tup xs
  base : ∀ a o, a ≠ F.b → a ≠ F.c → F.H0 a = some o → H a = some o
  fresh : ∀ (i : Nat) (a : Addr), own i = some a → F.H0 a = none
  inj : ∀ (i j : Nat) (a : Addr), own i = some a → own j = some a → i = j
  dom : ∀ (i : Nat) (a : Addr), own i = some a → ∃ d : D, ρ[i]? = some (Slot.ow d) ∨ ρ[i]? = some (Slot.lk d)
  fz : ∀ (i : Nat) (d : D), ρ[i]? = some (Slot.fz d) → ∃ v, σ[i]? = some (some v) ∧ Rz K (F.av own) F.b H v d
  ow : ∀ (i : Nat) (d : D), (ρ[i]? = some (Slot.ow d) ∨ ρ[i]? = some (Slot.lk d)) → ∃ a, own i = some a ∧ σ[i]? = some (some (.ref a)) ∧ Ct K (F.av own) F.b H a d
  len : ρ.length = σ.length
  ex : ∀ p ∈ F.E, Rz K (F.av own) F.b H p.1 p.2
  lks : ∀ p ∈ F.L, own p.1 = some p.2.1 ∧ ρ[p.1]? = some (Slot.lk p.2.2)
  pv : ∀ p ∈ F.P, F.H0 p.1 = none ∧ H p.1 = some p.2 ∧ ∀ xs, p.2 ≠ .tup xs
  pvo : ∀ p ∈ F.P, ∀ i, own i ≠ some p.1
  pvn : (F.P.map Prod.fst).Nodup

section
variable {K : Frag} {B : BoxPred} {F : Fr} {own own' : Own} {ρ ρ' : Rho} {σ : L2.St} {H H' : Hp}
theorem Rel.nt (R : Rel K B F own ρ σ H) {a : Addr} (h : F.av own a) : ∃ o, H a = some o ∧ ∀ xs, o ≠ .tup xs := by
  rcases h with h | ⟨i, h⟩ | ⟨xs, h⟩
  · by_cases hb : a = F.b
    · obtain ⟨xs, e⟩ := R.good.lb R.box
      subst hb
      exact ⟨_, e, fun xs z => by cases z⟩
    · by_cases hc : a = F.c
      · obtain ⟨xs, e⟩ := R.good.lc R.box
        subst hc
        exact ⟨_, e, fun xs z => by cases z⟩
      · obtain ⟨o, e, n⟩ := R.there a h
        exact ⟨o, R.base a o hb hc e, n⟩
  · obtain ⟨d, hd⟩ := R.dom i a h
    obtain ⟨a', e, _, c⟩ := R.ow i d hd
    rw [h] at e
    cases e
    obtain ⟨o, e, c⟩ := c
    exact ⟨o, e, c.ntup⟩
  · exact ⟨_, (R.pv _ h).2⟩
theorem Rel.nav (R : Rel K B F own ρ σ H) {p : Addr} (h : H p = none) : ¬ F.av own p := fun z => by
  obtain ⟨o, e, _⟩ := R.nt z
  rw [h] at e; cases e
theorem Rel.ntup (R : Rel K B F own ρ σ H) : ∀ a xs, F.av own a → H a ≠ some (.tup xs) := fun a xs h e => by
  obtain ⟨o, e', n⟩ := R.nt h
  rw [e] at e'
  cases e'
  exact n _ rfl

def addP (F : Fr) (a : Addr) (o : HO) : Fr := { F with P := (a, o) :: F.P }
/-- what an expression's value is, as long as it is held -/
def Rw (K : Frag) (F : Fr) (own : Own) (σ : L2.St) (H : Hp) (v : V) : Res → Prop
  | .fz d => Rz K (F.av own) F.b H v d
  | .ow d => Rz K (F.av own) F.b H v d
  | .bw i => σ[i]? = some (some v)
/-- .. when it comes: a new list is nowhere else -/
def Rs (K : Frag) (B : BoxPred) (F : Fr) (own : Own) (ρ : Rho) (σ : L2.St) (H : Hp) (v : V) : Res → Prop
  | .fz d => Rz K (F.av own) F.b H v d
  | .ow d => ∃ a o, v = .ref a ∧ Rel K B (addP F a o) own ρ σ H ∧ Cn K ((addP F a o).av own) F.b H o d
  | .bw i => σ[i]? = some (some v)
theorem Kept.add {O O' : ASet} {a : Addr} (k : Kept O H O' H') : Kept (fun x => O x ∨ x = a) H (fun x => O' x ∨ x = a) H' :=
  ⟨fun _ h => h.elim (fun z => .inl (k.sub _ z)) .inr, fun x o h n => k.st x o h fun z => n (.inl z), k.dom⟩
theorem Ct.kept {O O' : ASet} {b a : Addr} {d : D} (k : Kept O H O' H') (ha : ∀ o, H a = some o → H' a = some o) (h : Ct K O b H a d) : Ct K O' b H' a d := by
  obtain ⟨o, e, c⟩ := h
  exact ⟨o, ha _ e, c.kept k⟩
theorem Rw.kept {v : V} {r : Res} (k : Kept (F.av own) H (F.av own') H') (h : Rw K F own σ H v r) : Rw K F own' σ H' v r := by
  cases r with
  | fz d => exact Rz.kept k h
  | ow d => exact Rz.kept k h
  | bw i => exact h
theorem av_addP {a : Addr} {o : HO} {x : Addr} : (Ip.addP F a o).av own x ↔ F.av own x ∨ x = a := by
  constructor
  · rintro (h | h | ⟨ys, h⟩)
    · exact .inl (.inl h)
    · exact .inl (.inr (.inl h))
    · rcases List.mem_cons.mp h with e | h
      · cases e; exact .inr rfl
      · exact .inl (.inr (.inr ⟨ys, h⟩))
  · rintro ((h | h | ⟨ys, h⟩) | rfl)
    · exact .inl h
    · exact .inr (.inl h)
    · exact .inr (.inr ⟨ys, List.mem_cons_of_mem _ h⟩)
    · exact .inr (.inr ⟨o, List.mem_cons_self⟩)
theorem av_addP_eq {a : Addr} {o : HO} : (Ip.addP F a o).av own = fun x => F.av own x ∨ x = a := funext fun _ => propext av_addP
/-- a private object is no longer private -/
theorem Rel.dropP {p : Addr} {o : HO} (R : Rel K B (Ip.addP F p o) own ρ σ H) : Rel K B F own ρ σ H ∧ H p = some o ∧ F.H0 p = none ∧ ¬ F.av own p := by
  have hk : Kept ((Ip.addP F p o).av own) H (F.av own) H := ⟨fun x z => av_addP.mpr (.inl z), fun _ _ e _ => e, fun _ e => e⟩
  obtain ⟨h0, hp, _⟩ := R.pv _ List.mem_cons_self
  have h0 : F.H0 p = none := h0
  refine ⟨{ R with
    fz := fun i d e => by
      obtain ⟨v, e2, z⟩ := R.fz i d e
      exact ⟨v, e2, z.kept hk⟩
    ow := fun i d e => by
      obtain ⟨a, e1, e2, c⟩ := R.ow i d e
      exact ⟨a, e1, e2, c.kept hk fun _ z => z⟩
    ex := fun q hq => (R.ex q hq).kept hk
    pv := fun q hq => R.pv q (List.mem_cons_of_mem _ hq)
    pvo := fun q hq => R.pvo q (List.mem_cons_of_mem _ hq)
    pvn := (List.nodup_cons.mp R.pvn).2 }, hp, h0, fun z => ?_⟩
  rcases z with z | ⟨i, z⟩ | ⟨ys, z⟩
  · obtain ⟨o, e, _⟩ := R.there p z
    have e : F.H0 p = some o := e
    rw [h0] at e; cases e
  · exact R.pvo _ List.mem_cons_self i z
  · have n : (p :: F.P.map Prod.fst).Nodup := R.pvn
    exact (List.nodup_cons.mp n).1 (List.mem_map.mpr ⟨_, z, rfl⟩)
theorem Cn.rz {O : ASet} {b a : Addr} {o : HO} {d : D} (e : H a = some o) (n : ¬ O a) (c : Cn K O b H o d) : Rz K O b H (.ref a) d := by
  cases o <;> cases d <;> first | exact .lst e n c | exact c.elim
theorem Rs.w {v : V} {r : Res} (h : Rs K B F own ρ σ H v r) : Rw K F own σ H v r := by
  cases r with
  | fz d => exact h
  | ow d =>
    obtain ⟨a, o, rfl, R, c⟩ := h
    obtain ⟨_, e, _, n⟩ := R.dropP
    exact Cn.rz e n (c.kept ⟨fun x z => av_addP.mpr (.inl z), fun _ _ e _ => e, fun _ e => e⟩)
  | bw i => exact h
/-- a value seen from outside: a list's items -/
def Vw (K : Frag) (O : ASet) (b : Addr) (H : Hp) (v : V) : D → Prop
  | .lst ds => ∃ a xs, v = .ref a ∧ H a = some (.lst xs) ∧ RzA K O b H xs ds
  | d => Rz K O b H v d
theorem Rz.vw {O : ASet} {b : Addr} {v : V} {d : D} (h : Rz K O b H v d) : Vw K O b H v d := by
  cases h with
  | lst e n r => exact ⟨_, _, rfl, e, r⟩
  | non => exact .non
  | bl x => exact .bl x
  | int i => exact .int i
  | str x => exact .str x
  | box => exact .box
  | tup e r => exact .tup e r
theorem kept_less {O O' : ASet} (h : ∀ a, O' a → O a) : Kept O H O' H := ⟨h, fun _ _ e _ => e, fun _ e => e⟩
theorem upd_none {H : Hp} {p a : Addr} {o : HO} (h : upd H p o a = none) : H a = none := by
  unfold upd at h
  by_cases e : a = p
  · rw [if_pos e] at h; cases h
  · rw [if_neg e] at h; exact h
theorem Vw.rz0 {O : ASet} {b : Addr} {v : V} {d : D} (h : Vw K O b H v d) : Rz K (fun _ => False) b H v d := by
  cases d with
  | lst ds =>
    obtain ⟨a, xs, rfl, e, r⟩ := h
    exact .lst e (fun z => z) (r.kept (kept_less fun _ z => z.elim))
  | _ => exact Rz.kept (kept_less fun _ z => z.elim) h
theorem Cn.vw {O : ASet} {b a : Addr} {o : HO} {d : D} (e : H a = some o) (c : Cn K O b H o d) : Vw K O b H (.ref a) d := by
  cases o <;> cases d <;> first | exact ⟨_, _, rfl, e, c⟩ | exact c.elim
theorem Rel.view (R : Rel K B F own ρ σ H) {v : V} {r : Res} {d : D} (h : Rw K F own σ H v r) (e : r.data ρ = some d) : Vw K (F.av own) F.b H v d := by
  cases r with
  | fz d' =>
    cases e
    exact Rz.vw h
  | ow d' =>
    cases e
    exact Rz.vw h
  | bw i =>
    have h : σ[i]? = some (some v) := h
    have e : (slotAt ρ i).data = some d := e
    unfold slotAt at e
    cases q : ρ[i]? with
    | none => rw [q] at e; cases e
    | some s =>
      rw [q] at e
      have own_ : ∀ d, s = .ow d ∨ s = .lk d → Vw K (F.av own) F.b H v d := fun d hs => by
        obtain ⟨a, _, e2, o, eo, c⟩ := R.ow i d (hs.elim (fun z => .inl (by rw [q, z])) fun z => .inr (by rw [q, z]))
        rw [h] at e2
        cases e2
        exact c.vw eo
      cases s with
      | non => cases e
      | fz d' =>
        cases e
        obtain ⟨v', e2, r⟩ := R.fz i d q
        rw [h] at e2
        cases e2
        exact r.vw
      | ow d' =>
        cases e
        exact own_ d (.inl rfl)
      | lk d' =>
        cases e
        exact own_ d (.inr rfl)
/-- a new object -/
theorem Kept.new {O : ASet} {p : Addr} {o : HO} (h : H p = none) : Kept O H O (upd H p o) := ⟨fun _ z => z, fun a u e _ => by rw [upd_ne (ne_of_none e h)]; exact e, fun _ => upd_none⟩
theorem Rel.new (R : Rel K B F own ρ σ H) {p : Addr} {o : HO} (h : H p = none) : Rel K B F own ρ σ (upd H p o) := by
  have hk : Kept (F.av own) H (F.av own) (upd H p o) := Kept.new h
  have hbp : ∀ {a}, F.av own a → a ≠ p := fun {a} z e => R.nav h (e ▸ z)
  exact { R with
    box := R.good.st R.box (upd_ne (hbp (.inl R.hb))) (upd_ne (hbp (.inl R.hc)))
    base := fun a u x y e => by rw [upd_ne (ne_of_none (R.base a u x y e) h)]; exact R.base a u x y e
    fz := fun i d e => by
      obtain ⟨v, e2, r⟩ := R.fz i d e
      exact ⟨v, e2, r.kept hk⟩
    ow := fun i d e => by
      obtain ⟨a, e1, e2, c⟩ := R.ow i d e
      exact ⟨a, e1, e2, c.kept hk fun u q => by rw [upd_ne (ne_of_none q h)]; exact q⟩
    ex := fun p hp => (R.ex p hp).kept hk
    pv := fun p hp => ⟨(R.pv p hp).1, by rw [upd_ne (ne_of_none (R.pv p hp).2.1 h)]; exact (R.pv p hp).2.1, (R.pv p hp).2.2⟩ }
theorem Rel.free0 (R : Rel K B F own ρ σ H) {p : Addr} (h : H p = none) : F.H0 p = none := by
  cases q : F.H0 p with
  | none => rfl
  | some o =>
    have hb : p ≠ F.b := fun z => R.nav h (.inl (by rw [z]; exact R.hb))
    have hc : p ≠ F.c := fun z => R.nav h (.inl (by rw [z]; exact R.hc))
    rw [R.base p o hb hc q] at h
    cases h
theorem Cn.more {O : ASet} {b p : Addr} {o : HO} {d : D} (hp : H p = none) (h : Cn K O b H o d) : Cn K (fun x => O x ∨ x = p) b H o d := by
  cases o <;> cases d <;> first | exact RzA.more hp h | exact h.elim
/-- an object that was not there when all was known: nothing bears it -/
theorem Rel.born (R : Rel K B F own ρ σ H) (R' : Rel K B F own ρ σ H') {a : Addr} {o : HO} (ha : H a = none) (k : Kept (F.av own) H (F.av own) H') (ko : ∀ i x, own i = some x → H' x = H x) (ea : H' a = some o) (nt : ∀ xs, o ≠ .tup xs) : Rel K B (Ip.addP F a o) own ρ σ H' := by
  have hk : Kept (fun x => F.av own x ∨ x = a) H ((Ip.addP F a o).av own) H' := by
    rw [av_addP_eq]
    exact k.add
  exact { R' with
    fz := fun i d e => by
      obtain ⟨v, e2, z⟩ := R.fz i d e
      exact ⟨v, e2, (Rz.more ha z).kept hk⟩
    ow := fun i d e => by
      obtain ⟨x, e1, e2, u, eu, c⟩ := R.ow i d e
      exact ⟨x, e1, e2, u, by rw [ko i x e1]; exact eu, (Cn.more ha c).kept hk⟩
    ex := fun q hq => (Rz.more ha (R.ex q hq)).kept hk
    pv := fun q hq => by
      rcases List.mem_cons.mp hq with rfl | hq
      · exact ⟨R.free0 ha, ea, nt⟩
      · exact R'.pv q hq
    pvo := fun q hq i e => by
      rcases List.mem_cons.mp hq with rfl | hq
      · exact R.nav ha (.inr (.inl ⟨i, e⟩))
      · exact R.pvo q hq i e
    pvn := by
      show (a :: F.P.map Prod.fst).Nodup
      refine List.nodup_cons.mpr ⟨fun hm => ?_, R.pvn⟩
      obtain ⟨q, hq, e⟩ := List.mem_map.mp hm
      have := (R.pv q hq).2.1
      rw [e, ha] at this
      cases this }
theorem own_upd (R : Rel K B F own ρ σ H) {p : Addr} {o : HO} (h : H p = none) : ∀ i x, own i = some x → upd H p o x = H x := fun i x e => upd_ne fun z => by
  obtain ⟨u, e2, _⟩ := R.nt (.inr (.inl ⟨i, e⟩))
  rw [z, h] at e2
  cases e2
theorem Rel.newL (R : Rel K B F own ρ σ H) {p : Addr} {xs : List V} {ds : List D} (h : H p = none) (r : RzA K (F.av own) F.b H xs ds) : Rs K B F own ρ σ (upd H p (.lst xs)) (.ref p) (.ow (.lst ds)) := by
  refine ⟨p, .lst xs, rfl, R.born (R.new h) h (Kept.new h) (own_upd R h) upd_same (fun _ z => by cases z), ?_⟩
  show RzA K ((Ip.addP F p (.lst xs)).av own) F.b _ xs ds
  rw [av_addP_eq]
  exact (RzA.more h r).kept (Kept.new h)
theorem Rel.newT (R : Rel K B F own ρ σ H) {p : Addr} {xs : List V} {ds : List D} (h : H p = none) (r : RzA K (F.av own) F.b H xs ds) : Rs K B F own ρ σ (upd H p (.tup xs)) (.ref p) (.fz (.tup ds)) :=
  .tup (.inl ⟨upd_same, R.nav h⟩) (r.kept (Kept.new h))

/-! ### the canonical readings -/
variable (K B)
def tE (w : WE) : TE := fun σ H Q => ∃ F own ρ P, Rel K B F own ρ σ H ∧ w ρ P ∧
  ∀ own' ρ' v r H', Rel K B F own' ρ' σ H' → Kept (F.av own) H (F.av own') H' → Rs K B F own' ρ' σ H' v r → P r ρ' → Q v H'
def tT (w : WT) : TT := fun σ H Q => ∃ F own ρ P, Rel K B F own ρ σ H ∧ w ρ P ∧
  ∀ own' ρ' k H', Rel K B F own' ρ' σ H' → Kept (F.av own) H (F.av own') H' → P k ρ' → Q k H'
/-- arguments: all frozen -/
def tA (w : WA) : TA := fun σ H Q => ∃ F own ρ P, Rel K B F own ρ σ H ∧ w ρ P ∧
  ∀ own' ρ' vs ds H', Rel K B F own' ρ' σ H' → Kept (F.av own) H (F.av own') H' → RzA K (F.av own') F.b H' vs ds → P ds ρ' → Q vs H'
end
section
variable {X : Cx} {e : Expr} {es : List Expr} {t t' : TE} {u u' : TT} {a a' : TA}
theorem peW (h : PE X e t) (i : ∀ σ H Q, t' σ H Q → t σ H Q) : PE X e t' := ⟨fun pins s σ H Q I q => h.run pins s σ H Q I (i σ H Q q)⟩
theorem ptW (h : PT X e u) (i : ∀ σ H Q, u' σ H Q → u σ H Q) : PT X e u' := ⟨fun pins s σ H Q I q => h.run pins s σ H Q I (i σ H Q q)⟩
theorem paW (h : PA X es a) (i : ∀ σ H Q, a' σ H Q → a σ H Q) : PA X es a' := ⟨fun pos pins s σ H Q I q => h.run pos pins s σ H Q I (i σ H Q q)⟩
end
/-- sizes, as every held heap keeps them -/
def Sz (H : Hp) : Prop := ∀ a xs, (H a = some (.lst xs) ∨ H a = some (.tup xs)) → xs.length ≤ sizeLine
theorem Inv.sz_ {X : Cx} {pins : List (Addr × Obj)} {σ : L2.St} {H : Hp} {s : Shared} (I : L2.Inv X pins σ H s) : Sz H := fun a xs h => by
  rcases h with h | h
  · exact (show ObjOk X.prog X.w H s.heap a (.lst xs) from I.hok a _ h).1
  · exact (show ObjOk X.prog X.w H s.heap a (.tup xs) from I.hok a _ h).1
theorem peSz {X : Cx} {e : Expr} {t : TE} (h : PE X e t) : PE X e (fun σ H Q => Sz H → t σ H Q) := ⟨fun pins s σ H Q I q => h.run pins s σ H Q I (q (Inv.sz_ I))⟩
end Ip

set_option Elab.async false
set_option linter.all false
set_option maxRecDepth 100000
set_option maxHeartbeats 2000000
set_option autoImplicit false
/-! Ip3: names, constants, operators, tests -/
namespace Ip
open PySem L2
abbrev lim : Nat := 10000000
theorem lim_line : lim ≤ sizeLine := by rw [sizeLine_eq]; decide

/-! ### what the operators make of data -/
def addD : D → D → Option Res
  | .int i, .int j => some (.fz (.int (i + j)))
  | .str x, .str y => if x.length + y.length ≤ lim then some (.fz (.str (x ++ y))) else none
  | .tup xs, .tup ys => if xs.length + ys.length ≤ lim then some (.fz (.tup (xs ++ ys))) else none
  | .lst xs, .lst ys => if xs.length + ys.length ≤ lim then some (.ow (.lst (xs ++ ys))) else none
  | _, _ => none
def subD : D → D → Option Res
  | .int i, .int j => some (.fz (.int (i - j)))
  | _, _ => none
def small (i : Int) : Prop := -1000000000000000000000 ≤ i ∧ i ≤ 1000000000000000000000
instance (i : Int) : Decidable (small i) := inferInstanceAs (Decidable (_ ∧ _))
def mulD : D → D → Option Res
  | .int i, .int j => if small i ∧ small j then some (.fz (.int (i * j))) else none
  | _, _ => none
def fdivD : D → D → Option Res
  | .int i, .int j => if 0 < j ∧ small j then some (.fz (.int (i / j))) else none
  | _, _ => none
def modD : D → D → Option Res
  | .int i, .int j => if 0 < j then some (.fz (.int (i % j))) else none
  | _, _ => none
def binD : Operator → D → D → Option Res
  | .Add => addD
  | .Sub => subD
  | .Mult => mulD
  | .FloorDiv => fdivD
  | .Mod => modD
  | _ => fun _ _ => none
def negD : D → Option Res
  | .int i => some (.fz (.int (-i)))
  | _ => none
def D.eqv (x y : D) : Bool := PyData.eqv x.py y.py
def eqD (x y : D) : Option Bool := if x.ok && y.ok then some (x.eqv y) else none
def neD (x y : D) : Option Bool := if x.ok && y.ok then some (!x.eqv y) else none
def intsOf : List D → Option (List Int)
  | [] => some []
  | .int i :: r => (intsOf r).map (i :: ·)
  | _ :: _ => none
def ltD : D → D → Option Bool
  | .int i, .int j => some (decide (i < j))
  | .str x, .str y => some (decide (x.cps.toList < y.cps.toList))
  | .tup xs, .tup ys => match intsOf xs, intsOf ys with
    | some ns, some ms => some (HT.lexLt ns ms)
    | _, _ => none
  | _, _ => none
def leD : D → D → Option Bool
  | .int i, .int j => some (decide (i ≤ j))
  | _, _ => none
def gtD : D → D → Option Bool
  | .int i, .int j => some (decide (j < i))
  | _, _ => none
def geD : D → D → Option Bool
  | .int i, .int j => some (decide (j ≤ i))
  | _, _ => none
def isNon : D → Bool
  | .non => true
  | _ => false
def isD : D → D → Option Bool
  | x, .non => some (isNon x)
  | .bl a, .bl b => some (decide (a = b))
  | _, _ => none
def itemsOf : D → Option (List D)
  | .tup ds => some ds
  | .lst ds => some ds
  | _ => none
def inD (x y : D) : Option Bool := match y with
  | .str t => match x with
    | .str s => some (!(Builtin.Str.occurrences t s 0 t.length 1).isEmpty)
    | _ => none
  | _ => match itemsOf y with
    | some ds => if x.ok && y.ok then some (ds.any fun z => z.eqv x) else none
    | none => none
def notD (o : Option Bool) : Option Bool := match o with
  | some b => some (!b)
  | none => none
def cmpD : CmpOp → D → D → Option Bool
  | .Eq => eqD
  | .NotEq => neD
  | .Lt => ltD
  | .LtE => leD
  | .Gt => gtD
  | .GtE => geD
  | .Is => isD
  | .IsNot => fun x y => notD (isD x y)
  | .In => inD
  | .NotIn => fun x y => notD (inD x y)
def cmpR (op : CmpOp) (x y : D) : Option Res := match cmpD op x y with
  | some b => some (.fz (.bl b))
  | none => none
def truthD : D → Option Bool
  | .non => some false
  | .bl b => some b
  | .int i => some (i != 0)
  | .str s => if s.length ≤ lim then some ((s.length : Int) != 0) else none
  | .tup ds => some (!ds.isEmpty)
  | .lst ds => some (!ds.isEmpty)
  | _ => none

/-! ### the combinators -/
def wLit (d : D) : WE := fun ρ P => P (.fz d) ρ
def wVar (i : Nat) : WE := fun ρ P => match slotAt ρ i with
  | .fz d => P (.fz d) ρ
  | .ow _ => P (.bw i) ρ
  | .lk _ => P (.bw i) ρ
  | .non => False
def w2 (f : D → D → Option Res) (wa wb : WE) : WE := fun ρ P => wa ρ fun ra ρ1 => wb ρ1 fun rb ρ2 => need (ra.data ρ2) fun x => need (rb.data ρ2) fun y => need (f x y) fun r => P r ρ2
def w1 (f : D → Option Res) (wa : WE) : WE := fun ρ P => wa ρ fun ra ρ1 => need (ra.data ρ1) fun x => need (f x) fun r => P r ρ1
def wTest (w : WE) : WT := fun ρ P => w ρ fun r ρ1 => need (r.data ρ1) fun d => need (truthD d) fun k => P k ρ1
def wCmpT (f : CmpOp) (wa wb : WE) : WT := fun ρ P => wa ρ fun ra ρ1 => wb ρ1 fun rb ρ2 => need (ra.data ρ2) fun x => need (rb.data ρ2) fun y => need (cmpD f x y) fun k => P k ρ2
def wChain (f f' : CmpOp) (wa wb wc : WE) : WT := fun ρ P => wa ρ fun ra ρ1 => wb ρ1 fun rb ρ2 => need (ra.data ρ2) fun x => need (rb.data ρ2) fun y => need (cmpD f x y) fun k =>
  if k = true then wc ρ2 fun rc ρ3 => need (rb.data ρ3) fun y => need (rc.data ρ3) fun z => need (cmpD f' y z) fun k' => P k' ρ3 else P false ρ2
/-- a test's answer as a value -/
def wOfT (t : WT) : WE := fun ρ P => t ρ fun k ρ1 => P (.fz (.bl k)) ρ1
def asBl : D → Option Bool
  | .bl b => some b
  | _ => none
def wAnd (wa wb : WE) : WE := fun ρ P => wa ρ fun ra ρ1 => need (ra.data ρ1) fun d => need (asBl d) fun k => if k = true then wb ρ1 P else P (.fz (.bl false)) ρ1
def wOr (wa wb : WE) : WE := fun ρ P => wa ρ fun ra ρ1 => need (ra.data ρ1) fun d => need (asBl d) fun k => if k = true then P (.fz (.bl true)) ρ1 else wb ρ1 P
def wAndT (ta tb : WT) : WT := fun ρ P => ta ρ fun k ρ1 => if k = true then tb ρ1 P else P false ρ1
def wOrT (ta tb : WT) : WT := fun ρ P => ta ρ fun k ρ1 => if k = true then P true ρ1 else tb ρ1 P
def wNotT (ta : WT) : WT := fun ρ P => ta ρ fun k ρ1 => P (!k) ρ1
def wNot (wa : WE) : WE := fun ρ P => wa ρ fun ra ρ1 => need (ra.data ρ1) fun d => need (asBl d) fun k => P (.fz (.bl (!k))) ρ1
def wIf (t : WT) (wa wb : WE) : WE := fun ρ P => t ρ fun k ρ1 => if k = true then wa ρ1 P else wb ρ1 P

/-! ### soundness -/
/-- a two-place reading does what f says -/
def Op2 (K : Frag) (B : BoxPred) (r : R2) (f : D → D → Option Res) : Prop := ∀ (F : Fr) (own : Own) (ρ : Rho) (σ : L2.St) (H : Hp) (x y : V) (dx dy : D) (res : Res) (Q : VK), Rel K B F own ρ σ H → Sz H →
  Vw K (F.av own) F.b H x dx → Vw K (F.av own) F.b H y dy → f dx dy = some res →
  (∀ v H', Rel K B F own ρ σ H' → Kept (F.av own) H (F.av own) H' → Rs K B F own ρ σ H' v res → Q v H') → r x y H Q
/-- .. a comparison -/
def OpB (K : Frag) (B : BoxPred) (r : R2) (f : D → D → Option Bool) : Prop := ∀ (F : Fr) (own : Own) (ρ : Rho) (σ : L2.St) (H : Hp) (x y : V) (dx dy : D) (k : Bool) (Q : VK), Rel K B F own ρ σ H → Sz H →
  Vw K (F.av own) F.b H x dx → Vw K (F.av own) F.b H y dy → f dx dy = some k → Q (.bl k) H → r x y H Q
def Op1 (K : Frag) (B : BoxPred) (r : V → Hp → VK → Prop) (f : D → Option Res) : Prop := ∀ (F : Fr) (own : Own) (ρ : Rho) (σ : L2.St) (H : Hp) (x : V) (dx : D) (res : Res) (Q : VK), Rel K B F own ρ σ H → Sz H →
  Vw K (F.av own) F.b H x dx → f dx = some res →
  (∀ v H', Rel K B F own ρ σ H' → Kept (F.av own) H (F.av own) H' → Rs K B F own ρ σ H' v res → Q v H') → r x H Q
/-- sizes may be used at an operator -/
def szR (r : R2) : R2 := fun x y H Q => Sz H → r x y H Q
def szU (r : V → Hp → VK → Prop) : V → Hp → VK → Prop := fun x H Q => Sz H → r x H Q
section
variable {X : Cx} {B : BoxPred} {a b c : Expr} {es : List Expr} {wa wb wc : WE} {ta tb : WT} {pos : Pos}
theorem opSz {f : Value → Value → Sem Value} {r : R2} (h : OpR X f r) : OpR X f (szR r) := fun pins s σ H x y v u Q I rx ry q => h pins s σ H x y v u Q I rx ry (q (Inv.sz_ I))
theorem unSz {f : Value → Sem Value} {r : V → Hp → VK → Prop} (h : UnR X f r) : UnR X f (szU r) := fun pins s σ H x v Q I rx q => h pins s σ H x v Q I rx (q (Inv.sz_ I))
theorem ixSz {r : R2} (h : IxR X r) : IxR X (szR r) := fun va sl pins s σ H x y v u Q I rx ry q => h va sl pins s σ H x y v u Q I rx ry (q (Inv.sz_ I))

theorem sVar {i : Nat} {x : Str} (hN : X.N[i]? = some x) (hv : Vis X.env.scope x) (hd : (x == ("__debug__" : Str)) = false) (hcd : (x == ("__classdict__" : Str)) = false) : PE X (.Name x pos) (tE X.K B (wVar i)) :=
  peW (pe_var hN hv hd hcd) fun σ H Q h => by
    obtain ⟨F, own, ρ, P, R, w, k⟩ := h
    unfold wVar slotAt at w
    cases q : ρ[i]? with
    | none => rw [q] at w; exact w.elim
    | some s =>
      rw [q] at w
      cases s with
      | non => exact w.elim
      | fz d =>
        obtain ⟨v, e, r⟩ := R.fz i d q
        exact ⟨v, e, k own ρ v (.fz d) H R Kept.refl r w⟩
      | ow d =>
        obtain ⟨a, _, e, _⟩ := R.ow i d (.inl q)
        exact ⟨_, e, k own ρ _ (.bw i) H R Kept.refl e w⟩
      | lk d =>
        obtain ⟨a, _, e, _⟩ := R.ow i d (.inr q)
        exact ⟨_, e, k own ρ _ (.bw i) H R Kept.refl e w⟩
theorem sLit {e : Expr} {v : V} {d : D} (h : PE X e (tC v)) (hv : ∀ (O : ASet) (b : Addr) (H : Hp), Rz X.K O b H v d) : PE X e (tE X.K B (wLit d)) :=
  peW h fun σ H Q h => by
    obtain ⟨F, own, ρ, P, R, w, k⟩ := h
    exact k own ρ v (.fz d) H R Kept.refl (hv _ _ _) w
theorem red2 {r : R2} {f : D → D → Option Res} (h : Op2 X.K B r f) : ∀ σ H Q, tE X.K B (w2 f wa wb) σ H Q → tOp (szR r) (tE X.K B wa) (tE X.K B wb) σ H Q := by
  rintro σ H Q ⟨F, own, ρ, P, R, w, k⟩
  refine ⟨F, own, ρ, _, R, w, fun own1 ρ1 x ra H1 R1 k1 s1 w1 => ⟨F, own1, ρ1, _, R1, w1, fun own2 ρ2 y rb H2 R2 k2 s2 w2 hz => ?_⟩⟩
  obtain ⟨dx, e1, w3⟩ := need_of w2
  obtain ⟨dy, e2, w4⟩ := need_of w3
  obtain ⟨r, e3, w5⟩ := need_of w4
  exact h F own2 ρ2 σ H2 x y dx dy r Q R2 hz (R2.view (s1.w.kept k2) e1) (R2.view s2.w e2) e3 fun v H' R' k' s' => k own2 ρ2 v r H' R' ((k1.trans k2).trans k') s' w5
theorem OpB.op2 {r : R2} {op : CmpOp} (h : OpB X.K B r (cmpD op)) : Op2 X.K B r (cmpR op) := fun F own ρ σ H x y dx dy res Q R hz hx hy e q => by
  unfold cmpR at e
  cases q' : cmpD op dx dy with
  | none => rw [q'] at e; cases e
  | some k =>
    rw [q'] at e
    cases e
    exact h F own ρ σ H x y dx dy k Q R hz hx hy q' (q _ _ R Kept.refl (.bl k))
theorem sBin {op : Operator} {r : R2} {f : D → D → Option Res} (ho : OpR X (binaryOp op) r) (h : Op2 X.K B r f) (ha : PE X a (tE X.K B wa)) (hb : PE X b (tE X.K B wb)) : PE X (.BinOp a op b pos) (tE X.K B (w2 f wa wb)) :=
  peW (pe_op (opSz ho) ha hb) (red2 h)
theorem sCmp {op : CmpOp} {r : R2} (ho : OpR X (compareOp op) r) (hm : behindInMarks op b = false) (h : OpB X.K B r (cmpD op)) (ha : PE X a (tE X.K B wa)) (hb : PE X b (tE X.K B wb)) : PE X (.Compare a [op] [b] pos) (tE X.K B (w2 (cmpR op) wa wb)) :=
  peW (pe_cmpR (opSz ho) ha hb hm) (red2 h.op2)
theorem sIx {r : R2} {f : D → D → Option Res} (ho : IxR X r) (hs : PlainIx b) (h : Op2 X.K B r f) (ha : PE X a (tE X.K B wa)) (hb : PE X b (tE X.K B wb)) : PE X (.Subscript a b pos) (tE X.K B (w2 f wa wb)) :=
  peW (pe_ix (ixSz ho) ha hb hs) (red2 h)
theorem sUn {op : UnaryOp} {r : V → Hp → VK → Prop} {f : D → Option Res} (ho : UnR X (unaryOp op) r) (h : Op1 X.K B r f) (ha : PE X a (tE X.K B wa)) : PE X (.UnaryOp op a pos) (tE X.K B (w1 f wa)) :=
  peW (pe_un (unSz ho) ha) fun σ H Q h' => by
    obtain ⟨F, own, ρ, P, R, w, k⟩ := h'
    refine ⟨F, own, ρ, _, R, w, fun own1 ρ1 x ra H1 R1 k1 s1 w1 hz => ?_⟩
    obtain ⟨dx, e1, w3⟩ := need_of w1
    obtain ⟨r, e3, w5⟩ := need_of w3
    exact h F own1 ρ1 σ H1 x dx r Q R1 hz (R1.view s1.w e1) e3 fun v H' R' k' s' => k own1 ρ1 v r H' R' (k1.trans k') s' w5
/-- a comparison as a test -/
theorem sCmpT {op : CmpOp} {r : R2} (ho : OpR X (compareOp op) r) (hm : behindInMarks op b = false) (h : OpB X.K B r (cmpD op)) (ha : PE X a (tE X.K B wa)) (hb : PE X b (tE X.K B wb)) : PT X (.Compare a [op] [b] pos) (tT X.K B (wCmpT op wa wb)) :=
  ptW (pt_cmpR (opSz ho) ha hb hm) fun σ H Q h' => by
    obtain ⟨F, own, ρ, P, R, w, k⟩ := h'
    refine ⟨F, own, ρ, _, R, w, fun own1 ρ1 x ra H1 R1 k1 s1 w1 => ⟨F, own1, ρ1, _, R1, w1, fun own2 ρ2 y rb H2 R2 k2 s2 w2 hz => ?_⟩⟩
    obtain ⟨dx, e1, w3⟩ := need_of w2
    obtain ⟨dy, e2, w4⟩ := need_of w3
    obtain ⟨b', e3, w5⟩ := need_of w4
    exact h F own2 ρ2 σ H2 x y dx dy b' _ R2 hz (R2.view (s1.w.kept k2) e1) (R2.view s2.w e2) e3 ⟨b', rfl, k own2 ρ2 b' H2 R2 (k1.trans k2) w5⟩
end
end Ip

set_option Elab.async false
set_option linter.all false
set_option maxRecDepth 100000
set_option maxHeartbeats 2000000
set_option autoImplicit false
/-! Ip4: chains, and, or, not, if, displays, lists of operands -/
namespace Ip
open PySem L2

/-! ### operands, one after another -/
abbrev WO := Rho → (List Res → Rho → Prop) → Prop
def wNil : WO := fun ρ P => P [] ρ
def wCons (w : WE) (ws : WO) : WO := fun ρ P => w ρ fun r ρ1 => ws ρ1 fun rs ρ2 => P (r :: rs) ρ2
/-- a value is handed on: a list of the frame's own is frozen -/
def frz1 (ρ : Rho) : Res → Option (D × Rho)
  | .fz d => some (d, ρ)
  | .ow d => some (d, ρ)
  | .bw i => match slotAt ρ i with
    | .fz d => some (d, ρ)
    | .ow d => some (d, ρ.set i (.fz d))
    | _ => none
def frzAll (ρ : Rho) : List Res → Option (List D × Rho)
  | [] => some ([], ρ)
  | r :: rs => match frz1 ρ r with
    | some (d, ρ1) => match frzAll ρ1 rs with
      | some (ds, ρ2) => some (d :: ds, ρ2)
      | none => none
    | none => none
def dataAll (ρ : Rho) : List Res → Option (List D)
  | [] => some []
  | r :: rs => match r.data ρ with
    | some d => match dataAll ρ rs with
      | some ds => some (d :: ds)
      | none => none
    | none => none
def wTup (ws : WO) : WE := fun ρ P => ws ρ fun rs ρ1 => need (frzAll ρ1 rs) fun q => q.1.length ≤ lim ∧ P (.fz (.tup q.1)) q.2
def wLst (ws : WO) : WE := fun ρ P => ws ρ fun rs ρ1 => need (frzAll ρ1 rs) fun q => q.1.length ≤ lim ∧ P (.ow (.lst q.1)) q.2
def RsA (K : Frag) (F : Fr) (own : Own) (σ : L2.St) (H : Hp) : List V → List Res → Prop
  | [], [] => True
  | v :: vs, r :: rs => Rw K F own σ H v r ∧ RsA K F own σ H vs rs
  | _, _ => False
section
variable {K : Frag} {B : BoxPred} {F : Fr} {own own' : Own} {ρ ρ' : Rho} {σ : L2.St} {H H' : Hp}
theorem RsA.kept (k : Kept (F.av own) H (F.av own') H') : ∀ {vs : List V} {rs : List Res}, RsA K F own σ H vs rs → RsA K F own' σ H' vs rs
  | [], [], _ => True.intro
  | _ :: _, _ :: _, ⟨a, b⟩ => ⟨a.kept k, RsA.kept k b⟩
  | [], _ :: _, h => h.elim
  | _ :: _, [], h => h.elim
/-- views of all operands -/
def VwA (K : Frag) (O : ASet) (b : Addr) (H : Hp) : List V → List D → Prop
  | [], [] => True
  | v :: vs, d :: ds => Vw K O b H v d ∧ VwA K O b H vs ds
  | _, _ => False
theorem Rel.viewA (R : Rel K B F own ρ σ H) : ∀ {vs : List V} {rs : List Res} {ds : List D}, RsA K F own σ H vs rs → dataAll ρ rs = some ds → VwA K (F.av own) F.b H vs ds
  | [], [], _, _, e => by cases e; exact True.intro
  | v :: vs, r :: rs, ds, ⟨a, b⟩, e => by
    unfold dataAll at e
    cases q : r.data ρ with
    | none => rw [q] at e; cases e
    | some d =>
      rw [q] at e
      cases q2 : dataAll ρ rs with
      | none => rw [q2] at e; cases e
      | some ds' =>
        rw [q2] at e
        cases e
        exact ⟨R.view a q, R.viewA b q2⟩
  | [], _ :: _, _, h, _ => h.elim
  | _ :: _, [], _, h, _ => h.elim
theorem slot_of {ρ : Rho} {i : Nat} {s : Slot} (h : slotAt ρ i = s) (n : s ≠ .non) : ρ[i]? = some s := by
  unfold slotAt at h
  cases q : ρ[i]? with
  | none => rw [q] at h; exact absurd h.symm n
  | some t => rw [q] at h; exact congrArg some h
def dropO (own : Own) (i : Nat) : Own := fun j => if j = i then none else own j
theorem dropO_some {own : Own} {i j : Nat} {a : Addr} (h : dropO own i j = some a) : j ≠ i ∧ own j = some a := by
  unfold dropO at h
  by_cases q : j = i
  · rw [if_pos q] at h; cases h
  · rw [if_neg q] at h; exact ⟨q, h⟩
theorem dropO_ne {own : Own} {i j : Nat} (h : j ≠ i) : dropO own i j = own j := if_neg h
theorem av_less {F : Fr} {own own' : Own} (h : ∀ j a, own' j = some a → own j = some a) {x : Addr} (z : F.av own' x) : F.av own x := z.elim .inl fun z => z.elim (fun ⟨j, e⟩ => .inr (.inl ⟨j, h j x e⟩)) fun q => .inr (.inr q)
theorem av_drop {F : Fr} {own : Own} {i : Nat} {x : Addr} (z : F.av (dropO own i) x) : F.av own x := av_less (fun _ _ e => (dropO_some e).2) z
/-- an own list is frozen -/
theorem Rel.freeze (R : Rel K B F own ρ σ H) {i : Nat} {d : D} (h : ρ[i]? = some (.ow d)) : Rel K B F (dropO own i) (ρ.set i (.fz d)) σ H ∧ ∃ v, σ[i]? = some (some v) ∧ Rz K (F.av (dropO own i)) F.b H v d := by
  obtain ⟨a, ha, hs, c⟩ := R.ow i d (.inl h)
  have na : ¬ F.av (dropO own i) a := fun z => by
    rcases z with z | ⟨j, e⟩ | ⟨xs, z⟩
    · obtain ⟨o, e, _⟩ := R.there a z
      rw [R.fresh i a ha] at e; cases e
    · have q := dropO_some e
      exact q.1 (R.inj j i a q.2 ha)
    · exact R.pvo _ z i ha
  have hk : Kept (F.av own) H (F.av (dropO own i)) H := kept_less fun _ => av_drop
  have hi : i < ρ.length := (List.getElem?_eq_some_iff.mp h).1
  have rz : Rz K (F.av (dropO own i)) F.b H (.ref a) d := by
    obtain ⟨o, e, c⟩ := c
    exact (c.kept hk).rz e na
  refine ⟨?_, _, hs, rz⟩
  exact { R with
    fresh := fun j x e => R.fresh j x (dropO_some e).2
    inj := fun j l x e e2 => R.inj j l x (dropO_some e).2 (dropO_some e2).2
    dom := fun j x e => by
      obtain ⟨q, e⟩ := dropO_some e
      obtain ⟨d', hd⟩ := R.dom j x e
      exact ⟨d', by rw [List.getElem?_set_ne (Ne.symm q)]; exact hd⟩
    fz := fun j d' e => by
      by_cases q : j = i
      · subst q
        rw [List.getElem?_set_self hi] at e
        cases e
        exact ⟨_, hs, rz⟩
      · rw [List.getElem?_set_ne (Ne.symm q)] at e
        obtain ⟨v, e2, r⟩ := R.fz j d' e
        exact ⟨v, e2, r.kept hk⟩
    ow := fun j d' e => by
      by_cases q : j = i
      · subst q
        rw [List.getElem?_set_self hi] at e
        rcases e with e | e <;> cases e
      · rw [List.getElem?_set_ne (Ne.symm q)] at e
        obtain ⟨x, e1, e2, c⟩ := R.ow j d' e
        exact ⟨x, by rw [dropO_ne q]; exact e1, e2, c.kept hk fun _ z => z⟩
    len := by rw [List.length_set]; exact R.len
    ex := fun p hp => (R.ex p hp).kept hk
    lks := fun p hp => by
      obtain ⟨e1, e2⟩ := R.lks p hp
      have q : p.1 ≠ i := fun e => by
        rw [e, h] at e2
        cases e2
      exact ⟨by rw [dropO_ne q]; exact e1, by rw [List.getElem?_set_ne (Ne.symm q)]; exact e2⟩
    pvo := fun p hp j e => R.pvo p hp j (dropO_some e).2 }
/-- own', less than own -/
structure Less (own own' : Own) : Prop where
  sub : ∀ j a, own' j = some a → own j = some a
theorem Less.refl {own : Own} : Less own own := ⟨fun _ _ e => e⟩
theorem Less.trans {o o' o'' : Own} (a : Less o o') (b : Less o' o'') : Less o o'' := ⟨fun j x e => a.sub j x (b.sub j x e)⟩
theorem Less.kept {own own' : Own} {F : Fr} {H : Hp} (l : Less own own') : Kept (F.av own) H (F.av own') H := kept_less fun _ z => av_less l.sub z
theorem Rel.frz1 (R : Rel K B F own ρ σ H) {v : V} {r : Res} {d : D} {ρ' : Rho} (h : Rw K F own σ H v r) (e : frz1 ρ r = some (d, ρ')) : ∃ own', Rel K B F own' ρ' σ H ∧ Less own own' ∧ (∀ i, r = .bw i → own' i = none) ∧ Rz K (F.av own') F.b H v d := by
  cases r with
  | fz d' =>
    cases e
    exact ⟨own, R, Less.refl, fun _ z => (by cases z), h⟩
  | ow d' =>
    cases e
    exact ⟨own, R, Less.refl, fun _ z => (by cases z), h⟩
  | bw i =>
    have h : σ[i]? = some (some v) := h
    unfold Ip.frz1 at e
    cases q : slotAt ρ i with
    | non => simp only [q] at e; cases e
    | lk d' => simp only [q] at e; cases e
    | fz d' =>
      simp only [q] at e
      cases e
      have hs := slot_of q (by intro z; cases z)
      obtain ⟨v', e2, r⟩ := R.fz i d hs
      rw [h] at e2
      cases e2
      refine ⟨own, R, Less.refl, fun j z => ?_, r⟩
      cases z
      cases qo : own i with
      | none => rfl
      | some a =>
        obtain ⟨d2, hd⟩ := R.dom i a qo
        rw [hs] at hd
        rcases hd with hd | hd <;> cases hd
    | ow d' =>
      simp only [q] at e
      cases e
      obtain ⟨R', v', e2, r⟩ := R.freeze (slot_of q (by intro z; cases z))
      rw [h] at e2
      cases e2
      exact ⟨_, R', ⟨fun _ _ e => (dropO_some e).2⟩, fun j z => by cases z; exact if_pos rfl, r⟩
theorem Rel.frzAll : ∀ {rs : List Res} {own : Own} {ρ : Rho} (R : Rel K B F own ρ σ H) {vs : List V} {ds : List D} {ρ' : Rho} (h : RsA K F own σ H vs rs) (e : frzAll ρ rs = some (ds, ρ')),
    ∃ own', Rel K B F own' ρ' σ H ∧ Less own own' ∧ (∀ i, Res.bw i ∈ rs → own' i = none) ∧ RzA K (F.av own') F.b H vs ds
  | [], own, ρ, R, [], ds, ρ', _, e => by
    cases e
    exact ⟨own, R, Less.refl, fun _ z => (by cases z), .nil⟩
  | r :: rs, own, ρ, R, v :: vs, ds, ρ', ⟨a, b⟩, e => by
    unfold Ip.frzAll at e
    cases q : Ip.frz1 ρ r with
    | none => rw [q] at e; cases e
    | some p =>
      obtain ⟨d, ρ1⟩ := p
      simp only [q] at e
      cases q2 : Ip.frzAll ρ1 rs with
      | none => rw [q2] at e; cases e
      | some p2 =>
        obtain ⟨ds2, ρ2⟩ := p2
        simp only [q2] at e
        cases e
        obtain ⟨own1, R1, k1, n1, z1⟩ := R.frz1 a q
        obtain ⟨own2, R2, k2, n2, z2⟩ := Rel.frzAll R1 (b.kept k1.kept) q2
        refine ⟨own2, R2, k1.trans k2, fun i hi => ?_, .cons (z1.kept k2.kept) z2⟩
        rcases List.mem_cons.mp hi with e | hi
        · have h1 := n1 i e.symm
          cases q3 : own2 i with
          | none => rfl
          | some a => rw [k2.sub i a q3] at h1; cases h1
        · exact n2 i hi
  | [], _, _, _, _ :: _, _, _, h, _ => h.elim
  | _ :: _, _, _, _, [], _, _, h, _ => h.elim
variable (K B)
def tO (w : WO) : TA := fun σ H Q => ∃ F own ρ P, Rel K B F own ρ σ H ∧ w ρ P ∧
  ∀ own' ρ' vs rs H', Rel K B F own' ρ' σ H' → Kept (F.av own) H (F.av own') H' → RsA K F own' σ H' vs rs → P rs ρ' → Q vs H'
end

section
variable {X : Cx} {B : BoxPred} {a b c e : Expr} {es : List Expr} {wa wb wc w : WE} {ws : WO} {ta tb : WT} {pos : Pos}
theorem sNil : PA X [] (tO X.K B wNil) := paW pa_nil fun σ H Q h => by
  obtain ⟨F, own, ρ, P, R, w, k⟩ := h
  exact k own ρ [] [] H R Kept.refl True.intro w
theorem sCons (hs : starEach (e :: es) X.env = (false, eval e X.env) :: starEach es X.env) (ha : PE X e (tE X.K B w)) (hb : PA X es (tO X.K B ws)) : PA X (e :: es) (tO X.K B (wCons w ws)) :=
  paW (pa_cons ha hb hs) fun σ H Q h => by
    obtain ⟨F, own, ρ, P, R, w, k⟩ := h
    refine ⟨F, own, ρ, _, R, w, fun own1 ρ1 v r H1 R1 k1 s1 w1 => ⟨F, own1, ρ1, _, R1, w1, fun own2 ρ2 vs rs H2 R2 k2 s2 w2 => ?_⟩⟩
    exact k own2 ρ2 (v :: vs) (r :: rs) H2 R2 (k1.trans k2) ⟨s1.w.kept k2, s2⟩ w2
theorem sTup {x1 : Nat} (h : PA X es (tO X.K B ws)) : PE X (.Tuple es x1 pos) (tE X.K B (wTup ws)) :=
  peW (pe_tup h) fun σ H Q h => by
    obtain ⟨F, own, ρ, P, R, w, k⟩ := h
    refine ⟨F, own, ρ, _, R, w, fun own1 ρ1 vs rs H1 R1 k1 s1 w1 => ?_⟩
    obtain ⟨⟨ds, ρ2⟩, e, hl, w2⟩ := need_of w1
    obtain ⟨own2, R2, k2, _, z⟩ := R1.frzAll s1 e
    have hl : ds.length ≤ lim := hl
    refine ⟨by rw [z.length]; exact Nat.le_trans hl lim_line, fun p hp => ?_⟩
    exact k own2 ρ2 _ _ _ (R2.new hp) ((k1.trans k2.kept).trans (Kept.new hp)) (R2.newT hp z) w2
theorem sLst (h : PA X es (tO X.K B ws)) : PE X (.List es pos) (tE X.K B (wLst ws)) :=
  peW (pe_lst h) fun σ H Q h => by
    obtain ⟨F, own, ρ, P, R, w, k⟩ := h
    refine ⟨F, own, ρ, _, R, w, fun own1 ρ1 vs rs H1 R1 k1 s1 w1 => ?_⟩
    obtain ⟨⟨ds, ρ2⟩, e, hl, w2⟩ := need_of w1
    obtain ⟨own2, R2, k2, _, z⟩ := R1.frzAll s1 e
    have hl : ds.length ≤ lim := hl
    refine ⟨by rw [z.length]; exact Nat.le_trans hl lim_line, fun p hp => ?_⟩
    exact k own2 ρ2 _ _ _ (R2.new hp) ((k1.trans k2.kept).trans (Kept.new hp)) (R2.newL hp z) w2

/-! ### chains -/
theorem chainRed {op op' : CmpOp} {r r' : R2} (h : OpB X.K B r (cmpD op)) (h' : OpB X.K B r' (cmpD op')) {σ : L2.St} {H : Hp} {Q : VK} {P : Bool → Rho → Prop} {F : Fr} {own : Own} {ρ : Rho}
    (R : Rel X.K B F own ρ σ H) (w : wChain op op' wa wb wc ρ P) (k : ∀ own' ρ' b H', Rel X.K B F own' ρ' σ H' → Kept (F.av own) H (F.av own') H' → P b ρ' → Q (.bl b) H') :
    tChain (szR r) (szR r') (tE X.K B wa) (tE X.K B wb) (tE X.K B wc) σ H Q := by
  refine ⟨F, own, ρ, _, R, w, fun own1 ρ1 x ra H1 R1 k1 s1 w1 => ⟨F, own1, ρ1, _, R1, w1, fun own2 ρ2 y rb H2 R2 k2 s2 w2 hz => ?_⟩⟩
  obtain ⟨dx, e1, w3⟩ := need_of w2
  obtain ⟨dy, e2, w4⟩ := need_of w3
  obtain ⟨b', e3, w5⟩ := need_of w4
  refine h F own2 ρ2 σ H2 x y dx dy b' _ R2 hz (R2.view (s1.w.kept k2) e1) (R2.view s2.w e2) e3 ⟨b', rfl, ?_⟩
  cases b' with
  | false => exact k own2 ρ2 false H2 R2 (k1.trans k2) w5
  | true =>
    refine ⟨F, own2, ρ2, _, R2, w5, fun own3 ρ3 z rc H3 R3 k3 s3 w6 hz3 => ?_⟩
    obtain ⟨dy3, e4, w7⟩ := need_of w6
    obtain ⟨dz, e5, w8⟩ := need_of w7
    obtain ⟨b3, e6, w9⟩ := need_of w8
    exact h' F own3 ρ3 σ H3 y z dy3 dz b3 _ R3 hz3 (R3.view (s2.w.kept k3) e4) (R3.view s3.w e5) e6 (k own3 ρ3 b3 H3 R3 ((k1.trans k2).trans k3) w9)
theorem sChain {op op' : CmpOp} {r r' : R2} (ho : OpR X (compareOp op) r) (ho' : OpR X (compareOp op') r') (hm : lastMarks [op, op'] [b, c] = false) (h : OpB X.K B r (cmpD op)) (h' : OpB X.K B r' (cmpD op'))
    (ha : PE X a (tE X.K B wa)) (hb : PE X b (tE X.K B wb)) (hc : PE X c (tE X.K B wc)) : PE X (.Compare a [op, op'] [b, c] pos) (tE X.K B (wOfT (wChain op op' wa wb wc))) :=
  peW (pe_chain (opSz ho) (opSz ho') ha hb hc hm) fun σ H Q q => by
    obtain ⟨F, own, ρ, P, R, w, k⟩ := q
    exact chainRed h h' R w fun own' ρ' b H' R' k' p => k own' ρ' _ (.fz (.bl b)) H' R' k' (.bl b) p
theorem sChainT {op op' : CmpOp} {r r' : R2} (ho : OpR X (compareOp op) r) (ho' : OpR X (compareOp op') r') (hm : lastMarks [op, op'] [b, c] = false) (h : OpB X.K B r (cmpD op)) (h' : OpB X.K B r' (cmpD op'))
    (ha : PE X a (tE X.K B wa)) (hb : PE X b (tE X.K B wb)) (hc : PE X c (tE X.K B wc)) : PT X (.Compare a [op, op'] [b, c] pos) (tT X.K B (wChain op op' wa wb wc)) :=
  ptW (pt_chain (opSz ho) (opSz ho') ha hb hc hm) fun σ H Q q => by
    obtain ⟨F, own, ρ, P, R, w, k⟩ := q
    exact chainRed h h' R w fun own' ρ' b H' R' k' p => ⟨b, rfl, k own' ρ' b H' R' k' p⟩

/-! ### and, or, not, if -/
theorem vw_bl {K : Frag} {O : ASet} {b : Addr} {H : Hp} {v : V} {d : D} {k : Bool} (h : Vw K O b H v d) (e : asBl d = some k) : v = .bl k := by
  cases d with
  | bl k' =>
    cases e
    have h : Rz K O b H v (.bl k) := h
    cases h
    rfl
  | _ => cases e
theorem sAnd {rest : List Expr} (ha : PE X a (tE X.K B wa)) (hb : PE X (.BoolOp .And (b :: rest) pos) (tE X.K B wb)) : PE X (.BoolOp .And (a :: b :: rest) pos) (tE X.K B (wAnd wa wb)) :=
  peW (pe_and ha hb) fun σ H Q h => by
    obtain ⟨F, own, ρ, P, R, w, k⟩ := h
    refine ⟨F, own, ρ, _, R, w, fun own1 ρ1 v r H1 R1 k1 s1 w1 => ?_⟩
    obtain ⟨d, e1, w2⟩ := need_of w1
    obtain ⟨z, e2, w3⟩ := need_of w2
    refine ⟨z, vw_bl (R1.view s1.w e1) e2, ?_⟩
    cases z with
    | true => exact ⟨F, own1, ρ1, P, R1, w3, fun own2 ρ2 v2 r2 H2 R2 k2 s2 w4 => k own2 ρ2 v2 r2 H2 R2 (k1.trans k2) s2 w4⟩
    | false => exact k own1 ρ1 _ (.fz (.bl false)) H1 R1 k1 (.bl false) w3
theorem sOr {rest : List Expr} (ha : PE X a (tE X.K B wa)) (hb : PE X (.BoolOp .Or (b :: rest) pos) (tE X.K B wb)) : PE X (.BoolOp .Or (a :: b :: rest) pos) (tE X.K B (wOr wa wb)) :=
  peW (pe_or ha hb) fun σ H Q h => by
    obtain ⟨F, own, ρ, P, R, w, k⟩ := h
    refine ⟨F, own, ρ, _, R, w, fun own1 ρ1 v r H1 R1 k1 s1 w1 => ?_⟩
    obtain ⟨d, e1, w2⟩ := need_of w1
    obtain ⟨z, e2, w3⟩ := need_of w2
    refine ⟨z, vw_bl (R1.view s1.w e1) e2, ?_⟩
    cases z with
    | false => exact ⟨F, own1, ρ1, P, R1, w3, fun own2 ρ2 v2 r2 H2 R2 k2 s2 w4 => k own2 ρ2 v2 r2 H2 R2 (k1.trans k2) s2 w4⟩
    | true => exact k own1 ρ1 _ (.fz (.bl true)) H1 R1 k1 (.bl true) w3
theorem sNot (ha : PE X a (tE X.K B wa)) : PE X (.UnaryOp .Not a pos) (tE X.K B (wNot wa)) :=
  peW (pe_not ha) fun σ H Q h => by
    obtain ⟨F, own, ρ, P, R, w, k⟩ := h
    refine ⟨F, own, ρ, _, R, w, fun own1 ρ1 v r H1 R1 k1 s1 w1 => ?_⟩
    obtain ⟨d, e1, w2⟩ := need_of w1
    obtain ⟨z, e2, w3⟩ := need_of w2
    exact ⟨z, vw_bl (R1.view s1.w e1) e2, k own1 ρ1 _ (.fz (.bl (!z))) H1 R1 k1 (.bl _) w3⟩
theorem sIf (hc : PT X c (tT X.K B ta)) (ha : PE X a (tE X.K B wa)) (hb : PE X b (tE X.K B wb)) : PE X (.IfExp c a b pos) (tE X.K B (wIf ta wa wb)) :=
  peW (pe_ifExp hc ha hb) fun σ H Q h => by
    obtain ⟨F, own, ρ, P, R, w, k⟩ := h
    refine ⟨F, own, ρ, _, R, w, fun own1 ρ1 z H1 R1 k1 w1 => ?_⟩
    cases z with
    | true => exact ⟨F, own1, ρ1, P, R1, w1, fun own2 ρ2 v2 r2 H2 R2 k2 s2 w4 => k own2 ρ2 v2 r2 H2 R2 (k1.trans k2) s2 w4⟩
    | false => exact ⟨F, own1, ρ1, P, R1, w1, fun own2 ρ2 v2 r2 H2 R2 k2 s2 w4 => k own2 ρ2 v2 r2 H2 R2 (k1.trans k2) s2 w4⟩
/-! tests -/
theorem sAndT {rest : List Expr} (ha : PT X a (tT X.K B ta)) (hb : PW X (.BoolOp .And (b :: rest) pos) (tT X.K B tb)) : PW X (.BoolOp .And (a :: b :: rest) pos) (tT X.K B (wAndT ta tb)) :=
  ⟨fun whole pins s σ H Q I h => (pw_and ha hb).run whole pins s σ H Q I (by
    obtain ⟨F, own, ρ, P, R, w, k⟩ := h
    refine ⟨F, own, ρ, _, R, w, fun own1 ρ1 z H1 R1 k1 w1 => ?_⟩
    cases z with
    | true => exact ⟨F, own1, ρ1, P, R1, w1, fun own2 ρ2 v2 H2 R2 k2 w4 => k own2 ρ2 v2 H2 R2 (k1.trans k2) w4⟩
    | false => exact k own1 ρ1 false H1 R1 k1 w1)⟩
theorem sOrT {rest : List Expr} (ha : PT X a (tT X.K B ta)) (hb : PW X (.BoolOp .Or (b :: rest) pos) (tT X.K B tb)) : PW X (.BoolOp .Or (a :: b :: rest) pos) (tT X.K B (wOrT ta tb)) :=
  ⟨fun whole pins s σ H Q I h => (pw_or ha hb).run whole pins s σ H Q I (by
    obtain ⟨F, own, ρ, P, R, w, k⟩ := h
    refine ⟨F, own, ρ, _, R, w, fun own1 ρ1 z H1 R1 k1 w1 => ?_⟩
    cases z with
    | false => exact ⟨F, own1, ρ1, P, R1, w1, fun own2 ρ2 v2 H2 R2 k2 w4 => k own2 ρ2 v2 H2 R2 (k1.trans k2) w4⟩
    | true => exact k own1 ρ1 true H1 R1 k1 w1)⟩
theorem sNotT (ha : PT X a (tT X.K B ta)) : PT X (.UnaryOp .Not a pos) (tT X.K B (wNotT ta)) :=
  ptW (pt_not ha) fun σ H Q h => by
    obtain ⟨F, own, ρ, P, R, w, k⟩ := h
    exact ⟨F, own, ρ, _, R, w, fun own1 ρ1 z H1 R1 k1 w1 => k own1 ρ1 (!z) H1 R1 k1 w1⟩
theorem vw_truth {K : Frag} {O : ASet} {b : Addr} {H : Hp} {v : V} {d : D} {k : Bool} (h : Vw K O b H v d) (e : truthD d = some k) : TruV K v H k := by
  cases d with
  | lst ds =>
    obtain ⟨a, xs, rfl, e2, r⟩ := h
    cases e
    refine .inl ⟨xs, SqL.of e2, ?_⟩
    cases r <;> rfl
  | tup ds =>
    have h : Rz K O b H v (.tup ds) := h
    cases e
    cases h with
    | tup e2 r =>
      refine .inr (.inl ⟨_, e2.sq, ?_⟩)
      cases r <;> rfl
  | non =>
    have h : Rz K O b H v .non := h
    cases e; cases h; rfl
  | bl x =>
    have h : Rz K O b H v (.bl x) := h
    cases e; cases h; rfl
  | int i =>
    have h : Rz K O b H v (.int i) := h
    cases e; cases h; rfl
  | str s =>
    have h : Rz K O b H v (.str s) := h
    have e : (if s.length ≤ lim then some ((s.length : Int) != 0) else none) = some k := e
    by_cases hl : s.length ≤ lim
    · rw [if_pos hl] at e
      cases e; cases h
      exact ⟨Nat.le_trans hl lim_line, rfl⟩
    · rw [if_neg hl] at e; cases e
  | _ => cases e
theorem sTest (he : ∀ whole, isTrue a X.env whole = (do let v ← whole; standAt a.pos; holding [v] (truthy v))) (ha : PE X a (tE X.K B wa)) : PT X a (tT X.K B (wTest wa)) :=
  ptW (pt_truth ha he) fun σ H Q h => by
    obtain ⟨F, own, ρ, P, R, w, k⟩ := h
    refine ⟨F, own, ρ, _, R, w, fun own1 ρ1 v r H1 R1 k1 s1 w1 => ?_⟩
    obtain ⟨d, e1, w2⟩ := need_of w1
    obtain ⟨z, e2, w3⟩ := need_of w2
    exact ⟨z, vw_truth (R1.view s1.w e1) e2, k own1 ρ1 z H1 R1 k1 w3⟩
end
end Ip

set_option Elab.async false
set_option linter.all false
set_option maxRecDepth 100000
set_option maxHeartbeats 2000000
set_option autoImplicit false
/-! Ip5: the operators' readings, subscripts, slices -/
namespace Ip
open PySem L2

section
variable {K : Frag} {B : BoxPred}
theorem vw_int {O : ASet} {b : Addr} {H : Hp} {v : V} {i : Int} (h : Vw K O b H v (.int i)) : v = .int i := by
  have h : Rz K O b H v (.int i) := h
  cases h; rfl
theorem vw_str {O : ASet} {b : Addr} {H : Hp} {v : V} {i : Str} (h : Vw K O b H v (.str i)) : v = .str i := by
  have h : Rz K O b H v (.str i) := h
  cases h; rfl
theorem vw_bool {O : ASet} {b : Addr} {H : Hp} {v : V} {i : Bool} (h : Vw K O b H v (.bl i)) : v = .bl i := by
  have h : Rz K O b H v (.bl i) := h
  cases h; rfl
theorem vw_non {O : ASet} {b : Addr} {H : Hp} {v : V} (h : Vw K O b H v .non) : v = .non := by
  have h : Rz K O b H v .non := h
  cases h; rfl
theorem vw_tup {O : ASet} {b : Addr} {H : Hp} {v : V} {ds : List D} (h : Vw K O b H v (.tup ds)) : ∃ a xs, v = .ref a ∧ TupAt K O H a xs ∧ RzA K O b H xs ds := by
  have h : Rz K O b H v (.tup ds) := h
  cases h with
  | tup e r => exact ⟨_, _, rfl, e, r⟩
theorem nil_of {O : ASet} {b : Addr} {H : Hp} {xs : List V} (h : RzA K O b H xs []) : xs = [] := by
  cases h; rfl
theorem nil_iff {O : ASet} {b : Addr} {H : Hp} {xs : List V} {ds : List D} (h : RzA K O b H xs ds) : xs = [] ↔ ds = [] := by
  cases h with
  | nil => simp
  | cons _ _ => simp

def rAddAll (K : Frag) : R2 := fun x y H Q => (rI0 (fun i j => .int (i + j)) x y H Q) ∨ (∃ i j, x = .str i ∧ y = .str j ∧ i.length + j.length ≤ sizeLine ∧ Q (.str (i ++ j)) H) ∨ rCatA K x y H Q ∨ rCat x y H Q
theorem op_addAll {X : Cx} : OpR X (binaryOp .Add) (rAddAll X.K) := op_add.or (op_add_str.or (op_catA.or op_cat))
theorem addOk : Op2 K B (rAddAll K) addD := by
  intro F own ρ σ H x y dx dy res Q R hz hx hy e k
  cases dx with
  | int i =>
    cases dy with
    | int j =>
      cases e
      exact .inl ⟨i, j, vw_int hx, vw_int hy, k _ _ R Kept.refl (.int _)⟩
    | _ => cases e
  | str i =>
    cases dy with
    | str j =>
      have e : (if i.length + j.length ≤ lim then some (Res.fz (.str (i ++ j))) else none) = some res := e
      by_cases hl : i.length + j.length ≤ lim
      · rw [if_pos hl] at e
        cases e
        exact .inr (.inl ⟨i, j, vw_str hx, vw_str hy, Nat.le_trans hl lim_line, k _ _ R Kept.refl (.str _)⟩)
      · rw [if_neg hl] at e; cases e
    | _ => cases e
  | tup ds =>
    cases dy with
    | tup es =>
      have e : (if ds.length + es.length ≤ lim then some (Res.fz (.tup (ds ++ es))) else none) = some res := e
      by_cases hl : ds.length + es.length ≤ lim
      · rw [if_pos hl] at e
        cases e
        obtain ⟨a, xs, rfl, ta, ra⟩ := vw_tup hx
        obtain ⟨b, ys, rfl, tb, rb⟩ := vw_tup hy
        refine .inr (.inr (.inl ⟨a, b, xs, ys, rfl, rfl, ta.sq, tb.sq, ?_, fun h => ?_, fun h h2 => ?_, fun h h2 p hp => ?_⟩))
        · rw [ra.length, rb.length]; exact Nat.le_trans hl lim_line
        · have hd := (nil_iff ra).mp h
          subst hd
          exact k _ _ R Kept.refl (.tup tb rb)
        · have hd := (nil_iff rb).mp h2
          subst hd
          refine k _ _ R Kept.refl ?_
          rw [List.append_nil]
          exact .tup ta ra
        · exact k _ _ (R.new hp) (Kept.new hp) (R.newT hp (ra.append rb))
      · rw [if_neg hl] at e; cases e
    | _ => cases e
  | lst ds =>
    cases dy with
    | lst es =>
      have e : (if ds.length + es.length ≤ lim then some (Res.ow (.lst (ds ++ es))) else none) = some res := e
      by_cases hl : ds.length + es.length ≤ lim
      · rw [if_pos hl] at e
        cases e
        obtain ⟨a, xs, rfl, ta, ra⟩ := hx
        obtain ⟨b, ys, rfl, tb, rb⟩ := hy
        refine .inr (.inr (.inr ⟨a, b, xs, ys, rfl, rfl, ta, tb, ?_, fun p hp => ?_⟩))
        · rw [ra.length, rb.length]; exact Nat.le_trans hl lim_line
        · exact k _ _ (R.new hp) (Kept.new hp) (R.newL hp (ra.append rb))
      · rw [if_neg hl] at e; cases e
    | _ => cases e
  | _ => cases e
theorem subOk : Op2 K B (rI0 fun i j => .int (i - j)) subD := by
  intro F own ρ σ H x y dx dy res Q R hz hx hy e k
  cases dx with
  | int i =>
    cases dy with
    | int j =>
      cases e
      exact ⟨i, j, vw_int hx, vw_int hy, k _ _ R Kept.refl (.int _)⟩
    | _ => cases e
  | _ => cases e
theorem small_abs {i : Int} (h : small i) : i.natAbs < 2 ^ 70 := by
  have e : (2 : Nat) ^ 70 = 1180591620717411303424 := by decide
  rw [e]
  unfold small at h
  omega
theorem mulOk : Op2 K B (rI CMulW fun i j => .int (i * j)) mulD := by
  intro F own ρ σ H x y dx dy res Q R hz hx hy e k
  cases dx with
  | int i =>
    cases dy with
    | int j =>
      have e : (if small i ∧ small j then some (Res.fz (.int (i * j))) else none) = some res := e
      by_cases hl : small i ∧ small j
      · rw [if_pos hl] at e
        cases e
        exact ⟨i, j, vw_int hx, vw_int hy, wide_mul (small_abs hl.1) (small_abs hl.2) (by decide) (by decide) (by decide), k _ _ R Kept.refl (.int _)⟩
      · rw [if_neg hl] at e; cases e
    | _ => cases e
  | _ => cases e
theorem fdivOk : Op2 K B (rI CDivW fun i j => .int (i / j)) fdivD := by
  intro F own ρ σ H x y dx dy res Q R hz hx hy e k
  cases dx with
  | int i =>
    cases dy with
    | int j =>
      have e : (if 0 < j ∧ small j then some (Res.fz (.int (i / j))) else none) = some res := e
      by_cases hl : 0 < j ∧ small j
      · rw [if_pos hl] at e
        cases e
        exact ⟨i, j, vw_int hx, vw_int hy, wide_div hl.1 (small_abs hl.2) (by decide) (by decide), k _ _ R Kept.refl (.int _)⟩
      · rw [if_neg hl] at e; cases e
    | _ => cases e
  | _ => cases e
theorem modOk : Op2 K B (rI (fun _ j => 0 < j) fun i j => .int (i % j)) modD := by
  intro F own ρ σ H x y dx dy res Q R hz hx hy e k
  cases dx with
  | int i =>
    cases dy with
    | int j =>
      have e : (if 0 < j then some (Res.fz (.int (i % j))) else none) = some res := e
      by_cases hl : 0 < j
      · rw [if_pos hl] at e
        cases e
        exact ⟨i, j, vw_int hx, vw_int hy, hl, k _ _ R Kept.refl (.int _)⟩
      · rw [if_neg hl] at e; cases e
    | _ => cases e
  | _ => cases e
theorem negOk : Op1 K B (rU fun i => .int (-i)) negD := by
  intro F own ρ σ H x dx res Q R hz hx e k
  cases dx with
  | int i =>
    cases e
    exact ⟨i, vw_int hx, k _ _ R Kept.refl (.int _)⟩
  | _ => cases e
/-- all binary operators at once -/
def binR (K : Frag) : Operator → R2
  | .Add => rAddAll K
  | .Sub => rI0 fun i j => .int (i - j)
  | .Mult => rI CMulW fun i j => .int (i * j)
  | .FloorDiv => rI CDivW fun i j => .int (i / j)
  | .Mod => rI (fun _ j => 0 < j) fun i j => .int (i % j)
  | _ => fun _ _ _ _ => False
theorem op_bin {X : Cx} : ∀ op, OpR X (binaryOp op) (binR X.K op) := fun op => by
  cases op with
  | Add => exact op_addAll
  | Sub => exact op_sub
  | Mult => exact op_mulW
  | FloorDiv => exact op_fdivW
  | Mod => exact op_mod
  | _ => exact fun _ _ _ _ _ _ _ _ _ _ _ _ h => h.elim
theorem binOk : ∀ op, Op2 K B (binR K op) (binD op) := fun op => by
  cases op with
  | Add => exact addOk
  | Sub => exact subOk
  | Mult => exact mulOk
  | FloorDiv => exact fdivOk
  | Mod => exact modOk
  | _ => exact fun _ _ _ _ _ _ _ _ _ _ _ _ _ _ _ e => by cases e

/-! ### comparisons -/
theorem Dp0 {O : ASet} {b : Addr} {H : Hp} {v : V} {d : D} (h : Vw K O b H v d) (p : d.plain = true) : Dp K H v d.py := (Vw.rz0 h).dp p
theorem ok_plain {d : D} (h : d.ok = true) : d.plain = true := by
  unfold D.ok at h
  rw [Bool.and_eq_true] at h
  exact h.1
theorem and_of {a b : Bool} (h : (a && b) = true) : a = true ∧ b = true := by
  rw [Bool.and_eq_true] at h
  exact h
theorem eqOk : OpB K B (rEqD K) eqD := by
  intro F own ρ σ H x y dx dy k Q R hz hx hy e q
  unfold eqD at e
  by_cases h : (dx.ok && dy.ok) = true
  · rw [if_pos h] at e
    cases e
    obtain ⟨h1, h2⟩ := and_of h
    exact ⟨_, _, Dp0 hx (ok_plain h1), Dp0 hy (ok_plain h2), D.ok_shaped h1, D.ok_shaped h2, q⟩
  · rw [if_neg h] at e; cases e
theorem neOk : OpB K B (rNeD K) neD := by
  intro F own ρ σ H x y dx dy k Q R hz hx hy e q
  unfold neD at e
  by_cases h : (dx.ok && dy.ok) = true
  · rw [if_pos h] at e
    cases e
    obtain ⟨h1, h2⟩ := and_of h
    exact ⟨_, _, Dp0 hx (ok_plain h1), Dp0 hy (ok_plain h2), D.ok_shaped h1, D.ok_shaped h2, q⟩
  · rw [if_neg h] at e; cases e
theorem ints_rz {O : ASet} {b : Addr} {H : Hp} : ∀ {xs : List V} {ds : List D} {ns : List Int}, RzA K O b H xs ds → intsOf ds = some ns → xs = ns.map V.int
  | _, _, _, .nil, e => by cases e; rfl
  | _, _, ns, .cons (d := d) h r, e => by
    cases h with
    | int i =>
      unfold intsOf at e
      cases q : intsOf _ with
      | none => rw [q] at e; cases e
      | some ms =>
        rw [q] at e
        cases e
        rw [ints_rz r q]
        rfl
    | _ => cases e
def rLtAll (K : Frag) : R2 := fun x y H Q => (rI0 (fun i j => .bl (decide (i < j))) x y H Q) ∨ (∃ i j, x = .str i ∧ y = .str j ∧ Q (.bl (decide (i.cps.toList < j.cps.toList))) H) ∨ rLtT K x y H Q
theorem ltOk : OpB K B (rLtAll K) ltD := by
  intro F own ρ σ H x y dx dy k Q R hz hx hy e q
  cases dx with
  | int i =>
    cases dy with
    | int j =>
      cases e
      exact .inl ⟨i, j, vw_int hx, vw_int hy, q⟩
    | _ => cases e
  | str i =>
    cases dy with
    | str j =>
      cases e
      exact .inr (.inl ⟨i, j, vw_str hx, vw_str hy, q⟩)
    | _ => cases e
  | tup ds =>
    cases dy with
    | tup es =>
      have e : (match intsOf ds, intsOf es with
        | some ns, some ms => some (HT.lexLt ns ms)
        | _, _ => none) = some k := e
      cases q1 : intsOf ds with
      | none => rw [q1] at e; cases e
      | some ns =>
        cases q2 : intsOf es with
        | none => rw [q1, q2] at e; cases e
        | some ms =>
          rw [q1, q2] at e
          cases e
          obtain ⟨a, xs, rfl, ta, ra⟩ := vw_tup hx
          obtain ⟨b, ys, rfl, tb, rb⟩ := vw_tup hy
          have e1 := ints_rz ra q1
          have e2 := ints_rz rb q2
          subst e1 e2
          exact .inr (.inr ⟨a, b, ns, ms, rfl, rfl, ta.sq, tb.sq, q⟩)
    | _ => cases e
  | _ => cases e
theorem cmpI {g : Int → Int → Bool} {f : D → D → Option Bool} (h : ∀ i j, f (.int i) (.int j) = some (g i j)) (h2 : ∀ x y k, f x y = some k → (∃ i, x = .int i) ∧ ∃ j, y = .int j) : OpB K B (rI0 fun i j => .bl (g i j)) f := by
  intro F own ρ σ H x y dx dy k Q R hz hx hy e q
  obtain ⟨⟨i, rfl⟩, j, rfl⟩ := h2 _ _ _ e
  rw [h] at e
  cases e
  exact ⟨i, j, vw_int hx, vw_int hy, q⟩
theorem leOk : OpB K B (rI0 fun i j => .bl (decide (i ≤ j))) leD := cmpI (fun _ _ => rfl) fun x y k e => by
  cases x <;> cases y <;> first | exact ⟨⟨_, rfl⟩, _, rfl⟩ | cases e
theorem gtOk : OpB K B (rI0 fun i j => .bl (decide (j < i))) gtD := cmpI (fun _ _ => rfl) fun x y k e => by
  cases x <;> cases y <;> first | exact ⟨⟨_, rfl⟩, _, rfl⟩ | cases e
theorem geOk : OpB K B (rI0 fun i j => .bl (decide (j ≤ i))) geD := cmpI (fun _ _ => rfl) fun x y k e => by
  cases x <;> cases y <;> first | exact ⟨⟨_, rfl⟩, _, rfl⟩ | cases e
theorem vw_isNon {O : ASet} {b : Addr} {H : Hp} {v : V} {d : D} (h : Vw K O b H v d) : decide (v = .non) = isNon d := by
  cases d with
  | lst ds =>
    obtain ⟨a, xs, rfl, _⟩ := h
    rfl
  | dct _ _ =>
    have h : Rz K O b H v (.dct _ _) := h
    cases h
  | st _ =>
    have h : Rz K O b H v (.st _) := h
    cases h
  | non => rw [vw_non h]; rfl
  | bl x => rw [vw_bool h]; rfl
  | int x => rw [vw_int h]; rfl
  | str x => rw [vw_str h]; rfl
  | tup ds =>
    obtain ⟨a, xs, rfl, _⟩ := vw_tup h
    rfl
  | box =>
    have h : Rz K O b H v .box := h
    cases h
    rfl
def rIsAll : R2 := fun x y H Q => (y = .non ∧ Q (.bl (decide (x = .non))) H) ∨ (∃ a b, x = .bl a ∧ y = .bl b ∧ Q (.bl (decide (a = b))) H)
def rNotIsAll : R2 := fun x y H Q => (y = .non ∧ Q (.bl (!decide (x = .non))) H) ∨ (∃ a b, x = .bl a ∧ y = .bl b ∧ Q (.bl (!decide (a = b))) H)
theorem isD_inv {x y : D} {k : Bool} (h : isD x y = some k) : (y = .non ∧ k = isNon x) ∨ ∃ a b, x = .bl a ∧ y = .bl b ∧ k = decide (a = b) := by
  cases y with
  | non => cases x <;> (cases h; exact .inl ⟨rfl, rfl⟩)
  | bl b =>
    cases x with
    | bl a => cases h; exact .inr ⟨a, b, rfl, rfl, rfl⟩
    | _ => cases h
  | _ => cases x <;> cases h
theorem isOk : OpB K B rIsAll isD := by
  intro F own ρ σ H x y dx dy k Q R hz hx hy e q
  rcases isD_inv e with ⟨rfl, rfl⟩ | ⟨a, b, rfl, rfl, rfl⟩
  · exact .inl ⟨vw_non hy, by rw [vw_isNon hx]; exact q⟩
  · exact .inr ⟨a, b, vw_bool hx, vw_bool hy, q⟩
theorem notD_inv {o : Option Bool} {k : Bool} (h : notD o = some k) : o = some (!k) := by
  cases o with
  | none => cases h
  | some b =>
    cases h
    rw [Bool.not_not]
theorem isNotOk : OpB K B rNotIsAll (fun x y => notD (isD x y)) := by
  intro F own ρ σ H x y dx dy k Q R hz hx hy e q
  have e' := notD_inv e
  rcases isD_inv e' with ⟨rfl, h⟩ | ⟨a, b, rfl, rfl, h⟩
  · refine .inl ⟨vw_non hy, ?_⟩
    rw [vw_isNon hx, ← h, Bool.not_not]
    exact q
  · refine .inr ⟨a, b, vw_bool hx, vw_bool hy, ?_⟩
    rw [← h, Bool.not_not]
    exact q
/-- x in a list or a tuple of data -/
def rInC (K : Frag) : R2 := fun x y H Q => ∃ d c ds, Dp K H x d ∧ Dp K H y c ∧ (c = .list ds ∨ c = .tuple ds) ∧ SeqAt.shaped d = true ∧ SeqAt.shaped c = true ∧ Q (.bl (ds.any fun z => PyData.eqv z d)) H
def rNotInC (K : Frag) : R2 := fun x y H Q => ∃ d c ds, Dp K H x d ∧ Dp K H y c ∧ (c = .list ds ∨ c = .tuple ds) ∧ SeqAt.shaped d = true ∧ SeqAt.shaped c = true ∧ Q (.bl (!ds.any fun z => PyData.eqv z d)) H
theorem op_inC {X : Cx} (hu : X.A.units + 65 < cLine) : OpR X (compareOp .In) (rInC X.K) := by
  intro pins s σ H x y v u Q I rx ry h
  obtain ⟨d, c, ds, hd, he, hc, sd, se, q⟩ := h
  obtain ⟨as, r1⟩ := Dp.reads I d x v hd rx
  obtain ⟨bs, r2⟩ := Dp.reads I c y u he ry
  rcases hc with rfl | rfl
  · exact SeqAt.in_list_reads r2 r1 (SeqAt.canLay_of_shaped se) (SeqAt.canLay_of_shaped sd) (PyProof.Rows.room_in_shaped sd hu) ⟨.bl _, H, I, rfl, q⟩
  · exact SeqAt.in_tuple_reads r2 r1 (SeqAt.canLay_of_shaped se) (SeqAt.canLay_of_shaped sd) (PyProof.Rows.room_in_shaped sd hu) ⟨.bl _, H, I, rfl, q⟩
theorem op_notInC {X : Cx} (hu : X.A.units + 65 < cLine) : OpR X (compareOp .NotIn) (rNotInC X.K) := by
  intro pins s σ H x y v u Q I rx ry h
  obtain ⟨d, c, ds, hd, he, hc, sd, se, q⟩ := h
  obtain ⟨as, r1⟩ := Dp.reads I d x v hd rx
  obtain ⟨bs, r2⟩ := Dp.reads I c y u he ry
  rcases hc with rfl | rfl
  · exact SeqAt.notIn_list_reads r2 r1 (SeqAt.canLay_of_shaped se) (SeqAt.canLay_of_shaped sd) (PyProof.Rows.room_in_shaped sd hu) ⟨.bl _, H, I, rfl, q⟩
  · exact SeqAt.notIn_tuple_reads r2 r1 (SeqAt.canLay_of_shaped se) (SeqAt.canLay_of_shaped sd) (PyProof.Rows.room_in_shaped sd hu) ⟨.bl _, H, I, rfl, q⟩
def rInAll (K : Frag) : R2 := fun x y H Q => rInC K x y H Q ∨ (∃ i j, x = .str i ∧ y = .str j ∧ Q (.bl (!(Builtin.Str.occurrences j i 0 j.length 1).isEmpty)) H)
def rNotInAll (K : Frag) : R2 := fun x y H Q => rNotInC K x y H Q ∨ (∃ i j, x = .str i ∧ y = .str j ∧ Q (.bl (!(!(Builtin.Str.occurrences j i 0 j.length 1).isEmpty))) H)
theorem any_py (dx : D) : ∀ ds : List D, ((D.pys ds).any fun z => PyData.eqv z dx.py) = ds.any fun z => z.eqv dx
  | [] => rfl
  | d :: ds => by
    show (PyData.eqv d.py dx.py || (D.pys ds).any _) = _
    rw [any_py dx ds]
    rfl
theorem inD_inv {x y : D} {k : Bool} (h : inD x y = some k) : (∃ t s, y = .str t ∧ x = .str s ∧ k = !(Builtin.Str.occurrences t s 0 t.length 1).isEmpty) ∨
    ∃ ds, (y = .lst ds ∨ y = .tup ds) ∧ x.ok = true ∧ y.ok = true ∧ k = ds.any fun z => z.eqv x := by
  have fin : ∀ ds, (y = .lst ds ∨ y = .tup ds) → (if (x.ok && y.ok) = true then some (ds.any fun z => z.eqv x) else none) = some k → ∃ ds, (y = .lst ds ∨ y = .tup ds) ∧ x.ok = true ∧ y.ok = true ∧ k = ds.any fun z => z.eqv x := fun ds hy e => by
    by_cases q : (x.ok && y.ok) = true
    · rw [if_pos q] at e
      cases e
      exact ⟨ds, hy, (and_of q).1, (and_of q).2, rfl⟩
    · rw [if_neg q] at e; cases e
  cases y with
  | str t =>
    cases x with
    | str s => cases h; exact .inl ⟨t, s, rfl, rfl, rfl⟩
    | _ => cases h
  | lst ds => exact .inr (fin ds (.inl rfl) h)
  | tup ds => exact .inr (fin ds (.inr rfl) h)
  | _ => cases h
theorem inOk : OpB K B (rInAll K) inD := by
  intro F own ρ σ H x y dx dy k Q R hz hx hy e q
  rcases inD_inv e with ⟨t, s, rfl, rfl, rfl⟩ | ⟨ds, hd, o1, o2, rfl⟩
  · exact .inr ⟨s, t, vw_str hx, vw_str hy, q⟩
  · refine .inl ⟨dx.py, dy.py, D.pys ds, Dp0 hx (ok_plain o1), Dp0 hy (ok_plain o2), ?_, D.ok_shaped o1, D.ok_shaped o2, ?_⟩
    · rcases hd with rfl | rfl
      · exact .inl rfl
      · exact .inr rfl
    · rw [any_py]; exact q
theorem notInOk : OpB K B (rNotInAll K) (fun x y => notD (inD x y)) := by
  intro F own ρ σ H x y dx dy k Q R hz hx hy e q
  have e' := notD_inv e
  rcases inD_inv e' with ⟨t, s, rfl, rfl, h⟩ | ⟨ds, hd, o1, o2, h⟩
  · refine .inr ⟨s, t, vw_str hx, vw_str hy, ?_⟩
    rw [← h, Bool.not_not]
    exact q
  · refine .inl ⟨dx.py, dy.py, D.pys ds, Dp0 hx (ok_plain o1), Dp0 hy (ok_plain o2), ?_, D.ok_shaped o1, D.ok_shaped o2, ?_⟩
    · rcases hd with rfl | rfl
      · exact .inl rfl
      · exact .inr rfl
    · rw [any_py, ← h, Bool.not_not]; exact q
def cmpRd (K : Frag) : CmpOp → R2
  | .Eq => rEqD K
  | .NotEq => rNeD K
  | .Lt => rLtAll K
  | .LtE => rI0 fun i j => .bl (decide (i ≤ j))
  | .Gt => rI0 fun i j => .bl (decide (j < i))
  | .GtE => rI0 fun i j => .bl (decide (j ≤ i))
  | .Is => rIsAll
  | .IsNot => rNotIsAll
  | .In => rInAll K
  | .NotIn => rNotInAll K
theorem op_cmp {X : Cx} (hu : X.A.units + 65 < cLine) : ∀ op, OpR X (compareOp op) (cmpRd X.K op) := fun op => by
  cases op with
  | Eq => exact op_eqD (by omega)
  | NotEq => exact op_neD (by omega)
  | Lt => exact op_lt.or (op_lt_str.or (op_ltT (by omega)))
  | LtE => exact op_le
  | Gt => exact op_gt
  | GtE => exact op_ge
  | Is => exact op_isN.or op_is_bl
  | IsNot => exact op_notN.or op_isnot_bl
  | In => exact (op_inC hu).or op_in_str
  | NotIn => exact (op_notInC hu).or L2.op_notin_str
theorem cmpOk : ∀ op, OpB K B (cmpRd K op) (cmpD op) := fun op => by
  cases op with
  | Eq => exact eqOk
  | NotEq => exact neOk
  | Lt => exact ltOk
  | LtE => exact leOk
  | Gt => exact gtOk
  | GtE => exact geOk
  | Is => exact isOk
  | IsNot => exact isNotOk
  | In => exact inOk
  | NotIn => exact notInOk
end
end Ip

set_option Elab.async false
set_option linter.all false
set_option maxRecDepth 100000
set_option maxHeartbeats 2000000
set_option autoImplicit false
/-! Ip6: subscripts, slices -/
namespace Ip
open PySem L2

def idxD : D → D → Option Res
  | .lst ds, .int i => (atI ds i).map Res.fz
  | .tup ds, .int i => (atI ds i).map Res.fz
  | .str z, .int i => if z.length ≤ lim then (atI z.cps.toList i).map fun c => .fz (.str ⟨#[c]⟩) else none
  | _, _ => none
theorem atI_rz {K : Frag} {O : ASet} {b : Addr} {H : Hp} {xs : List V} {ds : List D} {i : Int} {d : D} (r : RzA K O b H xs ds) (h : atI ds i = some d) : ∃ v, atI xs i = some v ∧ Rz K O b H v d := by
  unfold atI at h ⊢
  rw [r.length]
  cases q : ixN ds.length i with
  | none => rw [q] at h; cases h
  | some j =>
    rw [q] at h
    exact r.at h
theorem idxOk {K : Frag} {B : BoxPred} : Op2 K B (rIx K) idxD := by
  intro F own ρ σ H x y dx dy res Q R hz hx hy e k
  cases dy with
  | int i =>
    have ey := vw_int hy
    cases dx with
    | lst ds =>
      have e : (atI ds i).map Res.fz = some res := e
      cases q : atI ds i with
      | none => rw [q] at e; cases e
      | some d =>
        rw [q] at e
        cases e
        obtain ⟨a, xs, rfl, ea, r⟩ := hx
        obtain ⟨v, hv, rv⟩ := atI_rz r q
        exact .inl ⟨a, xs, i, v, rfl, ey, SqL.of ea, hv, k _ _ R Kept.refl rv⟩
    | tup ds =>
      have e : (atI ds i).map Res.fz = some res := e
      cases q : atI ds i with
      | none => rw [q] at e; cases e
      | some d =>
        rw [q] at e
        cases e
        obtain ⟨a, xs, rfl, ea, r⟩ := vw_tup hx
        obtain ⟨v, hv, rv⟩ := atI_rz r q
        exact .inr (.inl ⟨a, xs, i, v, rfl, ey, ea.sq, hv, k _ _ R Kept.refl rv⟩)
    | str z =>
      have e : (if z.length ≤ lim then (atI z.cps.toList i).map fun c => Res.fz (.str ⟨#[c]⟩) else none) = some res := e
      by_cases hl : z.length ≤ lim
      · rw [if_pos hl] at e
        cases q : atI z.cps.toList i with
        | none => rw [q] at e; cases e
        | some c =>
          rw [q] at e
          cases e
          exact .inr (.inr ⟨z, i, c, vw_str hx, ey, Nat.le_trans hl lim_line, q, k _ _ R Kept.refl (.str _)⟩)
      · rw [if_neg hl] at e; cases e
    | _ => cases e
  | _ => cases dx <;> cases e
theorem plainIx {b : Expr} (h : ∀ l u p, b ≠ .Slice l u none p) : PlainIx b := fun o i => by
  cases b with
  | Slice l u st p =>
    cases st with
    | none => exact absurd rfl (h l u p)
    | some x => rfl
  | _ => rfl

/-! ### slices -/
abbrev WP := Rho → (Option Int → Rho → Prop) → Prop
def asInt : D → Option Int
  | .int i => some i
  | _ => none
def wNoPart : WP := fun ρ P => P none ρ
def wPart (w : WE) : WP := fun ρ P => w ρ fun r ρ1 => need (r.data ρ1) fun d => need (asInt d) fun i => P (some i) ρ1
def cutL {α : Type} (xs : List α) (lo hi : Option Int) : List α := (xs.drop (HT.sIx xs.length 0 lo)).take (HT.sIx xs.length xs.length hi - HT.sIx xs.length 0 lo)
def cutD (lo hi : Option Int) : D → Option Res
  | .lst ds => some (.ow (.lst (cutL ds lo hi)))
  | .tup ds => some (.fz (.tup (cutL ds lo hi)))
  | .str z => if z.length ≤ lim then some (.fz (.str (cutS z lo hi))) else none
  | _ => none
def wCut (w : WE) (pl pu : WP) : WE := fun ρ P => w ρ fun r ρ1 => pl ρ1 fun lo ρ2 => pu ρ2 fun hi ρ3 => need (r.data ρ3) fun d => need (cutD lo hi d) fun r' => P r' ρ3
theorem RzA.cut {K : Frag} {O : ASet} {b : Addr} {H : Hp} {xs : List V} {ds : List D} {lo hi : Option Int} (r : RzA K O b H xs ds) : RzA K O b H (cutV xs lo hi) (cutL ds lo hi) := by
  unfold cutV cutL
  rw [r.length]
  exact (r.drop _).take _
section
variable (K : Frag) (B : BoxPred)
def tP (w : WP) : TO := fun σ H Q => ∃ F own ρ P, Rel K B F own ρ σ H ∧ w ρ P ∧
  ∀ own' ρ' o H', Rel K B F own' ρ' σ H' → Kept (F.av own) H (F.av own') H' → P o ρ' → Q o H'
end
section
variable {X : Cx} {B : BoxPred} {e : Expr} {lo hi : Option Expr} {w : WE} {pl pu : WP} {pos p2 : Pos}
theorem poW {e : Option Expr} {t t' : TO} (h : PO X e t) (i : ∀ σ H Q, t' σ H Q → t σ H Q) : PO X e t' := ⟨fun pins s σ H Q I q => h.run pins s σ H Q I (i σ H Q q)⟩
theorem sNoPart : PO X none (tP X.K B wNoPart) := poW po_none fun σ H Q h => by
  obtain ⟨F, own, ρ, P, R, w, k⟩ := h
  exact k own ρ none H R Kept.refl w
theorem sPart (he : PE X e (tE X.K B w)) : PO X (some e) (tP X.K B (wPart w)) := poW (po_some he) fun σ H Q h => by
  obtain ⟨F, own, ρ, P, R, w, k⟩ := h
  refine ⟨F, own, ρ, _, R, w, fun own1 ρ1 v r H1 R1 k1 s1 w1 => ?_⟩
  obtain ⟨d, e1, w2⟩ := need_of w1
  obtain ⟨i, e2, w3⟩ := need_of w2
  cases d with
  | int j =>
    cases e2
    exact ⟨i, vw_int (R1.view s1.w e1), k own1 ρ1 _ H1 R1 k1 w3⟩
  | _ => cases e2
def rCutAll (K : Frag) : V → Option Int → Option Int → Hp → VK → Prop := fun x lo hi H Q => rSlL K x lo hi H Q ∨ rSlA K x lo hi H Q ∨ rSlS x lo hi H Q
theorem sl_all : SlR X (rCutAll X.K) := sl_list.or (sl_tupA.or sl_str)
theorem sCut (he : PE X e (tE X.K B w)) (hl : PO X lo (tP X.K B pl)) (hu : PO X hi (tP X.K B pu)) : PE X (.Subscript e (.Slice lo hi none p2) pos) (tE X.K B (wCut w pl pu)) :=
  peW (pe_slice sl_all he hl hu) fun σ H Q h => by
    obtain ⟨F, own, ρ, P, R, w, k⟩ := h
    refine ⟨F, own, ρ, _, R, w, fun own1 ρ1 v r H1 R1 k1 s1 w1 => ⟨F, own1, ρ1, _, R1, w1, fun own2 ρ2 l H2 R2 k2 w2 => ⟨F, own2, ρ2, _, R2, w2, fun own3 ρ3 u H3 R3 k3 w3 => ?_⟩⟩⟩
    obtain ⟨d, e1, w4⟩ := need_of w3
    obtain ⟨r', e2, w5⟩ := need_of w4
    have vw := R3.view ((s1.w.kept k2).kept k3) e1
    have k' := (k1.trans k2).trans k3
    cases d with
    | lst ds =>
      cases e2
      obtain ⟨a, xs, rfl, ea, rr⟩ := vw
      exact .inl ⟨a, xs, rfl, SqL.of ea, fun p hp => k own3 ρ3 _ _ _ (R3.new hp) (k'.trans (Kept.new hp)) (R3.newL hp rr.cut) w5⟩
    | tup ds =>
      cases e2
      obtain ⟨a, xs, rfl, ea, rr⟩ := vw_tup vw
      refine .inr (.inl ⟨a, xs, rfl, ea.sq, fun hw => ?_, fun hw p hp => k own3 ρ3 _ _ _ (R3.new hp) (k'.trans (Kept.new hp)) (R3.newT hp rr.cut) w5⟩)
      have hc : cutL ds l u = ds := by
        unfold cutL
        rw [rr.length] at hw
        rw [hw.1, hw.2, List.drop_zero, Nat.sub_zero, List.take_length]
      refine k own3 ρ3 _ _ _ R3 k' ?_ w5
      rw [hc]
      exact .tup ea rr
    | str z =>
      have e2 : (if z.length ≤ lim then some (Res.fz (.str (cutS z l u))) else none) = some r' := e2
      by_cases hz : z.length ≤ lim
      · rw [if_pos hz] at e2
        cases e2
        exact .inr (.inr ⟨z, vw_str vw, Nat.le_trans hz lim_line, k own3 ρ3 _ (.fz _) _ R3 k' (Rz.str _) w5⟩)
      · rw [if_neg hz] at e2; cases e2
    | _ => cases e2
end

/-! ### slices backwards, step -1 -/
def clipB (n : Int) (d : Int) : Option Int → Int
  | none => d
  | some v => if v < 0 then max (v + n) (-1) else min v (n - 1)
def idxB (n : Nat) (lo hi : Option Int) : List Nat :=
  (List.range (clipB n ((n : Int) - 1) lo - clipB n (-1) hi).toNat).map fun (k : Nat) => (clipB n ((n : Int) - 1) lo - (k : Int)).toNat
def backL {α : Type} (xs : List α) (lo hi : Option Int) : List α := (idxB xs.length lo hi).filterMap (xs[·]?)
theorem idxB_len (n : Nat) (lo hi : Option Int) : (idxB n lo hi).length ≤ n := by
  unfold idxB
  rw [List.length_map, List.length_range]
  have h1 : clipB n ((n : Int) - 1) lo ≤ (n : Int) - 1 := by
    unfold clipB
    cases lo with
    | none => exact Int.le_refl _
    | some v => dsimp only; split <;> omega
  have h2 : -1 ≤ clipB n (-1) hi := by
    unfold clipB
    cases hi with
    | none => exact Int.le_refl _
    | some v => dsimp only; split <;> omega
  omega
theorem backL_len {α : Type} (xs : List α) (lo hi : Option Int) : (backL xs lo hi).length ≤ xs.length :=
  Nat.le_trans (List.length_filterMap_le _ _) (idxB_len _ _ _)
theorem vals_pick {xs : List V} {us : List Value} (r : Vals xs us) : ∀ ks : List Nat, Vals (ks.filterMap (xs[·]?)) (ks.filterMap (us[·]?))
  | [] => .nil
  | k :: ks => by
    cases q : xs[k]? with
    | none =>
      have q2 : us[k]? = none := r.none_of q
      rw [List.filterMap_cons_none q, List.filterMap_cons_none q2]
      exact vals_pick r ks
    | some x =>
      obtain ⟨u, q2, ru⟩ := r.get q
      rw [List.filterMap_cons_some q, List.filterMap_cons_some q2]
      exact .cons ru (vals_pick r ks)
theorem rz_pick {K : Frag} {O : ASet} {b : Addr} {H : Hp} {xs : List V} {ds : List D} (r : RzA K O b H xs ds) : ∀ ks : List Nat, RzA K O b H (ks.filterMap (xs[·]?)) (ks.filterMap (ds[·]?))
  | [] => .nil
  | k :: ks => by
    cases q : ds[k]? with
    | none =>
      have q2 : xs[k]? = none := by
        rw [List.getElem?_eq_none_iff] at q ⊢
        rw [r.length]; exact q
      rw [List.filterMap_cons_none q, List.filterMap_cons_none q2]
      exact rz_pick r ks
    | some x =>
      obtain ⟨u, q2, ru⟩ := r.at q
      rw [List.filterMap_cons_some q, List.filterMap_cons_some q2]
      exact .cons ru (rz_pick r ks)
theorem RzA.back {K : Frag} {O : ASet} {b : Addr} {H : Hp} {xs : List V} {ds : List D} {lo hi : Option Int} (r : RzA K O b H xs ds) : RzA K O b H (backL xs lo hi) (backL ds lo hi) := by
  unfold backL
  rw [r.length]
  exact rz_pick r _
theorem clip_bounds (v : Int) (n : Nat) : max (-1) (min (if v < 0 then v + n else v) ((n : Int) - 1)) = if v < 0 then max (v + n) (-1) else min v ((n : Int) - 1) := by
  split <;> omega
theorem pick_back (its : List Value) (lo hi : Option Int) : slicePick its.toArray lo hi (some (-1)) = (backL its lo hi).toArray := by
  have e1 : (sliceBounds lo hi (some (-1)) its.length).1 = clipB its.length ((its.length : Int) - 1) lo := by
    unfold sliceBounds clipB
    cases lo with
    | none => rfl
    | some v => exact clip_bounds v its.length
  have e2 : (sliceBounds lo hi (some (-1)) its.length).2.1 = clipB its.length (-1) hi := by
    unfold sliceBounds clipB
    cases hi with
    | none => rfl
    | some v => exact clip_bounds v its.length
  have e3 : (sliceBounds lo hi (some (-1)) its.length).2.2 = -1 := rfl
  unfold slicePick backL
  rw [List.size_toArray, e1, e2, e3]
  have e4 : ∀ a b : Int, sliceRange a b (-1) = (List.range (a - b).toNat).map fun (k : Nat) => (a - (k : Int)).toNat := fun a b => by
    unfold sliceRange
    have h1 : ¬ ((-1 : Int) > 0) := by decide
    have h2 : ((if (-1 : Int) > 0 then (if a < b then (b - a + -1 - 1) / -1 else 0) else (if a > b then (a - b - -1 - 1) / (- -1) else 0)) : Int).toNat = (a - b).toNat := by
      rw [if_neg h1]
      by_cases h : a > b
      · rw [if_pos h, show (- -1 : Int) = 1 by decide, Int.ediv_one]
        omega
      · rw [if_neg h]
        omega
    show List.map _ (List.range _) = _
    rw [h2]
    apply List.map_congr_left
    intro k _
    omega
  rw [e4]
  have ef : (fun (k : Nat) => its.toArray[k]?) = fun k => its[k]? := funext fun k => by simp
  rw [ef]
  rfl
theorem applied_back {prog : Program} {w : World} {A : Around} {E : Value → Shared → Prop} {s : Shared} {sl : Addr} {vl vu vs : Value} {lo hi : Option Int} {n : Nat} {Q : Int × Int × Nat → Shared → Prop} (hs : s.heap.IsSliceOf sl vl vu vs) (pl : IsPart vl lo) (pu : IsPart vu hi) (ps : IsPart vs (some (-1)))
    (h : Q (clipB n ((n : Int) - 1) lo, -1, (clipB n ((n : Int) - 1) lo - clipB n (-1) hi).toNat) s) : wpAny (model prog w) A (Builtin.Slice.sliceApplied (.ref sl) (pure (n : Int))) Q E s := by
  obtain ⟨os, hos, hcs, hds⟩ := id hs
  unfold Builtin.Slice.sliceApplied Builtin.Slice.sliceFields
  refine wpAny_bind (wpAny_bind (wpAny_field hos hds (x := vl) rfl (wpAny_bind (wpAny_field hos hds (x := vu) rfl (wpAny_bind (wpAny_field hos hds (x := vs) rfl (wpAny_pure ?_)))))))
  refine wpAny_bind (HT.slicePart_ ps ?_)
  show wpAny _ _ (if ((-1 : Int) == 0) = true then _ else _) _ _ s
  rw [if_neg (by decide)]
  refine wpAny_bind (HT.slicePart_ pl (wpAny_bind (HT.slicePart_ pu (wpAny_bind (wpAny_pure ?_)))))
  have e1 : Builtin.Slice.sliceAdjust lo hi (-1) (n : Int) = (clipB n ((n : Int) - 1) lo, clipB n (-1) hi) := by
    unfold Builtin.Slice.sliceAdjust clipB
    cases lo <;> cases hi <;> rfl
  have e2 : ∀ a b : Int, Builtin.Slice.slicePlaces a b (-1) = (a - b).toNat := fun a b => by
    unfold Builtin.Slice.slicePlaces
    rw [if_neg (by decide)]
    by_cases q : a > b
    · rw [if_pos q, show (- -1 : Int) = 1 by decide, Int.ediv_one]
      omega
    · rw [if_neg q]
      omega
  show wpAny _ _ (match Builtin.Slice.sliceAdjust lo hi (-1) (n : Int) with | (lo, hi) => pure (lo, (-1 : Int), Builtin.Slice.slicePlaces lo hi (-1))) _ _ s
  rw [e1]
  show wpAny _ _ (pure (clipB n ((n : Int) - 1) lo, (-1 : Int), Builtin.Slice.slicePlaces (clipB n ((n : Int) - 1) lo) (clipB n (-1) hi) (-1))) _ _ s
  rw [e2]
  exact wpAny_pure h
theorem tuple_back {prog : Program} {w : World} {A : Around} {E : Value → Shared → Prop} {s : Shared} {t sl : Addr} {its : List Value} {vl vu vs : Value} {lo hi : Option Int} {Q : Value → Shared → Prop} (ht : PyProof.Rows.IsTup s.heap t its.toArray) (hs : s.heap.IsSliceOf sl vl vu vs) (pl : IsPart vl lo) (pu : IsPart vu hi) (ps : IsPart vs (some (-1)))
    (h : Q (.ref s.heap.objs.size) { s with heap := s.heap.push { cls := .type "tuple", data := .seq (backL its lo hi).toArray } })
    (hsz : its.length ≤ sizeLine) : wpAny (model prog w) A (getItem (.ref t) (.ref sl)) Q E s := by
  have htake : sizeOk (.seq (backL its lo hi).toArray) := by
    show (backL its lo hi).toArray.size ≤ sizeLine
    rw [List.size_toArray]
    exact Nat.le_trans (backL_len its lo hi) hsz
  obtain ⟨os, hos, hcs, hds⟩ := id hs
  have hTs : s.TypeIs (.ref sl) "slice" := ⟨os, hos, hcs⟩
  unfold getItem
  try with_reducible refine wpAny_holding ?_
  first | refine wpAny_bind (wpAny_pure ?_) | skip
  refine wpAny_bind (wpAny_sequenceKey ht.typeIs (by decide) ?_)
  refine wpAny_bind (wpAny_callSpecial?_slot (name := Str.ofString "__getitem__") ht.typeIs PyProof.Rows.slot_tuple_getitem
    (wpAny_call_entry PyProof.Rows.slot_tuple_getitem ht.typeIs PyProof.Rows.entry_tuple_getitem ?_ (PyProof.Rows.args_tuple_getitem _ _)))
  show wpAny _ _ (Builtin.Tuple.tupleItemsOf (.ref t) >>= _) _ _ s
  refine wpAny_bind (PyProof.Rows.tupleItemsOf_ ht ?_)
  refine wpAny_bind (wpAny_typeOf hTs ?_)
  rw [if_pos (by decide)]
  refine wpAny_bind (applied_back (n := its.toArray.size) hs pl pu ps ?_)
  show wpAny _ _ (if (clipB its.toArray.size ((its.toArray.size : Int) - 1) lo == 0 && (-1 : Int) == 1 && (clipB its.toArray.size ((its.toArray.size : Int) - 1) lo - clipB its.toArray.size (-1) hi).toNat == its.toArray.size) = true then _ else _) _ _ s
  rw [if_neg (by simp)]
  have hb : ((List.range (clipB its.toArray.size ((its.toArray.size : Int) - 1) lo - clipB its.toArray.size (-1) hi).toNat).filterMap fun (k : Nat) => its.toArray[(clipB its.toArray.size ((its.toArray.size : Int) - 1) lo + (k : Int) * -1).toNat]?).toArray = (backL its lo hi).toArray := by
    unfold backL idxB
    rw [List.filterMap_map, List.size_toArray]
    have ef : (fun (k : Nat) => its.toArray[(clipB its.length ((its.length : Int) - 1) lo + (k : Int) * -1).toNat]?) = (fun x => its[x]?) ∘ fun (k : Nat) => (clipB its.length ((its.length : Int) - 1) lo - (k : Int)).toNat := funext fun k => by
      have ek : (clipB its.length ((its.length : Int) - 1) lo + (k : Int) * -1) = clipB its.length ((its.length : Int) - 1) lo - (k : Int) := by omega
      show its.toArray[(clipB its.length ((its.length : Int) - 1) lo + (k : Int) * -1).toNat]? = its[(clipB its.length ((its.length : Int) - 1) lo - (k : Int)).toNat]?
      rw [ek]
      simp
    rw [ef]
  rw [hb]
  first
    | exact wpAny_bind (m := Builtin.Tuple.tupleExact _) (wpAny_newObj_type (wpAny_pure ⟨_, rfl, wpAny_pure h⟩) htake)
    | exact wpAny_bind (m := Builtin.Tuple.tupleExact _) (wpAny_newObj_type (wpAny_bind (wpAny_pure (wpAny_pure ⟨_, rfl, wpAny_pure h⟩))) htake)
    | exact wpAny_bind (wpAny_bind (m := Builtin.Tuple.tupleExact _) (wpAny_newObj_type (wpAny_pure (wpAny_pure ⟨_, rfl, wpAny_pure h⟩)) htake))
    | exact wpAny_bind (wpAny_bind (m := Builtin.Tuple.tupleExact _) (wpAny_newObj_type (wpAny_pure ⟨_, rfl, wpAny_pure h⟩) htake))
end Ip

set_option Elab.async false
set_option linter.all false
set_option maxRecDepth 100000
set_option maxHeartbeats 2000000
set_option autoImplicit false
/-! Ip7: slices backwards as a rule, calls of built-ins -/
namespace Ip
open PySem L2

def backD (lo hi : Option Int) : D → Option Res
  | .lst ds => some (.ow (.lst (backL ds lo hi)))
  | .tup ds => some (.fz (.tup (backL ds lo hi)))
  | _ => none
def wBack (w : WE) (pl pu : WP) : WE := fun ρ P => w ρ fun r ρ1 => pl ρ1 fun lo ρ2 => pu ρ2 fun hi ρ3 => need (r.data ρ3) fun d => need (backD lo hi d) fun r' => P r' ρ3
def tBackA (K : Frag) (te : TE) (tl th : TO) : TE := fun σ H Q => te σ H fun x H1 => tl σ H1 fun l H2 => th σ H2 fun u H3 => ∃ a xs, x = .ref a ∧
  ((H3 a = some (.lst xs) ∧ ∀ p, H3 p = none → Q (.ref p) (upd H3 p (.lst (backL xs l u)))) ∨ (SqT K H3 a xs ∧ ∀ p, H3 p = none → Q (.ref p) (upd H3 p (.tup (backL xs l u)))))
section
variable {X : Cx} {B : BoxPred} {e : Expr} {lo hi : Option Expr} {te : TE} {tl th : TO} {w : WE} {pl pu : WP} {pos p1 p2 p3 : Pos} {k : Nat}
theorem pe_backA (he : PE X e te) (hl : PO X lo tl) (hu : PO X hi th) : PE X (.Subscript e (.Slice lo hi (some (.UnaryOp .USub (.Constant (.int 1) k p1) p2)) p3) pos) (tBackA X.K te tl th) := by
  refine ⟨fun pins s σ H Q I h => ?_⟩
  refine PyProof.Rows.Subscript_ (thn (he.run pins s σ H _ I h) fun v s1 ⟨x, H1, I1, r1, q1⟩ => ?_)
  have hst : PO X (some (.UnaryOp .USub (.Constant (.int 1) k p1) p2)) (tPart (tUn (rU fun i => .int (-i)) (tC (.int 1)))) := po_some (pe_un un_neg pe_int)
  refine wpAny_Slice (thn (hl.run pins s1 σ H1 _ I1 q1) fun vl s2 ⟨l, H2, I2, pl, q2⟩ => thn (hu.run pins s2 σ H2 _ I2 q2) fun vu s3 ⟨u, H3, I3, pu, q3⟩ => ?_)
  refine thn (hst.run pins s3 σ H3 (fun o H4 => o = some (-1) ∧ H4 = H3) I3 ⟨1, rfl, -1, rfl, rfl, rfl⟩) fun vs s4 ⟨o, H4, I4, ps, eo, e4⟩ => ?_
  subst eo e4
  obtain ⟨a, xs, ex, q⟩ := q3
  subst ex
  cases r1
  have I5 : Inv X pins σ H4 { s4 with heap := s4.heap.push { cls := .type "slice", data := .fields #[vl, vu, vs] } } := I4.kept (t' := s4.toks) fun b ob q => Heap.get?_push_of_some _ q
  show wpAny (model X.prog X.w) X.A (PyProof.Rows.subscriptTail e (.Slice lo hi (some (.UnaryOp .USub (.Constant (.int 1) k p1) p2)) p3) (.ref a) (.ref s4.heap.objs.size)) (EP X pins σ Q) X.xe { s4 with heap := s4.heap.push { cls := .type "slice", data := .fields #[vl, vu, vs] } }
  rcases q with ⟨hx, q⟩ | ⟨hx, q⟩
  · obtain ⟨its, r, ht, hz⟩ := I5.list (SqL.of hx)
    have hlen := r.length
    refine PyProof.Rows.tail_any (ops := [.ref a, .ref s4.heap.objs.size]) ht.isList.typeIs (PySem.slot_list_getitem.lookup) ?_ (by with_unfolding_all rfl)
    refine wpAny_getItem_list_slice ht.isList (Heap.IsSliceOf.new _ vl vu vs) pl pu ps (by decide) ?_ (by rw [List.size_toArray]; omega)
    rw [pick_back]
    refine ⟨.ref _, _, I5.laid (t' := s4.toks) (o := .lst (backL xs l u)) (fun b ob q => Heap.get?_push_of_some _ q) (Nat.le_refl _) ?_, rfl, q _ (I5.hok.fresh (Nat.le_refl _))⟩
    refine ⟨Nat.le_trans (backL_len _ _ _) hz, _, 0, ?_, Heap.get?_push_size _ rfl⟩
    unfold backL
    rw [hlen]
    exact vals_pick r _
  · obtain ⟨its, r, ht, hz⟩ := I5.tuple hx
    have hlen := r.length
    refine PyProof.Rows.tail_any (ops := [.ref a, .ref s4.heap.objs.size]) ht.typeIs (PyProof.Rows.slot_tuple_getitem.lookup) ?_ (by with_unfolding_all rfl)
    refine tuple_back ht (Heap.IsSliceOf.new _ vl vu vs) pl pu ps ?_ (by omega)
    refine ⟨.ref _, _, I5.laid (t' := s4.toks) (o := .tup (backL xs l u)) (fun b ob q => Heap.get?_push_of_some _ q) (Nat.le_refl _) ?_, rfl, q _ (I5.hok.fresh (Nat.le_refl _))⟩
    refine ⟨Nat.le_trans (backL_len _ _ _) hz, _, ?_, PyProof.Rows.IsTup.new _ _⟩
    unfold backL
    rw [hlen]
    exact vals_pick r _
theorem sBack (he : PE X e (tE X.K B w)) (hl : PO X lo (tP X.K B pl)) (hu : PO X hi (tP X.K B pu)) : PE X (.Subscript e (.Slice lo hi (some (.UnaryOp .USub (.Constant (.int 1) k p1) p2)) p3) pos) (tE X.K B (wBack w pl pu)) :=
  peW (pe_backA he hl hu) fun σ H Q h => by
    obtain ⟨F, own, ρ, P, R, w, k⟩ := h
    refine ⟨F, own, ρ, _, R, w, fun own1 ρ1 v r H1 R1 k1 s1 w1 => ⟨F, own1, ρ1, _, R1, w1, fun own2 ρ2 l H2 R2 k2 w2 => ⟨F, own2, ρ2, _, R2, w2, fun own3 ρ3 u H3 R3 k3 w3 => ?_⟩⟩⟩
    obtain ⟨d, e1, w4⟩ := need_of w3
    obtain ⟨r', e2, w5⟩ := need_of w4
    have vw := R3.view ((s1.w.kept k2).kept k3) e1
    have k' := (k1.trans k2).trans k3
    cases d with
    | lst ds =>
      cases e2
      obtain ⟨a, xs, rfl, ea, rr⟩ := vw
      exact ⟨a, xs, rfl, .inl ⟨ea, fun p hp => k own3 ρ3 _ _ _ (R3.new hp) (k'.trans (Kept.new hp)) (R3.newL hp rr.back) w5⟩⟩
    | tup ds =>
      cases e2
      obtain ⟨a, xs, rfl, ea, rr⟩ := vw_tup vw
      exact ⟨a, xs, rfl, .inr ⟨ea.sq, fun p hp => k own3 ρ3 _ _ _ (R3.new hp) (k'.trans (Kept.new hp)) (R3.newT hp rr.back) w5⟩⟩
    | _ => cases e2
end

/-! ### built-ins -/
def wBlt (f : List D → Option Res) (ws : WO) : WE := fun ρ P => ws ρ fun rs ρ1 => need (dataAll ρ1 rs) fun ds => need (f ds) fun r => P r ρ1
/-- a call's reading does what f says -/
def OpC (K : Frag) (B : BoxPred) (r : List V → Hp → VK → Prop) (f : List D → Option Res) : Prop := ∀ (F : Fr) (own : Own) (ρ : Rho) (σ : L2.St) (H : Hp) (xs : List V) (ds : List D) (res : Res) (Q : VK), Rel K B F own ρ σ H → Sz H →
  VwA K (F.av own) F.b H xs ds → f ds = some res →
  (∀ v H', Rel K B F own ρ σ H' → Kept (F.av own) H (F.av own) H' → Rs K B F own ρ σ H' v res → Q v H') → r xs H Q
def szC (r : List V → Hp → VK → Prop) : List V → Hp → VK → Prop := fun xs H Q => Sz H → r xs H Q
section
variable {X : Cx} {B : BoxPred} {e : Expr} {es : List Expr} {ws : WO} {r : List V → Hp → VK → Prop} {f : List D → Option Res} {x : Str} {id T : String} {p pos : Pos}
theorem cSz {g : Value} (h : CallR X g r) : CallR X g (szC r) := fun pins s σ H xs us Q I rx q => h pins s σ H xs us Q I rx (q (Inv.sz_ I))
theorem redC (h : OpC X.K B r f) : ∀ σ H Q, tE X.K B (wBlt f ws) σ H Q → tCB (szC r) (tO X.K B ws) σ H Q := by
  rintro σ H Q ⟨F, own, ρ, P, R, w, k⟩
  refine ⟨F, own, ρ, _, R, w, fun own1 ρ1 xs rs H1 R1 k1 s1 w1 hz => ?_⟩
  obtain ⟨ds, e1, w2⟩ := need_of w1
  obtain ⟨res, e2, w3⟩ := need_of w2
  exact h F own1 ρ1 σ H1 xs ds res Q R1 hz (R1.viewA s1 e1) e2 fun v H' R' k' s' => k own1 ρ1 v res H' R' (k1.trans k') s' w3
theorem sBltB (hc : CallR X (.builtin id) r) (h : OpC X.K B r f) (hg : Gl X x) (hm : X.mg x = none) (hv : bootBuiltins x = some (.builtin id)) (ha : PA X (e :: es) (tO X.K B ws)) (hn : x ≠ "__name__") (hdb : (x == ("__debug__" : Str)) = false)
    (he : starEach (e :: es) X.env = (false, eval e X.env) :: starEach es X.env) (hpl : (backTo pos (starEach es X.env)).any (·.1) = false) : PE X (.Call (.Name x p) (e :: es) [] pos) (tE X.K B (wBlt f ws)) :=
  peW (pe_callB (cSz hc) hg hm hv ha hn hdb he hpl) (redC h)
theorem sBltT (hc : CallR X (.type T) r) (h : OpC X.K B r f) (hg : Gl X x) (hm : X.mg x = none) (hv : bootBuiltins x = some (.type T)) (ha : PA X (e :: es) (tO X.K B ws)) (hn : x ≠ "__name__") (hdb : (x == ("__debug__" : Str)) = false)
    (he : starEach (e :: es) X.env = (false, eval e X.env) :: starEach es X.env) (hpl : (backTo pos (starEach es X.env)).any (·.1) = false) : PE X (.Call (.Name x p) (e :: es) [] pos) (tE X.K B (wBlt f ws)) :=
  peW (pe_callTy (cSz hc) hg hm hv ha hn hdb he hpl) (redC h)
end
section
variable {K : Frag} {B : BoxPred}
theorem vwA1 {O : ASet} {b : Addr} {H : Hp} {xs : List V} {d : D} (h : VwA K O b H xs [d]) : ∃ x, xs = [x] ∧ Vw K O b H x d := by
  match xs, h with
  | [x], ⟨h, _⟩ => exact ⟨x, rfl, h⟩
theorem vwA2 {O : ASet} {b : Addr} {H : Hp} {xs : List V} {d e : D} (h : VwA K O b H xs [d, e]) : ∃ x y, xs = [x, y] ∧ Vw K O b H x d ∧ Vw K O b H y e := by
  match xs, h with
  | [x, y], ⟨h, h2, _⟩ => exact ⟨x, y, rfl, h, h2⟩
/-- one argument -/
def arg1 (f : D → Option Res) : List D → Option Res
  | [d] => f d
  | _ => none
theorem arg1_inv {f : D → Option Res} {ds : List D} {r : Res} (h : arg1 f ds = some r) : ∃ d, ds = [d] ∧ f d = some r := by
  match ds, h with
  | [d], h => exact ⟨d, rfl, h⟩
def lenD : D → Option Res
  | .lst ds => some (.fz (.int ds.length))
  | .tup ds => some (.fz (.int ds.length))
  | .str s => if s.length ≤ lim then some (.fz (.int s.length)) else none
  | _ => none
theorem lenOk : OpC K B (fun xs H Q => ∃ x n, xs = [x] ∧ LenV K x H n ∧ Q (.int n) H) (arg1 lenD) := by
  intro F own ρ σ H xs ds res Q R hz hx e k
  obtain ⟨d, rfl, e⟩ := arg1_inv e
  obtain ⟨x, e0, hx1⟩ := vwA1 hx
  clear hx
  subst e0
  have hx := hx1
  cases d with
  | lst ds =>
    cases e
    obtain ⟨a, xs, rfl, ea, r⟩ := hx
    exact ⟨_, _, rfl, Or.inl ⟨xs, SqL.of ea, r.length.symm⟩, k _ _ R Kept.refl (.int _)⟩
  | tup ds =>
    cases e
    obtain ⟨a, xs, rfl, ea, r⟩ := vw_tup hx
    exact ⟨_, _, rfl, Or.inr ⟨xs, ea.sq, r.length.symm⟩, k _ _ R Kept.refl (.int _)⟩
  | str s =>
    have e : (if s.length ≤ lim then some (Res.fz (.int s.length)) else none) = some res := e
    by_cases hl : s.length ≤ lim
    · rw [if_pos hl] at e
      cases e
      cases vw_str hx
      exact ⟨_, _, rfl, show _ ∧ _ from ⟨Nat.le_trans hl lim_line, rfl⟩, k _ _ R Kept.refl (.int _)⟩
    · rw [if_neg hl] at e; cases e
  | _ => cases e
def tupleD : D → Option Res
  | .lst ds => some (.fz (.tup ds))
  | .tup ds => some (.fz (.tup ds))
  | _ => none
theorem tupleOk : OpC K B (fun xs H Q => ∃ p ys, xs = [.ref p] ∧ ((SqL K H p ys ∧ ∀ l, H l = none → Q (.ref l) (upd H l (.tup ys))) ∨ (SqT K H p ys ∧ Q (.ref p) H))) (arg1 tupleD) := by
  intro F own ρ σ H xs ds res Q R hz hx e k
  obtain ⟨d, rfl, e⟩ := arg1_inv e
  obtain ⟨x, e0, hx1⟩ := vwA1 hx
  clear hx
  subst e0
  have hx := hx1
  cases d with
  | lst ds =>
    cases e
    obtain ⟨a, xs, rfl, ea, r⟩ := hx
    exact ⟨a, xs, rfl, .inl ⟨SqL.of ea, fun p hp => k _ _ (R.new hp) (Kept.new hp) (R.newT hp r)⟩⟩
  | tup ds =>
    cases e
    obtain ⟨a, xs, rfl, ea, r⟩ := vw_tup hx
    exact ⟨a, xs, rfl, .inr ⟨ea.sq, k _ _ R Kept.refl (.tup ea r)⟩⟩
  | _ => cases e
def listD : D → Option Res
  | .lst ds => some (.ow (.lst ds))
  | .tup ds => some (.ow (.lst ds))
  | _ => none
theorem listOk : OpC K B (fun xs H Q => ∃ p ys, xs = [.ref p] ∧ (SqL K H p ys ∨ SqT K H p ys) ∧ ∀ l, H l = none → Q (.ref l) (upd H l (.lst ys))) (arg1 listD) := by
  intro F own ρ σ H xs ds res Q R hz hx e k
  obtain ⟨d, rfl, e⟩ := arg1_inv e
  obtain ⟨x, e0, hx1⟩ := vwA1 hx
  clear hx
  subst e0
  have hx := hx1
  cases d with
  | lst ds =>
    cases e
    obtain ⟨a, xs, rfl, ea, r⟩ := hx
    exact ⟨a, xs, rfl, .inl (SqL.of ea), fun p hp => k _ _ (R.new hp) (Kept.new hp) (R.newL hp r)⟩
  | tup ds =>
    cases e
    obtain ⟨a, xs, rfl, ea, r⟩ := vw_tup hx
    exact ⟨a, xs, rfl, .inr ea.sq, fun p hp => k _ _ (R.new hp) (Kept.new hp) (R.newL hp r)⟩
  | _ => cases e
def blsOf : List D → Option (List Bool)
  | [] => some []
  | .bl b :: r => (blsOf r).map (b :: ·)
  | _ :: _ => none
theorem bls_rz {O : ASet} {b : Addr} {H : Hp} : ∀ {xs : List V} {ds : List D} {ns : List Bool}, RzA K O b H xs ds → blsOf ds = some ns → xs = ns.map V.bl
  | _, _, _, .nil, e => by cases e; rfl
  | _, _, ns, .cons h r, e => by
    cases h with
    | bl i =>
      unfold blsOf at e
      cases q : blsOf _ with
      | none => rw [q] at e; cases e
      | some ms =>
        rw [q] at e
        cases e
        rw [bls_rz r q]
        rfl
    | _ => cases e
def allD : D → Option Res
  | .lst ds => (blsOf ds).map fun bs => .fz (.bl (bs.all id))
  | _ => none
def anyD : D → Option Res
  | .lst ds => (blsOf ds).map fun bs => .fz (.bl (bs.any id))
  | _ => none
theorem allOk : OpC K B (rAll K) (arg1 allD) := by
  intro F own ρ σ H xs ds res Q R hz hx e k
  obtain ⟨d, rfl, e⟩ := arg1_inv e
  obtain ⟨x, e0, hx1⟩ := vwA1 hx
  clear hx
  subst e0
  have hx := hx1
  cases d with
  | lst ds =>
    have e : (blsOf ds).map (fun bs => Res.fz (.bl (bs.all id))) = some res := e
    cases q : blsOf ds with
    | none => rw [q] at e; cases e
    | some bs =>
      rw [q] at e
      cases e
      obtain ⟨a, xs, rfl, ea, r⟩ := hx
      have := bls_rz r q
      subst this
      exact ⟨a, bs, rfl, SqL.of ea, k _ _ R Kept.refl (.bl _)⟩
  | _ => cases e
theorem anyOk : OpC K B (rAny K) (arg1 anyD) := by
  intro F own ρ σ H xs ds res Q R hz hx e k
  obtain ⟨d, rfl, e⟩ := arg1_inv e
  obtain ⟨x, e0, hx1⟩ := vwA1 hx
  clear hx
  subst e0
  have hx := hx1
  cases d with
  | lst ds =>
    have e : (blsOf ds).map (fun bs => Res.fz (.bl (bs.any id))) = some res := e
    cases q : blsOf ds with
    | none => rw [q] at e; cases e
    | some bs =>
      rw [q] at e
      cases e
      obtain ⟨a, xs, rfl, ea, r⟩ := hx
      have := bls_rz r q
      subst this
      exact ⟨a, bs, rfl, SqL.of ea, k _ _ R Kept.refl (.bl _)⟩
  | _ => cases e
def sumD : D → Option Res
  | .lst ds => (intsOf ds).map fun ns => .fz (.int ns.sum)
  | _ => none
theorem sumOk : OpC K B (rSum K) (arg1 sumD) := by
  intro F own ρ σ H xs ds res Q R hz hx e k
  obtain ⟨d, rfl, e⟩ := arg1_inv e
  obtain ⟨x, e0, hx1⟩ := vwA1 hx
  clear hx
  subst e0
  have hx := hx1
  cases d with
  | lst ds =>
    have e : (intsOf ds).map (fun ns => Res.fz (.int ns.sum)) = some res := e
    cases q : intsOf ds with
    | none => rw [q] at e; cases e
    | some ns =>
      rw [q] at e
      cases e
      obtain ⟨a, xs, rfl, ea, r⟩ := hx
      have := ints_rz r q
      subst this
      exact ⟨a, ns, rfl, SqL.of ea, k _ _ R Kept.refl (.int _)⟩
  | _ => cases e
def intD : D → Option Res
  | .int i => some (.fz (.int i))
  | .bl b => some (.fz (.int (if b then 1 else 0)))
  | _ => none
theorem intOk : OpC K B (fun xs H Q => (∃ i, xs = [.int i] ∧ Q (.int i) H) ∨ ∃ k, xs = [.bl k] ∧ Q (.int (if k then 1 else 0)) H) (arg1 intD) := by
  intro F own ρ σ H xs ds res Q R hz hx e k
  obtain ⟨d, rfl, e⟩ := arg1_inv e
  obtain ⟨x, e0, hx1⟩ := vwA1 hx
  clear hx
  subst e0
  have hx := hx1
  cases d with
  | int i =>
    cases e
    cases vw_int hx
    exact .inl ⟨i, rfl, k _ _ R Kept.refl (.int _)⟩
  | bl b =>
    cases e
    cases vw_bool hx
    exact .inr ⟨b, rfl, k _ _ R Kept.refl (.int _)⟩
  | _ => cases e
def strD : D → Option Res
  | .int i => if small i then some (.fz (.str (toString i))) else none
  | _ => none
theorem strOkC : OpC K B (fun xs H Q => ∃ i, xs = [.int i] ∧ i.natAbs.log2 < 1920 ∧ Q (.str (toString i)) H) (arg1 strD) := by
  intro F own ρ σ H xs ds res Q R hz hx e k
  obtain ⟨d, rfl, e⟩ := arg1_inv e
  obtain ⟨x, e0, hx1⟩ := vwA1 hx
  clear hx
  subst e0
  have hx := hx1
  cases d with
  | int i =>
    have e : (if small i then some (Res.fz (.str (toString i))) else none) = some res := e
    by_cases hl : small i
    · rw [if_pos hl] at e
      cases e
      cases vw_int hx
      have := small_abs hl
      exact ⟨i, rfl, Nat.lt_trans (PySem.Flt.log2_lt_of (by decide : 0 < 70) this) (by decide : 70 < 1920), k _ _ R Kept.refl (.str _)⟩
    · rw [if_neg hl] at e; cases e
  | _ => cases e
/-- min, max of two -/
def max2D : List D → Option Res
  | [.int i, .int j] => some (.fz (.int (if j > i then j else i)))
  | _ => none
def min2D : List D → Option Res
  | [.int i, .int j] => some (.fz (.int (if j < i then j else i)))
  | _ => none
theorem two_ints {f : List D → Option Res} {g : Int → Int → Res} (h : ∀ ds r, f ds = some r → ∃ i j, ds = [.int i, .int j] ∧ r = g i j) {ds : List D} {r : Res} (e : f ds = some r) : ∃ i j, ds = [.int i, .int j] ∧ r = g i j := h ds r e
theorem max2_inv {ds : List D} {r : Res} (e : max2D ds = some r) : ∃ i j, ds = [.int i, .int j] ∧ r = .fz (.int (if j > i then j else i)) := by
  unfold max2D at e
  split at e
  · cases e; exact ⟨_, _, rfl, rfl⟩
  · cases e
theorem min2_inv {ds : List D} {r : Res} (e : min2D ds = some r) : ∃ i j, ds = [.int i, .int j] ∧ r = .fz (.int (if j < i then j else i)) := by
  unfold min2D at e
  split at e
  · cases e; exact ⟨_, _, rfl, rfl⟩
  · cases e
/-- the greatest, the least of a list -/
def maxI : List Int → Option Int
  | [] => none
  | x :: xs => match maxI xs with
    | none => some x
    | some m => some (if x < m then m else x)
def minI : List Int → Option Int
  | [] => none
  | x :: xs => match minI xs with
    | none => some x
    | some m => some (if m < x then m else x)
theorem maxI_spec : ∀ {ns : List Int} {m : Int}, maxI ns = some m → m ∈ ns ∧ ∀ y ∈ ns, y ≤ m
  | [], _, e => by cases e
  | x :: xs, m, e => by
    unfold maxI at e
    cases q : maxI xs with
    | none =>
      rw [q] at e
      cases e
      cases xs with
      | nil => exact ⟨List.mem_cons_self, fun y hy => by rw [List.mem_singleton] at hy; omega⟩
      | cons z zs => unfold maxI at q; split at q <;> cases q
    | some k =>
      rw [q] at e
      have e : (if x < k then k else x) = m := Option.some.inj e
      obtain ⟨h1, h2⟩ := maxI_spec q
      by_cases hx : x < k
      · rw [if_pos hx] at e
        subst e
        exact ⟨List.mem_cons_of_mem _ h1, fun y hy => by
          rcases List.mem_cons.mp hy with rfl | hy
          · omega
          · exact h2 y hy⟩
      · rw [if_neg hx] at e
        subst e
        exact ⟨List.mem_cons_self, fun y hy => by
          rcases List.mem_cons.mp hy with rfl | hy
          · omega
          · have := h2 y hy; omega⟩
theorem minI_spec : ∀ {ns : List Int} {m : Int}, minI ns = some m → m ∈ ns ∧ ∀ y ∈ ns, m ≤ y
  | [], _, e => by cases e
  | x :: xs, m, e => by
    unfold minI at e
    cases q : minI xs with
    | none =>
      rw [q] at e
      cases e
      cases xs with
      | nil => exact ⟨List.mem_cons_self, fun y hy => by rw [List.mem_singleton] at hy; omega⟩
      | cons z zs => unfold minI at q; split at q <;> cases q
    | some k =>
      rw [q] at e
      have e : (if k < x then k else x) = m := Option.some.inj e
      obtain ⟨h1, h2⟩ := minI_spec q
      by_cases hx : k < x
      · rw [if_pos hx] at e
        subst e
        exact ⟨List.mem_cons_of_mem _ h1, fun y hy => by
          rcases List.mem_cons.mp hy with rfl | hy
          · omega
          · exact h2 y hy⟩
      · rw [if_neg hx] at e
        subst e
        exact ⟨List.mem_cons_self, fun y hy => by
          rcases List.mem_cons.mp hy with rfl | hy
          · omega
          · have := h2 y hy; omega⟩
def max1D : D → Option Res
  | .lst ds => (intsOf ds).bind fun ns => (maxI ns).map fun m => .fz (.int m)
  | _ => none
def min1D : D → Option Res
  | .lst ds => (intsOf ds).bind fun ns => (minI ns).map fun m => .fz (.int m)
  | _ => none
def maxD (ds : List D) : Option Res := match ds with
  | [d] => max1D d
  | _ => max2D ds
def minD (ds : List D) : Option Res := match ds with
  | [d] => min1D d
  | _ => min2D ds
def rMaxAll (K : Frag) : List V → Hp → VK → Prop := fun xs H Q => rMax K xs H Q ∨ ∃ i j, xs = [.int i, .int j] ∧ Q (.int (if j > i then j else i)) H
def rMinAll (K : Frag) : List V → Hp → VK → Prop := fun xs H Q => rMin K xs H Q ∨ ∃ i j, xs = [.int i, .int j] ∧ Q (.int (if j < i then j else i)) H
theorem max1_inv {d : D} {r : Res} (e : max1D d = some r) : ∃ ds ns m, d = .lst ds ∧ intsOf ds = some ns ∧ maxI ns = some m ∧ r = .fz (.int m) := by
  cases d with
  | lst ds =>
    have e : ((intsOf ds).bind fun ns => (maxI ns).map fun m => Res.fz (.int m)) = some r := e
    cases q : intsOf ds with
    | none => rw [q] at e; cases e
    | some ns =>
      rw [q] at e
      have e : ((maxI ns).map fun m => Res.fz (.int m)) = some r := e
      cases q2 : maxI ns with
      | none => rw [q2] at e; cases e
      | some m =>
        rw [q2] at e
        cases e
        exact ⟨ds, ns, m, rfl, q, q2, rfl⟩
  | _ => cases e
theorem min1_inv {d : D} {r : Res} (e : min1D d = some r) : ∃ ds ns m, d = .lst ds ∧ intsOf ds = some ns ∧ minI ns = some m ∧ r = .fz (.int m) := by
  cases d with
  | lst ds =>
    have e : ((intsOf ds).bind fun ns => (minI ns).map fun m => Res.fz (.int m)) = some r := e
    cases q : intsOf ds with
    | none => rw [q] at e; cases e
    | some ns =>
      rw [q] at e
      have e : ((minI ns).map fun m => Res.fz (.int m)) = some r := e
      cases q2 : minI ns with
      | none => rw [q2] at e; cases e
      | some m =>
        rw [q2] at e
        cases e
        exact ⟨ds, ns, m, rfl, q, q2, rfl⟩
  | _ => cases e
theorem maxOk : OpC K B (rMaxAll K) maxD := by
  intro F own ρ σ H xs ds res Q R hz hx e k
  unfold maxD at e
  split at e
  · obtain ⟨x, e0, hx1⟩ := vwA1 hx
    clear hx
    subst e0
    have hx := hx1
    obtain ⟨ds, ns, m, rfl, q, q2, rfl⟩ := max1_inv e
    obtain ⟨a, xs, rfl, ea, r⟩ := hx
    have := ints_rz r q
    subst this
    obtain ⟨h1, h2⟩ := maxI_spec q2
    exact .inl ⟨a, ns, rfl, SqL.of ea, List.length_pos_of_mem h1, fun m' h1' h2' => by
      have := h2 m' h1'
      have := h2' m h1
      obtain rfl : m' = m := by omega
      exact k _ _ R Kept.refl (.int _)⟩
  · obtain ⟨i, j, rfl, rfl⟩ := max2_inv e
    obtain ⟨x, y, e0, hx1, hy⟩ := vwA2 hx
    clear hx
    subst e0
    have hx := hx1
    cases vw_int hx
    cases vw_int hy
    exact .inr ⟨i, j, rfl, k _ _ R Kept.refl (.int _)⟩
theorem minOk : OpC K B (rMinAll K) minD := by
  intro F own ρ σ H xs ds res Q R hz hx e k
  unfold minD at e
  split at e
  · obtain ⟨x, e0, hx1⟩ := vwA1 hx
    clear hx
    subst e0
    have hx := hx1
    obtain ⟨ds, ns, m, rfl, q, q2, rfl⟩ := min1_inv e
    obtain ⟨a, xs, rfl, ea, r⟩ := hx
    have := ints_rz r q
    subst this
    obtain ⟨h1, h2⟩ := minI_spec q2
    exact .inl ⟨a, ns, rfl, SqL.of ea, List.length_pos_of_mem h1, fun m' h1' h2' => by
      have := h2 m' h1'
      have := h2' m h1
      obtain rfl : m' = m := by omega
      exact k _ _ R Kept.refl (.int _)⟩
  · obtain ⟨i, j, rfl, rfl⟩ := min2_inv e
    obtain ⟨x, y, e0, hx1, hy⟩ := vwA2 hx
    clear hx
    subst e0
    have hx := hx1
    cases vw_int hx
    cases vw_int hy
    exact .inr ⟨i, j, rfl, k _ _ R Kept.refl (.int _)⟩
end
end Ip

set_option Elab.async false
set_option linter.all false
set_option maxRecDepth 100000
set_option maxHeartbeats 2000000
set_option autoImplicit false
/-! Ip8: calls of the text's own defs, isinstance, ranges as lists, pop -/
namespace Ip
open PySem L2

/-! ### a def's promise by what it makes of data -/
abbrev CallT := List D → (Res → Prop) → Prop
def noOwn : Own := fun _ => none
/-- what holds at a call -/
structure Cal (K : Frag) (B : BoxPred) (F : Fr) (H : Hp) : Prop where
  hb : F.O0 F.b
  hc : F.O0 F.c
  good : BoxGood B
  box : B F.b F.c H
  there : ∀ a, F.O0 a → ∃ o, H a = some o ∧ ∀ xs, o ≠ .tup xs
  h0 : F.H0 = H
  e0 : F.E = []
  l0 : F.L = []
  p0 : F.P = []
/-- what a def hands back -/
def Rr (K : Frag) (F : Fr) (H' : Hp) (v : V) : Res → Prop
  | .fz d => Rz K (F.av noOwn) F.b H' v d
  | .ow d => ∃ a o, v = .ref a ∧ F.H0 a = none ∧ H' a = some o ∧ Cn K (fun x => F.av noOwn x ∨ x = a) F.b H' o d
  | .bw _ => False
/-- what holds behind it -/
structure Ret (K : Frag) (B : BoxPred) (F : Fr) (H' : Hp) (v : V) (r : Res) : Prop where
  box : B F.b F.c H'
  base : ∀ a o, a ≠ F.b → a ≠ F.c → F.H0 a = some o → H' a = some o
  rs : Rr K F H' v r
def spI (K : Frag) (B : BoxPred) (n : Nat) (T : CallT) : Sp := fun vs H Q _ => ∃ F ds P, Cal K B F H ∧ vs.length = n ∧ RzA K (F.av noOwn) F.b H vs ds ∧ T ds P ∧ ∀ v r H', Ret K B F H' v r → P r → Q v H'
/-- operands, what is avoided told -/
def RwO (K : Frag) (O : ASet) (b : Addr) (σ : L2.St) (H : Hp) : List V → List Res → Prop
  | [], [] => True
  | v :: vs, r :: rs => (match r with
    | .fz d => Rz K O b H v d
    | .ow d => Rz K O b H v d
    | .bw i => σ[i]? = some (some v)) ∧ RwO K O b σ H vs rs
  | _, _ => False
theorem RsA.more {K : Frag} {F : Fr} {own : Own} {σ : L2.St} {H : Hp} {a : Addr} (ha : H a = none) : ∀ {vs : List V} {rs : List Res}, RsA K F own σ H vs rs → RwO K (fun x => F.av own x ∨ x = a) F.b σ H vs rs
  | [], [], _ => True.intro
  | v :: vs, r :: rs, ⟨h, t⟩ => ⟨by
      cases r with
      | fz d => exact Rz.more ha h
      | ow d => exact Rz.more ha h
      | bw i => exact h, RsA.more ha t⟩
  | [], _ :: _, h => h.elim
  | _ :: _, [], h => h.elim
theorem RsA.keptP {K : Frag} {F : Fr} {own : Own} {σ : L2.St} {H H' : Hp} {O : ASet} (k : Kept O H (F.av own) H') : ∀ {vs : List V} {rs : List Res}, RwO K O F.b σ H vs rs → RsA K F own σ H' vs rs
  | [], [], _ => True.intro
  | v :: vs, r :: rs, ⟨h, t⟩ => ⟨by
      cases r with
      | fz d => exact Rz.kept k h
      | ow d => exact Rz.kept k h
      | bw i => exact h, RsA.keptP k t⟩
  | [], _ :: _, h => h.elim
  | _ :: _, [], h => h.elim
def resPure : Res → Bool
  | .fz d => d.pure
  | .ow (.lst ds) => D.pures ds
  | _ => false
def backRho (ρ : Rho) (rs : List Res) (r : Res) : Option Rho := if resPure r = true then some ρ else (frzAll ρ rs).map (·.2)
def wCall (T : CallT) (ws : WO) : WE := fun ρ P => ws ρ fun rs ρ1 => need (dataAll ρ1 rs) fun ds => T ds fun r => need (backRho ρ1 rs r) fun ρ2 => P r ρ2
section
variable {K : Frag} {B : BoxPred} {F : Fr} {own : Own} {ρ ρ' : Rho} {σ : L2.St} {H H' : Hp}
/-- the frame that a callee sees -/
def calF (F : Fr) (own : Own) (rs : List Res) (H : Hp) : Fr := ⟨fun a => F.av own a ∧ ¬ ∃ i, Res.bw i ∈ rs ∧ own i = some a, F.b, F.c, H, [], [], []⟩
theorem cal_av {rs : List Res} {a : Addr} (h : (calF F own rs H).av noOwn a) : F.av own a ∧ ¬ ∃ i, Res.bw i ∈ rs ∧ own i = some a := by
  rcases h with h | ⟨i, h⟩ | ⟨xs, h⟩
  · exact h
  · cases h
  · cases h
theorem Rel.notb (R : Rel K B F own ρ σ H) {a : Addr} (h : F.O0 a) (i : Nat) : own i ≠ some a := fun e => by
  obtain ⟨o, e2, _⟩ := R.there a h
  rw [R.fresh i a e] at e2
  cases e2
theorem Rel.cal (R : Rel K B F own ρ σ H) (rs : List Res) : Cal K B (calF F own rs H) H where
  hb := ⟨.inl R.hb, fun ⟨i, _, e⟩ => R.notb R.hb i e⟩
  hc := ⟨.inl R.hc, fun ⟨i, _, e⟩ => R.notb R.hc i e⟩
  good := R.good
  box := R.box
  there := fun a h => R.nt h.1
  h0 := rfl
  e0 := rfl
  l0 := rfl
  p0 := rfl
/-- arguments as the callee sees them -/
theorem Rel.calArg (R : Rel K B F own ρ σ H) {all : List Res} {v : V} {r : Res} {d : D} (hr : ∀ i, r = .bw i → Res.bw i ∈ all) (h : Rw K F own σ H v r) (e : r.data ρ = some d) : Rz K ((calF F own all H).av noOwn) F.b H v d := by
  have less : ∀ a, (calF F own all H).av noOwn a → F.av own a := fun a z => (cal_av z).1
  cases r with
  | fz d' =>
    cases e
    exact Rz.kept (kept_less less) h
  | ow d' =>
    cases e
    exact Rz.kept (kept_less less) h
  | bw i =>
    have h : σ[i]? = some (some v) := h
    have e : (slotAt ρ i).data = some d := e
    have own_ : ∀ d, (ρ[i]? = some (.ow d) ∨ ρ[i]? = some (.lk d)) → Rz K ((calF F own all H).av noOwn) F.b H v d := fun d hs => by
      obtain ⟨a, ha, e2, c⟩ := R.ow i d hs
      rw [h] at e2
      cases e2
      have na : ¬ (calF F own all H).av noOwn a := fun z => (cal_av z).2 ⟨i, hr i rfl, ha⟩
      obtain ⟨o, e, c⟩ := c
      exact (c.kept (kept_less less)).rz e na
    cases q : slotAt ρ i with
    | non => rw [q] at e; cases e
    | fz d' =>
      rw [q] at e
      cases e
      obtain ⟨v', e2, r⟩ := R.fz i d (slot_of q (by intro z; cases z))
      rw [h] at e2
      cases e2
      exact r.kept (kept_less less)
    | ow d' =>
      rw [q] at e
      cases e
      exact own_ d (.inl (slot_of q (by intro z; cases z)))
    | lk d' =>
      rw [q] at e
      cases e
      exact own_ d (.inr (slot_of q (by intro z; cases z)))
theorem Rel.calArgs (R : Rel K B F own ρ σ H) {all : List Res} : ∀ {vs : List V} {rs : List Res} {ds : List D}, (∀ r ∈ rs, r ∈ all) → RsA K F own σ H vs rs → dataAll ρ rs = some ds → RzA K ((calF F own all H).av noOwn) F.b H vs ds
  | [], [], _, _, _, e => by cases e; exact .nil
  | v :: vs, r :: rs, ds, hs, ⟨a, b⟩, e => by
    unfold dataAll at e
    cases q : r.data ρ with
    | none => rw [q] at e; cases e
    | some d =>
      rw [q] at e
      cases q2 : dataAll ρ rs with
      | none => rw [q2] at e; cases e
      | some ds' =>
        rw [q2] at e
        cases e
        exact .cons (R.calArg (fun i e => e ▸ hs r List.mem_cons_self) a q) (R.calArgs (fun x hx => hs x (List.mem_cons_of_mem _ hx)) b q2)
  | [], _ :: _, _, _, h, _ => h.elim
  | _ :: _, [], _, _, h, _ => h.elim
/-- the frame behind a call -/
theorem Rel.ret (R : Rel K B F own ρ σ H) {rs : List Res} {v : V} {r : Res} (T : Ret K B (calF F own rs H) H' v r) : Rel K B F own ρ σ H' ∧ Kept (F.av own) H (F.av own) H' := by
  have nb : ∀ {a}, ¬ F.av own a → a ≠ F.b ∧ a ≠ F.c := fun {a} n => ⟨fun e => n (.inl (e ▸ R.hb)), fun e => n (.inl (e ▸ R.hc))⟩
  have st : ∀ a o, a ≠ F.b → a ≠ F.c → H a = some o → H' a = some o := T.base
  have hk : Kept (F.av own) H (F.av own) H' := ⟨fun _ z => z, fun a o e n => st a o (nb n).1 (nb n).2 e, fun a e => by
    cases q : H a with
    | none => rfl
    | some o =>
      by_cases h1 : a = F.b
      · obtain ⟨xs, e2⟩ := R.good.lb T.box
        have e2 : H' F.b = some (.lst xs) := e2
        rw [h1, e2] at e
        cases e
      · by_cases h2 : a = F.c
        · obtain ⟨xs, e2⟩ := R.good.lc T.box
          have e2 : H' F.c = some (.lst xs) := e2
          rw [h2, e2] at e
          cases e
        · rw [st a o h1 h2 q] at e
          cases e⟩
  refine ⟨{ R with
    box := T.box
    base := fun a o x y e => st a o x y (R.base a o x y e)
    fz := fun i d e => by
      obtain ⟨v, e2, r⟩ := R.fz i d e
      exact ⟨v, e2, r.kept hk⟩
    ow := fun i d e => by
      obtain ⟨a, e1, e2, c⟩ := R.ow i d e
      refine ⟨a, e1, e2, c.kept hk fun o q => st a o (fun z => ?_) (fun z => ?_) q⟩
      · exact R.notb (z ▸ R.hb) i e1
      · exact R.notb (z ▸ R.hc) i e1
    ex := fun p hp => (R.ex p hp).kept hk
    pv := fun p hp => by
      obtain ⟨h0, e, nt⟩ := R.pv p hp
      refine ⟨h0, st _ _ (fun z => ?_) (fun z => ?_) e, nt⟩
      · obtain ⟨o, e2, _⟩ := R.there F.b R.hb
        rw [← z, h0] at e2; cases e2
      · obtain ⟨o, e2, _⟩ := R.there F.c R.hc
        rw [← z, h0] at e2; cases e2 }, hk⟩
theorem Rel.wideS (R : Rel K B F own ρ σ H) {O : ASet} {v : V} {d : D} (p : d.pure = true) (h : Rz K O F.b H v d) : Rz K (F.av own) F.b H v d := h.wide R.ntup p
theorem Cn.wide {O O' : ASet} {b : Addr} {o : HO} {d : D} (hO : ∀ a xs, O' a → H a ≠ some (.tup xs)) (p : resPure (.ow d) = true) (h : Cn K O b H o d) : Cn K O' b H o d := by
  cases o <;> cases d <;> first | exact RzA.wide hO p h | exact h.elim
theorem Rel.callRed (R : Rel K B F own ρ σ H) {rs : List Res} {vs : List V} {v : V} {r : Res} (hs : RsA K F own σ H vs rs) (T : Ret K B (calF F own rs H) H' v r) (e : backRho ρ rs r = some ρ') :
    ∃ own', Rel K B F own' ρ' σ H' ∧ Kept (F.av own) H (F.av own') H' ∧ Rs K B F own' ρ' σ H' v r := by
  obtain ⟨R', hk⟩ := R.ret T
  have rs0 := T.rs
  have own_ : ∀ i x, own i = some x → H' x = H x := fun i x e => by
    obtain ⟨u, e2, _⟩ := R.nt (.inr (.inl ⟨i, e⟩))
    have e3 : H' x = some u := T.base x u (fun z => R.notb (z ▸ R.hb) i e) (fun z => R.notb (z ▸ R.hc) i e) e2
    rw [e2, e3]
  unfold backRho at e
  by_cases hp : resPure r = true
  · rw [if_pos hp] at e
    cases e
    refine ⟨own, R', hk, ?_⟩
    cases r with
    | fz d => exact R'.wideS hp rs0
    | ow d =>
      obtain ⟨a, o, e1, h0, ea, c⟩ := rs0
      have h0 : H a = none := h0
      refine ⟨a, o, e1, R.born R' h0 hk own_ ea c.ntup, c.wide (fun x ys hx => ?_) hp⟩
      rw [av_addP] at hx
      rcases hx with hx | hx
      · exact R'.ntup x ys hx
      · subst hx
        rw [ea]
        exact fun z => c.ntup ys (Option.some.inj z)
    | bw i => cases hp
  · rw [if_neg hp] at e
    cases q : Ip.frzAll ρ rs with
    | none => rw [q] at e; cases e
    | some p =>
      obtain ⟨ds, ρ2⟩ := p
      rw [q] at e
      cases e
      have less : ∀ own', Less own own' → (∀ i, Res.bw i ∈ rs → own' i = none) → ∀ a, F.av own' a → (calF F own rs H).av noOwn a := fun own' l nn a z => .inl ⟨av_less l.sub z, fun ⟨i, hi, e⟩ => by
        rcases z with z | ⟨j, z⟩ | ⟨xs, z⟩
        · exact R.notb z i e
        · have := R.inj i j a e (l.sub j a z)
          subst this
          rw [nn i hi] at z
          cases z
        · exact R.pvo _ z i e⟩
      cases r with
      | fz d =>
        obtain ⟨own', R2, l, nn, _⟩ := R'.frzAll (hs.kept hk) q
        exact ⟨own', R2, hk.trans l.kept, Rz.kept (kept_less (less own' l nn)) rs0⟩
      | ow d =>
        obtain ⟨a, o, e1, h0, ea, c⟩ := rs0
        have h0 : H a = none := h0
        have RP := R.born R' h0 hk own_ ea c.ntup
        have hs' : RsA K (Ip.addP F a o) own σ H' vs rs := by
          refine RsA.keptP (F := Ip.addP F a o) (H := H) (O := fun x => F.av own x ∨ x = a) ?_ (hs.more h0)
          rw [av_addP_eq]
          exact hk.add
        obtain ⟨own', R2, l, nn, _⟩ := RP.frzAll hs' q
        refine ⟨own', R2.dropP.1, hk.trans l.kept, a, o, e1, R2, c.kept (kept_less fun x hx => ?_)⟩
        rw [av_addP] at hx
        exact hx.elim (fun z => .inl (less own' l nn x z)) .inr
      | bw i => exact rs0.elim
end
section
variable {X : Cx} {B : BoxPred} {e : Expr} {es : List Expr} {w wa wb : WE} {ws : WO} {T : CallT} {x : Str} {p p2 pos : Pos} {k n : Nat} {f : Addr} {fd : FuncData} {ps : List Str}
theorem sCall (Fn : FnOk X.prog X.w X.K X.mg X.base CX0 k f fd ps (spI X.K B n T)) (hr : Room k X.A) (hg : Gl X x) (hm : X.mg x = some (.ref f)) (hk : PySem.W.keepIn X.K (.ref f) = true) (hb : Binds X.K fd ps [])
    (hl : (e :: es).length = n) (ha : PA X (e :: es) (tO X.K B ws)) (hlen : ∀ ρ P, ws ρ P → ws ρ fun rs ρ1 => rs.length = (e :: es).length ∧ P rs ρ1) (hdb : (x == ("__debug__" : Str)) = false) (he : starEach (e :: es) X.env = (false, eval e X.env) :: starEach es X.env) (hpl : (backTo pos (starEach es X.env)).any (·.1) = false) :
    PE X (.Call (.Name x p) (e :: es) [] pos) (tE X.K B (wCall T ws)) :=
  peW (pe_call (E := E0) (dvs := []) Fn hr hg hm hk hb .nil pass0 ha hdb he hpl) fun σ H Q h => by
    obtain ⟨F, own, ρ, P, R, w, kk⟩ := h
    refine ⟨F, own, ρ, _, R, hlen ρ _ w, fun own1 ρ1 vs rs H1 R1 k1 s1 w1 => ?_⟩
    obtain ⟨hlr, w1⟩ := w1
    obtain ⟨ds, e1, w2⟩ := need_of w1
    rw [List.append_nil]
    have hvl : vs.length = rs.length := by
      have : ∀ {vs : List V} {rs : List Res}, RsA X.K F own1 σ H1 vs rs → vs.length = rs.length := fun {vs} => by
        induction vs with
        | nil => intro rs h; cases rs with
          | nil => rfl
          | cons _ _ => exact h.elim
        | cons v vs ih => intro rs h; cases rs with
          | nil => exact h.elim
          | cons r rs => exact congrArg (· + 1) (ih h.2)
      exact this s1
    refine ⟨calF F own1 rs H1, ds, _, R1.cal rs, by rw [hvl, hlr, hl], R1.calArgs (fun _ h => h) s1 e1, w2, fun v r H' T' hP => ?_⟩
    obtain ⟨ρ2, e2, w3⟩ := need_of hP
    obtain ⟨own2, R2, k2, s2⟩ := R1.callRed s1 T' e2
    exact kk own2 ρ2 v r H' R2 (k1.trans k2) s2 w3

/-! ### isinstance -/
inductive Ty | int | bool | str | tuple | list
  deriving DecidableEq
def Ty.name : Ty → String
  | .int => "int"
  | .bool => "bool"
  | .str => "str"
  | .tuple => "tuple"
  | .list => "list"
def isiD : Ty → D → Option Bool
  | _, .dct _ _ => none
  | _, .st _ => none
  | _, .box => none
  | .int, .int _ => some true
  | .int, .bl _ => some true
  | .bool, .bl _ => some true
  | .str, .str _ => some true
  | .tuple, .tup _ => some true
  | .list, .lst _ => some true
  | _, _ => some false
def wIsi (T : Ty) (w : WE) : WE := fun ρ P => w ρ fun r ρ1 => need (r.data ρ1) fun d => need (isiD T d) fun k => P (.fz (.bl k)) ρ1
theorem vw_ty {K : Frag} {O : ASet} {b : Addr} {H : Hp} {v : V} {d : D} {T : Ty} {k : Bool} (h : Vw K O b H v d) (e : isiD T d = some k) : ∃ t : String, TyX K H v (.type t) ∧ kitB t T.name = some k := by
  cases d with
  | non =>
    cases vw_non h
    refine ⟨"NoneType", .base .non, ?_⟩
    cases T <;> (cases e; decide +kernel)
  | bl x =>
    cases vw_bool h
    refine ⟨"bool", .base (.bl x), ?_⟩
    cases T <;> (cases e; decide +kernel)
  | int x =>
    cases vw_int h
    refine ⟨"int", .base (.int x), ?_⟩
    cases T <;> (cases e; decide +kernel)
  | str x =>
    cases vw_str h
    refine ⟨"str", .base (.str x), ?_⟩
    cases T <;> (cases e; decide +kernel)
  | tup ds =>
    obtain ⟨a, xs, rfl, ea, _⟩ := vw_tup h
    refine ⟨"tuple", ?_, ?_⟩
    · rcases ea with ea | ea
      · exact .base (.tup ea.1)
      · rcases ea with (ea | ⟨_, ea⟩) | ⟨o, its, n, hk, hc, _⟩
        · cases ea
        · cases ea
        · exact .kTuple hk hc
    · cases T <;> (cases e; decide +kernel)
  | lst ds =>
    obtain ⟨a, xs, rfl, ea, _⟩ := h
    refine ⟨"list", .base (.lst ea), ?_⟩
    cases T <;> (cases e; decide +kernel)
  | _ => cases T <;> cases e
theorem sIsi {T : Ty} {t : Str} (he : PE X e (tE X.K B w)) (hg : Gl X "isinstance") (hm : X.mg "isinstance" = none) (hgt : Gl X t) (hmt : X.mg t = none) (hbt : bootBuiltins t = some (.type T.name)) (hn : t ≠ "__name__") (hd : (t == ("__debug__" : Str)) = false)
    (hs : starEach [e, .Name t p2] X.env = (false, eval e X.env) :: starEach [.Name t p2] X.env) : PE X (.Call (.Name "isinstance" p) [e, .Name t p2] [] pos) (tE X.K B (wIsi T w)) :=
  peW (pe_callB call_isi hg hm (by decide +kernel) (pa_cons he (pa_cons (pe_bltn (v := .ty T.name) hgt hmt hbt rfl hn hd) pa_nil) hs) (by decide) (by decide) hs rfl) fun σ H Q h => by
    obtain ⟨F, own, ρ, P, R, w, k⟩ := h
    refine ⟨F, own, ρ, _, R, w, fun own1 ρ1 v r H1 R1 k1 s1 w1 => ?_⟩
    obtain ⟨d, e1, w2⟩ := need_of w1
    obtain ⟨b, e2, w3⟩ := need_of w2
    obtain ⟨ty, h1, h2⟩ := vw_ty (R1.view s1.w e1) e2
    exact ⟨v, .ty T.name, .type ty, .type T.name, b, rfl, .ty _, h1, kit_ty h2, k own1 ρ1 _ (.fz (.bl b)) H1 R1 k1 (.bl _) w3⟩

/-! ### ranges -/
abbrev WR := Rho → (Int → Int → Rho → Prop) → Prop
def wRg1 (w : WE) : WR := fun ρ P => w ρ fun r ρ1 => need (r.data ρ1) fun d => need (asInt d) fun n => P 0 n ρ1
def wRg2 (wa wb : WE) : WR := fun ρ P => wa ρ fun ra ρ1 => wb ρ1 fun rb ρ2 => need (ra.data ρ2) fun x => need (rb.data ρ2) fun y => need (asInt x) fun i => need (asInt y) fun j => P i j ρ2
def tR (K : Frag) (B : BoxPred) (w : WR) : L2.St → Hp → (Int → Int → Hp → Prop) → Prop := fun σ H Q => ∃ F own ρ P, Rel K B F own ρ σ H ∧ w ρ P ∧
  ∀ own' ρ' i j H', Rel K B F own' ρ' σ H' → Kept (F.av own) H (F.av own') H' → P i j ρ' → Q i j H'
def rgD (a b : Int) : List D := (List.range (b - a).toNat).map fun i => D.int (a + (i : Nat))
def rgOk (a b : Int) : Prop := -5000000 ≤ a ∧ a ≤ 5000000 ∧ -5000000 ≤ b ∧ b ≤ 5000000
instance (a b : Int) : Decidable (rgOk a b) := inferInstanceAs (Decidable (_ ∧ _))
theorem rgOk.ok {a b : Int} (h : rgOk a b) : RgOk a b := by
  unfold rgOk at h
  exact ⟨by omega, by omega, by omega, by omega, by omega⟩
def wRgL (w : WR) : WE := fun ρ P => w ρ fun a b ρ1 => rgOk a b ∧ P (.ow (.lst (rgD a b))) ρ1
def wRgT (w : WR) : WE := fun ρ P => w ρ fun a b ρ1 => rgOk a b ∧ P (.fz (.tup (rgD a b))) ρ1
theorem asInt_inv {d : D} {i : Int} (h : asInt d = some i) : d = .int i := by
  cases d with
  | int j => cases h; rfl
  | _ => cases h
theorem prW {e : Expr} {t t' : L2.St → Hp → (Int → Int → Hp → Prop) → Prop} (h : PRg X e t) (i : ∀ σ H Q, t' σ H Q → t σ H Q) : PRg X e t' := fun pins s σ H Q I q => h pins s σ H Q I (i σ H Q q)
theorem sRg1 (hg : Gl X "range") (hm : X.mg "range" = none) (ha : PE X e (tE X.K B w)) (hs : starEach [e] X.env = (false, eval e X.env) :: starEach [] X.env) : PRg X (.Call (.Name "range" p) [e] [] pos) (tR X.K B (wRg1 w)) :=
  prW (prg_1 hg hm ha hs) fun σ H Q h => by
    obtain ⟨F, own, ρ, P, R, w, k⟩ := h
    refine ⟨F, own, ρ, _, R, w, fun own1 ρ1 v r H1 R1 k1 s1 w1 => ?_⟩
    obtain ⟨d, e1, w2⟩ := need_of w1
    obtain ⟨n, e2, w3⟩ := need_of w2
    cases asInt_inv e2
    exact ⟨n, vw_int (R1.view s1.w e1), k own1 ρ1 0 n H1 R1 k1 w3⟩
theorem sRg2 {e2 : Expr} (hg : Gl X "range") (hm : X.mg "range" = none) (ha : PE X e (tE X.K B wa)) (hb : PE X e2 (tE X.K B wb)) (hs : starEach [e, e2] X.env = (false, eval e X.env) :: starEach [e2] X.env) (hs2 : starEach [e2] X.env = (false, eval e2 X.env) :: starEach [] X.env) :
    PRg X (.Call (.Name "range" p) [e, e2] [] pos) (tR X.K B (wRg2 wa wb)) :=
  prW (prg_2 hg hm ha hb hs hs2 (hp := by rw [hs2]; rfl)) fun σ H Q h => by
    obtain ⟨F, own, ρ, P, R, w, k⟩ := h
    refine ⟨F, own, ρ, _, R, w, fun own1 ρ1 v r H1 R1 k1 s1 w1 => ⟨F, own1, ρ1, _, R1, w1, fun own2 ρ2 u r2 H2 R2 k2 s2 w2 => ?_⟩⟩
    obtain ⟨dx, e1, w3⟩ := need_of w2
    obtain ⟨dy, e2, w4⟩ := need_of w3
    obtain ⟨i, e3, w5⟩ := need_of w4
    obtain ⟨j, e4, w6⟩ := need_of w5
    cases asInt_inv e3
    cases asInt_inv e4
    exact ⟨i, j, vw_int (R2.view (s1.w.kept k2) e1), vw_int (R2.view s2.w e2), k own2 ρ2 i j H2 R2 (k1.trans k2) w6⟩
theorem rz_rg {K : Frag} {O : ASet} {b : Addr} {H : Hp} (i j : Int) : RzA K O b H (rgV i j) (rgD i j) := by
  unfold rgV rgD
  induction List.range (j - i).toNat with
  | nil => exact .nil
  | cons n ns ih => exact .cons (.int _) ih
theorem sRgL {wr : WR} (hc : X.calm = true) (hg : Gl X "list") (hm : X.mg "list" = none) (he : PRg X e (tR X.K B wr)) (hs : starEach [e] X.env = (false, eval e X.env) :: starEach [] X.env) : PE X (.Call (.Name "list" p) [e] [] pos) (tE X.K B (wRgL wr)) :=
  peW (pe_listRg hc hg hm he hs) fun σ H Q h => by
    obtain ⟨F, own, ρ, P, R, w, k⟩ := h
    refine ⟨F, own, ρ, _, R, w, fun own1 ρ1 i j H1 R1 k1 w1 => ⟨w1.1.ok, fun q hq => ?_⟩⟩
    exact k own1 ρ1 _ _ _ (R1.new hq) (k1.trans (Kept.new hq)) (R1.newL hq (rz_rg i j)) w1.2
theorem sRgT {wr : WR} (hc : X.calm = true) (hg : Gl X "tuple") (hm : X.mg "tuple" = none) (he : PRg X e (tR X.K B wr)) (hs : starEach [e] X.env = (false, eval e X.env) :: starEach [] X.env) : PE X (.Call (.Name "tuple" p) [e] [] pos) (tE X.K B (wRgT wr)) :=
  peW (pe_tupRg hc hg hm he hs) fun σ H Q h => by
    obtain ⟨F, own, ρ, P, R, w, k⟩ := h
    refine ⟨F, own, ρ, _, R, w, fun own1 ρ1 i j H1 R1 k1 w1 => ⟨w1.1.ok, fun q hq => ?_⟩⟩
    exact k own1 ρ1 _ _ _ (R1.new hq) (k1.trans (Kept.new hq)) (R1.newT hq (rz_rg i j)) w1.2
end
end Ip

set_option Elab.async false
set_option linter.all false
set_option maxRecDepth 100000
set_option maxHeartbeats 2000000
set_option autoImplicit false
/-! Ip9: targets, what is walked, comprehensions -/
namespace Ip
open PySem L2

/-! ### targets -/
abbrev WG := D → Rho → (Rho → Prop) → Prop
abbrev WGs := List D → Rho → (Rho → Prop) → Prop
def notLk : Slot → Bool
  | .lk _ => false
  | _ => true
def gSet (i : Nat) : WG := fun d ρ P => notLk (slotAt ρ i) = true ∧ P (ρ.set i (.fz d))
def gNilW : WGs := fun ds ρ P => match ds with
  | [] => P ρ
  | _ :: _ => False
def gConsW (g : WG) (gs : WGs) : WGs := fun ds ρ P => match ds with
  | [] => False
  | d :: ds => g d ρ fun ρ1 => gs ds ρ1 P
def gTupW (gs : WGs) : WG := fun d ρ P => match d with
  | .tup ds => gs ds ρ P
  | _ => False
/-- σ' is σ but for the slots vs -/
structure Only (vs : List Nat) (σ σ' : L2.St) : Prop where
  out : ∀ i, i ∉ vs → σ'[i]? = σ[i]?
  len : σ'.length = σ.length
theorem Only.refl {vs : List Nat} {σ : L2.St} : Only vs σ σ := ⟨fun _ _ => rfl, rfl⟩
theorem Only.trans {vs : List Nat} {σ σ' σ'' : L2.St} (a : Only vs σ σ') (b : Only vs σ' σ'') : Only vs σ σ'' := ⟨fun i h => (b.out i h).trans (a.out i h), b.len.trans a.len⟩
theorem Only.mono {vs ws : List Nat} {σ σ' : L2.St} (a : Only vs σ σ') (h : ∀ i ∈ vs, i ∈ ws) : Only ws σ σ' := ⟨fun i n => a.out i fun z => n (h i z), a.len⟩
theorem wipe_at {σ : L2.St} {i : Nat} : ∀ {vs : List Nat}, i ∈ vs → (h : i < σ.length) → (wipe σ vs)[i]? = some none
  | v :: vs, hv, h => by
    show ((wipe σ vs).set v none)[i]? = _
    by_cases e : v = i
    · subst e
      rw [List.getElem?_set_self (by rw [wipe_length]; exact h)]
    · rw [List.getElem?_set_ne e]
      exact wipe_at ((List.mem_cons.mp hv).resolve_left fun z => e z.symm) h
theorem Only.wipe {vs : List Nat} {σ σ' : L2.St} (o : Only vs σ σ') : wipe σ' vs = wipe σ vs := by
  apply List.ext_getElem?
  intro i
  by_cases hi : i ∈ vs
  · by_cases hl : i < σ.length
    · rw [wipe_at hi hl, wipe_at hi (by rw [o.len]; exact hl)]
    · rw [List.getElem?_eq_none (by rw [wipe_length, o.len]; omega), List.getElem?_eq_none (by rw [wipe_length]; omega)]
  · rw [wipe_out hi, wipe_out hi, o.out i hi]
section
variable {K : Frag} {B : BoxPred} {F : Fr} {own : Own} {ρ : Rho} {σ : L2.St} {H : Hp}
theorem slot_none {ρ : Rho} {i : Nat} (h : ρ[i]? = none) : slotAt ρ i = .non := by
  unfold slotAt; rw [h]
/-- a slot takes data -/
theorem Rel.put (R : Rel K B F own ρ σ H) {i : Nat} {v : V} {d : D} (n : notLk (slotAt ρ i) = true) (h : Rz K (F.av own) F.b H v d) : Rel K B F (dropO own i) (ρ.set i (.fz d)) (σ.set i (some v)) H ∧ Less own (dropO own i) := by
  have l : Less own (dropO own i) := ⟨fun _ _ e => (dropO_some e).2⟩
  have hk : Kept (F.av own) H (F.av (dropO own i)) H := l.kept
  refine ⟨?_, l⟩
  exact { R with
    fresh := fun j x e => R.fresh j x (dropO_some e).2
    inj := fun j k x e e2 => R.inj j k x (dropO_some e).2 (dropO_some e2).2
    dom := fun j x e => by
      obtain ⟨q, e⟩ := dropO_some e
      obtain ⟨d', hd⟩ := R.dom j x e
      exact ⟨d', by rw [List.getElem?_set_ne (Ne.symm q)]; exact hd⟩
    fz := fun j d' e => by
      by_cases q : j = i
      · subst q
        by_cases hl : j < ρ.length
        · rw [List.getElem?_set_self hl] at e
          cases e
          exact ⟨v, by rw [List.getElem?_set_self (by rw [← R.len]; exact hl)], h.kept hk⟩
        · rw [List.getElem?_eq_none (by rw [List.length_set]; omega)] at e
          cases e
      · rw [List.getElem?_set_ne (Ne.symm q)] at e
        obtain ⟨v', e2, r⟩ := R.fz j d' e
        exact ⟨v', by rw [List.getElem?_set_ne (Ne.symm q)]; exact e2, r.kept hk⟩
    ow := fun j d' e => by
      by_cases q : j = i
      · subst q
        by_cases hl : j < ρ.length
        · rw [List.getElem?_set_self hl] at e
          rcases e with e | e <;> cases e
        · rw [List.getElem?_eq_none (by rw [List.length_set]; omega)] at e
          rcases e with e | e <;> cases e
      · rw [List.getElem?_set_ne (Ne.symm q)] at e
        obtain ⟨x, e1, e2, c⟩ := R.ow j d' e
        exact ⟨x, by rw [dropO_ne q]; exact e1, by rw [List.getElem?_set_ne (Ne.symm q)]; exact e2, c.kept hk fun _ z => z⟩
    len := by rw [List.length_set, List.length_set]; exact R.len
    ex := fun p hp => (R.ex p hp).kept hk
    lks := fun p hp => by
      obtain ⟨e1, e2⟩ := R.lks p hp
      have q : p.1 ≠ i := fun e => by
        unfold slotAt at n
        rw [← e, e2] at n
        cases n
      exact ⟨by rw [dropO_ne q]; exact e1, by rw [List.getElem?_set_ne (Ne.symm q)]; exact e2⟩
    pvo := fun p hp j e => R.pvo p hp j (dropO_some e).2 }
variable (K B)
def tG (vs : List Nat) (w : WG) : TG := fun v σ H Q => ∃ F own ρ d P, Rel K B F own ρ σ H ∧ Rz K (F.av own) F.b H v d ∧ w d ρ P ∧
  ∀ own' ρ' σ', Rel K B F own' ρ' σ' H → Less own own' → Only vs σ σ' → P ρ' → Q σ' H
def tGs (vs : List Nat) (w : WGs) : TGs := fun xs σ H Q => ∃ F own ρ ds P, Rel K B F own ρ σ H ∧ RzA K (F.av own) F.b H xs ds ∧ w ds ρ P ∧
  ∀ own' ρ' σ', Rel K B F own' ρ' σ' H → Less own own' → Only vs σ σ' → P ρ' → Q σ' H
end
section
variable {X : Cx} {B : BoxPred} {e : Expr} {es : List Expr} {g : WG} {gs : WGs} {vs ws : List Nat} {x : Str} {pos : Pos} {i k : Nat}
theorem pgW {t t' : TG} (h : PG X e t) (i : ∀ v σ H Q, t' v σ H Q → t v σ H Q) : PG X e t' := ⟨fun pins s σ H v u Q I r q => h.run pins s σ H v u Q I r (i v σ H Q q)⟩
theorem pgsW {t t' : TGs} (h : PGs X es t) (i : ∀ v σ H Q, t' v σ H Q → t v σ H Q) : PGs X es t' := ⟨fun pins s σ H v u Q I r q => h.run pins s σ H v u Q I r (i v σ H Q q)⟩
theorem sgName (hN : X.N.Nodup) (hi : X.N[i]? = some x) (hx : Loc X.env.scope x) (hf : X.fn x = true ∨ X.env.scope.names.lookup x = some .local) : PG X (.Name x pos) (tG X.K B [i] (gSet i)) :=
  pgW (pg_name hN hi hx hf) fun v σ H Q h => by
    obtain ⟨F, own, ρ, d, P, R, z, w, kk⟩ := h
    obtain ⟨R', l⟩ := R.put w.1 z
    exact kk _ _ _ R' l ⟨fun j hj => List.getElem?_set_ne fun e => hj (by rw [e]; exact List.mem_cons_self), List.length_set⟩ w.2
theorem sgsNil : PGs X [] (tGs X.K B [] gNilW) := pgsW pgs_nil fun xs σ H Q h => by
  obtain ⟨F, own, ρ, ds, P, R, z, w, kk⟩ := h
  cases ds with
  | nil =>
    cases z
    exact ⟨rfl, kk own ρ σ R Less.refl Only.refl w⟩
  | cons _ _ => exact w.elim
theorem sgsCons (h1 : PG X e (tG X.K B vs g)) (h2 : PGs X es (tGs X.K B ws gs)) (hs : (assignEach (e :: es) X.env).map (·.2) = assign e X.env :: (assignEach es X.env).map (·.2)) : PGs X (e :: es) (tGs X.K B (vs ++ ws) (gConsW g gs)) :=
  pgsW (pgs_cons h1 h2 hs) fun xs σ H Q h => by
    obtain ⟨F, own, ρ, ds, P, R, z, w, kk⟩ := h
    cases z with
    | nil => exact w.elim
    | cons z1 z2 =>
      rename_i v vs' d ds'
      refine ⟨v, vs', rfl, F, own, ρ, d, _, R, z1, w, fun own1 ρ1 σ1 R1 l1 o1 w1 => ⟨F, own1, ρ1, ds', P, R1, z2.kept l1.kept, w1, fun own2 ρ2 σ2 R2 l2 o2 w2 => ?_⟩⟩
      exact kk own2 ρ2 σ2 R2 (l1.trans l2) ((o1.mono fun j hj => List.mem_append_left _ hj).trans (o2.mono fun j hj => List.mem_append_right _ hj)) w2
/-- targets that are names or tuples -/
def tgPlain : Expr → Bool
  | .Name _ _ => true
  | .Tuple _ _ _ => true
  | _ => false
theorem each_len (env : Env) : ∀ es : List Expr, es.all tgPlain = true → (assignEach es env).length = es.length ∧ (assignEach es env).findIdx? (·.1) = none
  | [], _ => ⟨rfl, rfl⟩
  | e :: es, h => by
    rw [List.all_cons, Bool.and_eq_true] at h
    obtain ⟨h1, h2⟩ := each_len env es h.2
    have q : assignEach (e :: es) env = (false, assign e env) :: assignEach es env := by
      cases e <;> first | rfl | (cases h.1)
    rw [q]
    refine ⟨congrArg (· + 1) h1, ?_⟩
    rw [List.findIdx?_cons]
    simp [h2]
theorem each_map (env : Env) (e : Expr) (es : List Expr) (h : tgPlain e = true) : (assignEach (e :: es) env).map (·.2) = assign e env :: (assignEach es env).map (·.2) := by
  cases e <;> first | rfl | (cases h)
theorem sgTup (hc : X.calm = true) (hp : es.all tgPlain = true) (h : PGs X es (tGs X.K B vs gs)) (hl : ∀ ds ρ P, gs ds ρ P → ds.length = es.length) : PG X (.Tuple es k pos) (tG X.K B vs (gTupW gs)) :=
  pgW (pg_tup hc h (each_len X.env es hp).1 (each_len X.env es hp).2) fun v σ H Q h => by
    obtain ⟨F, own, ρ, d, P, R, z, w, kk⟩ := h
    cases d with
    | tup ds =>
      obtain ⟨a, xs, rfl, ea, r⟩ := vw_tup z.vw
      exact ⟨a, xs, rfl, ea.sq, by rw [r.length]; exact hl ds ρ P w, F, own, ρ, ds, P, R, r, w, kk⟩
    | _ => exact w.elim
end

/-! ### what is walked -/
abbrev Lock := Option (Nat × Slot)
abbrev WI := Rho → (List D → Lock → Rho → Prop) → Prop
def unlock (lk : Lock) (ρ : Rho) : Rho := match lk with
  | none => ρ
  | some (i, s) => ρ.set i s
def wSeq (w : WE) : WI := fun ρ P => w ρ fun r ρ1 => match r with
  | .fz d => need (itemsOf d) fun ds => P ds none ρ1
  | .ow d => need (itemsOf d) fun ds => P ds none ρ1
  | .bw i => match slotAt ρ1 i with
    | .fz d => need (itemsOf d) fun ds => P ds none ρ1
    | .ow (.lst ds) => P ds (some (i, .ow (.lst ds))) (ρ1.set i (.lk (.lst ds)))
    | .lk (.lst ds) => P ds (some (i, .lk (.lst ds))) ρ1
    | _ => False
def wRgI (w : WR) : WI := fun ρ P => w ρ fun a b ρ1 => rgOk a b ∧ P (rgD a b) none ρ1
/-- the frame while a loop runs -/
structure FrEq (F F' : Fr) : Prop where
  o0 : F'.O0 = F.O0
  b : F'.b = F.b
  c : F'.c = F.c
  h0 : F'.H0 = F.H0
  p : F'.P = F.P
theorem FrEq.av {F F' : Fr} (e : FrEq F F') (own : Own) : F'.av own = F.av own := by
  unfold Fr.av
  rw [e.o0, e.p]
theorem FrEq.refl {F : Fr} : FrEq F F := ⟨rfl, rfl, rfl, rfl, rfl⟩
/-- an iterator gives the items ds, one after another -/
structure ItOk (K : Frag) (B : BoxPred) (F : Fr) (J : It) (ds : List D) : Prop where
  go : ∀ {own ρ σ H} (i : Nat), Rel K B F own ρ σ H → i < ds.length → J.go i H
  stop : ∀ {own ρ σ H}, Rel K B F own ρ σ H → J.stop ds.length H
  yld : ∀ {own ρ σ H x H'} (i : Nat), Rel K B F own ρ σ H → i < ds.length → J.yld i H x H' → ∃ d, ds[i]? = some d ∧ Rel K B F own ρ σ H' ∧ Kept (F.av own) H (F.av own) H' ∧ Rz K (F.av own) F.b H' x d
def onP (F : Fr) (G : List (Addr × HO)) : Fr := { F with P := G }
def ItAll (K : Frag) (B : BoxPred) (F : Fr) (J : It) (ds : List D) : Prop := ∀ F2 : Fr, (∀ q ∈ F.E, q ∈ F2.E) → (∀ q ∈ F.L, q ∈ F2.L) → ItOk K B F2 J ds
def tIt (K : Frag) (B : BoxPred) (w : WI) : TI := fun σ H S => ∃ F own ρ P, Rel K B F own ρ σ H ∧ w ρ P ∧
  ∀ F' own' ρ' ds lk J H', FrEq F F' → Rel K B F' own' ρ' σ H' → (∀ (G : List (Addr × HO)) own2 ρ2 σ2 H2, Rel K B (onP F' G) own2 ρ2 σ2 H2 → Rel K B (onP F G) own2 (unlock lk ρ2) σ2 H2) → Kept (F.av own) H (F.av own') H' → ItAll K B F' J ds → ds.length ≤ sizeLine → P ds lk ρ' → S J H'
/-- a list or a tuple -/
def iSeq (K : Frag) (tl : TE) : TI := fun σ H S => tl σ H fun x H1 => ∃ a xs, x = .ref a ∧ ((SqL K H1 a xs ∧ (xs.length ≤ sizeLine → S (Itl K a) H1)) ∨ (SqT K H1 a xs ∧ (xs.length ≤ sizeLine → S (Itt K a) H1)))
section
variable {X : Cx} {B : BoxPred} {tg l : Expr} {tl : TE} {w : WE}
theorem piW {t t' : TI} (h : PI X tg l t) (i : ∀ σ H Q, t' σ H Q → t σ H Q) : PI X tg l t' := ⟨fun pins s σ H S I q => h.run pins s σ H S I (i σ H S q)⟩
theorem pi_seq (hl : PE X l tl) : PI X tg l (iSeq X.K tl) := by
  refine ⟨fun pins s σ H S I h => ?_⟩
  refine thn (hl.run pins s σ H _ I h) fun v s1 ⟨x, H1, I1, r1, q1⟩ => ?_
  obtain ⟨a, xs, e, q1⟩ := q1
  subst e
  cases r1
  rcases q1 with ⟨hq, q⟩ | ⟨hq, q⟩
  · obtain ⟨its, rv, p, hz⟩ := I1.list hq
    refine wpAny_pyIter_list p.isList ⟨s1.heap.objs.size, [s1.heap.objs.size], _, _, H1, rfl, I1.kept (t' := s1.toks) fun b o e => Heap.get?_push_of_some _ e, turn_list a _, ⟨_, Heap.get?_push_size _ rfl, rfl, rfl⟩, fun b hb => ?_, q hz⟩
    obtain rfl : b = s1.heap.objs.size := by simpa using hb
    exact I1.fpOk (Nat.le_refl _) (I1.hok.fresh (Nat.le_refl _))
  · obtain ⟨its, rv, p, hz⟩ := I1.tuple hq
    refine wpAny_pyIter_tuple (show s1.heap.IsTuple a its.toArray from p) ⟨s1.heap.objs.size, [s1.heap.objs.size], _, _, H1, rfl, I1.kept (t' := s1.toks) fun b o e => Heap.get?_push_of_some _ e, turn_tuple a _, ⟨_, Heap.get?_push_size _ rfl, rfl, rfl⟩, fun b hb => ?_, q hz⟩
    obtain rfl : b = s1.heap.objs.size := by simpa using hb
    exact I1.fpOk (Nat.le_refl _) (I1.hok.fresh (Nat.le_refl _))
end
section
variable {K : Frag} {B : BoxPred} {F : Fr} {own : Own} {ρ : Rho} {σ : L2.St} {H : Hp}
def addE (F : Fr) (v : V) (d : D) : Fr := { F with E := (v, d) :: F.E }
def addL (F : Fr) (i : Nat) (a : Addr) (d : D) : Fr := { F with L := (i, a, d) :: F.L }
theorem Rel.addE (R : Rel K B F own ρ σ H) {v : V} {d : D} (h : Rz K (F.av own) F.b H v d) : Rel K B (addE F v d) own ρ σ H :=
  { R with
    ex := fun p hp => by
      rcases List.mem_cons.mp hp with rfl | hp
      · exact h
      · exact R.ex p hp }
theorem Rel.dropE {v : V} {d : D} (R : Rel K B (Ip.addE F v d) own ρ σ H) : Rel K B F own ρ σ H :=
  { R with ex := fun p hp => R.ex p (List.mem_cons_of_mem _ hp) }
theorem listIt {a : Addr} {xs : List V} {ds : List D} (h : ∀ {own ρ σ H}, Rel K B F own ρ σ H → ∃ xs, SqL K H a xs ∧ RzA K (F.av own) F.b H xs ds) : ItOk K B F (Itl K a) ds where
  go := fun i R hi => by
    obtain ⟨xs, hs, r⟩ := h R
    have hx : i < xs.length := by rw [r.length]; exact hi
    exact ⟨xs, xs[i], hs, by simp [hx]⟩
  stop := fun R => by
    obtain ⟨xs, hs, r⟩ := h R
    exact ⟨xs, hs, Nat.le_of_eq r.length⟩
  yld := fun i R hi y => by
    obtain ⟨xs, hs, r⟩ := h R
    obtain ⟨e, y⟩ := y
    subst e
    obtain ⟨d, hd, z⟩ := r.atV (y xs hs)
    exact ⟨d, hd, R, Kept.refl, z⟩
theorem tupIt {a : Addr} {ds : List D} (h : ∀ {own ρ σ H}, Rel K B F own ρ σ H → ∃ xs, SqT K H a xs ∧ RzA K (F.av own) F.b H xs ds) : ItOk K B F (Itt K a) ds where
  go := fun i R hi => by
    obtain ⟨xs, hs, r⟩ := h R
    have hx : i < xs.length := by rw [r.length]; exact hi
    exact ⟨xs, xs[i], hs, by simp [hx]⟩
  stop := fun R => by
    obtain ⟨xs, hs, r⟩ := h R
    exact ⟨xs, hs, Nat.le_of_eq r.length⟩
  yld := fun i R hi y => by
    obtain ⟨xs, hs, r⟩ := h R
    obtain ⟨e, y⟩ := y
    subst e
    obtain ⟨d, hd, z⟩ := r.atV (y xs hs)
    exact ⟨d, hd, R, Kept.refl, z⟩
theorem rgIt (i j : Int) : ItOk K B F (Itr i (j - i).toNat) (rgD i j) where
  go := fun k _ hk => by
    have : (rgD i j).length = (j - i).toNat := by unfold rgD; rw [List.length_map, List.length_range]
    show k < (j - i).toNat
    omega
  stop := fun _ => by
    have : (rgD i j).length = (j - i).toNat := by unfold rgD; rw [List.length_map, List.length_range]
    show (j - i).toNat ≤ _
    omega
  yld := fun k R hk y => by
    obtain ⟨e, y⟩ := y
    subst e y
    have : (rgD i j).length = (j - i).toNat := by unfold rgD; rw [List.length_map, List.length_range]
    refine ⟨.int (i + (k : Nat)), ?_, R, Kept.refl, .int _⟩
    unfold rgD
    rw [List.getElem?_map, List.getElem?_range (by omega)]
    rfl
/-- data that is held: what it gives when it is walked -/
theorem Rel.seqIt (R : Rel K B F own ρ σ H) {v : V} {d : D} {ds : List D} {S : It → Hp → Prop} (h : Rz K (F.av own) F.b H v d) (e : itemsOf d = some ds)
    (k : ∀ J, Rel K B (Ip.addE F v d) own ρ σ H → ItAll K B (Ip.addE F v d) J ds → ds.length ≤ sizeLine → S J H) :
    ∃ a xs, v = .ref a ∧ ((SqL K H a xs ∧ (xs.length ≤ sizeLine → S (Itl K a) H)) ∨ (SqT K H a xs ∧ (xs.length ≤ sizeLine → S (Itt K a) H))) := by
  cases d with
  | lst es =>
    cases e
    obtain ⟨a, xs, rfl, ea, r⟩ := h.vw
    refine ⟨a, xs, rfl, .inl ⟨SqL.of ea, fun hl => k _ (R.addE h) (fun F2 hE _ => listIt (xs := xs) fun R' => ?_) (by rw [← r.length]; exact hl)⟩⟩
    obtain ⟨a', xs', e', ea', r'⟩ := (R'.ex _ (hE _ List.mem_cons_self)).vw
    cases e'
    exact ⟨xs', SqL.of ea', r'⟩
  | tup es =>
    cases e
    obtain ⟨a, xs, rfl, ea, r⟩ := vw_tup h.vw
    refine ⟨a, xs, rfl, .inr ⟨ea.sq, fun hl => k _ (R.addE h) (fun F2 hE _ => tupIt fun R' => ?_) (by rw [← r.length]; exact hl)⟩⟩
    obtain ⟨a', xs', e', ea', r'⟩ := vw_tup (R'.ex _ (hE _ List.mem_cons_self)).vw
    cases e'
    exact ⟨xs', ea'.sq, r'⟩
  | _ => cases e
theorem Rel.lock (R : Rel K B F own ρ σ H) {i : Nat} {ds : List D} {s : Slot} (h : ρ[i]? = some s) (hs : s = .ow (.lst ds) ∨ s = .lk (.lst ds)) :
    ∃ a xs, σ[i]? = some (some (.ref a)) ∧ H a = some (.lst xs) ∧ RzA K (F.av own) F.b H xs ds ∧ Rel K B (Ip.addL F i a (.lst ds)) own (ρ.set i (.lk (.lst ds))) σ H ∧
      (∀ (G : List (Addr × HO)) own2 ρ2 σ2 H2, Rel K B (onP (Ip.addL F i a (.lst ds)) G) own2 ρ2 σ2 H2 → Rel K B (onP F G) own2 (ρ2.set i s) σ2 H2) ∧ ItAll K B (Ip.addL F i a (.lst ds)) (Itl K a) ds := by
  have hi : i < ρ.length := (List.getElem?_eq_some_iff.mp h).1
  obtain ⟨a, ha, e, c⟩ := R.ow i (.lst ds) (hs.elim (fun z => .inl (by rw [h, z])) fun z => .inr (by rw [h, z]))
  obtain ⟨o, ea, r⟩ := c
  cases o with
  | lst xs =>
  have r : RzA K (F.av own) F.b H xs ds := r
  refine ⟨a, xs, e, ea, r, ?_, ?_, ?_⟩
  · exact { R with
      dom := fun j x e2 => by
        by_cases q : j = i
        · subst q
          exact ⟨.lst ds, .inr (List.getElem?_set_self hi)⟩
        · rw [List.getElem?_set_ne (Ne.symm q)]
          exact R.dom j x e2
      fz := fun j d' e2 => by
        by_cases q : j = i
        · subst q
          rw [List.getElem?_set_self hi] at e2
          cases e2
        · rw [List.getElem?_set_ne (Ne.symm q)] at e2
          exact R.fz j d' e2
      ow := fun j d' e2 => by
        by_cases q : j = i
        · subst q
          rw [List.getElem?_set_self hi] at e2
          rcases e2 with e2 | e2 <;> cases e2
          exact ⟨a, ha, e, .lst xs, ea, r⟩
        · rw [List.getElem?_set_ne (Ne.symm q)] at e2
          exact R.ow j d' e2
      len := by rw [List.length_set]; exact R.len
      lks := fun p hp => by
        rcases List.mem_cons.mp hp with rfl | hp
        · exact ⟨ha, List.getElem?_set_self hi⟩
        · obtain ⟨e1, e2⟩ := R.lks p hp
          by_cases q : p.1 = i
          · rw [q, h] at e2
            rcases hs with hs | hs
            · rw [hs] at e2; cases e2
            · rw [hs] at e2
              have e3 : D.lst ds = p.2.2 := by injection e2 with e2; injection e2
              exact ⟨e1, by rw [q, List.getElem?_set_self hi, e3]⟩
          · exact ⟨e1, by rw [List.getElem?_set_ne (Ne.symm q)]; exact e2⟩ }
  · intro G own2 ρ2 σ2 H2 R2
    obtain ⟨ha2, hl2⟩ := R2.lks _ List.mem_cons_self
    have ha2 : own2 i = some a := ha2
    have hl2 : ρ2[i]? = some (.lk (.lst ds)) := hl2
    have hi2 : i < ρ2.length := (List.getElem?_eq_some_iff.mp hl2).1
    exact { R2 with
      dom := fun j x e2 => by
        by_cases q : j = i
        · subst q
          rw [List.getElem?_set_self hi2]
          rcases hs with hs | hs
          · exact ⟨.lst ds, .inl (by rw [hs])⟩
          · exact ⟨.lst ds, .inr (by rw [hs])⟩
        · rw [List.getElem?_set_ne (Ne.symm q)]
          exact R2.dom j x e2
      fz := fun j d' e2 => by
        by_cases q : j = i
        · subst q
          rw [List.getElem?_set_self hi2] at e2
          rcases hs with hs | hs <;> (rw [hs] at e2; cases e2)
        · rw [List.getElem?_set_ne (Ne.symm q)] at e2
          exact R2.fz j d' e2
      ow := fun j d' e2 => by
        by_cases q : j = i
        · subst q
          rw [List.getElem?_set_self hi2] at e2
          have ed : d' = .lst ds := by
            rcases hs with hs | hs <;> (rw [hs] at e2; rcases e2 with e2 | e2 <;> cases e2 <;> rfl)
          subst ed
          exact R2.ow j _ (.inr hl2)
        · rw [List.getElem?_set_ne (Ne.symm q)] at e2
          exact R2.ow j d' e2
      len := by rw [List.length_set]; exact R2.len
      ex := fun p hp => R2.ex p hp
      lks := fun p hp => by
        obtain ⟨e1, e2⟩ := R2.lks p (List.mem_cons_of_mem _ hp)
        by_cases q : p.1 = i
        · obtain ⟨_, e0⟩ := R.lks p hp
          rw [q, h] at e0
          exact ⟨e1, by rw [q, List.getElem?_set_self hi2]; exact e0⟩
        · exact ⟨e1, by rw [List.getElem?_set_ne (Ne.symm q)]; exact e2⟩ }
  · refine fun F2 _ hL => listIt (xs := xs) fun {own2 ρ2 σ2 H2} R2 => ?_
    obtain ⟨ha2, hl2⟩ := R2.lks _ (hL _ List.mem_cons_self)
    have ha2 : own2 i = some a := ha2
    obtain ⟨a', e1, _, o', ea', r'⟩ := R2.ow i _ (.inr hl2)
    rw [ha2] at e1
    cases e1
    cases o' with
    | lst xs' => exact ⟨xs', SqL.of ea', r'⟩
    | _ => exact r'.elim
  | _ => exact r.elim
end
section
variable {X : Cx} {B : BoxPred} {tg l : Expr} {w : WE} {wr : WR} {p pos : Pos}
theorem frE {F : Fr} {v : V} {d : D} : FrEq F (Ip.addE F v d) := ⟨rfl, rfl, rfl, rfl, rfl⟩
theorem frL {F : Fr} {i : Nat} {a : Addr} {d : D} : FrEq F (Ip.addL F i a d) := ⟨rfl, rfl, rfl, rfl, rfl⟩
theorem sSeq (he : PE X l (tE X.K B w)) : PI X tg l (tIt X.K B (wSeq w)) :=
  piW (pi_seq he) fun σ H S h => by
    obtain ⟨F, own, ρ, P, R, w, k⟩ := h
    refine ⟨F, own, ρ, _, R, w, fun own1 ρ1 v r H1 R1 k1 s1 w1 => ?_⟩
    have held : ∀ d, Rz X.K (F.av own1) F.b H1 v d → need (itemsOf d) (fun ds => P ds none ρ1) → ∃ a xs, v = .ref a ∧ ((SqL X.K H1 a xs ∧ (xs.length ≤ sizeLine → S (Itl X.K a) H1)) ∨ (SqT X.K H1 a xs ∧ (xs.length ≤ sizeLine → S (Itt X.K a) H1))) := fun d z w2 => by
      obtain ⟨ds, e, w3⟩ := need_of w2
      exact R1.seqIt z e fun J R' it hl => k (Ip.addE F v d) own1 ρ1 ds none J H1 frE R' (fun _ _ _ _ _ R2 => Rel.dropE R2) k1 it hl w3
    cases r with
    | fz d => exact held d s1 w1
    | ow d => exact held d s1.w w1
    | bw i =>
      have s1 : σ[i]? = some (some v) := s1
      have w1 : (match slotAt ρ1 i with
        | .fz d => need (itemsOf d) fun ds => P ds none ρ1
        | .ow (.lst ds) => P ds (some (i, .ow (.lst ds))) (ρ1.set i (.lk (.lst ds)))
        | .lk (.lst ds) => P ds (some (i, .lk (.lst ds))) ρ1
        | _ => False) := w1
      have locked : ∀ (ds : List D) (s : Slot), ρ1[i]? = some s → (s = .ow (.lst ds) ∨ s = .lk (.lst ds)) → P ds (some (i, s)) (ρ1.set i (.lk (.lst ds))) → ∃ a xs, v = .ref a ∧ ((SqL X.K H1 a xs ∧ (xs.length ≤ sizeLine → S (Itl X.K a) H1)) ∨ (SqT X.K H1 a xs ∧ (xs.length ≤ sizeLine → S (Itt X.K a) H1))) := fun ds s h1 h2 w2 => by
        obtain ⟨a, xs, e, ea, r, RL, un, it⟩ := R1.lock h1 h2
        rw [s1] at e
        cases e
        exact ⟨a, xs, rfl, .inl ⟨SqL.of ea, fun hl => k _ own1 _ ds (some (i, s)) _ H1 frL RL un k1 it (by rw [← r.length]; exact hl) w2⟩⟩
      cases q : slotAt ρ1 i with
      | non => simp only [q] at w1
      | fz d =>
        simp only [q] at w1
        obtain ⟨v', e2, z⟩ := R1.fz i d (slot_of q (by intro z; cases z))
        rw [s1] at e2
        cases e2
        exact held d z w1
      | ow d =>
        cases d with
        | lst ds =>
          simp only [q] at w1
          exact locked ds _ (slot_of q (by intro z; cases z)) (.inl rfl) w1
        | _ => simp only [q] at w1
      | lk d =>
        cases d with
        | lst ds =>
          simp only [q] at w1
          have hs := slot_of q (by intro z; cases z)
          refine locked ds _ hs (.inr rfl) ?_
          have hi : i < ρ1.length := (List.getElem?_eq_some_iff.mp hs).1
          have : ρ1.set i (.lk (.lst ds)) = ρ1 := by
            apply List.ext_getElem?
            intro j
            by_cases e : i = j
            · subst e
              rw [List.getElem?_set_self hi, hs]
            · rw [List.getElem?_set_ne e]
          rw [this]
          exact w1
        | _ => simp only [q] at w1
theorem rg_len {i j : Int} (h : rgOk i j) : (rgD i j).length ≤ sizeLine := by
  unfold rgD rgOk at *
  rw [List.length_map, List.length_range, sizeLine_eq]
  omega
theorem sRgI1 {a : Expr} {wa : WE} (hg : Gl X "range") (hm : X.mg "range" = none) (ha : PE X a (tE X.K B wa)) (hs : starEach [a] X.env = (false, eval a X.env) :: starEach [] X.env) : PI X tg (.Call (.Name "range" p) [a] [] pos) (tIt X.K B (wRgI (wRg1 wa))) :=
  piW (pi_range1 hg hm (pa_cons ha pa_nil hs) hs) fun σ H S h => by
    obtain ⟨F, own, ρ, P, R, w, k⟩ := h
    refine ⟨F, own, ρ, _, R, w, fun own1 ρ1 v r H1 R1 k1 s1 w1 => ?_⟩
    obtain ⟨d, e1, w2⟩ := need_of w1
    obtain ⟨n, e2, hok, w3⟩ := need_of w2
    cases asInt_inv e2
    have hb := hok.ok
    refine ⟨n, by rw [vw_int (R1.view s1.w e1)], hb.2.2.1, hb.2.2.2.1, ?_⟩
    have it : ItAll X.K B F (Itr 0 n.toNat) (rgD 0 n) := fun F2 _ _ => by
      have it := rgIt (K := X.K) (B := B) (F := F2) 0 n
      rw [Int.sub_zero] at it
      exact it
    exact k F own1 ρ1 _ none _ H1 FrEq.refl R1 (fun _ _ _ _ _ R2 => R2) k1 it (rg_len hok) w3
theorem sRgI2 {a b : Expr} {wa wb : WE} (hg : Gl X "range") (hm : X.mg "range" = none) (ha : PE X a (tE X.K B wa)) (hb : PE X b (tE X.K B wb)) (hs : starEach [a, b] X.env = (false, eval a X.env) :: starEach [b] X.env) (hs2 : starEach [b] X.env = (false, eval b X.env) :: starEach [] X.env) :
    PI X tg (.Call (.Name "range" p) [a, b] [] pos) (tIt X.K B (wRgI (wRg2 wa wb))) :=
  piW (pi_range2 hg hm (pa_cons ha (pa_cons hb pa_nil hs2) hs) (by rw [hs, hs2]; rfl) hs2) fun σ H S h => by
    obtain ⟨F, own, ρ, P, R, w, k⟩ := h
    refine ⟨F, own, ρ, _, R, w, fun own1 ρ1 v r H1 R1 k1 s1 w1 => ⟨F, own1, ρ1, _, R1, w1, fun own2 ρ2 u r2 H2 R2 k2 s2 w2 => ?_⟩⟩
    obtain ⟨dx, e1, w3⟩ := need_of w2
    obtain ⟨dy, e2, w4⟩ := need_of w3
    obtain ⟨i, e3, w5⟩ := need_of w4
    obtain ⟨j, e4, hok, w6⟩ := need_of w5
    cases asInt_inv e3
    cases asInt_inv e4
    have hb := hok.ok
    refine ⟨i, j, by rw [vw_int (R2.view (s1.w.kept k2) e1), vw_int (R2.view s2.w e2)], ⟨hb.1, hb.2.1, hb.2.2.1, hb.2.2.2.1⟩, ?_⟩
    exact k F own2 ρ2 _ none _ H2 FrEq.refl R2 (fun _ _ _ _ _ R2 => R2) (k1.trans k2) (fun F2 _ _ => rgIt i j) (rg_len hok) w6
end

/-! ### comprehensions -/
def wipeR (ρ : Rho) : List Nat → Rho
  | [] => ρ
  | v :: vs => (wipeR ρ vs).set v .non
/-- none of these is a list of the frame's own -/
def loose (ρ : Rho) (vs : List Nat) : Bool := vs.all fun i => match slotAt ρ i with
  | .ow _ => false
  | .lk _ => false
  | _ => true
def lcGo (g : WG) (ct : WT) (we : WE) (vs : List Nat) (K : List D → Rho → Prop) : List D → List D → Rho → Prop
  | [], acc, ρ => K acc ρ
  | d :: ds, acc, ρ => g d ρ fun ρ2 => ct ρ2 fun b ρ3 => if b = true then we ρ3 fun r ρ4 => need (frz1 ρ4 r) fun q => loose q.2 vs = true ∧ lcGo g ct we vs K ds (acc ++ [q.1]) (wipeR q.2 vs)
    else loose ρ3 vs = true ∧ lcGo g ct we vs K ds acc (wipeR ρ3 vs)
def wYes : WT := fun ρ P => P true ρ
def wLc (wi : WI) (g : WG) (ct : WT) (we : WE) (vs : List Nat) : WE := fun ρ P => wi ρ fun ds lk ρ1 => loose ρ1 vs = true ∧ lcGo g ct we vs (fun acc ρ2 => P (.ow (.lst acc)) (unlock lk (wipeR ρ2 vs))) ds [] (wipeR ρ1 vs)
theorem wipeR_len (ρ : Rho) : ∀ vs : List Nat, (wipeR ρ vs).length = ρ.length
  | [] => rfl
  | v :: vs => by unfold wipeR; rw [List.length_set, wipeR_len ρ vs]
theorem wipeR_out {ρ : Rho} {i : Nat} : ∀ {vs : List Nat}, i ∉ vs → (wipeR ρ vs)[i]? = ρ[i]?
  | [], _ => rfl
  | v :: vs, h => by
    unfold wipeR
    rw [List.getElem?_set_ne fun e => h (by rw [e]; exact List.mem_cons_self)]
    exact wipeR_out fun z => h (List.mem_cons_of_mem _ z)
theorem wipeR_in {ρ : Rho} {i : Nat} : ∀ {vs : List Nat}, i ∈ vs → (wipeR ρ vs)[i]? = some .non ∨ (wipeR ρ vs)[i]? = none
  | v :: vs, h => by
    unfold wipeR
    by_cases e : v = i
    · subst e
      by_cases hl : v < (wipeR ρ vs).length
      · exact .inl (List.getElem?_set_self hl)
      · exact .inr (List.getElem?_eq_none (by rw [List.length_set]; omega))
    · rw [List.getElem?_set_ne e]
      exact wipeR_in ((List.mem_cons.mp h).resolve_left fun z => e z.symm)
theorem loose_at {ρ : Rho} {vs : List Nat} (h : loose ρ vs = true) {i : Nat} (hi : i ∈ vs) (d : D) : ρ[i]? ≠ some (.ow d) ∧ ρ[i]? ≠ some (.lk d) := by
  have q := List.all_eq_true.mp h i hi
  unfold slotAt at q
  constructor <;> (intro e; rw [e] at q; cases q)
section
variable {K : Frag} {B : BoxPred} {F : Fr} {own : Own} {ρ : Rho} {σ σ' : L2.St} {H : Hp}
/-- the slots vs are forgotten: whatever stands there -/
theorem Rel.wipeTo (R : Rel K B F own ρ σ H) {vs : List Nat} (h : loose ρ vs = true) (o : Only vs σ σ') : Rel K B F own (wipeR ρ vs) σ' H :=
  { R with
    dom := fun j x e => by
      obtain ⟨d, hd⟩ := R.dom j x e
      have hj : j ∉ vs := fun z => hd.elim (loose_at h z d).1 (loose_at h z d).2
      exact ⟨d, by rw [wipeR_out hj]; exact hd⟩
    fz := fun j d e => by
      by_cases hj : j ∈ vs
      · rcases wipeR_in (ρ := ρ) hj with q | q <;> (rw [q] at e; cases e)
      · rw [wipeR_out hj] at e
        obtain ⟨v, e2, z⟩ := R.fz j d e
        exact ⟨v, by rw [o.out j hj]; exact e2, z⟩
    ow := fun j d e => by
      by_cases hj : j ∈ vs
      · rcases wipeR_in (ρ := ρ) hj with q | q <;> (rw [q] at e; rcases e with e | e <;> cases e)
      · rw [wipeR_out hj] at e
        obtain ⟨a, e1, e2, c⟩ := R.ow j d e
        exact ⟨a, e1, by rw [o.out j hj]; exact e2, c⟩
    len := by rw [wipeR_len, o.len]; exact R.len
    lks := fun p hp => by
      obtain ⟨e1, e2⟩ := R.lks p hp
      have hj : p.1 ∉ vs := fun z => (loose_at h z _).2 e2
      exact ⟨e1, by rw [wipeR_out hj]; exact e2⟩ }
theorem only_wipe {vs : List Nat} : Only vs σ (wipe σ vs) := ⟨fun _ h => wipe_out h, wipe_length σ vs⟩
theorem Only.symm {vs : List Nat} (o : Only vs σ σ') : Only vs σ' σ := ⟨fun i h => (o.out i h).symm, o.len.symm⟩
/-- the list grows -/
theorem Rel.growP {p : Addr} {xs ys : List V} (R : Rel K B (Ip.addP F p (.lst xs)) own ρ σ H) : Rel K B (Ip.addP F p (.lst ys)) own ρ σ (upd H p (.lst ys)) := by
  have ea : (Ip.addP F p (.lst ys)).av own = (Ip.addP F p (.lst xs)).av own := by rw [av_addP_eq, av_addP_eq]
  obtain ⟨h0, hp, _⟩ := R.pv _ List.mem_cons_self
  have h0 : F.H0 p = none := h0
  have hk : Kept ((Ip.addP F p (.lst xs)).av own) H ((Ip.addP F p (.lst ys)).av own) (upd H p (.lst ys)) := ⟨fun x z => by rw [ea] at z; exact z, fun a o e n => by
    have hne : a ≠ p := fun z => n (by rw [av_addP]; exact .inr z)
    rw [upd_ne hne]; exact e, fun _ => upd_none⟩
  have nb : ∀ {a}, F.O0 a → a ≠ p := fun {a} h z => by
    obtain ⟨o, e, _⟩ := R.there a h
    have e : F.H0 a = some o := e
    rw [z, h0] at e; cases e
  exact { R with
    box := R.good.st R.box (upd_ne (nb R.hb)) (upd_ne (nb R.hc))
    base := fun a o x y e => by
      have hne : a ≠ p := fun z => by
        have e : F.H0 a = some o := e
        rw [z, h0] at e; cases e
      rw [upd_ne hne]; exact R.base a o x y e
    fz := fun i d e => by
      obtain ⟨v, e2, z⟩ := R.fz i d e
      exact ⟨v, e2, z.kept hk⟩
    ow := fun i d e => by
      obtain ⟨a, e1, e2, c⟩ := R.ow i d e
      refine ⟨a, e1, e2, c.kept hk fun o q => ?_⟩
      rw [upd_ne fun z => R.pvo _ List.mem_cons_self i (by rw [e1, z])]
      exact q
    ex := fun q hq => (R.ex q hq).kept hk
    pv := fun q hq => by
      rcases List.mem_cons.mp hq with rfl | hq
      · exact ⟨h0, upd_same, fun _ z => by cases z⟩
      · obtain ⟨e0, e1, nt⟩ := R.pv q (List.mem_cons_of_mem _ hq)
        refine ⟨e0, ?_, nt⟩
        by_cases z : q.1 = p
        · have n := R.pvn
          have n : (p :: F.P.map Prod.fst).Nodup := n
          exact absurd (List.mem_map.mpr ⟨q, hq, z⟩) (List.nodup_cons.mp n).1
        · rw [upd_ne z]; exact e1
    pvo := fun q hq i => by
      rcases List.mem_cons.mp hq with rfl | hq
      · exact R.pvo _ List.mem_cons_self i
      · exact R.pvo q (List.mem_cons_of_mem _ hq) i
    pvn := R.pvn }
end
theorem FrEq.addP {F F' : Fr} (e : FrEq F F') {p : Addr} {xs : HO} (own : Own) : (Ip.addP F' p xs).av own = (Ip.addP F p xs).av own := by
  rw [av_addP_eq, av_addP_eq, e.av]
theorem keptGrow {F : Fr} {own : Own} {H : Hp} {p : Addr} {xs ys o : HO} : Kept ((Ip.addP F p xs).av own) H ((Ip.addP F p ys).av own) (upd H p o) :=
  ⟨fun x z => by rw [av_addP_eq] at z ⊢; exact z, fun a o e n => by rw [upd_ne fun z => n (by rw [av_addP]; exact .inr z)]; exact e, fun _ => upd_none⟩
theorem keptStep {A : ASet} {F : Fr} {o o' : Own} {H0 Ha Hb : Hp} {p : Addr} {as bs : HO} (hk : Kept A H0 (F.av o) Ha) (hD : H0 p = none) (k : Kept ((Ip.addP F p as).av o) Ha ((Ip.addP F p bs).av o') Hb) (n : ¬ F.av o' p) : Kept A H0 (F.av o') Hb := by
  refine ⟨fun a z => ?_, fun a u e na => ?_, fun a e => hk.dom a (k.dom a e)⟩
  · have q := k.sub a (av_addP.mpr (.inl z))
    rw [av_addP] at q
    rcases q with q | q
    · exact hk.sub a q
    · exact absurd (q ▸ z) n
  · refine k.st a u (hk.st a u e na) fun q => ?_
    rw [av_addP] at q
    rcases q with q | q
    · exact na (hk.sub a q)
    · rw [q, hD] at e; cases e
theorem loose_wipe {ρ : Rho} {vs : List Nat} : loose (wipeR ρ vs) vs = true := List.all_eq_true.mpr fun i hi => by
  unfold slotAt
  rcases wipeR_in (ρ := ρ) hi with q | q <;> rw [q]
/-- a comprehension's turns, from item i on -/
theorem lcRed {K : Frag} {B : BoxPred} {A0 : ASet} {F : Fr} {H0 : Hp} {J : It} {ds : List D} {tg : TG} {tc : TT} {te : TE} {vs : List Nat} {σ : L2.St} {p : Addr} {Q : VK} {g : WG} {ct : WT} {we : WE} {Kf : List D → Rho → Prop}
    (itP : ∀ as, ItOk K B (Ip.addP F p (.lst as)) J ds) (hsz : ds.length ≤ sizeLine) (hD : H0 p = none) (hg : ∀ v s H Q, tG K B vs g v s H Q → tg v s H Q) (hc : ∀ s H Q, tT K B ct s H Q → tc s H Q) (he : ∀ s H Q, tE K B we s H Q → te s H Q)
    (fin : ∀ own ρ acc as H, Rel K B (Ip.addP F p (.lst as)) own ρ (wipe σ vs) H → Kept A0 H0 (F.av own) H → RzA K ((Ip.addP F p (.lst as)).av own) F.b H as acc → loose ρ vs = true → Kf acc ρ → Q (.ref p) H)
    {own : Own} {ρ : Rho} {H : Hp} (R : Rel K B (Ip.addP F p (.lst [])) own ρ (wipe σ vs) H) (hk : Kept A0 H0 (F.av own) H) (hl : loose ρ vs = true) (w : lcGo g ct we vs Kf ds [] ρ) :
    ∃ W : Nat → Nat → Hp → Prop, (∃ m, W 0 m H) ∧ ∀ i m H, W i m H →
      (J.stop i H ∧ Q (.ref p) H) ∨ (J.go i H ∧ ∃ Nx : Hp → Prop, (∀ H', Nx H' → ∃ m', m' < m ∧ W (i + 1) m' H') ∧ ∀ x H', J.yld i H x H' → tg x (wipe σ vs) H' fun σ2 H2 => wipe σ2 vs = wipe σ vs ∧ tc σ2 H2 fun b H3 =>
        if b = true then te σ2 H3 fun y H4 => ∃ acc, H4 p = some (.lst acc) ∧ acc.length < sizeLine ∧ Nx (upd H4 p (.lst (acc ++ [y]))) else Nx H3) := by
  let Pv : Nat → Hp → Prop := fun i H => ∃ own ρ acc as, Rel K B (Ip.addP F p (.lst as)) own ρ (wipe σ vs) H ∧ Kept A0 H0 (F.av own) H ∧ RzA K ((Ip.addP F p (.lst as)).av own) F.b H as acc ∧ as.length ≤ i ∧ loose ρ vs = true ∧ lcGo g ct we vs Kf (ds.drop i) acc ρ
  have turn : ∀ i H, i < ds.length → Pv i H → ∀ x H', J.yld i H x H' → tg x (wipe σ vs) H' fun σ2 H2 => wipe σ2 vs = wipe σ vs ∧ tc σ2 H2 fun b H3 =>
        if b = true then te σ2 H3 fun y H4 => ∃ acc, H4 p = some (.lst acc) ∧ acc.length < sizeLine ∧ Pv (i + 1) (upd H4 p (.lst (acc ++ [y]))) else Pv (i + 1) H3 := by
    rintro i H hi ⟨own, ρ, acc, as, R, hk, ra, hal, hl, w⟩ x H' hy
    obtain ⟨d, hd, R1, k1, zx⟩ := (itP as).yld i R hi hy
    have ew : ds.drop i = d :: ds.drop (i + 1) := by
      rw [List.drop_eq_getElem_cons hi]
      congr 1
      rw [List.getElem?_eq_getElem hi] at hd
      exact Option.some.inj hd
    rw [ew] at w
    refine hg _ _ _ _ ⟨Ip.addP F p (.lst as), own, ρ, d, _, R1, zx, w, fun own2 ρ2 σ2 R2 l2 o2 w2 => ⟨o2.wipe.trans (only_wipe (σ := σ)).wipe, ?_⟩⟩
    have k2 : Kept ((Ip.addP F p (.lst as)).av own) H ((Ip.addP F p (.lst as)).av own2) H' := k1.trans l2.kept
    refine hc _ _ _ ⟨Ip.addP F p (.lst as), own2, ρ2, _, R2, w2, fun own3 ρ3 b H3 R3 k3 w3 => ?_⟩
    have k3' := k2.trans k3
    cases b with
    | false =>
      have w3 : loose ρ3 vs = true ∧ lcGo g ct we vs Kf (ds.drop (i + 1)) acc (wipeR ρ3 vs) := w3
      exact ⟨own3, wipeR ρ3 vs, acc, as, R3.wipeTo w3.1 o2.symm, keptStep hk hD k3' R3.dropP.2.2.2, ra.kept k3', Nat.le_succ_of_le hal, loose_wipe, w3.2⟩
    | true =>
      refine he _ _ _ ⟨Ip.addP F p (.lst as), own3, ρ3, _, R3, w3, fun own4 ρ4 y r H4 R4 k4 s4 w4 => ?_⟩
      obtain ⟨⟨d', ρ5⟩, e5, hl5, w5⟩ := need_of w4
      obtain ⟨own5, R5, l5, _, z5⟩ := R4.frz1 s4.w e5
      have k5 := (k3'.trans k4).trans l5.kept
      refine ⟨as, R5.dropP.2.1, by omega, own5, wipeR ρ5 vs, acc ++ [d'], as ++ [y], (R5.growP (ys := as ++ [y])).wipeTo hl5 o2.symm, ?_, ?_, by rw [List.length_append]; exact Nat.succ_le_succ hal, loose_wipe, w5⟩
      · exact keptStep (bs := .lst (as ++ [y])) hk hD (k5.trans keptGrow) R5.dropP.2.2.2
      · exact (ra.kept (k5.trans keptGrow)).append (.cons (z5.kept keptGrow) .nil)
  refine ⟨fun i m H => m = ds.length - i ∧ i ≤ ds.length ∧ Pv i H, ⟨ds.length, by simp, Nat.zero_le _, own, ρ, [], [], R, hk, .nil, Nat.le_refl _, hl, w⟩, ?_⟩
  rintro i m H ⟨rfl, hi, pi⟩
  by_cases hlt : i < ds.length
  · obtain ⟨own', ρ', acc', as', R', rest⟩ := id pi
    exact .inr ⟨(itP as').go i R' hlt, Pv (i + 1), fun H' p' => ⟨ds.length - (i + 1), by omega, rfl, hlt, p'⟩, turn i H hlt pi⟩
  · obtain ⟨own', ρ', acc', as', R', hk', ra', hal', hl', w'⟩ := pi
    obtain rfl : i = ds.length := by omega
    rw [List.drop_length] at w'
    exact .inl ⟨(itP as').stop R', fin own' ρ' acc' as' H R' hk' ra' hl' w'⟩
theorem lcIn {K : Frag} {B : BoxPred} {vs : List Nat} {σ : L2.St} {H : Hp} {Q : VK} {wi : WI} {g : WG} {ct : WT} {we : WE} (h : tE K B (wLc wi g ct we vs) σ H Q) : tLc (tIt K B wi) (tG K B vs g) (tT K B ct) (tE K B we) vs σ H Q := by
  obtain ⟨F, own, ρ, P, R, w, k⟩ := h
  refine ⟨F, own, ρ, _, R, w, fun F' own1 ρ1 ds lk J H1 eq R1 un k1 it hl w1 p hp => ?_⟩
  obtain ⟨hlo, w1⟩ := w1
  have R2 := (R1.born (R1.new hp) hp (Kept.new hp) (own_upd R1 hp) (upd_same (o := .lst [])) fun _ z => by cases z).wipeTo hlo (only_wipe (σ := σ) (vs := vs))
  refine lcRed (F := F') (H0 := H) (A0 := F.av own) (fun as => it _ (fun _ h => h) fun _ h => h) hl (k1.dom p hp) (fun _ _ _ _ h => h) (fun _ _ _ h => h) (fun _ _ _ h => h) (fun own2 ρ2 acc as H2 R3 k3 ra hl2 w2 => ?_) R2 (by rw [eq.av]; exact k1.trans (Kept.new hp)) loose_wipe w1
  obtain ⟨R4, e4, h0, n4⟩ := R3.dropP
  have R5 : Rel K B (Ip.addP F p (.lst as)) own2 (unlock lk (wipeR ρ2 vs)) σ H2 := by
    have q := un ((p, .lst as) :: F'.P) own2 _ _ _ (R3.wipeTo hl2 (only_wipe (σ := σ) (vs := vs)).symm)
    rw [eq.p] at q
    exact q
  rw [eq.av] at k3
  refine k own2 _ (.ref p) (.ow (.lst acc)) H2 R5.dropP.1 k3 ⟨p, .lst as, rfl, R5, ?_⟩ w2
  rw [eq.addP, eq.b] at ra
  exact ra
section
variable {X : Cx} {B : BoxPred} {elt tg iter : Expr} {ifs : List Expr} {scope : Scope} {own : List (Str × Nat)} {pos : Pos} {wi : WI} {g : WG} {ct : WT} {we : WE}
theorem ptsW {t t' : TT} (h : PTs X ifs t) (i : ∀ σ H Q, t' σ H Q → t σ H Q) : PTs X ifs t' := ⟨fun pins s σ H Q I q => h.run pins s σ H Q I (i σ H Q q)⟩
theorem sYes : PTs X [] (tT X.K B wYes) := ptsW pts_nil fun σ H Q h => by
  obtain ⟨F, own, ρ, P, R, w, k⟩ := h
  exact k own ρ true H R Kept.refl w
theorem sIfs {c : Expr} {t : WT} (h : PT X c (tT X.K B t)) : PTs X [c] (tT X.K B t) := pts_one h
theorem sLc (hc : X.calm = true) (hN : X.N.Nodup) (hi : PI X tg iter (tIt X.K B wi)) (ok : BlkOk X.N X.env.scope scope own)
    (hg : ∀ (s : Shared) (H : Hp) (C : Addr) (cl : List (Str × Addr)) (fp : List Addr), PG (X.blk s H scope (compEnvC scope cl C X.env) fp) tg (tG X.K B (own.map (·.2)) g))
    (ht : ∀ (s : Shared) (H : Hp) (C : Addr) (cl : List (Str × Addr)) (fp : List Addr), PTs (X.blk s H scope (compEnvC scope cl C X.env) fp) ifs (tT X.K B ct))
    (he : ∀ (s : Shared) (H : Hp) (C : Addr) (cl : List (Str × Addr)) (fp : List Addr), PE (X.blk s H scope (compEnvC scope cl C X.env) fp) elt (tE X.K B we)) (hs : ∀ x, foldedSetIterable iter X.env x = pure x) :
    PE X (.ListComp elt [⟨tg, iter, ifs, 0⟩] scope pos) (tE X.K B (wLc wi g ct we (own.map (·.2)))) :=
  peW (pe_lc hc hN hi ok hg ht he hs) fun σ H Q h => lcIn h
end
end Ip

set_option Elab.async false
set_option linter.all false
set_option maxRecDepth 100000
set_option maxHeartbeats 2000000
set_option autoImplicit false
/-! Ip10: statements -/
namespace Ip
open PySem L2

structure WEnds where
  nx : Rho → Prop
  rt : Res → Prop
  bk : Rho → Prop := fun _ => False
  ct : Rho → Prop := fun _ => False
abbrev WS := WEnds → Rho → Prop
def tS (K : Frag) (B : BoxPred) (w : WS) : TS := fun D σ H => ∃ F own ρ E, F.P = [] ∧ Rel K B F own ρ σ H ∧ w E ρ ∧
  (∀ own' ρ' σ' H', Rel K B F own' ρ' σ' H' → E.nx ρ' → D.nx σ' H') ∧ (∀ own' ρ' σ' H', Rel K B F own' ρ' σ' H' → E.bk ρ' → D.bk σ' H') ∧
  (∀ own' ρ' σ' H', Rel K B F own' ρ' σ' H' → E.ct ρ' → D.ct σ' H') ∧ ∀ v r H', Ret K B F H' v r → E.rt r → D.rt v H'
def wSkip : WS := fun E ρ => E.nx ρ
def wSeqS (a b : WS) : WS := fun E ρ => a { E with nx := b E } ρ
def wBreak : WS := fun E ρ => E.bk ρ
def wCont : WS := fun E ρ => E.ct ρ
def wDrop (w : WE) : WS := fun E ρ => w ρ fun _ ρ1 => E.nx ρ1
def retRes (ρ : Rho) : Res → Option Res
  | .fz d => some (.fz d)
  | .ow d => some (.ow d)
  | .bw i => match slotAt ρ i with
    | .fz d => some (.fz d)
    | .ow d => some (.ow d)
    | .lk d => some (.ow d)
    | .non => none
def wRet (w : WE) : WS := fun E ρ => w ρ fun r ρ1 => need (retRes ρ1 r) fun r' => E.rt r'
def wRetN : WS := fun E _ => E.rt (.fz .non)
def wIfS (t : WT) (a b : WS) : WS := fun E ρ => t ρ fun k ρ1 => if k = true then a E ρ1 else b E ρ1
def setRes (ρ : Rho) (r : Res) : Option (Slot × Rho) := match r with
  | .fz d => some (.fz d, ρ)
  | .ow d => some (.ow d, ρ)
  | .bw j => match frz1 ρ (.bw j) with
    | some (d, ρ') => some (.fz d, ρ')
    | none => none
def wSet (i : Nat) (w : WE) : WS := fun E ρ => w ρ fun r ρ1 => need (setRes ρ1 r) fun q => notLk (slotAt q.2 i) = true ∧ i < q.2.length ∧ E.nx (q.2.set i q.1)
def wAsg (g : WG) (w : WE) : WS := fun E ρ => w ρ fun r ρ1 => need (frz1 ρ1 r) fun q => g q.1 q.2 E.nx
def forGo (g : WG) (body : WS) (nx : Rho → Prop) (rt : Res → Prop) : List D → Rho → Prop
  | [], ρ => nx ρ
  | d :: ds, ρ => g d ρ fun ρ2 => body ⟨forGo g body nx rt ds, rt, nx, forGo g body nx rt ds⟩ ρ2
def wFor (wi : WI) (g : WG) (body : WS) : WS := fun E ρ => wi ρ fun ds lk ρ1 => forGo g body (fun ρ2 => E.nx (unlock lk ρ2)) E.rt ds ρ1
def whGo (t : WT) (body : WS) (nx : Rho → Prop) (rt : Res → Prop) : Nat → Rho → Prop
  | 0, _ => False
  | n + 1, ρ => t ρ fun k ρ1 => if k = true then body ⟨whGo t body nx rt n, rt, nx, whGo t body nx rt n⟩ ρ1 else nx ρ1
def wWhile (t : WT) (body : WS) : WS := fun E ρ => ∃ n, whGo t body E.nx E.rt n ρ
/-- x.append(e), x.extend(e), x.pop(e), x.pop(), an own list's -/
def ownL (ρ : Rho) (i : Nat) : Option (List D) := match slotAt ρ i with
  | .ow (.lst ds) => some ds
  | _ => none
def wAppend (i : Nat) (w : WE) : WE := fun ρ P => need (ownL ρ i) fun _ => w ρ fun r ρ1 => need (frz1 ρ1 r) fun q => need (ownL q.2 i) fun ds => ds.length < lim ∧ P (.fz .non) (q.2.set i (.ow (.lst (ds ++ [q.1]))))
def wExtend (i : Nat) (w : WE) : WE := fun ρ P => need (ownL ρ i) fun _ => w ρ fun r ρ1 => need (r.data ρ1) fun d => match d with
  | .lst es => need (ownL ρ1 i) fun ds => ds.length + es.length ≤ lim ∧ P (.fz .non) (ρ1.set i (.ow (.lst (ds ++ es))))
  | _ => False
def wPopAt (i : Nat) (w : WE) : WE := fun ρ P => need (ownL ρ i) fun _ => w ρ fun r ρ1 => need (r.data ρ1) fun d => need (asInt d) fun k => need (ownL ρ1 i) fun ds => ds.length ≤ lim ∧ need (ixN ds.length k) fun j => need ds[j]? fun e => P (.fz e) (ρ1.set i (.ow (.lst (ds.eraseIdx j))))
def wPop (i : Nat) : WE := fun ρ P => need (ownL ρ i) fun ds => need ds[ds.length - 1]? fun e => P (.fz e) (ρ.set i (.ow (.lst ds.dropLast)))
def wSetIx (i : Nat) (wk we : WE) : WS := fun E ρ => we ρ fun r ρ1 => need (frz1 ρ1 r) fun q => need (ownL q.2 i) fun _ => wk q.2 fun rk ρ3 => need (rk.data ρ3) fun dk => need (asInt dk) fun k => need (ownL ρ3 i) fun ds => need (ixN ds.length k) fun j => E.nx (ρ3.set i (.ow (.lst (ds.set j q.1))))
def wAugI (i : Nat) (f : Int → Int → Int) (w : WE) : WS := fun E ρ => match slotAt ρ i with
  | .fz (.int a) => w ρ fun r ρ1 => need (r.data ρ1) fun d => need (asInt d) fun b => notLk (slotAt ρ1 i) = true ∧ i < ρ1.length ∧ E.nx (ρ1.set i (.fz (.int (f a b))))
  | _ => False

section
variable {K : Frag} {B : BoxPred} {F : Fr} {own : Own} {ρ : Rho} {σ : L2.St} {H : Hp}
theorem av0 {F : Fr} (hp : F.P = []) {a : Addr} (h : F.av noOwn a) : F.O0 a := by
  rcases h with h | ⟨i, h⟩ | ⟨o, h⟩
  · exact h
  · cases h
  · rw [hp] at h; cases h
theorem Rel.retOk (R : Rel K B F own ρ σ H) (hp : F.P = []) {v : V} {r r' : Res} (s : Rs K B F own ρ σ H v r) (e : retRes ρ r = some r') : Ret K B F H v r' := by
  refine ⟨R.box, R.base, ?_⟩
  have less : ∀ a, F.av noOwn a → F.av own a := fun a z => .inl (av0 hp z)
  cases r with
  | fz d =>
    cases e
    exact Rz.kept (kept_less less) s
  | ow d =>
    cases e
    obtain ⟨a, o, e1, RP, c⟩ := s
    obtain ⟨_, ea, h0, _⟩ := RP.dropP
    refine ⟨a, o, e1, h0, ea, c.kept (kept_less fun x z => ?_)⟩
    rw [av_addP]
    exact z.elim (fun z => .inl (less x z)) .inr
  | bw i =>
    have s : σ[i]? = some (some v) := s
    have e : (match slotAt ρ i with
      | .fz d => some (Res.fz d)
      | .ow d => some (Res.ow d)
      | .lk d => some (Res.ow d)
      | .non => none) = some r' := e
    have own_ : ∀ d, (ρ[i]? = some (.ow d) ∨ ρ[i]? = some (.lk d)) → Rr K F H v (.ow d) := fun d hs => by
      obtain ⟨a, ha, e2, o, eo, c⟩ := R.ow i d hs
      rw [s] at e2
      cases e2
      refine ⟨a, o, rfl, R.fresh i a ha, eo, c.kept (kept_less fun x z => ?_)⟩
      rcases z with z | z
      · exact less x z
      · exact .inr (.inl ⟨i, by rw [z]; exact ha⟩)
    cases q : slotAt ρ i with
    | non => rw [q] at e; cases e
    | fz d =>
      rw [q] at e
      cases e
      obtain ⟨v', e2, z⟩ := R.fz i d (slot_of q (by intro z; cases z))
      rw [s] at e2
      cases e2
      exact Rz.kept (kept_less less) z
    | ow d =>
      rw [q] at e
      cases e
      exact own_ d (.inl (slot_of q (by intro z; cases z)))
    | lk d =>
      rw [q] at e
      cases e
      exact own_ d (.inr (slot_of q (by intro z; cases z)))
def setO (own : Own) (i : Nat) (a : Addr) : Own := fun j => if j = i then some a else own j
/-- a slot takes a new list -/
theorem Rel.putO {a : Addr} {o : HO} {d : D} {i : Nat} (R : Rel K B (addP F a o) own ρ σ H) (c : Cn K ((addP F a o).av own) F.b H o d) (n : notLk (slotAt ρ i) = true) (hi : i < ρ.length) : Rel K B F (setO own i a) (ρ.set i (.ow d)) (σ.set i (some (.ref a))) H := by
  have hso : ∀ {j x}, setO own i a j = some x → (j = i ∧ x = a) ∨ (j ≠ i ∧ own j = some x) := fun {j x} h => by
    unfold setO at h
    by_cases q : j = i
    · rw [if_pos q] at h; exact .inl ⟨q, (Option.some.inj h).symm⟩
    · rw [if_neg q] at h; exact .inr ⟨q, h⟩
  obtain ⟨h0, ea, nt⟩ := R.pv _ List.mem_cons_self
  have h0 : F.H0 a = none := h0
  have ea : H a = some o := ea
  have hk : Kept ((addP F a o).av own) H (F.av (setO own i a)) H := kept_less fun x z => by
    rw [av_addP]
    rcases z with z | ⟨j, z⟩ | z
    · exact .inl (.inl z)
    · rcases hso z with ⟨_, z⟩ | ⟨_, z⟩
      · exact .inr z
      · exact .inl (.inr (.inl ⟨j, z⟩))
    · exact .inl (.inr (.inr z))
  have pvo : ∀ j, own j ≠ some a := R.pvo _ List.mem_cons_self
  have hσ : i < σ.length := by rw [← R.len]; exact hi
  exact { R with
    fresh := fun j x e => by
      rcases hso e with ⟨_, z⟩ | ⟨_, z⟩
      · rw [z]; exact h0
      · exact R.fresh j x z
    inj := fun j k x e1 e2 => by
      rcases hso e1 with ⟨q1, z1⟩ | ⟨q1, z1⟩
      · rcases hso e2 with ⟨q2, z2⟩ | ⟨q2, z2⟩
        · rw [q1, q2]
        · exact absurd (by rw [z2, z1]) (pvo k)
      · rcases hso e2 with ⟨q2, z2⟩ | ⟨q2, z2⟩
        · exact absurd (by rw [z1, z2]) (pvo j)
        · exact R.inj j k x z1 z2
    dom := fun j x e => by
      rcases hso e with ⟨q, _⟩ | ⟨q, z⟩
      · subst q
        exact ⟨d, .inl (List.getElem?_set_self hi)⟩
      · obtain ⟨d', hd⟩ := R.dom j x z
        exact ⟨d', by rw [List.getElem?_set_ne (Ne.symm q)]; exact hd⟩
    fz := fun j d' e => by
      by_cases q : j = i
      · subst q
        rw [List.getElem?_set_self hi] at e
        cases e
      · rw [List.getElem?_set_ne (Ne.symm q)] at e
        obtain ⟨v, e2, z⟩ := R.fz j d' e
        exact ⟨v, by rw [List.getElem?_set_ne (Ne.symm q)]; exact e2, z.kept hk⟩
    ow := fun j d' e => by
      by_cases q : j = i
      · subst q
        rw [List.getElem?_set_self hi] at e
        rcases e with e | e <;> cases e
        exact ⟨a, if_pos rfl, List.getElem?_set_self hσ, o, ea, c.kept hk⟩
      · rw [List.getElem?_set_ne (Ne.symm q)] at e
        obtain ⟨x, e1, e2, c2⟩ := R.ow j d' e
        exact ⟨x, by unfold setO; rw [if_neg q]; exact e1, by rw [List.getElem?_set_ne (Ne.symm q)]; exact e2, c2.kept hk fun _ z => z⟩
    len := by rw [List.length_set, List.length_set]; exact R.len
    ex := fun p hp => (R.ex p hp).kept hk
    lks := fun p hp => by
      obtain ⟨e1, e2⟩ := R.lks p hp
      have q : p.1 ≠ i := fun e => by
        unfold slotAt at n
        rw [← e, e2] at n
        cases n
      exact ⟨by unfold setO; rw [if_neg q]; exact e1, by rw [List.getElem?_set_ne (Ne.symm q)]; exact e2⟩
    pv := fun p hp => R.pv p (List.mem_cons_of_mem _ hp)
    pvo := fun p hp j e => by
      rcases hso e with ⟨_, z⟩ | ⟨_, z⟩
      · have n : (a :: F.P.map Prod.fst).Nodup := R.pvn
        exact (List.nodup_cons.mp n).1 (List.mem_map.mpr ⟨p, hp, z⟩)
      · exact R.pvo p (List.mem_cons_of_mem _ hp) j z
    pvn := (List.nodup_cons.mp R.pvn).2 }
theorem Rel.setOk (R : Rel K B F own ρ σ H) {v : V} {r : Res} {s : Slot} {ρ' : Rho} {i : Nat} (h : Rs K B F own ρ σ H v r) (e : setRes ρ r = some (s, ρ')) (n : notLk (slotAt ρ' i) = true) (hi : i < ρ'.length) : ∃ own', Rel K B F own' (ρ'.set i s) (σ.set i (some v)) H := by
  cases r with
  | fz d =>
    cases e
    exact ⟨_, (R.put n h).1⟩
  | ow d =>
    cases e
    obtain ⟨a, o, rfl, RP, c⟩ := h
    exact ⟨_, RP.putO c n hi⟩
  | bw j =>
    have e : (match Ip.frz1 ρ (.bw j) with
      | some (d, ρ') => some (Slot.fz d, ρ')
      | none => none) = some (s, ρ') := e
    cases q : Ip.frz1 ρ (.bw j) with
    | none => rw [q] at e; cases e
    | some p =>
      obtain ⟨d, ρ2⟩ := p
      rw [q] at e
      cases e
      obtain ⟨own', R', l, _, z⟩ := R.frz1 h.w q
      exact ⟨_, (R'.put n z).1⟩
/-- an own object changes -/
theorem Rel.mutO (R : Rel K B F own ρ σ H) {i : Nat} {a : Addr} {d d' : D} {o : HO} (h : ρ[i]? = some (.ow d)) (ha : own i = some a) (c : Cn K (F.av own) F.b (upd H a o) o d') :
    Rel K B F own (ρ.set i (.ow d')) σ (upd H a o) ∧ Kept (F.av own) H (F.av own) (upd H a o) := by
  have hav : F.av own a := .inr (.inl ⟨i, ha⟩)
  have hk : Kept (F.av own) H (F.av own) (upd H a o) := ⟨fun _ z => z, fun x u e n => by rw [upd_ne fun z => n (by rw [z]; exact hav)]; exact e, fun _ => upd_none⟩
  have hi : i < ρ.length := (List.getElem?_eq_some_iff.mp h).1
  have h0 := R.fresh i a ha
  have nO : ∀ {x}, F.O0 x → x ≠ a := fun {x} hx z => R.notb (a := a) (by rw [← z]; exact hx) i ha
  refine ⟨{ R with
    box := R.good.st R.box (upd_ne (nO R.hb)) (upd_ne (nO R.hc))
    base := fun x u n1 n2 e => by
      have : x ≠ a := fun z => by rw [z, h0] at e; cases e
      rw [upd_ne this]
      exact R.base x u n1 n2 e
    dom := fun j x e => by
      by_cases q : j = i
      · subst q
        exact ⟨d', .inl (List.getElem?_set_self hi)⟩
      · rw [List.getElem?_set_ne (Ne.symm q)]
        exact R.dom j x e
    fz := fun j d2 e => by
      by_cases q : j = i
      · subst q
        rw [List.getElem?_set_self hi] at e
        cases e
      · rw [List.getElem?_set_ne (Ne.symm q)] at e
        obtain ⟨v, e2, z⟩ := R.fz j d2 e
        exact ⟨v, e2, z.kept hk⟩
    ow := fun j d2 e => by
      by_cases q : j = i
      · subst q
        rw [List.getElem?_set_self hi] at e
        rcases e with e | e <;> cases e
        obtain ⟨a', e1, e2, _⟩ := R.ow j d (.inl h)
        rw [ha] at e1
        cases e1
        exact ⟨a, ha, e2, o, upd_same, c⟩
      · rw [List.getElem?_set_ne (Ne.symm q)] at e
        obtain ⟨x, e1, e2, c2⟩ := R.ow j d2 e
        refine ⟨x, e1, e2, c2.kept hk fun u z => ?_⟩
        rw [upd_ne fun y => q (R.inj j i a (by rw [e1, y]) ha)]
        exact z
    len := by rw [List.length_set]; exact R.len
    ex := fun p hp => (R.ex p hp).kept hk
    lks := fun p hp => by
      obtain ⟨e1, e2⟩ := R.lks p hp
      have q : p.1 ≠ i := fun e => by rw [e, h] at e2; cases e2
      exact ⟨e1, by rw [List.getElem?_set_ne (Ne.symm q)]; exact e2⟩
    pv := fun p hp => by
      obtain ⟨e0, e1, nt⟩ := R.pv p hp
      refine ⟨e0, ?_, nt⟩
      rw [upd_ne fun z => R.pvo p hp i (by rw [z]; exact ha)]
      exact e1 }, hk⟩
theorem ownL_inv {i : Nat} {ds : List D} (h : ownL ρ i = some ds) : ρ[i]? = some (.ow (.lst ds)) := by
  unfold ownL at h
  cases q : slotAt ρ i with
  | ow d =>
    rw [q] at h
    cases d with
    | lst es =>
      cases h
      exact slot_of q (by intro z; cases z)
    | _ => cases h
  | _ => rw [q] at h; cases h
/-- an own list: where it stands -/
theorem Rel.ownAt (R : Rel K B F own ρ σ H) {i : Nat} {ds : List D} (h : ownL ρ i = some ds) : ∃ a xs, own i = some a ∧ σ[i]? = some (some (.ref a)) ∧ H a = some (.lst xs) ∧ RzA K (F.av own) F.b H xs ds := by
  obtain ⟨a, e1, e2, o, eo, c⟩ := R.ow i _ (.inl (ownL_inv h))
  cases o with
  | lst xs => exact ⟨a, xs, e1, e2, eo, c⟩
  | _ => exact c.elim
/-- an own list takes other items -/
theorem Rel.mutL (R : Rel K B F own ρ σ H) {i : Nat} {a : Addr} {ds es : List D} {ys : List V} (h : ownL ρ i = some ds) (ha : own i = some a) (r : RzA K (F.av own) F.b H ys es) :
    Rel K B F own (ρ.set i (.ow (.lst es))) σ (upd H a (.lst ys)) ∧ Kept (F.av own) H (F.av own) (upd H a (.lst ys)) := by
  have hk : Kept (F.av own) H (F.av own) (upd H a (.lst ys)) := ⟨fun _ z => z, fun x u e n => by rw [upd_ne fun z => n (by rw [z]; exact .inr (.inl ⟨i, ha⟩))]; exact e, fun _ => upd_none⟩
  exact R.mutO (ownL_inv h) ha (RzA.kept hk r)
end
end Ip

set_option Elab.async false
set_option linter.all false
set_option maxRecDepth 100000
set_option maxHeartbeats 2000000
set_option autoImplicit false
/-! Ip11: statements are sound -/
namespace Ip
open PySem L2

theorem FrEq.ret {K : Frag} {B : BoxPred} {F F' : Fr} (e : FrEq F F') {H : Hp} {v : V} {r : Res} (h : Ret K B F' H v r) : Ret K B F H v r := by
  obtain ⟨o0, b, c, h0, E, L, P⟩ := F
  obtain ⟨o0', b', c', h0', E', L', P'⟩ := F'
  obtain ⟨e1, e2, e3, e4, e5⟩ := e
  cases e1; cases e2; cases e3; cases e4; cases e5
  exact ⟨h.box, h.base, h.rs⟩
section
variable {X : Cx} {B : BoxPred} {st : Stmt} {rest a b : List Stmt} {e c k : Expr} {w we wk : WE} {t : WT} {ws wb : WS} {pos : Pos} {i j : Nat} {x y : Str}
theorem psW {t t' : TS} (h : PS X st t) (i : ∀ D σ H, t' D σ H → t D σ H) : PS X st t' := ⟨fun pins s σ H D I q => h.run pins s σ H D I (i D σ H q)⟩
theorem pssW {t t' : TS} (h : PSs X rest t) (i : ∀ D σ H, t' D σ H → t D σ H) : PSs X rest t' := ⟨fun pins s σ H D I q => h.run pins s σ H D I (i D σ H q)⟩
theorem next_ {D : Ends} {σ : L2.St} {H : Hp} (h : tS X.K B wSkip D σ H) : tNext D σ H := by
  obtain ⟨F, own, ρ, E, hp, R, w, kn, kb, kc, kr⟩ := h
  exact kn own ρ σ H R w
theorem sssNil : PSs X [] (tS X.K B wSkip) := pssW pss_nil fun _ _ _ => next_
theorem ssPass : PS X (.Pass pos) (tS X.K B wSkip) := psW ps_pass fun _ _ _ => next_
theorem ssDoc {x : Str} {j : Int} {p1 p2 : Pos} {jj} : PS X (.Expr (.Constant (.str x) jj p1) p2) (tS X.K B wSkip) := psW ps_doc fun _ _ _ => next_
theorem ssBreak : PS X (.Break pos) (tS X.K B wBreak) := psW ps_break fun D σ H h => by
  obtain ⟨F, own, ρ, E, hp, R, w, kn, kb, kc, kr⟩ := h
  exact kb own ρ σ H R w
theorem ssCont : PS X (.Continue pos) (tS X.K B wCont) := psW ps_continue fun D σ H h => by
  obtain ⟨F, own, ρ, E, hp, R, w, kn, kb, kc, kr⟩ := h
  exact kc own ρ σ H R w
theorem sssCons (h1 : PS X st (tS X.K B ws)) (h2 : PSs X rest (tS X.K B wb)) : PSs X (st :: rest) (tS X.K B (wSeqS ws wb)) := pssW (pss_cons h1 h2) fun D σ H h => by
  obtain ⟨F, own, ρ, E, hp, R, w, kn, kb, kc, kr⟩ := h
  exact ⟨F, own, ρ, _, hp, R, w, fun own1 ρ1 σ1 H1 R1 w1 => ⟨F, own1, ρ1, E, hp, R1, w1, kn, kb, kc, kr⟩, kb, kc, kr⟩
theorem ssDrop (he : PE X e (tE X.K B w)) (hs : swapsWith e none pos.line X.env = pure false := by rfl) : PS X (.Expr e pos) (tS X.K B (wDrop w)) := psW (ps_expr he hs) fun D σ H h => by
  obtain ⟨F, own, ρ, E, hp, R, w, kn, kb, kc, kr⟩ := h
  exact ⟨F, own, ρ, _, R, w, fun own1 ρ1 v r H1 R1 k1 s1 w1 => kn own1 ρ1 σ H1 R1 w1⟩
theorem ssRet (he : PE X e (tE X.K B w)) : PS X (.Return (some e) pos) (tS X.K B (wRet w)) := psW (ps_ret he) fun D σ H h => by
  obtain ⟨F, own, ρ, E, hp, R, w, kn, kb, kc, kr⟩ := h
  refine ⟨F, own, ρ, _, R, w, fun own1 ρ1 v r H1 R1 k1 s1 w1 => ?_⟩
  obtain ⟨r', e1, w2⟩ := need_of w1
  exact kr v r' H1 (R1.retOk hp s1 e1) w2
theorem ssRetN : PS X (.Return none pos) (tS X.K B wRetN) := psW ps_retN fun D σ H h => by
  obtain ⟨F, own, ρ, E, hp, R, w, kn, kb, kc, kr⟩ := h
  exact kr .non (.fz .non) H (R.retOk hp (r := .fz .non) (r' := .fz .non) .non rfl) w
theorem ssIf (hc : PT X c (tT X.K B t)) (ha : PSs X a (tS X.K B ws)) (hb : PSs X b (tS X.K B wb)) : PS X (.If c a b pos) (tS X.K B (wIfS t ws wb)) := psW (ps_if hc ha hb) fun D σ H h => by
  obtain ⟨F, own, ρ, E, hp, R, w, kn, kb, kc, kr⟩ := h
  refine ⟨F, own, ρ, _, R, w, fun own1 ρ1 z H1 R1 k1 w1 => ?_⟩
  cases z with
  | true => exact ⟨F, own1, ρ1, E, hp, R1, w1, kn, kb, kc, kr⟩
  | false => exact ⟨F, own1, ρ1, E, hp, R1, w1, kn, kb, kc, kr⟩
theorem setRed {D : Ends} {σ : L2.St} {H : Hp} (h : tS X.K B (wSet i w) D σ H) : tAsg (tE X.K B w) (gName i) D σ H := by
  obtain ⟨F, own, ρ, E, hp, R, w, kn, kb, kc, kr⟩ := h
  refine ⟨F, own, ρ, _, R, w, fun own1 ρ1 v r H1 R1 k1 s1 w1 => ?_⟩
  obtain ⟨⟨s, ρ2⟩, e1, n, hi, w2⟩ := need_of w1
  obtain ⟨own2, R2⟩ := R1.setOk s1 e1 n hi
  exact kn own2 _ _ H1 R2 w2
theorem ssSet {pos' : Pos} (hN : X.N.Nodup) (hi : X.N[i]? = some x) (hx : Loc X.env.scope x) (he : PE X e (tE X.K B w)) (hf : X.fn x = true ∨ X.env.scope.names.lookup x = some .local) (hs : swapsWith e (some (.Name x pos')) pos.line X.env = pure false := by rfl) :
    PS X (.Assign [.Name x pos'] e pos) (tS X.K B (wSet i w)) := psW (ps_set hN hi hx he hs hf) fun _ _ _ => setRed
/-- name = a comprehension on the same line -/
theorem ssSetLc {py spos : Pos} {elt tg iter : Expr} {ifs : List Expr} {scope : Scope} {own : List (Str × Nat)} {wi : WI} {g : WG} {ct : WT} (hc : X.calm = true) (hN : X.N.Nodup) (hy : X.N[i]? = some y) (hyl : X.env.scope.names.lookup y = some .local)
    (hsw : swapsWith (.ListComp elt [⟨tg, iter, ifs, 0⟩] scope pos) (some (.Name y py)) spos.line X.env = pure true) (hi : PI X tg iter (tIt X.K B wi)) (ok : BlkOk X.N X.env.scope scope own)
    (hg : ∀ (s : Shared) (H : Hp) (C : Addr) (cl : List (Str × Addr)) (fp : List Addr), PG (X.blk s H scope (compEnvC scope cl C X.env) fp) tg (tG X.K B (own.map (·.2)) g))
    (ht : ∀ (s : Shared) (H : Hp) (C : Addr) (cl : List (Str × Addr)) (fp : List Addr), PTs (X.blk s H scope (compEnvC scope cl C X.env) fp) ifs (tT X.K B ct))
    (he : ∀ (s : Shared) (H : Hp) (C : Addr) (cl : List (Str × Addr)) (fp : List Addr), PE (X.blk s H scope (compEnvC scope cl C X.env) fp) elt (tE X.K B w)) (hs : ∀ x, foldedSetIterable iter X.env x = pure x) :
    PS X (.Assign [.Name y py] (.ListComp elt [⟨tg, iter, ifs, 0⟩] scope pos) spos) (tS X.K B (wSet i (wLc wi g ct w (own.map (·.2))))) :=
  psW (ps_setLc hc hN hy hyl hsw hi ok hg ht he hs) fun D σ H h => lcIn (setRed h)
theorem ssAsg {tg : Expr} {vs : List Nat} {g : WG} (he : PE X e (tE X.K B w)) (hg : PG X tg (tG X.K B vs g)) (hs : swapsWithSole [tg] e pos.line X.env = pure false := by rfl) (hw : swappedStores [tg] e X.env = pure none := by rfl)
    (h1 : (assignEach [tg] X.env).map (·.2) = [assign tg X.env] := by rfl) : PS X (.Assign [tg] e pos) (tS X.K B (wAsg g w)) := psW (ps_asg he hg hs hw h1) fun D σ H h => by
  obtain ⟨F, own, ρ, E, hp, R, w, kn, kb, kc, kr⟩ := h
  refine ⟨F, own, ρ, _, R, w, fun own1 ρ1 v r H1 R1 k1 s1 w1 => ?_⟩
  obtain ⟨⟨d, ρ2⟩, e1, w2⟩ := need_of w1
  obtain ⟨own2, R2, l, _, z⟩ := R1.frz1 s1.w e1
  exact ⟨F, own2, ρ2, d, _, R2, z, w2, fun own3 ρ3 σ3 R3 _ _ w3 => kn own3 ρ3 σ3 H1 R3 w3⟩
/-- a, b = x, y -/
def wPar (i j : Nat) (ws : WO) : WS := fun E ρ => ws ρ fun rs ρ1 => need (frzAll ρ1 rs) fun q => match q.1 with
  | [d1, d2] => notLk (slotAt q.2 i) = true ∧ notLk (slotAt (q.2.set i (.fz d1)) j) = true ∧ E.nx ((q.2.set i (.fz d1)).set j (.fz d2))
  | _ => False
theorem ssPar {ws : WO} {ea eb : Expr} {px py pt : Pos} {kt k2 pt2} (hc : X.calm = true) (hN : X.N.Nodup) (hi : X.N[i]? = some x) (hj : X.N[j]? = some y) (hij : i ≠ j)
    (hx : X.env.scope.names.lookup x = some .local) (hy : X.env.scope.names.lookup y = some .local) (ha : PA X [ea, eb] (tO X.K B ws))
    (hw : swappedStores [.Tuple [.Name x px, .Name y py] kt pt] (.Tuple [ea, eb] k2 pt2) X.env = pure (some [x, y]) := by rfl)
    (hs : swapsWithSole [.Tuple [.Name x px, .Name y py] kt pt] (.Tuple [ea, eb] k2 pt2) pos.line X.env = pure false := by rfl) :
    PS X (.Assign [.Tuple [.Name x px, .Name y py] kt pt] (.Tuple [ea, eb] k2 pt2) pos) (tS X.K B (wPar i j ws)) := psW (ps_par hc hN hi hj hij hx hy ha hw hs) fun D σ H h => by
  obtain ⟨F, own, ρ, E, hp, R, w, kn, kb, kc, kr⟩ := h
  refine ⟨F, own, ρ, _, R, w, fun own1 ρ1 vs rs H1 R1 k1 s1 w1 => ?_⟩
  obtain ⟨⟨ds, ρ2⟩, e1, w2⟩ := need_of w1
  obtain ⟨own2, R2, l, _, z⟩ := R1.frzAll s1 e1
  match ds, vs, z, w2 with
  | [d1, d2], _, .cons z1 (.cons z2 .nil), w2 =>
    obtain ⟨n1, n2, w3⟩ := w2
    obtain ⟨R3, l3⟩ := R2.put n1 z1
    obtain ⟨R4, l4⟩ := R3.put n2 (z2.kept l3.kept)
    exact ⟨_, _, rfl, kn _ _ _ H1 R4 w3⟩
theorem ssFor {iter tg : Expr} {body : List Stmt} {wi : WI} {g : WG} {vs : List Nat} (hp : PassesOwn (model X.prog X.w) X.A X.env X.xe) (hc : X.calm = true) (hi : PI X tg iter (tIt X.K B wi)) (hg : PG X tg (tG X.K B vs g)) (hb : PSs X body (tS X.K B wb))
    (hs : ∀ x, foldedSetIterable iter X.env x = pure x := by intro _; rfl) : PS X (.For tg iter body [] pos) (tS X.K B (wFor wi g wb)) := psW (ps_for hp hc hi hg hb hs) fun D σ H h => by
  obtain ⟨F, own, ρ, E, hp, R, w, kn, kb, kc, kr⟩ := h
  refine ⟨F, own, ρ, _, R, w, fun F' own1 ρ1 ds lk J H1 eq R1 un k1 it hl w1 => ?_⟩
  have hp' : F'.P = [] := eq.p.trans hp
  have itF := it F' (fun _ h => h) (fun _ h => h)
  have nxF : ∀ own' ρ' σ' H', Rel X.K B F' own' ρ' σ' H' → E.nx (unlock lk ρ') → D.nx σ' H' := fun own' ρ' σ' H' R' p => by
    have q := un F'.P own' ρ' σ' H' R'
    rw [eq.p] at q
    exact kn own' _ σ' H' q p
  refine ⟨fun i m σ H => m = ds.length - i ∧ i ≤ ds.length ∧ ∃ own ρ, Rel X.K B F' own ρ σ H ∧ forGo g wb (fun ρ2 => E.nx (unlock lk ρ2)) E.rt (ds.drop i) ρ, ⟨ds.length, by simp, Nat.zero_le _, own1, ρ1, R1, w1⟩, ?_⟩
  rintro i m σ2 H2 ⟨rfl, hi, own2, ρ2, R2, w2⟩
  by_cases hlt : i < ds.length
  · refine .inr ⟨itF.go i R2 hlt, fun σ' H' => ∃ own ρ, Rel X.K B F' own ρ σ' H' ∧ forGo g wb (fun ρ2 => E.nx (unlock lk ρ2)) E.rt (ds.drop (i + 1)) ρ, fun σ' H' p' => ⟨ds.length - (i + 1), by omega, rfl, hlt, p'⟩, fun y H3 hy => ?_⟩
    obtain ⟨d, hd, R3, k3, z⟩ := itF.yld i R2 hlt hy
    have ew : ds.drop i = d :: ds.drop (i + 1) := by
      rw [List.drop_eq_getElem_cons hlt]
      congr 1
      rw [List.getElem?_eq_getElem hlt] at hd
      exact Option.some.inj hd
    rw [ew] at w2
    exact ⟨F', own2, ρ2, d, _, R3, z, w2, fun own4 ρ4 σ4 R4 _ _ w4 => ⟨F', own4, ρ4, _, hp', R4, w4, fun own5 ρ5 σ5 H5 R5 p => ⟨own5, ρ5, R5, p⟩, nxF, fun own5 ρ5 σ5 H5 R5 p => ⟨own5, ρ5, R5, p⟩, fun v r H' ret p => kr v r H' (eq.ret ret) p⟩⟩
  · obtain rfl : i = ds.length := by omega
    rw [List.drop_length] at w2
    exact .inl ⟨itF.stop R2, nxF own2 ρ2 σ2 H2 R2 w2⟩
theorem ssWhile {body : List Stmt} (hp : PassesOwn (model X.prog X.w) X.A X.env X.xe) (hc : PT X c (tT X.K B t)) (hb : PSs X body (tS X.K B wb)) : PS X (.While c body [] pos) (tS X.K B (wWhile t wb)) := psW (ps_while hp hc hb) fun D σ H h => by
  obtain ⟨F, own, ρ, E, hp, R, ⟨n, w⟩, kn, kb, kc, kr⟩ := h
  refine ⟨fun m σ H => ∃ own ρ, Rel X.K B F own ρ σ H ∧ whGo t wb E.nx E.rt m ρ, ⟨n, own, ρ, R, w⟩, ?_⟩
  rintro m σ1 H1 ⟨own1, ρ1, R1, w1⟩
  cases m with
  | zero => exact w1.elim
  | succ m =>
    refine ⟨F, own1, ρ1, _, R1, w1, fun own2 ρ2 z H2 R2 k2 w2 => ?_⟩
    cases z with
    | true => exact ⟨fun σ' H' => ∃ own ρ, Rel X.K B F own ρ σ' H' ∧ whGo t wb E.nx E.rt m ρ, fun σ' H' p => ⟨m, Nat.lt_succ_self m, p⟩, F, own2, ρ2, _, hp, R2, w2, fun own5 ρ5 σ5 H5 R5 p => ⟨own5, ρ5, R5, p⟩, kn, fun own5 ρ5 σ5 H5 R5 p => ⟨own5, ρ5, R5, p⟩, kr⟩
    | false => exact kn own2 ρ2 σ1 H2 R2 w2
/-- x op= e, whole numbers -/
theorem ssAugI {pos' : Pos} {op : Operator} {f : Int → Int → Int} (hN : X.N.Nodup) (hi : X.N[i]? = some x) (hx : Loc X.env.scope x) (ho : PIp X op (ipI f)) (he : PE X e (tE X.K B w)) (hf : X.fn x = true ∨ X.env.scope.names.lookup x = some .local) :
    PS X (.AugAssign (.Name x pos') op e pos) (tS X.K B (wAugI i f w)) := psW (ps_aug hN hi hx he ho hf) fun D σ H h => by
  obtain ⟨F, own, ρ, E, hp, R, w, kn, kb, kc, kr⟩ := h
  unfold wAugI at w
  cases q : slotAt ρ i with
  | fz d =>
    rw [q] at w
    cases d with
    | int n =>
      obtain ⟨v, ev, zv⟩ := R.fz i _ (slot_of q (by intro z; cases z))
      cases zv
      refine ⟨_, ev, F, own, ρ, _, R, w, fun own1 ρ1 v r H1 R1 k1 s1 w1 => ?_⟩
      obtain ⟨d, e1, w2⟩ := need_of w1
      obtain ⟨m, e2, nl, hi, w3⟩ := need_of w2
      cases asInt_inv e2
      exact ⟨n, m, rfl, vw_int (R1.view s1.w e1), kn _ _ _ H1 (R1.put nl (.int _)).1 w3⟩
    | _ => exact w.elim
  | _ => rw [q] at w; exact w.elim
/-! own lists -/
theorem sPopAt {p apos cpos : Pos} (hN : X.N[i]? = some x) (hv : Vis X.env.scope x) (hd : (x == ("__debug__" : Str)) = false) (hcd : (x == ("__classdict__" : Str)) = false) (he : PE X e (tE X.K B w))
    (hbase : attributeBase (.Name x p) "pop" X.env (eval (.Name x p) X.env) = eval (.Name x p) X.env := by rfl)
    (hfew : ((backTo cpos (starEach (e :: []) X.env)).all (fun x => !x.1) && (backToKw cpos (keywordEach [] X.env)).all (fun x => x.1.isSome)
      && decide ((e :: []).length + ([] : List Keyword).length + (if ([] : List Keyword).isEmpty then 0 else 1) < 30)) = true := by rfl)
    (hline : (apos.endLine == cpos.line) = true := by rfl) (hs : starEach (e :: []) X.env = (false, eval e X.env) :: starEach [] X.env := by rfl) (hplain : (backTo cpos (starEach [] X.env)).any (·.1) = false := by rfl) :
    PE X (.Call (.Attribute (.Name x p) "pop" apos) [e] [] cpos) (tE X.K B (wPopAt i w)) :=
  peW (pe_bm PySem.F.plainAttrs_list PySem.F.slot_list_pop PySem.F.type_list_pop mt_popAt (pe_var hN hv hd hcd) (pa_cons he pa_nil hs) hbase hfew hline hs hplain) fun σ H Q h => by
    obtain ⟨F, own, ρ, P, R, w, kk⟩ := h
    obtain ⟨ds0, e0, w⟩ := need_of w
    obtain ⟨a, xs, ha, hs, hH, r⟩ := R.ownAt e0
    refine ⟨.ref a, hs, .inl ⟨rfl, xs, SqL.of hH⟩, F, own, ρ, _, R, w, fun own1 ρ1 v r H1 R1 k1 s1 w1 => ?_⟩
    obtain ⟨d, e1, w2⟩ := need_of w1
    obtain ⟨n, e2, w3⟩ := need_of w2
    obtain ⟨ds, e3, hl, w4⟩ := need_of w3
    obtain ⟨j, e4, w5⟩ := need_of w4
    obtain ⟨d', e5, w6⟩ := need_of w5
    cases asInt_inv e2
    obtain ⟨a1, xs1, ha1, hs1, hH1, r1⟩ := R1.ownAt e3
    rw [hs] at hs1
    cases hs1
    obtain ⟨y, hy, zy⟩ := r1.at e5
    obtain ⟨q1, q2, q3, q4⟩ := ixN_seq e4
    obtain ⟨R2, k2⟩ := R1.mutL e3 ha1 (r1.erase j)
    have hl : ds.length ≤ 10000000 := hl
    exact ⟨a, xs1, n, j, y, rfl, by rw [vw_int (R1.view s1.w e1)], hH1, by omega, by omega, by rw [r1.length]; exact q1, hy, kk own1 _ y (.fz d') _ R2 (k1.trans k2) (zy.kept k2) w6⟩
theorem sPop {p apos cpos : Pos} (hN : X.N[i]? = some x) (hv : Vis X.env.scope x) (hd : (x == ("__debug__" : Str)) = false) (hcd : (x == ("__classdict__" : Str)) = false)
    (hbase : attributeBase (.Name x p) "pop" X.env (eval (.Name x p) X.env) = eval (.Name x p) X.env := by rfl) (hline : (apos.endLine == cpos.line) = true := by rfl) :
    PE X (.Call (.Attribute (.Name x p) "pop" apos) [] [] cpos) (tE X.K B (wPop i)) :=
  peW (pe_bm0 PySem.F.plainAttrs_list PySem.F.slot_list_pop PySem.F.type_list_pop mt_pop (pe_var hN hv hd hcd) hbase hline) fun σ H Q h => by
    obtain ⟨F, own, ρ, P, R, w, kk⟩ := h
    obtain ⟨ds, e0, w⟩ := need_of w
    obtain ⟨d, e1, w⟩ := need_of w
    obtain ⟨a, xs, ha, hs, hH, r⟩ := R.ownAt e0
    obtain ⟨y, hy, zy⟩ := r.at e1
    have rd : RzA X.K (F.av own) F.b H xs.dropLast ds.dropLast := by
      rw [List.dropLast_eq_take, List.dropLast_eq_take, r.length]
      exact r.take _
    obtain ⟨R2, k2⟩ := R.mutL e0 ha rd
    exact ⟨.ref a, hs, .inl ⟨rfl, xs, SqL.of hH⟩, a, xs, y, rfl, rfl, hH, by rw [r.length]; exact hy, kk own _ y (.fz d) _ R2 k2 (zy.kept k2) w⟩
theorem sAppend {p apos cpos : Pos} (hN : X.N[i]? = some x) (hv : Vis X.env.scope x) (hd : (x == ("__debug__" : Str)) = false) (hcd : (x == ("__classdict__" : Str)) = false) (he : PE X e (tE X.K B w))
    (hbase : attributeBase (.Name x p) "append" X.env (eval (.Name x p) X.env) = eval (.Name x p) X.env := by rfl)
    (hfew : ((backTo cpos (starEach (e :: []) X.env)).all (fun x => !x.1) && (backToKw cpos (keywordEach [] X.env)).all (fun x => x.1.isSome)
      && decide ((e :: []).length + ([] : List Keyword).length + (if ([] : List Keyword).isEmpty then 0 else 1) < 30)) = true := by rfl)
    (hline : (apos.endLine == cpos.line) = true := by rfl) (hs : starEach (e :: []) X.env = (false, eval e X.env) :: starEach [] X.env := by rfl) (hplain : (backTo cpos (starEach [] X.env)).any (·.1) = false := by rfl) :
    PE X (.Call (.Attribute (.Name x p) "append" apos) [e] [] cpos) (tE X.K B (wAppend i w)) :=
  peW (pe_bm PySem.F.plainAttrs_list PySem.F.slot_list_append PySem.F.type_list_append mt_append (pe_var hN hv hd hcd) (pa_cons he pa_nil hs) hbase hfew hline hs hplain) fun σ H Q h => by
    obtain ⟨F, own, ρ, P, R, w, kk⟩ := h
    obtain ⟨ds0, e0, w⟩ := need_of w
    obtain ⟨a, xs, ha, hs, hH, r⟩ := R.ownAt e0
    refine ⟨.ref a, hs, .inl ⟨rfl, xs, SqL.of hH⟩, F, own, ρ, _, R, w, fun own1 ρ1 v r H1 R1 k1 s1 w1 => ?_⟩
    obtain ⟨⟨d, ρ2⟩, e1, w2⟩ := need_of w1
    obtain ⟨ds, e3, hl, w3⟩ := need_of w2
    obtain ⟨own2, R2, l2, _, z⟩ := R1.frz1 s1.w e1
    obtain ⟨a1, xs1, ha1, hs1, hH1, r1⟩ := R2.ownAt e3
    rw [hs] at hs1
    cases hs1
    obtain ⟨R3, k3⟩ := R2.mutL e3 ha1 (r1.append (.cons z .nil))
    exact ⟨a, xs1, v, rfl, rfl, hH1, by rw [r1.length]; exact Nat.lt_of_lt_of_le hl lim_line, kk own2 _ .non (.fz .non) _ R3 ((k1.trans l2.kept).trans k3) .non w3⟩
theorem sExtend {p apos cpos : Pos} (hN : X.N[i]? = some x) (hv : Vis X.env.scope x) (hd : (x == ("__debug__" : Str)) = false) (hcd : (x == ("__classdict__" : Str)) = false) (he : PE X e (tE X.K B w))
    (hbase : attributeBase (.Name x p) "extend" X.env (eval (.Name x p) X.env) = eval (.Name x p) X.env := by rfl)
    (hfew : ((backTo cpos (starEach (e :: []) X.env)).all (fun x => !x.1) && (backToKw cpos (keywordEach [] X.env)).all (fun x => x.1.isSome)
      && decide ((e :: []).length + ([] : List Keyword).length + (if ([] : List Keyword).isEmpty then 0 else 1) < 30)) = true := by rfl)
    (hline : (apos.endLine == cpos.line) = true := by rfl) (hs : starEach (e :: []) X.env = (false, eval e X.env) :: starEach [] X.env := by rfl) (hplain : (backTo cpos (starEach [] X.env)).any (·.1) = false := by rfl) :
    PE X (.Call (.Attribute (.Name x p) "extend" apos) [e] [] cpos) (tE X.K B (wExtend i w)) :=
  peW (pe_bm PySem.F.plainAttrs_list PySem.F.slot_list_extend PySem.F.type_list_extend mt_extend (pe_var hN hv hd hcd) (pa_cons he pa_nil hs) hbase hfew hline hs hplain) fun σ H Q h => by
    obtain ⟨F, own, ρ, P, R, w, kk⟩ := h
    obtain ⟨ds0, e0, w⟩ := need_of w
    obtain ⟨a, xs, ha, hs, hH, r⟩ := R.ownAt e0
    refine ⟨.ref a, hs, .inl ⟨rfl, xs, SqL.of hH⟩, F, own, ρ, _, R, w, fun own1 ρ1 v r H1 R1 k1 s1 w1 => ?_⟩
    obtain ⟨d, e1, w2⟩ := need_of w1
    cases d with
    | lst es =>
      obtain ⟨ds, e3, hl, w3⟩ := need_of w2
      obtain ⟨b, ys, rfl, eb, rb⟩ := R1.view s1.w e1
      obtain ⟨a1, xs1, ha1, hs1, hH1, r1⟩ := R1.ownAt e3
      rw [hs] at hs1
      cases hs1
      obtain ⟨R3, k3⟩ := R1.mutL e3 ha1 (r1.append rb)
      exact ⟨a, b, xs1, ys, rfl, rfl, hH1, eb, by rw [r1.length, rb.length]; exact Nat.le_trans hl lim_line, kk own1 _ .non (.fz .non) _ R3 (k1.trans k3) .non w3⟩
    | _ => exact w2.elim
theorem ssSetIx {p p2 : Pos} (hN : X.N[i]? = some x) (hv : Vis X.env.scope x) (hd : (x == ("__debug__" : Str)) = false) (hcd : (x == ("__classdict__" : Str)) = false) (hk : PE X k (tE X.K B wk)) (he : PE X e (tE X.K B we))
    (ha : ∀ v, assign (.Subscript (.Name x p) k p2) X.env v = (do
      let ov ← holding [v] (eval (.Name x p) X.env)
      let iv ← holding [v, ov] (eval k X.env)
      standAt p2
      holding [v, ov, iv] (setItem ov iv v)
      release [v, ov, iv] []) := by intro _; rfl)
    (hs : swapsWithSole [.Subscript (.Name x p) k p2] e pos.line X.env = pure false := by rfl) (hw : swappedStores [.Subscript (.Name x p) k p2] e X.env = pure none := by rfl)
    (h1 : (assignEach [.Subscript (.Name x p) k p2] X.env).map (·.2) = [assign (.Subscript (.Name x p) k p2) X.env] := by rfl) :
    PS X (.Assign [.Subscript (.Name x p) k p2] e pos) (tS X.K B (wSetIx i wk we)) := psW (ps_asg he (pg_sub (pe_var hN hv hd hcd) hk set_list ha) hs hw h1) fun D σ H h => by
  obtain ⟨F, own, ρ, E, hp, R, w, kn, kb, kc, kr⟩ := h
  refine ⟨F, own, ρ, _, R, w, fun own1 ρ1 v r H1 R1 k1 s1 w1 => ?_⟩
  obtain ⟨⟨d, ρ2⟩, e1, w2⟩ := need_of w1
  obtain ⟨ds0, e0, w3⟩ := need_of w2
  obtain ⟨own2, R2, l2, _, z⟩ := R1.frz1 s1.w e1
  obtain ⟨a, xs, ha, hs, hH, r⟩ := R2.ownAt e0
  refine ⟨.ref a, hs, F, own2, ρ2, _, R2, w3, fun own3 ρ3 u rk H3 R3 k3 s3 w4 => ?_⟩
  obtain ⟨dk, e4, w5⟩ := need_of w4
  obtain ⟨n, e5, w6⟩ := need_of w5
  obtain ⟨ds, e6, w7⟩ := need_of w6
  obtain ⟨j, e7, w8⟩ := need_of w7
  cases asInt_inv e5
  obtain ⟨a1, xs1, ha1, hs1, hH1, r1⟩ := R3.ownAt e6
  rw [hs] at hs1
  cases hs1
  obtain ⟨R4, k4⟩ := R3.mutL e6 ha1 (r1.set j (z.kept k3))
  exact ⟨a, xs1, n, j, rfl, vw_int (R3.view s3.w e4), hH1, by rw [r1.length]; exact e7, kn _ _ _ _ R4 w8⟩
end
end Ip

set_option Elab.async false
set_option linter.all false
set_option maxRecDepth 100000
set_option maxHeartbeats 2000000
set_option autoImplicit false
/-! Ip12: defs by their bodies; calls by a def's name -/
namespace Ip
open PySem L2 PySem.Spec PyProof.Rows

def callOf (m n : Nat) (w : WS) : CallT := fun ds P => ds.length = n ∧ w ⟨fun _ => P (.fz .non), P, fun _ => False, fun _ => False⟩ (ds.map Slot.fz ++ List.replicate (m - n) .non)
/-- what a frame holds at a def's entry -/
theorem Cal.rel {K : Frag} {B : BoxPred} {F : Fr} {H : Hp} (C : Cal K B F H) {vs : List V} {ds : List D} {m : Nat} (z : RzA K (F.av noOwn) F.b H vs ds) :
    Rel K B F noOwn (ds.map Slot.fz ++ List.replicate m .non) (vs.map some ++ List.replicate m none) H where
  hb := C.hb
  hc := C.hc
  good := C.good
  box := C.box
  there := fun a h => by rw [C.h0]; exact C.there a h
  base := fun a o _ _ e => by rw [C.h0] at e; exact e
  fresh := fun i a e => by cases e
  inj := fun i j a e => by cases e
  dom := fun i a e => by cases e
  fz := fun i d e => by
    by_cases hi : i < ds.length
    · rw [List.getElem?_append_left (by rw [List.length_map]; exact hi), List.getElem?_map] at e
      cases q : ds[i]? with
      | none => rw [q] at e; cases e
      | some d' =>
        rw [q] at e
        cases e
        obtain ⟨v, hv, zv⟩ := z.at q
        refine ⟨v, ?_, zv⟩
        rw [List.getElem?_append_left (by rw [List.length_map, z.length]; exact hi), List.getElem?_map, hv]
        rfl
    · rw [List.getElem?_append_right (by rw [List.length_map]; omega)] at e
      rw [List.getElem?_replicate] at e
      split at e <;> cases e
  ow := fun i d e => by
    by_cases hi : i < ds.length
    · rw [List.getElem?_append_left (by rw [List.length_map]; exact hi), List.getElem?_map] at e
      cases q : ds[i]? with
      | none => rw [q] at e; rcases e with e | e <;> cases e
      | some d' => rw [q] at e; rcases e with e | e <;> cases e
    · rw [List.getElem?_append_right (by rw [List.length_map]; omega)] at e
      rw [List.getElem?_replicate] at e
      split at e <;> rcases e with e | e <;> cases e
  len := by simp [z.length]
  ex := by rw [C.e0]; intro p hp; cases hp
  lks := by rw [C.l0]; intro p hp; cases hp
  pv := by rw [C.p0]; intro p hp; cases hp
  pvo := by rw [C.p0]; intro p hp; cases hp
  pvn := by rw [C.p0]; exact List.nodup_nil
section
variable {P : Program} {w : World} {K : Frag} {mg : Str → Option Value} {base : Heap} {B : BoxPred}
theorem mkFn {x qual : Str} {st : Stmt} {f : Addr} {fd : FuncData} {N ps : List Str} {k n : Nat} {ws : WS} (F : Fun K x qual st f fd) (S : FnScope N ps (defScope st)) (hn : ps.length = n)
    (hbody : ∀ (cdv : Value) (A : Around) (outer : List Env) (s : Shared) (H : Hp) (E : XK), Room k (A.deeper (envOfC qual (defScope st) s.heap.objs.size f cdv)) →
      PSs (cxOf CX0 P w K mg base N qual (defScope st) f cdv A outer s H E).nox (defBody st) (tS K B ws)) : FnOk P w K mg base CX0 (k + 1) f fd ps (spI K B n (callOf N.length n ws)) := by
  subst hn
  refine F.ok S (fun vs H Q E h => ?_) (fun cdv A outer s H vs Q E hr h => ⟨_, hbody cdv A outer s H E hr, ?_⟩)
  · obtain ⟨_, _, _, _, h, _⟩ := h
    exact h
  · obtain ⟨F, ds, P, C, hl, z, ⟨hd, hw⟩, k⟩ := h
    have R := C.rel (m := N.length - ps.length) z
    refine ⟨F, noOwn, _, _, C.p0, ?_, hw, fun own' ρ' σ' H' R' p => k .non (.fz .non) H' (R'.retOk C.p0 (r := .fz .non) (r' := .fz .non) .non rfl) p, fun _ _ _ _ _ p => p.elim, fun _ _ _ _ _ p => p.elim, fun v r H' T p => k v r H' T p⟩
    have : L2.start N vs = vs.map some ++ List.replicate (N.length - ps.length) none := by unfold L2.start; rw [hl]
    rw [this]
    exact R
/-- a def that may be called by its name -/
structure Cf (P : Program) (w : World) (K : Frag) (mg : Str → Option Value) (base : Heap) (B : BoxPred) (k : Nat) (x : Str) (n : Nat) (T : CallT) : Prop where
  ex : ∃ (f : Addr) (fd : FuncData) (ps : List Str), FnOk P w K mg base CX0 k f fd ps (spI K B n T) ∧ mg x = some (.ref f) ∧ PySem.W.keepIn K (.ref f) = true ∧ Binds K fd ps []
  len : ∀ ds P, T ds P → ds.length = n
theorem RsA.len {F : Fr} {own : Own} {σ : L2.St} {H : Hp} : ∀ {vs : List V} {rs : List Res}, RsA K F own σ H vs rs → vs.length = rs.length
  | [], [], _ => rfl
  | _ :: _, _ :: _, h => congrArg (· + 1) (RsA.len h.2)
  | [], _ :: _, h => h.elim
  | _ :: _, [], h => h.elim
theorem dataAll_len {ρ : Rho} : ∀ {rs : List Res} {ds : List D}, dataAll ρ rs = some ds → rs.length = ds.length
  | [], ds, e => by cases e; rfl
  | r :: rs, ds, e => by
    unfold dataAll at e
    cases q : r.data ρ with
    | none => rw [q] at e; cases e
    | some d =>
      rw [q] at e
      cases q2 : dataAll ρ rs with
      | none => rw [q2] at e; cases e
      | some ds' =>
        rw [q2] at e
        cases e
        exact congrArg (· + 1) (dataAll_len q2)
end
section
variable {X : Cx} {B : BoxPred} {e : Expr} {es : List Expr} {ws : WO} {T : CallT} {x : Str} {p pos : Pos} {k n : Nat}
theorem sCallF (c : Cf X.prog X.w X.K X.mg X.base B k x n T) (hr : Room k X.A) (hg : Gl X x) (ha : PA X (e :: es) (tO X.K B ws)) (hdb : (x == ("__debug__" : Str)) = false := by decide) (he : starEach (e :: es) X.env = (false, eval e X.env) :: starEach es X.env := by rfl) (hpl : (backTo pos (starEach es X.env)).any (·.1) = false := by rfl) :
    PE X (.Call (.Name x p) (e :: es) [] pos) (tE X.K B (wCall T ws)) := by
  obtain ⟨f, fd, ps, Fn, hm, hk, hb⟩ := c.ex
  refine peW (pe_call (E := E0) (dvs := []) Fn hr hg hm hk hb .nil pass0 ha hdb he hpl) fun σ H Q h => ?_
  obtain ⟨F, own, ρ, P, R, w, kk⟩ := h
  refine ⟨F, own, ρ, _, R, w, fun own1 ρ1 vs rs H1 R1 k1 s1 w1 => ?_⟩
  obtain ⟨ds, e1, w2⟩ := need_of w1
  rw [List.append_nil]
  refine ⟨calF F own1 rs H1, ds, _, R1.cal rs, by rw [s1.len, dataAll_len e1, c.len ds _ w2], R1.calArgs (fun _ h => h) s1 e1, w2, fun v r H' T' hP => ?_⟩
  obtain ⟨ρ2, e2, w3⟩ := need_of hP
  obtain ⟨own2, R2, k2, s2⟩ := R1.callRed s1 T' e2
  exact kk own2 ρ2 v r H' R2 (k1.trans k2) s2 w3
end
theorem op_mulA {X : Cx} : OpR X (binaryOp .Mult) (rI IntMulOk fun i j => .int (i * j)) := opI fun _ _ _ _ _ _ _ hc q => mul_int q hc
end Ip

set_option Elab.async false
set_option linter.all false
set_option maxRecDepth 100000
set_option maxHeartbeats 2000000
set_option autoImplicit false
/-! Ip13: short forms; len(set(..)) -/
namespace Ip
open PySem L2 PySem.Spec PyProof.Rows

/-! ### how many different numbers -/
def ddp (ns : List Int) : List Int := ns.foldl step_dedup []
theorem ddp_fold : ∀ (ns acc : List Int), acc.Nodup → (ns.foldl step_dedup acc).Nodup ∧ ∀ k, k ∈ ns.foldl step_dedup acc ↔ k ∈ acc ∨ k ∈ ns
  | [], acc, h => ⟨h, fun k => by simp⟩
  | n :: ns, acc, h => by
    have h2 : (step_dedup acc n).Nodup ∧ ∀ k, k ∈ step_dedup acc n ↔ k ∈ acc ∨ k = n := by
      unfold step_dedup
      by_cases q : acc.any (· == n) = true
      · rw [if_pos q]
        have hm : n ∈ acc := by
          obtain ⟨y, hy, e⟩ := List.any_eq_true.mp q
          rw [← eq_of_beq e]; exact hy
        exact ⟨h, fun k => ⟨.inl, fun z => z.elim id fun e => e ▸ hm⟩⟩
      · rw [if_neg q]
        have hm : n ∉ acc := fun z => q (List.any_eq_true.mpr ⟨n, z, by simp⟩)
        refine ⟨List.nodup_append.mpr ⟨h, by simp, fun a ha b hb => ?_⟩, fun k => by simp⟩
        rw [List.mem_singleton.mp hb]
        exact fun e => hm (e ▸ ha)
    obtain ⟨q1, q2⟩ := ddp_fold ns _ h2.1
    refine ⟨q1, fun k => ?_⟩
    rw [List.foldl_cons, q2, h2.2, List.mem_cons]
    constructor
    · rintro ((a | a) | a)
      · exact .inl a
      · exact .inr (.inl a)
      · exact .inr (.inr a)
    · rintro (a | a | a)
      · exact .inl (.inl a)
      · exact .inl (.inr a)
      · exact .inr a
theorem ddp_nodup (ns : List Int) : (ddp ns).Nodup := (ddp_fold ns [] List.nodup_nil).1
theorem ddp_mem {ns : List Int} {k : Int} : k ∈ ddp ns ↔ k ∈ ns := by
  rw [ddp, (ddp_fold ns [] List.nodup_nil).2]; simp
theorem nodup_le : ∀ {xs ys : List Int}, xs.Nodup → (∀ k ∈ xs, k ∈ ys) → xs.length ≤ ys.length
  | [], _, _, _ => Nat.zero_le _
  | x :: xs, ys, h, s => by
    have hx : x ∈ ys := s x List.mem_cons_self
    have h' := List.nodup_cons.mp h
    have := nodup_le (xs := xs) (ys := ys.erase x) h'.2 fun k hk => (List.mem_erase_of_ne (fun (e : k = x) => h'.1 (by rw [← e]; exact hk))).mpr (s k (List.mem_cons_of_mem _ hk))
    rw [List.length_erase_of_mem hx] at this
    have hp : 0 < ys.length := List.length_pos_of_mem hx
    show xs.length + 1 ≤ _
    omega
theorem ddp_len {ns ks : List Int} (h : ks.Nodup) (e : ∀ k, k ∈ ks ↔ k ∈ ns) : ks.length = (ddp ns).length :=
  Nat.le_antisymm (nodup_le h fun k hk => ddp_mem.mpr ((e k).mp hk)) (nodup_le (ddp_nodup ns) fun k hk => (e k).mpr (ddp_mem.mp hk))
theorem ddp_le (ns : List Int) : (ddp ns).length ≤ ns.length := nodup_le (ddp_nodup ns) fun k hk => ddp_mem.mp hk
theorem ddp_eq_iff {ns : List Int} : (ddp ns).length = ns.length ↔ ns.Nodup := by
  constructor
  · intro h
    induction ns with
    | nil => exact List.nodup_nil
    | cons n ns ih =>
      by_cases hm : n ∈ ns
      · have : (ddp (n :: ns)).length ≤ ns.length := nodup_le (ddp_nodup _) fun k hk => by
          rcases List.mem_cons.mp (ddp_mem.mp hk) with e | e
          · rw [e]; exact hm
          · exact e
        rw [h, List.length_cons] at this
        omega
      · have : (ddp (n :: ns)).length ≤ (n :: ddp ns).length := nodup_le (ddp_nodup _) fun k hk => by
          rcases List.mem_cons.mp (ddp_mem.mp hk) with e | e
          · rw [e]; exact List.mem_cons_self
          · exact List.mem_cons_of_mem _ (ddp_mem.mpr e)
        rw [h] at this
        have h2 := ddp_le ns
        simp at this
        exact List.nodup_cons.mpr ⟨hm, ih (by omega)⟩
  · intro h
    exact (ddp_len h fun k => Iff.rfl).symm
def setLen : D → Option Nat
  | .tup ds => (intsOf ds).bind fun ns => if ns.length ≤ 4000 then some (ddp ns).length else none
  | _ => none
theorem setLen_inv {d : D} {n : Nat} (h : setLen d = some n) : ∃ ds ns, d = .tup ds ∧ intsOf ds = some ns ∧ ns.length ≤ 4000 ∧ n = (ddp ns).length := by
  cases d with
  | tup ds =>
    have h : ((intsOf ds).bind fun ns => if ns.length ≤ 4000 then some (ddp ns).length else none) = some n := h
    cases q : intsOf ds with
    | none => rw [q] at h; cases h
    | some ns =>
      rw [q] at h
      have h : (if ns.length ≤ 4000 then some (ddp ns).length else none) = some n := h
      by_cases hl : ns.length ≤ 4000
      · rw [if_pos hl] at h
        cases h
        exact ⟨ds, ns, rfl, q, hl, rfl⟩
      · rw [if_neg hl] at h; cases h
  | _ => cases h
def wLenSet (w : WE) : WE := fun ρ P => w ρ fun r ρ1 => need (r.data ρ1) fun d => need (setLen d) fun n => P (.fz (.int n)) ρ1
def tLenSetT (K : Frag) (ta : TE) : TE := fun σ H Q => ta σ H fun x H1 => ∃ (l : Addr) (ns : List Int), x = .ref l ∧ SqT K H1 l (ns.map V.int) ∧ ns.length ≤ 4000 ∧ Q (.int ((ddp ns).length : Nat)) H1
theorem pe_lenSetT {X : Cx} {a : Expr} {ta : TE} {p p2 q pos : Pos} (hc : X.calm = true) (hg : Gl X "len") (hm : X.mg "len" = none) (hg2 : Gl X "set") (hm2 : X.mg "set" = none) (ha : PE X a ta)
    (na : starEach [a] X.env = (false, eval a X.env) :: starEach [] X.env := by rfl) : PE X (.Call (.Name "len" p) [.Call (.Name "set" p2) [a] [] q] [] pos) (tLenSetT X.K ta) := by
  refine ⟨fun pins s σ H Q I h => ?_⟩
  refine Call_ (ld_blt I hg hm boot_len ?_)
  refine PyProof.Rows.callWith_builtin1 (PyProof.Rows.args_cons ?_ rfl) rfl rfl
  refine Call_ (ld_blt I hg2 hm2 boot_set ?_)
  refine PyProof.Rows.callWith_type1 (PyProof.Rows.args_cons (thn (ha.run pins s σ H _ I h) fun v s1 ⟨x, H1, I1, r1, q1⟩ => PyProof.Rows.args_nil ?_) na) na rfl
  obtain ⟨l, ns, rfl, hq, hl, q1⟩ := q1
  cases r1
  obtain ⟨its, r, pl, hz⟩ := I1.tuple hq
  refine call_set_tupI ns (I1.ok.hd hc) pl (by simpa using RZ.intsAre_vals r) (by unfold scanBound; omega) fun h' tk c hS hc hk => ?_
  refine PyProof.Rows.args_nil ?_
  obtain ⟨o, es, ep, t, ho, hex, hd, _, hnd, hm, _, hf, hn, _⟩ := hS
  have I2 : Inv X pins σ H1 { s1 with heap := h', toks := tk } := I1.kept hk
  have e : es.size = (ddp ns).length := by
    have q := ddp_len (ns := ns) hnd fun k => by rw [← hm]; simp
    rw [List.length_map, Array.length_toList] at q
    exact q
  have hle := ddp_le ns
  exact call_len_set ho hex hd hf (by rw [e] <;> omega) ⟨.int ((ddp ns).length : Nat), H1, I2.tok _, ⟨_, by rw [e]⟩, q1⟩
section
variable {X : Cx} {B : BoxPred} {e a b : Expr} {es : List Expr} {w wa wb : WE} {ws : WO} {ta tb : WT} {pos p p2 q : Pos} {x : Str}
theorem sLenSet (hc : X.calm = true) (hm : X.mg "len" = none) (hm2 : X.mg "set" = none) (ha : PE X e (tE X.K B w)) (hg : Gl X "len" := by rfl) (hg2 : Gl X "set" := by rfl)
    (na : starEach [e] X.env = (false, eval e X.env) :: starEach [] X.env := by rfl) : PE X (.Call (.Name "len" p) [.Call (.Name "set" p2) [e] [] q] [] pos) (tE X.K B (wLenSet w)) :=
  peW (pe_lenSetT hc hg hm hg2 hm2 ha na) fun σ H Q h => by
    obtain ⟨F, own, ρ, P, R, w, k⟩ := h
    refine ⟨F, own, ρ, _, R, w, fun own1 ρ1 v r H1 R1 k1 s1 w1 => ?_⟩
    obtain ⟨d, e1, w2⟩ := need_of w1
    obtain ⟨n, e2, w3⟩ := need_of w2
    obtain ⟨ds, ns, rfl, e3, hl, rfl⟩ := setLen_inv e2
    obtain ⟨a, xs, rfl, ta, ra⟩ := vw_tup (R1.view s1.w e1)
    have := ints_rz ra e3
    subst this
    exact ⟨a, ns, rfl, ta.sq, hl, k own1 ρ1 _ (.fz (.int _)) H1 R1 k1 (.int _) w3⟩

/-! ### short forms -/
def wNever : WE := fun _ _ => False
theorem sNever : PE X e (tE X.K B wNever) := ⟨fun _ _ _ _ _ _ h => by obtain ⟨_, _, _, _, _, w, _⟩ := h; exact w.elim⟩
theorem sv (i : Nat) (hN : X.N[i]? = some x := by rfl) (hv : Vis X.env.scope x := by first | exact Or.inl rfl | exact Or.inr (Or.inl rfl) | exact Or.inr (Or.inr rfl)) (hd : (x == ("__debug__" : Str)) = false := by decide)
    (hcd : (x == ("__classdict__" : Str)) = false := by decide) : PE X (.Name x pos) (tE X.K B (wVar i)) := sVar hN hv hd hcd
theorem sInt {i : Int} {j} : PE X (.Constant (.int i) j pos) (tE X.K B (wLit (.int i))) := sLit pe_int fun _ _ _ => .int i
theorem sBl {i : Bool} {j} : PE X (.Constant (.bool i) j pos) (tE X.K B (wLit (.bl i))) := sLit pe_bl fun _ _ _ => .bl i
theorem sNon {j} : PE X (.Constant .none j pos) (tE X.K B (wLit .non)) := sLit pe_non fun _ _ _ => .non
theorem sStr {i : Str} {j} : PE X (.Constant (.str i) j pos) (tE X.K B (wLit (.str i))) := sLit pe_str fun _ _ _ => .str i
/-- a module's number -/
theorem sGlobI {i : Int} {t : Tok} (hm : X.mg x = some (.int i t)) (hg : Gl X x := by rfl) (hd : (x == ("__debug__" : Str)) = false := by decide) : PE X (.Name x pos) (tE X.K B (wLit (.int i))) := sLit (pe_glob (v := .int i) hg hm ⟨t, rfl⟩ hd) fun _ _ _ => .int i
theorem sb {op : Operator} (ha : PE X a (tE X.K B wa)) (hb : PE X b (tE X.K B wb)) : PE X (.BinOp a op b pos) (tE X.K B (w2 (binD op) wa wb)) := sBin (op_bin op) (binOk op) ha hb
theorem sNeg (ha : PE X a (tE X.K B wa)) : PE X (.UnaryOp .USub a pos) (tE X.K B (w1 negD wa)) := sUn un_neg negOk ha
theorem hu65 {A : Around} {k : Nat} (hr : Room k A) : A.units + 65 < cLine := by have := hr.un; omega
theorem sc {op : CmpOp} {k : Nat} (hr : Room k X.A) (ha : PE X a (tE X.K B wa)) (hb : PE X b (tE X.K B wb)) (hm : behindInMarks op b = false := by rfl) : PE X (.Compare a [op] [b] pos) (tE X.K B (w2 (cmpR op) wa wb)) := sCmp (op_cmp (hu65 hr) op) hm (cmpOk op) ha hb
theorem sct {op : CmpOp} {k : Nat} (hr : Room k X.A) (ha : PE X a (tE X.K B wa)) (hb : PE X b (tE X.K B wb)) (hm : behindInMarks op b = false := by rfl) : PT X (.Compare a [op] [b] pos) (tT X.K B (wCmpT op wa wb)) := sCmpT (op_cmp (hu65 hr) op) hm (cmpOk op) ha hb
theorem sch {op op' : CmpOp} {c : Expr} {wc : WE} {k : Nat} (hr : Room k X.A) (ha : PE X a (tE X.K B wa)) (hb : PE X b (tE X.K B wb)) (hc : PE X c (tE X.K B wc)) (hm : lastMarks [op, op'] [b, c] = false := by rfl) : PE X (.Compare a [op, op'] [b, c] pos) (tE X.K B (wOfT (wChain op op' wa wb wc))) :=
  sChain (op_cmp (hu65 hr) op) (op_cmp (hu65 hr) op') hm (cmpOk op) (cmpOk op') ha hb hc
theorem scht {op op' : CmpOp} {c : Expr} {wc : WE} {k : Nat} (hr : Room k X.A) (ha : PE X a (tE X.K B wa)) (hb : PE X b (tE X.K B wb)) (hc : PE X c (tE X.K B wc)) (hm : lastMarks [op, op'] [b, c] = false := by rfl) : PT X (.Compare a [op, op'] [b, c] pos) (tT X.K B (wChain op op' wa wb wc)) :=
  sChainT (op_cmp (hu65 hr) op) (op_cmp (hu65 hr) op') hm (cmpOk op) (cmpOk op') ha hb hc
theorem six (ha : PE X a (tE X.K B wa)) (hb : PE X b (tE X.K B wb)) (hs : PlainIx b := by exact fun _ _ => rfl) : PE X (.Subscript a b pos) (tE X.K B (w2 idxD wa wb)) := sIx ix_seq hs idxOk ha hb
theorem sone {op : BoolOp} (ha : PE X a (tE X.K B wa)) : PE X (.BoolOp op [a] pos) (tE X.K B wa) := pe_one ha
theorem sandt1 (ha : PT X a (tT X.K B ta)) : PW X (.BoolOp .And [a] pos) (tT X.K B ta) := pw_and1 ha
theorem sort1 (ha : PT X a (tT X.K B ta)) : PW X (.BoolOp .Or [a] pos) (tT X.K B ta) := pw_or1 ha
theorem stst (ha : PE X a (tE X.K B wa)) (he : ∀ whole, isTrue a X.env whole = (do let v ← whole; standAt a.pos; holding [v] (truthy v)) := by intro _; rfl) : PT X a (tT X.K B (wTest wa)) := sTest he ha
theorem sacons (ha : PE X e (tE X.K B w)) (hb : PA X es (tO X.K B ws)) (hs : starEach (e :: es) X.env = (false, eval e X.env) :: starEach es X.env := by rfl) : PA X (e :: es) (tO X.K B (wCons w ws)) := sCons hs ha hb
theorem sisi {t : Str} (T : Ty) (hm : X.mg "isinstance" = none) (hmt : X.mg t = none) (he : PE X e (tE X.K B w)) (hg : Gl X "isinstance" := by rfl) (hgt : Gl X t := by rfl) (hbt : bootBuiltins t = some (.type T.name) := by decide +kernel) (hn : t ≠ "__name__" := by decide) (hd : (t == ("__debug__" : Str)) = false := by decide)
    (hs : starEach [e, .Name t p2] X.env = (false, eval e X.env) :: starEach [.Name t p2] X.env := by rfl) : PE X (.Call (.Name "isinstance" p) [e, .Name t p2] [] pos) (tE X.K B (wIsi T w)) := sIsi he hg hm hgt hmt hbt hn hd hs
theorem slen (hm : X.mg "len" = none) (ha : PA X (e :: es) (tO X.K B ws)) (hg : Gl X "len" := by rfl) (he : starEach (e :: es) X.env = (false, eval e X.env) :: starEach es X.env := by rfl) (hpl : (backTo pos (starEach es X.env)).any (·.1) = false := by rfl) :
    PE X (.Call (.Name "len" p) (e :: es) [] pos) (tE X.K B (wBlt (arg1 lenD) ws)) := sBltB call_len lenOk hg hm boot_len ha (by decide) (by decide) he hpl
theorem stuple (hm : X.mg "tuple" = none) (ha : PA X (e :: es) (tO X.K B ws)) (hg : Gl X "tuple" := by rfl) (he : starEach (e :: es) X.env = (false, eval e X.env) :: starEach es X.env := by rfl) (hpl : (backTo pos (starEach es X.env)).any (·.1) = false := by rfl) :
    PE X (.Call (.Name "tuple" p) (e :: es) [] pos) (tE X.K B (wBlt (arg1 tupleD) ws)) := sBltT call_tuple_of tupleOk hg hm boot_tuple ha (by decide) (by decide) he hpl
theorem slist (hm : X.mg "list" = none) (ha : PA X (e :: es) (tO X.K B ws)) (hg : Gl X "list" := by rfl) (he : starEach (e :: es) X.env = (false, eval e X.env) :: starEach es X.env := by rfl) (hpl : (backTo pos (starEach es X.env)).any (·.1) = false := by rfl) :
    PE X (.Call (.Name "list" p) (e :: es) [] pos) (tE X.K B (wBlt (arg1 listD) ws)) := sBltT call_list_of listOk hg hm (by decide +kernel) ha (by decide) (by decide) he hpl
theorem sall (hm : X.mg "all" = none) (ha : PA X (e :: es) (tO X.K B ws)) (hc : X.calm = true := by rfl) (hg : Gl X "all" := by rfl) (he : starEach (e :: es) X.env = (false, eval e X.env) :: starEach es X.env := by rfl) (hpl : (backTo pos (starEach es X.env)).any (·.1) = false := by rfl) :
    PE X (.Call (.Name "all" p) (e :: es) [] pos) (tE X.K B (wBlt (arg1 allD) ws)) := sBltB (cr_all hc) allOk hg hm (by decide +kernel) ha (by decide) (by decide) he hpl
theorem sany (hm : X.mg "any" = none) (ha : PA X (e :: es) (tO X.K B ws)) (hc : X.calm = true := by rfl) (hg : Gl X "any" := by rfl) (he : starEach (e :: es) X.env = (false, eval e X.env) :: starEach es X.env := by rfl) (hpl : (backTo pos (starEach es X.env)).any (·.1) = false := by rfl) :
    PE X (.Call (.Name "any" p) (e :: es) [] pos) (tE X.K B (wBlt (arg1 anyD) ws)) := sBltB (cr_any hc) anyOk hg hm (by decide +kernel) ha (by decide) (by decide) he hpl
theorem ssum (hm : X.mg "sum" = none) (ha : PA X (e :: es) (tO X.K B ws)) (hc : X.calm = true := by rfl) (hg : Gl X "sum" := by rfl) (he : starEach (e :: es) X.env = (false, eval e X.env) :: starEach es X.env := by rfl) (hpl : (backTo pos (starEach es X.env)).any (·.1) = false := by rfl) :
    PE X (.Call (.Name "sum" p) (e :: es) [] pos) (tE X.K B (wBlt (arg1 sumD) ws)) := sBltB (cr_sum hc) sumOk hg hm (by decide +kernel) ha (by decide) (by decide) he hpl
theorem smax (hm : X.mg "max" = none) (ha : PA X (e :: es) (tO X.K B ws)) (hc : X.calm = true := by rfl) (hg : Gl X "max" := by rfl) (he : starEach (e :: es) X.env = (false, eval e X.env) :: starEach es X.env := by rfl) (hpl : (backTo pos (starEach es X.env)).any (·.1) = false := by rfl) :
    PE X (.Call (.Name "max" p) (e :: es) [] pos) (tE X.K B (wBlt maxD ws)) := sBltB ((cr_max hc).or (call_max2 hc)) maxOk hg hm (by decide +kernel) ha (by decide) (by decide) he hpl
theorem smin (hm : X.mg "min" = none) (ha : PA X (e :: es) (tO X.K B ws)) (hc : X.calm = true := by rfl) (hg : Gl X "min" := by rfl) (he : starEach (e :: es) X.env = (false, eval e X.env) :: starEach es X.env := by rfl) (hpl : (backTo pos (starEach es X.env)).any (·.1) = false := by rfl) :
    PE X (.Call (.Name "min" p) (e :: es) [] pos) (tE X.K B (wBlt minD ws)) := sBltB ((cr_min hc).or (call_min2 hc)) minOk hg hm (by decide +kernel) ha (by decide) (by decide) he hpl
theorem sint (hm : X.mg "int" = none) (ha : PA X (e :: es) (tO X.K B ws)) (hg : Gl X "int" := by rfl) (he : starEach (e :: es) X.env = (false, eval e X.env) :: starEach es X.env := by rfl) (hpl : (backTo pos (starEach es X.env)).any (·.1) = false := by rfl) :
    PE X (.Call (.Name "int" p) (e :: es) [] pos) (tE X.K B (wBlt (arg1 intD) ws)) := sBltT call_int1 intOk hg hm PyProof.Rows.boot_int ha (by decide) (by decide) he hpl
theorem sstr (hm : X.mg "str" = none) (ha : PA X (e :: es) (tO X.K B ws)) (hg : Gl X "str" := by rfl) (he : starEach (e :: es) X.env = (false, eval e X.env) :: starEach es X.env := by rfl) (hpl : (backTo pos (starEach es X.env)).any (·.1) = false := by rfl) :
    PE X (.Call (.Name "str" p) (e :: es) [] pos) (tE X.K B (wBlt (arg1 strD) ws)) := sBltT call_str_int strOkC hg hm (by decide +kernel) ha (by decide) (by decide) he hpl
end
end Ip

set_option Elab.async false
set_option linter.all false
set_option maxRecDepth 100000
set_option maxHeartbeats 2000000
set_option autoImplicit false
/-! Ip14: more short forms; the box of drawn numbers -/
namespace Ip
open PySem L2 PySem.Spec PyProof.Rows

def GE (g : WG) : Prop := ∀ d ρ P, g d ρ P → ∃ ρ', P ρ'
def GLn (gs : WGs) (n : Nat) : Prop := ∀ ds ρ P, gs ds ρ P → ds.length = n ∧ ∃ ρ', P ρ'
theorem ge_set (i : Nat) : GE (gSet i) := fun d ρ P h => ⟨_, h.2⟩
theorem gl_nil : GLn gNilW 0 := fun ds ρ P h => by
  cases ds with
  | nil => exact ⟨rfl, _, h⟩
  | cons _ _ => exact h.elim
theorem gl_cons {g : WG} {gs : WGs} {n : Nat} (a : GE g) (b : GLn gs n) : GLn (gConsW g gs) (n + 1) := fun ds ρ P h => by
  cases ds with
  | nil => exact h.elim
  | cons d ds =>
    obtain ⟨ρ1, h1⟩ := a d ρ _ h
    obtain ⟨e, h2⟩ := b ds ρ1 P h1
    exact ⟨congrArg (· + 1) e, h2⟩
theorem ge_tup {gs : WGs} {n : Nat} (b : GLn gs n) : GE (gTupW gs) := fun d ρ P h => by
  cases d with
  | tup ds => exact (b ds ρ P h).2
  | _ => exact h.elim
section
variable {X : Cx} {B : BoxPred} {e a b k tg : Expr} {es : List Expr} {w wa wb wk : WE} {ws : WO} {wr : WR} {g : WG} {gs : WGs} {vs us : List Nat} {pos p p2 q apos cpos : Pos} {x : Str}
theorem srg1 (hm : X.mg "range" = none) (ha : PE X e (tE X.K B w)) (hg : Gl X "range" := by rfl) (hs : starEach [e] X.env = (false, eval e X.env) :: starEach [] X.env := by rfl) : PRg X (.Call (.Name "range" p) [e] [] pos) (tR X.K B (wRg1 w)) := sRg1 hg hm ha hs
theorem srg2 (hm : X.mg "range" = none) (ha : PE X a (tE X.K B wa)) (hb : PE X b (tE X.K B wb)) (hg : Gl X "range" := by rfl) (hs : starEach [a, b] X.env = (false, eval a X.env) :: starEach [b] X.env := by rfl) (hs2 : starEach [b] X.env = (false, eval b X.env) :: starEach [] X.env := by rfl) :
    PRg X (.Call (.Name "range" p) [a, b] [] pos) (tR X.K B (wRg2 wa wb)) := sRg2 hg hm ha hb hs hs2
theorem srgl (hm : X.mg "list" = none) (he : PRg X e (tR X.K B wr)) (hc : X.calm = true := by rfl) (hg : Gl X "list" := by rfl) (hs : starEach [e] X.env = (false, eval e X.env) :: starEach [] X.env := by rfl) : PE X (.Call (.Name "list" p) [e] [] pos) (tE X.K B (wRgL wr)) := sRgL hc hg hm he hs
theorem srgt (hm : X.mg "tuple" = none) (he : PRg X e (tR X.K B wr)) (hc : X.calm = true := by rfl) (hg : Gl X "tuple" := by rfl) (hs : starEach [e] X.env = (false, eval e X.env) :: starEach [] X.env := by rfl) : PE X (.Call (.Name "tuple" p) [e] [] pos) (tE X.K B (wRgT wr)) := sRgT hc hg hm he hs
theorem srgi1 (hm : X.mg "range" = none) (ha : PE X a (tE X.K B wa)) (hg : Gl X "range" := by rfl) (hs : starEach [a] X.env = (false, eval a X.env) :: starEach [] X.env := by rfl) : PI X tg (.Call (.Name "range" p) [a] [] pos) (tIt X.K B (wRgI (wRg1 wa))) := sRgI1 hg hm ha hs
theorem srgi2 (hm : X.mg "range" = none) (ha : PE X a (tE X.K B wa)) (hb : PE X b (tE X.K B wb)) (hg : Gl X "range" := by rfl) (hs : starEach [a, b] X.env = (false, eval a X.env) :: starEach [b] X.env := by rfl) (hs2 : starEach [b] X.env = (false, eval b X.env) :: starEach [] X.env := by rfl) :
    PI X tg (.Call (.Name "range" p) [a, b] [] pos) (tIt X.K B (wRgI (wRg2 wa wb))) := sRgI2 hg hm ha hb hs hs2
theorem sgn (i : Nat) (hN : X.N.Nodup) (hi : X.N[i]? = some x := by rfl) (hx : Loc X.env.scope x := by first | exact Or.inl rfl | exact Or.inr rfl) (hf : X.fn x = true ∨ X.env.scope.names.lookup x = some .local := by first | exact Or.inl rfl | exact Or.inr rfl) :
    PG X (.Name x pos) (tG X.K B [i] (gSet i)) := sgName hN hi hx hf
theorem sgcons (h1 : PG X e (tG X.K B vs g)) (h2 : PGs X es (tGs X.K B us gs)) (hs : (assignEach (e :: es) X.env).map (·.2) = assign e X.env :: (assignEach es X.env).map (·.2) := by rfl) : PGs X (e :: es) (tGs X.K B (vs ++ us) (gConsW g gs)) := sgsCons h1 h2 hs
theorem sgtup {kk : Nat} (h : PGs X es (tGs X.K B vs gs)) (hl : GLn gs es.length := by repeat' (first | exact gl_nil | exact ge_set _ | refine gl_cons ?_ ?_ | refine ge_tup ?_)) (hc : X.calm = true := by rfl) (hp : es.all tgPlain = true := by rfl) :
    PG X (.Tuple es kk pos) (tG X.K B vs (gTupW gs)) := sgTup hc hp h fun ds ρ P z => (hl ds ρ P z).1
theorem ssset (i : Nat) {pos' : Pos} (hN : X.N.Nodup) (he : PE X e (tE X.K B w)) (hi : X.N[i]? = some x := by rfl) (hx : Loc X.env.scope x := by first | exact Or.inl rfl | exact Or.inr rfl) (hf : X.fn x = true ∨ X.env.scope.names.lookup x = some .local := by first | exact Or.inl rfl | exact Or.inr rfl)
    (hs : swapsWith e (some (.Name x pos')) pos.line X.env = pure false := by rfl) : PS X (.Assign [.Name x pos'] e pos) (tS X.K B (wSet i w)) := ssSet hN hi hx he hf hs
theorem ssaug (i : Nat) {pos' : Pos} {op : Operator} {f : Int → Int → Int} (hN : X.N.Nodup) (ho : PIp X op (ipI f)) (he : PE X e (tE X.K B w)) (hi : X.N[i]? = some x := by rfl) (hx : Loc X.env.scope x := by first | exact Or.inl rfl | exact Or.inr rfl)
    (hf : X.fn x = true ∨ X.env.scope.names.lookup x = some .local := by first | exact Or.inl rfl | exact Or.inr rfl) : PS X (.AugAssign (.Name x pos') op e pos) (tS X.K B (wAugI i f w)) := ssAugI hN hi hx ho he hf
theorem spop (i : Nat) (hN : X.N[i]? = some x := by rfl) (hv : Vis X.env.scope x := by first | exact Or.inl rfl | exact Or.inr (Or.inl rfl) | exact Or.inr (Or.inr rfl)) (hd : (x == ("__debug__" : Str)) = false := by decide) (hcd : (x == ("__classdict__" : Str)) = false := by decide)
    (hbase : attributeBase (.Name x p) "pop" X.env (eval (.Name x p) X.env) = eval (.Name x p) X.env := by rfl) (hline : (apos.endLine == cpos.line) = true := by rfl) : PE X (.Call (.Attribute (.Name x p) "pop" apos) [] [] cpos) (tE X.K B (wPop i)) := sPop hN hv hd hcd hbase hline
theorem spopat (i : Nat) (he : PE X e (tE X.K B w)) (hN : X.N[i]? = some x := by rfl) (hv : Vis X.env.scope x := by first | exact Or.inl rfl | exact Or.inr (Or.inl rfl) | exact Or.inr (Or.inr rfl)) (hd : (x == ("__debug__" : Str)) = false := by decide) (hcd : (x == ("__classdict__" : Str)) = false := by decide)
    (hbase : attributeBase (.Name x p) "pop" X.env (eval (.Name x p) X.env) = eval (.Name x p) X.env := by rfl)
    (hfew : ((backTo cpos (starEach (e :: []) X.env)).all (fun x => !x.1) && (backToKw cpos (keywordEach [] X.env)).all (fun x => x.1.isSome)
      && decide ((e :: []).length + ([] : List Keyword).length + (if ([] : List Keyword).isEmpty then 0 else 1) < 30)) = true := by rfl)
    (hline : (apos.endLine == cpos.line) = true := by rfl) (hs : starEach (e :: []) X.env = (false, eval e X.env) :: starEach [] X.env := by rfl) (hplain : (backTo cpos (starEach [] X.env)).any (·.1) = false := by rfl) :
    PE X (.Call (.Attribute (.Name x p) "pop" apos) [e] [] cpos) (tE X.K B (wPopAt i w)) := sPopAt hN hv hd hcd he hbase hfew hline hs hplain
theorem sappend (i : Nat) (he : PE X e (tE X.K B w)) (hN : X.N[i]? = some x := by rfl) (hv : Vis X.env.scope x := by first | exact Or.inl rfl | exact Or.inr (Or.inl rfl) | exact Or.inr (Or.inr rfl)) (hd : (x == ("__debug__" : Str)) = false := by decide) (hcd : (x == ("__classdict__" : Str)) = false := by decide)
    (hbase : attributeBase (.Name x p) "append" X.env (eval (.Name x p) X.env) = eval (.Name x p) X.env := by rfl)
    (hfew : ((backTo cpos (starEach (e :: []) X.env)).all (fun x => !x.1) && (backToKw cpos (keywordEach [] X.env)).all (fun x => x.1.isSome)
      && decide ((e :: []).length + ([] : List Keyword).length + (if ([] : List Keyword).isEmpty then 0 else 1) < 30)) = true := by rfl)
    (hline : (apos.endLine == cpos.line) = true := by rfl) (hs : starEach (e :: []) X.env = (false, eval e X.env) :: starEach [] X.env := by rfl) (hplain : (backTo cpos (starEach [] X.env)).any (·.1) = false := by rfl) :
    PE X (.Call (.Attribute (.Name x p) "append" apos) [e] [] cpos) (tE X.K B (wAppend i w)) := sAppend hN hv hd hcd he hbase hfew hline hs hplain
theorem sextend (i : Nat) (he : PE X e (tE X.K B w)) (hN : X.N[i]? = some x := by rfl) (hv : Vis X.env.scope x := by first | exact Or.inl rfl | exact Or.inr (Or.inl rfl) | exact Or.inr (Or.inr rfl)) (hd : (x == ("__debug__" : Str)) = false := by decide) (hcd : (x == ("__classdict__" : Str)) = false := by decide)
    (hbase : attributeBase (.Name x p) "extend" X.env (eval (.Name x p) X.env) = eval (.Name x p) X.env := by rfl)
    (hfew : ((backTo cpos (starEach (e :: []) X.env)).all (fun x => !x.1) && (backToKw cpos (keywordEach [] X.env)).all (fun x => x.1.isSome)
      && decide ((e :: []).length + ([] : List Keyword).length + (if ([] : List Keyword).isEmpty then 0 else 1) < 30)) = true := by rfl)
    (hline : (apos.endLine == cpos.line) = true := by rfl) (hs : starEach (e :: []) X.env = (false, eval e X.env) :: starEach [] X.env := by rfl) (hplain : (backTo cpos (starEach [] X.env)).any (·.1) = false := by rfl) :
    PE X (.Call (.Attribute (.Name x p) "extend" apos) [e] [] cpos) (tE X.K B (wExtend i w)) := sExtend hN hv hd hcd he hbase hfew hline hs hplain
theorem sssetix (i : Nat) (hk : PE X k (tE X.K B wk)) (he : PE X e (tE X.K B w)) (hN : X.N[i]? = some x := by rfl) (hv : Vis X.env.scope x := by first | exact Or.inl rfl | exact Or.inr (Or.inl rfl) | exact Or.inr (Or.inr rfl)) (hd : (x == ("__debug__" : Str)) = false := by decide) (hcd : (x == ("__classdict__" : Str)) = false := by decide)
    (ha : ∀ v, assign (.Subscript (.Name x p) k p2) X.env v = (do
      let ov ← holding [v] (eval (.Name x p) X.env)
      let iv ← holding [v, ov] (eval k X.env)
      standAt p2
      holding [v, ov, iv] (setItem ov iv v)
      release [v, ov, iv] []) := by intro _; rfl)
    (hs : swapsWithSole [.Subscript (.Name x p) k p2] e pos.line X.env = pure false := by rfl) (hw : swappedStores [.Subscript (.Name x p) k p2] e X.env = pure none := by rfl)
    (h1 : (assignEach [.Subscript (.Name x p) k p2] X.env).map (·.2) = [assign (.Subscript (.Name x p) k p2) X.env] := by rfl) :
    PS X (.Assign [.Subscript (.Name x p) k p2] e pos) (tS X.K B (wSetIx i wk w)) := ssSetIx hN hv hd hcd hk he ha hs hw h1
end

/-! ### the box of drawn numbers: what is left of the script, the number that is being used up, the last one made -/
def BoxAt (b c : Addr) (H : Hp) (dg : Int) : Prop := ∃ (ns : List Int) (z : Int), H b = some (.lst [.ref c, .int dg, .int z]) ∧ H c = some (.lst (ns.map V.int)) ∧ 0 ≤ z
def BoxK : BoxPred := fun b c H => ∃ dg, 0 ≤ dg ∧ BoxAt b c H dg
theorem boxGood : BoxGood BoxK where
  st := fun ⟨dg, h0, ns, z, h1, h2, h3⟩ e1 e2 => ⟨dg, h0, ns, z, by rw [e1]; exact h1, by rw [e2]; exact h2, h3⟩
  lb := fun ⟨dg, h0, ns, z, h1, h2, h3⟩ => ⟨_, h1⟩
  lc := fun ⟨dg, h0, ns, z, h1, h2, h3⟩ => ⟨_, h2⟩
/-- what a draw promises: any number below the bound -/
def drawT : CallT := fun ds P => ∃ many : Int, ds = [.box, .int many] ∧ 0 < many ∧ many ≤ 1000000000 ∧ ∀ d : Int, 0 ≤ d → d < many → P (.fz (.int d))
theorem drawT_len {ds : List D} {P : Res → Prop} (h : drawT ds P) : ds.length = 2 := by
  obtain ⟨many, rfl, _⟩ := h
  rfl
/-- what a new number costs -/
def spLoad : Sp := fun vs H Q _ => ∃ (b c : Addr) (dg : Int), vs = [.ref b] ∧ BoxAt b c H dg ∧ ∀ (H' : Hp) (r : Int), BoxAt b c H' dg → 0 ≤ r → (∀ a, a ≠ b → a ≠ c → H' a = H a) → Q (.int r) H'
end Ip

set_option Elab.async false
set_option linter.all false
set_option maxRecDepth 100000
set_option maxHeartbeats 2000000
set_option autoImplicit false
/-! Ip15: the law's own def -/
namespace Ip
open PySem L2 PySem.Spec PyProof.Rows
section
variable {P : Program} {w : World} {K : Frag} {mg : Str → Option Value} {base : Heap} {B : BoxPred}
/-- a def of the text under its name -/
structure Fx (K : Frag) (mg : Str → Option Value) (x : Str) (st : Stmt) (ps : List Str) : Prop where
  ex : ∃ (f : Addr) (fd : FuncData), Fun K x x st f fd ∧ mg x = some (.ref f) ∧ Binds K fd ps []
theorem Fx.cf {x : Str} {st : Stmt} {ps : List Str} {k n : Nat} {T : CallT} (F : Fx K mg x st ps) (h : ∀ f fd, Fun K x x st f fd → FnOk P w K mg base CX0 k f fd ps (spI K B n T)) (hl : ∀ ds Q, T ds Q → ds.length = n) : Cf P w K mg base B k x n T := by
  obtain ⟨f, fd, F, m, b⟩ := F.ex
  exact ⟨⟨f, fd, ps, h f fd F, m, F.kp, b⟩, hl⟩
theorem Fx.no {x : Str} {st : Stmt} {ps : List Str} {k n : Nat} (F : Fx K mg x st ps) : Cf P w K mg base B k x n (fun _ _ => False) :=
  F.cf (fun f fd _ => ⟨fun vs H Q E h => by
    obtain ⟨_, _, _, _, _, _, h, _⟩ := h
    exact h.elim, fun A outer s H args us vs Q E _ _ _ _ h => by
    obtain ⟨_, _, _, _, _, _, h, _⟩ := h
    exact h.elim⟩) fun _ _ h => h.elim
end
/-- the law: a list of at most 63 numbers in, True out -/
def spLaw (K : Frag) : Sp := fun vs H Q _ => ∃ (a : Addr) (ns : List Int), vs = [.ref a] ∧ SqL K H a (ns.map V.int) ∧ ns.length ≤ 63 ∧ ∀ H', Q (.bl true) H'
theorem boxRel {K : Frag} {B : BoxPred} {b c : Addr} {H : Hp} {m : Nat} {x : Option V} (good : BoxGood B) (hb : B b c H) :
    Rel K B ⟨fun y => y = b ∨ y = c, b, c, H, [], [], []⟩ noOwn (.non :: .fz .box :: List.replicate m .non) (x :: some (.ref b) :: List.replicate m none) H where
  hb := .inl rfl
  hc := .inr rfl
  good := good
  box := hb
  there := fun a h => by
    rcases h with rfl | rfl
    · obtain ⟨xs, e⟩ := good.lb hb
      exact ⟨_, e, fun _ z => by cases z⟩
    · obtain ⟨xs, e⟩ := good.lc hb
      exact ⟨_, e, fun _ z => by cases z⟩
  base := fun a o _ _ e => e
  fresh := fun i a e => by cases e
  inj := fun i j a e => by cases e
  dom := fun i a e => by cases e
  fz := fun i d e => by
    match i, e with
    | 0, e => cases e
    | 1, e =>
      cases e
      exact ⟨_, rfl, .box⟩
    | i + 2, e =>
      have e : (List.replicate m Slot.non)[i]? = some (.fz d) := e
      rw [List.getElem?_replicate] at e
      split at e <;> cases e
  ow := fun i d e => by
    match i, e with
    | 0, e => rcases e with e | e <;> cases e
    | 1, e => rcases e with e | e <;> cases e
    | i + 2, e =>
      have e : (List.replicate m Slot.non)[i]? = some (.ow d) ∨ (List.replicate m Slot.non)[i]? = some (.lk d) := e
      rw [List.getElem?_replicate] at e
      split at e <;> rcases e with e | e <;> cases e
  len := by simp
  ex := fun p hp => by cases hp
  lks := fun p hp => by cases hp
  pv := fun p hp => by cases hp
  pvo := fun p hp => by cases hp
  pvn := List.nodup_nil
theorem law_end {K : Frag} {b c : Addr} {H' : Hp} {m : Nat} {x : Option V} {ws : WS} {Q : VK} {nx : L2.St → Hp → Prop} (hB : BoxAt b c H' 0)
    (hl : ws ⟨fun _ => False, fun r => r = .fz (.bl true), fun _ => False, fun _ => False⟩ (.non :: .fz .box :: List.replicate m .non)) (k : ∀ H', Q (.bl true) H') :
    tS K BoxK ws { nx := nx, rt := Q } (x :: some (.ref b) :: List.replicate m none) H' := by
  refine ⟨_, _, _, _, rfl, boxRel boxGood ⟨0, Int.le_refl _, hB⟩, hl, fun _ _ _ _ _ p => p.elim, fun _ _ _ _ _ p => p.elim, fun _ _ _ _ _ p => p.elim, fun v r H'' T p => ?_⟩
  subst p
  have z := T.rs
  cases z
  exact k H''
end Ip

set_option Elab.async false
set_option linter.all false
set_option maxRecDepth 100000
set_option maxHeartbeats 2000000
set_option autoImplicit false
/-! Ip16: rules for the plain part -/
namespace Ip
open PySem L2 PySem.Spec PyProof.Rows

theorem forGo_rule {g : WG} {body : WS} {nx : Rho → Prop} {rt : Res → Prop} (Inv : Nat → Rho → Prop) : ∀ (ds : List D) (i : Nat) (ρ : Rho), Inv i ρ →
    (∀ j d ρ, ds[j]? = some d → Inv (i + j) ρ → ∀ C : Rho → Prop, (∀ ρ', Inv (i + j + 1) ρ' → C ρ') → g d ρ fun ρ2 => body ⟨C, rt, nx, C⟩ ρ2) →
    (∀ ρ, Inv (i + ds.length) ρ → nx ρ) → forGo g body nx rt ds ρ
  | [], i, ρ, h0, _, he => he ρ h0
  | d :: ds, i, ρ, h0, hs, he => hs 0 d ρ rfl h0 _ fun ρ' h' => forGo_rule Inv ds (i + 1) ρ' h' (fun j d' ρ2 e h2 => by
      have := hs (j + 1) d' ρ2 (by simpa using e)
      rw [show i + (j + 1) = i + 1 + j by omega] at this
      exact this h2) fun ρ2 h2 => he ρ2 (by rw [List.length_cons, show i + (ds.length + 1) = i + 1 + ds.length by omega]; exact h2)
theorem for_rule {g : WG} {body : WS} {nx : Rho → Prop} {rt : Res → Prop} {ds : List D} {ρ : Rho} (Inv : Nat → Rho → Prop) (h0 : Inv 0 ρ)
    (hs : ∀ j d ρ, ds[j]? = some d → Inv j ρ → ∀ C : Rho → Prop, (∀ ρ', Inv (j + 1) ρ' → C ρ') → g d ρ fun ρ2 => body ⟨C, rt, nx, C⟩ ρ2)
    (he : ∀ ρ, Inv ds.length ρ → nx ρ) : forGo g body nx rt ds ρ :=
  forGo_rule Inv ds 0 ρ h0 (fun j d ρ e h C k => hs j d ρ e (by rw [Nat.zero_add] at h; exact h) C fun ρ' h' => k ρ' (by rw [Nat.zero_add]; exact h')) fun ρ h => he ρ (by rw [Nat.zero_add] at h; exact h)
theorem lcGo_rule {g : WG} {ct : WT} {we : WE} {vs : List Nat} {K : List D → Rho → Prop} (Inv : Nat → List D → Rho → Prop) : ∀ (ds : List D) (i : Nat) (acc : List D) (ρ : Rho), Inv i acc ρ →
    (∀ j d acc ρ, ds[j]? = some d → Inv (i + j) acc ρ → ∀ C : List D → Rho → Prop, (∀ acc' ρ', Inv (i + j + 1) acc' ρ' → C acc' ρ') → g d ρ fun ρ2 => ct ρ2 fun b ρ3 =>
      if b = true then we ρ3 fun r ρ4 => need (frz1 ρ4 r) fun q => loose q.2 vs = true ∧ C (acc ++ [q.1]) (wipeR q.2 vs) else loose ρ3 vs = true ∧ C acc (wipeR ρ3 vs)) →
    (∀ acc ρ, Inv (i + ds.length) acc ρ → K acc ρ) → lcGo g ct we vs K ds acc ρ
  | [], i, acc, ρ, h0, _, he => he acc ρ h0
  | d :: ds, i, acc, ρ, h0, hs, he => hs 0 d acc ρ rfl h0 (fun acc' ρ' => lcGo g ct we vs K ds acc' ρ') fun acc' ρ' h' => lcGo_rule Inv ds (i + 1) acc' ρ' h' (fun j d' acc2 ρ2 e h2 => by
      have := hs (j + 1) d' acc2 ρ2 (by simpa using e)
      rw [show i + (j + 1) = i + 1 + j by omega] at this
      exact this h2) fun acc2 ρ2 h2 => he acc2 ρ2 (by rw [List.length_cons, show i + (ds.length + 1) = i + 1 + ds.length by omega]; exact h2)
/-- every turn gives one item, no name but the turn's own changes -/
theorem lc_map {g : WG} {we : WE} {vs : List Nat} {K : List D → Rho → Prop} {ds : List D} {ρ : Rho} (f : Nat → D → D) (hs : ∀ j d, ds[j]? = some d → ∀ C : D → Rho → Prop, C (f j d) ρ → g d ρ fun ρ2 => we ρ2 fun r ρ4 => need (frz1 ρ4 r) fun q => loose q.2 vs = true ∧ C q.1 (wipeR q.2 vs))
    (he : K (ds.mapIdx f) ρ) : lcGo g wYes we vs K ds [] ρ := by
  refine lcGo_rule (fun i acc ρ' => ρ' = ρ ∧ acc = (ds.take i).mapIdx f) ds 0 [] ρ ⟨rfl, by simp⟩ ?_ ?_
  · rintro j d acc ρ2 e ⟨rfl, rfl⟩ C k
    rw [Nat.zero_add] at *
    refine hs j d e (fun x ρ3 => C ((ds.take j).mapIdx f ++ [x]) ρ3) (k _ _ ⟨rfl, ?_⟩)
    have hj : j < ds.length := (List.getElem?_eq_some_iff.mp e).1
    have e2 : ds.take (j + 1) = ds.take j ++ [d] := by
      rw [List.take_succ, e]; rfl
    rw [e2, List.mapIdx_append]
    simp
    congr 1
    omega
  · rintro acc ρ2 ⟨rfl, rfl⟩
    rw [Nat.zero_add, List.take_length]
    exact he
/-- .. the item's place does not matter -/
theorem lc_map1 {g : WG} {we : WE} {vs : List Nat} {K : List D → Rho → Prop} {ds : List D} {ρ : Rho} (f : D → D) (hs : ∀ d ∈ ds, ∀ C : D → Rho → Prop, C (f d) ρ → g d ρ fun ρ2 => we ρ2 fun r ρ4 => need (frz1 ρ4 r) fun q => loose q.2 vs = true ∧ C q.1 (wipeR q.2 vs))
    (he : K (ds.map f) ρ) : lcGo g wYes we vs K ds [] ρ :=
  lc_map (fun _ => f) (fun j d e => hs d (List.mem_iff_getElem?.mpr ⟨j, e⟩)) (by
    have : ds.mapIdx (fun _ => f) = ds.map f := by
      apply List.ext_getElem?
      intro i
      simp
    rw [this]; exact he)
/-- .. items of some kind -/
theorem lc_any {g : WG} {we : WE} {vs : List Nat} {K : List D → Rho → Prop} {ds : List D} {ρ : Rho} (Ok : D → Prop) (hs : ∀ d ∈ ds, ∀ C : D → Rho → Prop, (∀ x, Ok x → C x ρ) → g d ρ fun ρ2 => we ρ2 fun r ρ4 => need (frz1 ρ4 r) fun q => loose q.2 vs = true ∧ C q.1 (wipeR q.2 vs))
    (he : ∀ xs, xs.length = ds.length → (∀ x ∈ xs, Ok x) → K xs ρ) : lcGo g wYes we vs K ds [] ρ := by
  refine lcGo_rule (fun i acc ρ' => ρ' = ρ ∧ acc.length = i ∧ ∀ x ∈ acc, Ok x) ds 0 [] ρ ⟨rfl, rfl, fun x h => by cases h⟩ ?_ ?_
  · rintro j d acc ρ2 e ⟨rfl, hl, ho⟩ C k
    refine hs d (List.mem_iff_getElem?.mpr ⟨j, e⟩) (fun x ρ3 => C (acc ++ [x]) ρ3) fun x hx => k _ _ ⟨rfl, by simp [hl], fun y hy => ?_⟩
    rcases List.mem_append.mp hy with hy | hy
    · exact ho y hy
    · rw [List.mem_singleton.mp hy]; exact hx
  · rintro acc ρ2 ⟨rfl, hl, ho⟩
    exact he acc (by omega) ho
/-- items that the turn's test lets pass -/
theorem lc_filter {g : WG} {ct : WT} {we : WE} {vs : List Nat} {K : List D → Rho → Prop} {ds : List D} {ρ : Rho} (p : D → Bool) (f : D → D)
    (hs : ∀ d ∈ ds, ∀ C : D → Rho → Prop, ∀ C2 : Rho → Prop, (p d = true → C (f d) ρ) → (p d = false → C2 ρ) → g d ρ fun ρ2 => ct ρ2 fun b ρ3 => if b = true then we ρ3 fun r ρ4 => need (frz1 ρ4 r) fun q => loose q.2 vs = true ∧ C q.1 (wipeR q.2 vs) else loose ρ3 vs = true ∧ C2 (wipeR ρ3 vs))
    (he : K ((ds.filter p).map f) ρ) : lcGo g ct we vs K ds [] ρ := by
  refine lcGo_rule (fun i acc ρ' => ρ' = ρ ∧ acc = ((ds.take i).filter p).map f) ds 0 [] ρ ⟨rfl, by simp⟩ ?_ ?_
  · rintro j d acc ρ2 e ⟨rfl, rfl⟩ C k
    rw [Nat.zero_add] at *
    have e2 : ds.take (j + 1) = ds.take j ++ [d] := by
      rw [List.take_succ, e]; rfl
    refine hs d (List.mem_iff_getElem?.mpr ⟨j, e⟩) (fun x ρ3 => C (((ds.take j).filter p).map f ++ [x]) ρ3) (fun ρ3 => C (((ds.take j).filter p).map f) ρ3) (fun hp => k _ _ ⟨rfl, ?_⟩) fun hp => k _ _ ⟨rfl, ?_⟩
    · rw [e2, List.filter_append, List.map_append]
      simp [hp]
    · rw [e2, List.filter_append, List.map_append]
      simp [hp]
  · rintro acc ρ2 ⟨rfl, rfl⟩
    rw [Nat.zero_add, List.take_length]
    exact he
theorem backRho_pure {ρ : Rho} {rs : List Res} {r : Res} (h : resPure r = true) : backRho ρ rs r = some ρ := by
  unfold backRho
  rw [if_pos h]
theorem need_intro {α : Type} {o : Option α} {a : α} {k : α → Prop} (h : o = some a) (w : k a) : need o k := by
  rw [h]; exact w
/-- an operation's three steps: both operands, then what it makes of them -/
theorem n3 {α β γ : Type} {o1 : Option α} {o2 : α → Option β} {o3 : α → β → Option γ} {a : α} {b : β} {c : γ} {k : α → β → γ → Prop} (h1 : o1 = some a) (h2 : o2 a = some b) (h3 : o3 a b = some c) (w : k a b c) :
    need o1 fun x => need (o2 x) fun y => need (o3 x y) fun z => k x y z := by
  rw [h1]
  show need (o2 a) _
  rw [h2]
  show need (o3 a b) _
  rw [h3]
  exact w
theorem n2 {α γ : Type} {o1 : Option α} {o3 : α → Option γ} {a : α} {c : γ} {k : α → γ → Prop} (h1 : o1 = some a) (h3 : o3 a = some c) (w : k a c) :
    need o1 fun x => need (o3 x) fun z => k x z := by
  rw [h1]
  show need (o3 a) _
  rw [h3]
  exact w
theorem nx {α : Type} {o : Option α} {k : α → Prop} (h : ∃ a, o = some a ∧ k a) : need o k := by
  obtain ⟨a, e, w⟩ := h
  rw [e]; exact w
end Ip

set_option Elab.async false
set_option linter.all false
set_option maxRecDepth 100000
set_option maxHeartbeats 400000
set_option autoImplicit false
namespace Lw
open PySem L2 PySem.Spec PyProof.Rows Ip
/-! the text by places -/
def top (i : Nat) : Stmt := PySem.Challenge.pw_onevisit_k44_rounds_judged.main.body.getD i (.Pass ⟨0, 0, 0, 0⟩)
abbrev s_is_count : Stmt := top 1
abbrev N_is_count : List Str := ["value", "least", "most"]
theorem sc_is_count : FnScope N_is_count ["value", "least", "most"] (defScope s_is_count) := ⟨rfl, rfl, rfl, by decide +kernel, rfl, by decide +kernel, by decide +kernel⟩
abbrev s_are_lengths : Stmt := top 4
abbrev N_are_lengths : List Str := ["n", "value", "part"]
theorem sc_are_lengths : FnScope N_are_lengths ["n", "value"] (defScope s_are_lengths) := ⟨rfl, rfl, rfl, by decide +kernel, rfl, by decide +kernel, by decide +kernel⟩
abbrev s_length_gain : Stmt := top 5
abbrev N_length_gain : List Str := ["links", "lengths", "u", "v"]
theorem sc_length_gain : FnScope N_length_gain ["links", "lengths", "u", "v"] (defScope s_length_gain) := ⟨rfl, rfl, rfl, by decide +kernel, rfl, by decide +kernel, by decide +kernel⟩
abbrev s_is_round : Stmt := top 6
abbrev N_is_round : List Str := ["precedence", "lengths", "value", "n", "links", "i", "gains", "k"]
theorem sc_is_round : FnScope N_is_round ["precedence", "lengths", "value"] (defScope s_is_round) := ⟨rfl, rfl, rfl, by decide +kernel, rfl, by decide +kernel, by decide +kernel⟩
abbrev s__law_box : Stmt := top 8
abbrev N__law_box : List Str := ["script"]
theorem sc__law_box : FnScope N__law_box ["script"] (defScope s__law_box) := ⟨rfl, rfl, rfl, by decide +kernel, rfl, by decide +kernel, by decide +kernel⟩
abbrev s__law_load : Stmt := top 9
abbrev N__law_load : List Str := ["box", "cells", "cell", "size", "first", "second"]
theorem sc__law_load : FnScope N__law_load ["box"] (defScope s__law_load) := ⟨rfl, rfl, rfl, by decide +kernel, rfl, by decide +kernel, by decide +kernel⟩
abbrev s__law_draw : Stmt := top 10
abbrev N__law_draw : List Str := ["box", "many", "digit"]
theorem sc__law_draw : FnScope N__law_draw ["box", "many"] (defScope s__law_draw) := ⟨rfl, rfl, rfl, by decide +kernel, rfl, by decide +kernel, by decide +kernel⟩
abbrev s__law_same : Stmt := top 11
abbrev N__law_same : List Str := ["a", "b", "k"]
theorem sc__law_same : FnScope N__law_same ["a", "b"] (defScope s__law_same) := ⟨rfl, rfl, rfl, by decide +kernel, rfl, by decide +kernel, by decide +kernel⟩
abbrev s__law_bent : Stmt := top 12
abbrev N__law_bent : List Str := ["box", "value", "at", "pick"]
theorem sc__law_bent : FnScope N__law_bent ["box", "value"] (defScope s__law_bent) := ⟨rfl, rfl, rfl, by decide +kernel, rfl, by decide +kernel, by decide +kernel⟩
abbrev s__law_precedence : Stmt := top 13
abbrev N__law_precedence : List Str := ["stays", "n", "links", "a", "b"]
theorem sc__law_precedence : FnScope N__law_precedence ["stays"] (defScope s__law_precedence) := ⟨rfl, rfl, rfl, by decide +kernel, rfl, by decide +kernel, by decide +kernel⟩
abbrev s__law_stays : Stmt := top 14
abbrev N__law_stays : List Str := ["box", "n", "wide", "top", "firsts", "i", "first"]
theorem sc__law_stays : FnScope N__law_stays ["box", "n", "wide", "top"] (defScope s__law_stays) := ⟨rfl, rfl, rfl, by decide +kernel, rfl, by decide +kernel, by decide +kernel⟩
abbrev s__law_gain : Stmt := top 15
abbrev N__law_gain : List Str := ["links", "lengths", "u", "v"]
theorem sc__law_gain : FnScope N__law_gain ["links", "lengths", "u", "v"] (defScope s__law_gain) := ⟨rfl, rfl, rfl, by decide +kernel, rfl, by decide +kernel, by decide +kernel⟩
abbrev s__law_due : Stmt := top 16
abbrev N__law_due : List Str := ["precedence", "lengths", "value", "n", "links", "i", "gains", "k"]
theorem sc__law_due : FnScope N__law_due ["precedence", "lengths", "value"] (defScope s__law_due) := ⟨rfl, rfl, rfl, by decide +kernel, rfl, by decide +kernel, by decide +kernel⟩
abbrev s__law_made : Stmt := top 17
abbrev N__law_made : List Str := ["box", "many", "lengths", "k", "inner", "part", "links", "j", "own"]
theorem sc__law_made : FnScope N__law_made ["box"] (defScope s__law_made) := ⟨rfl, rfl, rfl, by decide +kernel, rfl, by decide +kernel, by decide +kernel⟩
abbrev s_law : Stmt := top 18
abbrev N_law : List Str := ["script", "box", "turn", "stays", "precedence", "n", "lengths", "stay", "values", "again", "left", "row", "k", "value", "bent", "due", "part", "two", "met"]
theorem sc_law : FnScope N_law ["script"] (defScope s_law) := ⟨rfl, rfl, rfl, by decide +kernel, rfl, by decide +kernel, by decide +kernel⟩
abbrev w_is_count_0 (T : Nat → CallT) : WS :=
  wSeqS (wRet (wAnd (wIsi .int (wVar 0)) (wAnd (wNot (wIsi .bool (wVar 0))) (wOfT (wChain .LtE .LtE (wVar 1) (wVar 0) (wVar 2))))))
  wSkip
abbrev w_is_count (T : Nat → CallT) : WS := w_is_count_0 T
abbrev w_are_lengths_0 (T : Nat → CallT) : WS :=
  wSeqS (wRet (wAnd (wIsi .tuple (wVar 1)) (wAnd (w2 (cmpR .Eq) (wBlt (arg1 lenD) (wCons (wVar 1) wNil)) (wVar 0)) (wBlt (arg1 allD) (wCons (wLc (wSeq (wVar 1)) (gSet 2) wYes (wCall (T 1) (wCons (wVar 2) (wCons (wLit (.int 0)) (wCons (wLit (.int 10000)) wNil)))) [2]) wNil)))))
  wSkip
abbrev w_are_lengths (T : Nat → CallT) : WS := w_are_lengths_0 T
abbrev w_length_gain_1 (T : Nat → CallT) : WS :=
  wSeqS (wRet (wIf (wCmpT .In (wTup (wCons (wVar 3) (wCons (wVar 2) wNil))) (wVar 0)) (wLit .non) (w1 negD (w2 idxD (wVar 1) (wVar 3)))))
  wSkip
abbrev w_length_gain_0 (T : Nat → CallT) : WS :=
  wSeqS (wIfS (wCmpT .In (wTup (wCons (wVar 2) (wCons (wVar 3) wNil))) (wVar 0)) (wSeqS (wRet (w2 (binD .Add) (w2 idxD (wVar 1) (wVar 2)) (wLit (.int 1))))
  wSkip) wSkip)
  (w_length_gain_1 T)
abbrev w_length_gain (T : Nat → CallT) : WS := w_length_gain_0 T
abbrev w_is_round_4 (T : Nat → CallT) : WS :=
  wSeqS (wRet (wAnd (w2 (cmpR .NotIn) (wLit .non) (wVar 6)) (w2 (cmpR .Gt) (wBlt (arg1 sumD) (wCons (wVar 6) wNil)) (wLit (.int 0)))))
  wSkip
abbrev w_is_round_3 (T : Nat → CallT) : WS :=
  wSeqS (wSet 6 (wLc (wRgI (wRg1 (wBlt (arg1 lenD) (wCons (wVar 2) wNil)))) (gSet 7) wYes (wCall (T 5) (wCons (wVar 4) (wCons (wVar 1) (wCons (w2 idxD (wVar 2) (w2 (binD .Sub) (wVar 7) (wLit (.int 1)))) (wCons (w2 idxD (wVar 2) (wVar 7)) wNil))))) [7]))
  (w_is_round_4 T)
abbrev w_is_round_2 (T : Nat → CallT) : WS :=
  wSeqS (wIfS (wCmpT .NotEq (wLenSet (wVar 2)) (wBlt (arg1 lenD) (wCons (wVar 2) wNil))) (wSeqS (wRet (wLit (.bl false)))
  wSkip) wSkip)
  (w_is_round_3 T)
abbrev w_is_round_1 (T : Nat → CallT) : WS :=
  wSeqS (wIfS (wOrT (wNotT (wTest (wIsi .tuple (wVar 2)))) (wOrT (wCmpT .Lt (wBlt (arg1 lenD) (wCons (wVar 2) wNil)) (wLit (.int 2))) (wNotT (wTest (wBlt (arg1 allD) (wCons (wLc (wSeq (wVar 2)) (gSet 5) wYes (wCall (T 1) (wCons (wVar 5) (wCons (wLit (.int 0)) (wCons (w2 (binD .Sub) (wVar 3) (wLit (.int 1))) wNil)))) [5]) wNil)))))) (wSeqS (wRet (wLit (.bl false)))
  wSkip) wSkip)
  (w_is_round_2 T)
abbrev w_is_round_0 (T : Nat → CallT) : WS :=
  wSeqS (wAsg (gTupW (gConsW (gSet 3) (gConsW (gSet 4) gNilW))) (wVar 0))
  (w_is_round_1 T)
abbrev w_is_round (T : Nat → CallT) : WS := w_is_round_0 T
abbrev w__law_same_3 (T : Nat → CallT) : WS :=
  wSeqS (wRet (wAnd (w2 (cmpR .Is) (wVar 0) (wLit .non)) (w2 (cmpR .Is) (wVar 1) (wLit .non))))
  wSkip
abbrev w__law_same_2 (T : Nat → CallT) : WS :=
  wSeqS (wIfS (wOrT (wAndT (wTest (wIsi .int (wVar 0))) (wTest (wIsi .int (wVar 1)))) (wAndT (wTest (wIsi .str (wVar 0))) (wTest (wIsi .str (wVar 1))))) (wSeqS (wRet (w2 (cmpR .Eq) (wVar 0) (wVar 1)))
  wSkip) wSkip)
  (w__law_same_3 T)
abbrev w__law_same_1 (T : Nat → CallT) : WS :=
  wSeqS (wIfS (wOrT (wTest (wIsi .bool (wVar 0))) (wTest (wIsi .bool (wVar 1)))) (wSeqS (wRet (wAnd (wIsi .bool (wVar 0)) (wAnd (wIsi .bool (wVar 1)) (w2 (cmpR .Eq) (wVar 0) (wVar 1)))))
  wSkip) wSkip)
  (w__law_same_2 T)
abbrev w__law_same_0 (T : Nat → CallT) : WS :=
  wSeqS (wIfS (wOrT (wAndT (wTest (wIsi .tuple (wVar 0))) (wTest (wIsi .tuple (wVar 1)))) (wAndT (wTest (wIsi .list (wVar 0))) (wTest (wIsi .list (wVar 1))))) (wSeqS (wRet (wAnd (w2 (cmpR .Eq) (wBlt (arg1 lenD) (wCons (wVar 0) wNil)) (wBlt (arg1 lenD) (wCons (wVar 1) wNil))) (wBlt (arg1 allD) (wCons (wLc (wRgI (wRg1 (wBlt (arg1 lenD) (wCons (wVar 0) wNil)))) (gSet 2) wYes (wCall (T 11) (wCons (w2 idxD (wVar 0) (wVar 2)) (wCons (w2 idxD (wVar 1) (wVar 2)) wNil))) [2]) wNil))))
  wSkip) wSkip)
  (w__law_same_1 T)
abbrev w__law_same (T : Nat → CallT) : WS := w__law_same_0 T
abbrev w__law_bent_5 (T : Nat → CallT) : WS :=
  wSeqS (wRet (w2 idxD (wLst (wCons (wLit (.int 0)) (wCons (wLit (.int 1)) (wCons (wLit .non) (wCons (wLit (.bl true)) (wCons (wLit (.bl false)) (wCons (wLit (.str "a")) (wCons (wTup wNil) (wCons (w1 negD (wLit (.int 1))) wNil))))))))) (wVar 3)))
  wSkip
abbrev w__law_bent_4 (T : Nat → CallT) : WS :=
  wSeqS (wIfS (wTest (wIsi .str (wVar 1))) (wSeqS (wRet (w2 idxD (wLst (wCons (w2 (binD .Add) (wVar 1) (wLit (.str "a"))) (wCons (wCut (wVar 1) (wPart (wLit (.int 1))) wNoPart) (wCons (wLit (.str "any")) (wCons wNever (wCons (wLit (.int 0)) (wCons (wLit (.str "")) (wCons (w2 (binD .Add) (wVar 1) (wLit (.str "z0z0z0z0"))) (wCons (wTup (wCons (wVar 1) wNil)) wNil))))))))) (wVar 3)))
  wSkip) wSkip)
  (w__law_bent_5 T)
abbrev w__law_bent_3 (T : Nat → CallT) : WS :=
  wSeqS (wIfS (wAndT (wTest (wIsi .int (wVar 1))) (wNotT (wTest (wIsi .bool (wVar 1))))) (wSeqS (wRet (w2 idxD (wLst (wCons (w2 (binD .Add) (wVar 1) (wLit (.int 1))) (wCons (w2 (binD .Sub) (wVar 1) (wLit (.int 1))) (wCons (w1 negD (wVar 1)) (wCons (w2 (cmpR .Eq) (wVar 1) (wLit (.int 1))) (wCons (wLit .non) (wCons (wBlt (arg1 strD) (wCons (wVar 1) wNil)) (wCons (wTup (wCons (wVar 1) wNil)) (wCons (w2 (binD .Add) (wVar 1) (wLit (.int 1001))) wNil))))))))) (wVar 3)))
  wSkip) wSkip)
  (w__law_bent_4 T)
abbrev w__law_bent_2 (T : Nat → CallT) : WS :=
  wSeqS (wIfS (wTest (wIsi .tuple (wVar 1))) (wSeqS (wRet (w2 idxD (wLst (wCons (w2 (binD .Add) (wVar 1) (wCut (wVar 1) wNoPart (wPart (wLit (.int 1))))) (wCons (wCut (wVar 1) (wPart (wLit (.int 1))) wNoPart) (wCons (wBack (wVar 1) wNoPart wNoPart) (wCons (w2 (binD .Add) (wVar 1) (wTup (wCons (wLit (.int 0)) wNil))) (wCons (w2 (binD .Add) (wCut (wVar 1) wNoPart (wPart (wLit (.int 1)))) (wVar 1)) (wCons (wCut (wVar 1) wNoPart (wPart (w1 negD (wLit (.int 1))))) (wCons (wLit .non) (wCons (wCut (wVar 1) wNoPart (wPart (wLit (.int 1)))) wNil))))))))) (wVar 3)))
  wSkip) wSkip)
  (w__law_bent_3 T)
abbrev w__law_bent_1 (T : Nat → CallT) : WS :=
  wSeqS (wSet 3 (wCall (T 10) (wCons (wVar 0) (wCons (wLit (.int 8)) wNil))))
  (w__law_bent_2 T)
abbrev w__law_bent_0 (T : Nat → CallT) : WS :=
  wSeqS (wIfS (wAndT (wTest (wIsi .tuple (wVar 1))) (wAndT (wCmpT .Gt (wBlt (arg1 lenD) (wCons (wVar 1) wNil)) (wLit (.int 0))) (wCmpT .Gt (wCall (T 10) (wCons (wVar 0) (wCons (wLit (.int 5)) wNil))) (wLit (.int 0))))) (wSeqS (wSet 2 (wCall (T 10) (wCons (wVar 0) (wCons (wBlt (arg1 lenD) (wCons (wVar 1) wNil)) wNil))))
  (wSeqS (wRet (w2 (binD .Add) (w2 (binD .Add) (wCut (wVar 1) wNoPart (wPart (wVar 2))) (wTup (wCons (wCall (T 12) (wCons (wVar 0) (wCons (w2 idxD (wVar 1) (wVar 2)) wNil))) wNil))) (wCut (wVar 1) (wPart (w2 (binD .Add) (wVar 2) (wLit (.int 1)))) wNoPart)))
  wSkip)) wSkip)
  (w__law_bent_1 T)
abbrev w__law_bent (T : Nat → CallT) : WS := w__law_bent_0 T
abbrev w__law_precedence_B1_0 (T : Nat → CallT) : WS :=
  wSeqS (wSet 2 (w2 (binD .Add) (wVar 2) (wLc (wRgI (wRg1 (wVar 1))) (gSet 4) (wCmpT .Lt (w2 idxD (w2 idxD (wVar 0) (wVar 3)) (wLit (.int 1))) (w2 idxD (w2 idxD (wVar 0) (wVar 4)) (wLit (.int 0)))) (wTup (wCons (wVar 3) (wCons (wVar 4) wNil))) [4])))
  wSkip
abbrev w__law_precedence_3 (T : Nat → CallT) : WS :=
  wSeqS (wRet (wTup (wCons (wVar 1) (wCons (wBlt (arg1 tupleD) (wCons (wVar 2) wNil)) wNil))))
  wSkip
abbrev w__law_precedence_2 (T : Nat → CallT) : WS :=
  wSeqS (wFor (wRgI (wRg1 (wVar 1))) (gSet 3)
  (w__law_precedence_B1_0 T))
  (w__law_precedence_3 T)
abbrev w__law_precedence_1 (T : Nat → CallT) : WS :=
  wSeqS (wSet 2 (wLst wNil))
  (w__law_precedence_2 T)
abbrev w__law_precedence_0 (T : Nat → CallT) : WS :=
  wSeqS (wSet 1 (wBlt (arg1 lenD) (wCons (wVar 0) wNil)))
  (w__law_precedence_1 T)
abbrev w__law_precedence (T : Nat → CallT) : WS := w__law_precedence_0 T
abbrev w__law_stays_1 (T : Nat → CallT) : WS :=
  wSeqS (wRet (wBlt (arg1 tupleD) (wCons (wLc (wSeq (wVar 4)) (gSet 6) wYes (wTup (wCons (wVar 6) (wCons (w2 (binD .Add) (wVar 6) (wCall (T 10) (wCons (wVar 0) (wCons (wVar 3) wNil)))) wNil))) [6]) wNil)))
  wSkip
abbrev w__law_stays_0 (T : Nat → CallT) : WS :=
  wSeqS (wSet 4 (wLc (wRgI (wRg1 (wVar 1))) (gSet 5) wYes (wCall (T 10) (wCons (wVar 0) (wCons (wVar 2) wNil))) [5]))
  (w__law_stays_1 T)
abbrev w__law_stays (T : Nat → CallT) : WS := w__law_stays_0 T
abbrev w__law_gain_1 (T : Nat → CallT) : WS :=
  wSeqS (wRet (wIf (wCmpT .In (wTup (wCons (wVar 3) (wCons (wVar 2) wNil))) (wVar 0)) (wLit .non) (w1 negD (w2 idxD (wVar 1) (wVar 3)))))
  wSkip
abbrev w__law_gain_0 (T : Nat → CallT) : WS :=
  wSeqS (wIfS (wCmpT .In (wTup (wCons (wVar 2) (wCons (wVar 3) wNil))) (wVar 0)) (wSeqS (wRet (w2 (binD .Add) (w2 idxD (wVar 1) (wVar 2)) (wLit (.int 1))))
  wSkip) wSkip)
  (w__law_gain_1 T)
abbrev w__law_gain (T : Nat → CallT) : WS := w__law_gain_0 T
abbrev w__law_due_5 (T : Nat → CallT) : WS :=
  wSeqS (wRet (wAnd (w2 (cmpR .NotIn) (wLit .non) (wVar 6)) (w2 (cmpR .Gt) (wBlt (arg1 sumD) (wCons (wVar 6) wNil)) (wLit (.int 0)))))
  wSkip
abbrev w__law_due_4 (T : Nat → CallT) : WS :=
  wSeqS (wSet 6 (wLc (wRgI (wRg1 (wBlt (arg1 lenD) (wCons (wVar 2) wNil)))) (gSet 7) wYes (wCall (T 15) (wCons (wVar 4) (wCons (wVar 1) (wCons (w2 idxD (wVar 2) (w2 (binD .Sub) (wVar 7) (wLit (.int 1)))) (wCons (w2 idxD (wVar 2) (wVar 7)) wNil))))) [7]))
  (w__law_due_5 T)
abbrev w__law_due_3 (T : Nat → CallT) : WS :=
  wSeqS (wIfS (wCmpT .NotEq (wLenSet (wVar 2)) (wBlt (arg1 lenD) (wCons (wVar 2) wNil))) (wSeqS (wRet (wLit (.bl false)))
  wSkip) wSkip)
  (w__law_due_4 T)
abbrev w__law_due_2 (T : Nat → CallT) : WS :=
  wSeqS (wIfS (wNotT (wTest (wBlt (arg1 allD) (wCons (wLc (wSeq (wVar 2)) (gSet 5) wYes (wAnd (wIsi .int (wVar 5)) (wAnd (wNot (wIsi .bool (wVar 5))) (wOfT (wChain .LtE .Lt (wLit (.int 0)) (wVar 5) (wVar 3))))) [5]) wNil)))) (wSeqS (wRet (wLit (.bl false)))
  wSkip) wSkip)
  (w__law_due_3 T)
abbrev w__law_due_1 (T : Nat → CallT) : WS :=
  wSeqS (wIfS (wOrT (wNotT (wTest (wIsi .tuple (wVar 2)))) (wCmpT .Lt (wBlt (arg1 lenD) (wCons (wVar 2) wNil)) (wLit (.int 2)))) (wSeqS (wRet (wLit (.bl false)))
  wSkip) wSkip)
  (w__law_due_2 T)
abbrev w__law_due_0 (T : Nat → CallT) : WS :=
  wSeqS (wAsg (gTupW (gConsW (gSet 3) (gConsW (gSet 4) gNilW))) (wVar 0))
  (w__law_due_1 T)
abbrev w__law_due (T : Nat → CallT) : WS := w__law_due_0 T
abbrev w__law_made_B1_0 (T : Nat → CallT) : WS :=
  wSeqS (wSet 6 (w2 (binD .Add) (wVar 6) (wLc (wRgI (wRg2 (w2 (binD .Add) (wVar 3) (wLit (.int 1))) (wVar 1))) (gSet 7) wYes (wTup (wCons (wVar 3) (wCons (wVar 7) wNil))) [7])))
  wSkip
abbrev w__law_made_6 (T : Nat → CallT) : WS :=
  wSeqS (wRet (wTup (wCons (wTup (wCons (w2 (binD .Add) (wVar 1) (wLit (.int 1))) (wCons (wBlt (arg1 tupleD) (wCons (wVar 6) wNil)) wNil))) (wCons (wBlt (arg1 tupleD) (wCons (w2 (binD .Add) (wVar 2) (wLst (wCons (wVar 8) wNil))) wNil)) (wCons (w2 (binD .Add) (wRgT (wRg1 (wVar 1))) (wTup (wCons (wVar 1) wNil))) wNil)))))
  wSkip
abbrev w__law_made_5 (T : Nat → CallT) : WS :=
  wSeqS (wSet 8 (wBlt maxD (wCons (wLit (.int 0)) (wCons (w2 (binD .Sub) (w2 (binD .Add) (wVar 4) (wCall (T 10) (wCons (wVar 0) (wCons (wLit (.int 3)) wNil)))) (wLit (.int 1))) wNil))))
  (w__law_made_6 T)
abbrev w__law_made_4 (T : Nat → CallT) : WS :=
  wSeqS (wFor (wRgI (wRg1 (wVar 1))) (gSet 3)
  (w__law_made_B1_0 T))
  (w__law_made_5 T)
abbrev w__law_made_3 (T : Nat → CallT) : WS :=
  wSeqS (wSet 6 (wLst wNil))
  (w__law_made_4 T)
abbrev w__law_made_2 (T : Nat → CallT) : WS :=
  wSeqS (wSet 4 (wBlt (arg1 sumD) (wCons (wLc (wSeq (wCut (wVar 2) (wPart (wLit (.int 1))) (wPart (w2 (binD .Sub) (wVar 1) (wLit (.int 1)))))) (gSet 5) wYes (w2 (binD .Add) (wVar 5) (wLit (.int 1))) [5]) wNil)))
  (w__law_made_3 T)
abbrev w__law_made_1 (T : Nat → CallT) : WS :=
  wSeqS (wSet 2 (wLc (wRgI (wRg1 (wVar 1))) (gSet 3) wYes (wCall (T 10) (wCons (wVar 0) (wCons (wLit (.int 9)) wNil))) [3]))
  (w__law_made_2 T)
abbrev w__law_made_0 (T : Nat → CallT) : WS :=
  wSeqS (wSet 1 (w2 (binD .Add) (wLit (.int 2)) (wCall (T 10) (wCons (wVar 0) (wCons (wLit (.int 6)) wNil)))))
  (w__law_made_1 T)
abbrev w__law_made (T : Nat → CallT) : WS := w__law_made_0 T
abbrev w_law_B2_2 (T : Nat → CallT) : WS :=
  wSeqS (wSet 8 (w2 (binD .Add) (wVar 8) (wLst (wCons (wVar 11) (wCons (wCall (T 12) (wCons (wVar 1) (wCons (wVar 11) wNil))) wNil)))))
  wSkip
abbrev w_law_B2_1 (T : Nat → CallT) : WS :=
  wSeqS (wSet 11 (wBlt (arg1 tupleD) (wCons (wLc (wRgI (wRg1 (w2 (binD .Add) (wLit (.int 1)) (wCall (T 10) (wCons (wVar 1) (wCons (wVar 5) wNil)))))) (gSet 12) wYes (wPopAt 10 (wCall (T 10) (wCons (wVar 1) (wCons (wBlt (arg1 lenD) (wCons (wVar 10) wNil)) wNil)))) [12]) wNil)))
  (w_law_B2_2 T)
abbrev w_law_B2_0 (T : Nat → CallT) : WS :=
  wSeqS (wSet 10 (wRgL (wRg1 (wVar 5))))
  (w_law_B2_1 T)
abbrev w_law_B3_0 (T : Nat → CallT) : WS :=
  wSeqS (wIfS (wNotT (wTest (wCall (T 11) (wCons (wCall (T 6) (wCons (wVar 4) (wCons (wVar 6) (wCons (wVar 13) wNil)))) (wCons (wCall (T 16) (wCons (wVar 4) (wCons (wVar 6) (wCons (wVar 13) wNil)))) wNil))))) (wSeqS (wRet (wLit (.bl false)))
  wSkip) wSkip)
  wSkip
abbrev w_law_B4_3 (T : Nat → CallT) : WS :=
  wSeqS (wIfS (wOrT (wNotT (wTest (wCall (T 11) (wCons (wCall (T 4) (wCons (wVar 5) (wCons (wVar 14) wNil))) (wCons (wVar 15) wNil))))) (wNotT (wTest (wCall (T 11) (wCons (wCall (T 4) (wCons (wVar 5) (wCons (wVar 6) wNil))) (wCons (wLit (.bl true)) wNil)))))) (wSeqS (wRet (wLit (.bl false)))
  wSkip) wSkip)
  wSkip
abbrev w_law_B4_2 (T : Nat → CallT) : WS :=
  wSeqS (wSet 15 (wAnd (wVar 15) (wBlt (arg1 allD) (wCons (wLc (wSeq (wVar 14)) (gSet 16) wYes (wAnd (wIsi .int (wVar 16)) (wAnd (wNot (wIsi .bool (wVar 16))) (wOfT (wChain .LtE .LtE (wLit (.int 0)) (wVar 16) (wLit (.int 10000)))))) [16]) wNil))))
  (w_law_B4_3 T)
abbrev w_law_B4_1 (T : Nat → CallT) : WS :=
  wSeqS (wSet 15 (wAnd (wIsi .tuple (wVar 14)) (w2 (cmpR .Eq) (wBlt (arg1 lenD) (wCons (wVar 14) wNil)) (wVar 5))))
  (w_law_B4_2 T)
abbrev w_law_B4_0 (T : Nat → CallT) : WS :=
  wSeqS (wSet 14 (wCall (T 12) (wCons (wVar 1) (wCons (wVar 6) wNil))))
  (w_law_B4_1 T)
abbrev w_law_B1_6 (T : Nat → CallT) : WS :=
  wSeqS (wFor (wRgI (wRg1 (wLit (.int 4)))) (gSet 9)
  (w_law_B4_0 T))
  wSkip
abbrev w_law_B1_5 (T : Nat → CallT) : WS :=
  wSeqS (wFor (wSeq (wVar 8)) (gSet 13)
  (w_law_B3_0 T))
  (w_law_B1_6 T)
abbrev w_law_B1_4 (T : Nat → CallT) : WS :=
  wSeqS (wFor (wRgI (wRg1 (wLit (.int 12)))) (gSet 9)
  (w_law_B2_0 T))
  (w_law_B1_5 T)
abbrev w_law_B1_3 (T : Nat → CallT) : WS :=
  wSeqS (wSet 8 (wLst (wCons (wRgT (wRg1 (wVar 5))) (wCons (wBack (wRgT (wRg1 (wVar 5))) wNoPart wNoPart) (wCons (wTup (wCons (wLit (.int 0)) wNil)) (wCons (wTup (wCons (wLit (.int 0)) (wCons (wLit (.int 0)) wNil))) (wCons (wLit .non) (wCons (wTup wNil) wNil))))))))
  (w_law_B1_4 T)
abbrev w_law_B1_2 (T : Nat → CallT) : WS :=
  wSeqS (wSet 6 (wBlt (arg1 tupleD) (wCons (wLc (wSeq (wVar 3)) (gSet 7) wYes (wCall (T 10) (wCons (wVar 1) (wCons (w2 idxD (wLst (wCons (wLit (.int 3)) (wCons (wLit (.int 9)) (wCons (wLit (.int 10001)) wNil)))) (wCall (T 10) (wCons (wVar 1) (wCons (wLit (.int 3)) wNil)))) wNil))) [7]) wNil)))
  (w_law_B1_3 T)
abbrev w_law_B1_1 (T : Nat → CallT) : WS :=
  wSeqS (wPar 4 5 (wCons (wCall (T 13) (wCons (wVar 3) wNil)) (wCons (wBlt (arg1 lenD) (wCons (wVar 3) wNil)) wNil)))
  (w_law_B1_2 T)
abbrev w_law_B1_0 (T : Nat → CallT) : WS :=
  wSeqS (wSet 3 (wCall (T 14) (wCons (wVar 1) (wCons (w2 (binD .Add) (wLit (.int 1)) (wCall (T 10) (wCons (wVar 1) (wCons (wLit (.int 8)) wNil)))) (wCons (wLit (.int 14)) (wCons (wLit (.int 6)) wNil))))))
  (w_law_B1_1 T)
abbrev w_law_B5_3 (T : Nat → CallT) : WS :=
  wSeqS (wIfS (wNotT (wTest (wCall (T 11) (wCons (wCall (T 6) (wCons (wVar 4) (wCons (wVar 6) (wCons (wVar 14) wNil)))) (wCons (wCall (T 16) (wCons (wVar 4) (wCons (wVar 6) (wCons (wVar 14) wNil)))) wNil))))) (wSeqS (wRet (wLit (.bl false)))
  wSkip) wSkip)
  wSkip
abbrev w_law_B5_2 (T : Nat → CallT) : WS :=
  wSeqS (wSet 14 (wCall (T 12) (wCons (wVar 1) (wCons (wVar 13) wNil))))
  (w_law_B5_3 T)
abbrev w_law_B5_1 (T : Nat → CallT) : WS :=
  wSeqS (wIfS (wNotT (wTest (wCall (T 11) (wCons (wCall (T 6) (wCons (wVar 4) (wCons (wVar 6) (wCons (wVar 13) wNil)))) (wCons (wCall (T 16) (wCons (wVar 4) (wCons (wVar 6) (wCons (wVar 13) wNil)))) wNil))))) (wSeqS (wRet (wLit (.bl false)))
  wSkip) wSkip)
  (w_law_B5_2 T)
abbrev w_law_B5_0 (T : Nat → CallT) : WS :=
  wSeqS (wSet 13 (w2 (binD .Add) (wCut (wVar 11) (wPart (wVar 12)) wNoPart) (wCut (wVar 11) wNoPart (wPart (wVar 12)))))
  (w_law_B5_1 T)
abbrev w_law_7 (T : Nat → CallT) : WS :=
  wSeqS (wRet (wAnd (w2 (cmpR .Eq) (wLit (.int 10000)) (wLit (.int 10000))) (wAnd (w2 (cmpR .Is) (wCall (T 4) (wCons (wLit (.int 1)) (wCons (wTup (wCons (wLit (.int 10001)) wNil)) wNil))) (wLit (.bl false))) (w2 (cmpR .Is) (wCall (T 4) (wCons (wLit (.int 0)) (wCons (wTup wNil) wNil))) (wLit (.bl true))))))
  wSkip
abbrev w_law_6 (T : Nat → CallT) : WS :=
  wSeqS (wIfS (wOrT (wCmpT .IsNot (wCall (T 6) (wCons (wVar 18) (wCons (wTup (wCons (wLit (.int 4)) (wCons (wLit (.int 5)) (wCons (wLit (.int 4)) wNil)))) (wCons (wTup (wCons (wLit (.int 0)) (wCons (wLit (.int 2)) (wCons (wLit (.int 1)) wNil)))) wNil)))) (wLit (.bl false))) (wNotT (wTest (wCall (T 11) (wCons (wCall (T 4) (wCons (wLit (.int 2)) (wCons (wTup (wCons (wLit (.int 10000)) (wCons (wLit (.int 0)) wNil))) wNil))) (wCons (wLit (.bl true)) wNil)))))) (wSeqS (wRet (wLit (.bl false)))
  wSkip) wSkip)
  (w_law_7 T)
abbrev w_law_5 (T : Nat → CallT) : WS :=
  wSeqS (wIfS (wOrT (wCmpT .IsNot (wCall (T 6) (wCons (wVar 17) (wCons (wTup (wCons (wLit (.int 1)) (wCons (wLit (.int 1)) (wCons (wLit (.int 1)) wNil)))) (wCons (wTup (wCons (wLit (.int 0)) (wCons (wLit (.int 1)) wNil))) wNil)))) (wLit (.bl false))) (wCmpT .IsNot (wCall (T 6) (wCons (wVar 18) (wCons (wTup (wCons (wLit (.int 4)) (wCons (wLit (.int 0)) (wCons (wLit (.int 4)) wNil)))) (wCons (wTup (wCons (wLit (.int 0)) (wCons (wLit (.int 2)) (wCons (wLit (.int 1)) wNil)))) wNil)))) (wLit (.bl true)))) (wSeqS (wRet (wLit (.bl false)))
  wSkip) wSkip)
  (w_law_6 T)
abbrev w_law_4 (T : Nat → CallT) : WS :=
  wSeqS (wSet 18 (wTup (wCons (wLit (.int 3)) (wCons (wTup (wCons (wTup (wCons (wLit (.int 0)) (wCons (wLit (.int 2)) wNil))) wNil)) wNil))))
  (w_law_5 T)
abbrev w_law_3 (T : Nat → CallT) : WS :=
  wSeqS (wSet 17 (wTup (wCons (wLit (.int 3)) (wCons (wTup (wCons (wTup (wCons (wLit (.int 0)) (wCons (wLit (.int 1)) wNil))) (wCons (wTup (wCons (wLit (.int 0)) (wCons (wLit (.int 2)) wNil))) (wCons (wTup (wCons (wLit (.int 1)) (wCons (wLit (.int 2)) wNil))) wNil)))) wNil))))
  (w_law_4 T)
abbrev w_law_2 (T : Nat → CallT) : WS :=
  wSeqS (wFor (wRgI (wRg1 (wBlt (arg1 lenD) (wCons (wVar 11) wNil)))) (gSet 12)
  (w_law_B5_0 T))
  (w_law_3 T)
abbrev w_law_1 (T : Nat → CallT) : WS :=
  wSeqS (wAsg (gTupW (gConsW (gSet 4) (gConsW (gSet 6) (gConsW (gSet 11) gNilW)))) (wCall (T 17) (wCons (wVar 1) wNil)))
  (w_law_2 T)
abbrev w_law_0 (T : Nat → CallT) : WS :=
  wSeqS (wFor (wRgI (wRg1 (wLit (.int 3)))) (gSet 2)
  (w_law_B1_0 T))
  (w_law_1 T)
abbrev w_law (T : Nat → CallT) : WS := w_law_0 T
/-- the top's names -/
structure Gf (mg : Str → Option Value) (t_MAX_LENGTH : Tok) : Prop where
  b_all : mg "all" = none
  b_bool : mg "bool" = none
  b_int : mg "int" = none
  b_isinstance : mg "isinstance" = none
  b_len : mg "len" = none
  b_list : mg "list" = none
  b_max : mg "max" = none
  b_range : mg "range" = none
  b_set : mg "set" = none
  b_str : mg "str" = none
  b_sum : mg "sum" = none
  b_tuple : mg "tuple" = none
  g_MAX_LENGTH : mg "MAX_LENGTH" = some (.int 10000 t_MAX_LENGTH)
structure Cs (P : Program) (w : World) (K : Frag) (mg : Str → Option Value) (base : Heap) (k : Nat) (T : Nat → CallT) : Prop where
  c_is_count : Cf P w K mg base BoxK k "is_count" 3 (T 1)
  c_are_lengths : Cf P w K mg base BoxK k "are_lengths" 2 (T 4)
  c_length_gain : Cf P w K mg base BoxK k "length_gain" 4 (T 5)
  c_is_round : Cf P w K mg base BoxK k "is_round" 3 (T 6)
  c__law_draw : Cf P w K mg base BoxK k "_law_draw" 2 (T 10)
  c__law_same : Cf P w K mg base BoxK k "_law_same" 2 (T 11)
  c__law_bent : Cf P w K mg base BoxK k "_law_bent" 2 (T 12)
  c__law_precedence : Cf P w K mg base BoxK k "_law_precedence" 1 (T 13)
  c__law_stays : Cf P w K mg base BoxK k "_law_stays" 4 (T 14)
  c__law_gain : Cf P w K mg base BoxK k "_law_gain" 4 (T 15)
  c__law_due : Cf P w K mg base BoxK k "_law_due" 3 (T 16)
  c__law_made : Cf P w K mg base BoxK k "_law_made" 1 (T 17)
section
variable {P : Program} {w : World} {K : Frag} {mg : Str → Option Value} {base : Heap} {T : Nat → CallT} {k : Nat} {f : Addr} {fd : FuncData} {t_MAX_LENGTH : Tok}
theorem ok_is_count (F : Fun K "is_count" "is_count" s_is_count f fd) (G : Gf mg t_MAX_LENGTH) (C : Cs P w K mg base k T) : FnOk P w K mg base CX0 (k + 1) f fd ["value", "least", "most"] (spI K BoxK 3 (callOf 3 3 (w_is_count T))) :=
  mkFn (N := N_is_count) F sc_is_count rfl fun cdv A outer s H E hr =>
  (sssCons (ssRet (sAnd (sisi .int G.b_isinstance G.b_int (sv 0)) (sAnd (sNot (sisi .bool G.b_isinstance G.b_bool (sv 0))) (sone (sch hr (sv 1) (sv 0) (sv 2))))))
  sssNil)
theorem ok_are_lengths (F : Fun K "are_lengths" "are_lengths" s_are_lengths f fd) (G : Gf mg t_MAX_LENGTH) (C : Cs P w K mg base k T) : FnOk P w K mg base CX0 (k + 1) f fd ["n", "value"] (spI K BoxK 2 (callOf 3 2 (w_are_lengths T))) :=
  mkFn (N := N_are_lengths) F sc_are_lengths rfl fun cdv A outer s H E hr =>
  (sssCons (ssRet (sAnd (sisi .tuple G.b_isinstance G.b_tuple (sv 1)) (sAnd (sc hr (slen G.b_len (sacons (sv 1) sNil)) (sv 0)) (sone (sall G.b_all (sacons (sLc (own := [("part", 2)]) rfl sc_are_lengths.nd (sSeq (sv 1)) (blkOk_by (by rfl)) (fun s_ H_ C_ cl_ fp_ => (sgn 2 sc_are_lengths.nd)) (fun s_ H_ C_ cl_ fp_ => sYes) (fun s_ H_ C_ cl_ fp_ => (sCallF C.c_is_count hr rfl (sacons (sv 2) (sacons sInt (sacons (sGlobI G.g_MAX_LENGTH) sNil))))) (fun _ => rfl)) sNil))))))
  sssNil)
theorem ok_length_gain (F : Fun K "length_gain" "length_gain" s_length_gain f fd) (G : Gf mg t_MAX_LENGTH) (C : Cs P w K mg base k T) : FnOk P w K mg base CX0 (k + 1) f fd ["links", "lengths", "u", "v"] (spI K BoxK 4 (callOf 4 4 (w_length_gain T))) :=
  mkFn (N := N_length_gain) F sc_length_gain rfl fun cdv A outer s H E hr =>
  (sssCons (ssIf (sct hr (sTup (sacons (sv 2) (sacons (sv 3) sNil))) (sv 0)) (sssCons (ssRet (sb (six (sv 1) (sv 2)) sInt))
  sssNil) sssNil)
  (sssCons (ssRet (sIf (sct hr (sTup (sacons (sv 3) (sacons (sv 2) sNil))) (sv 0)) sNon (sNeg (six (sv 1) (sv 3)))))
  sssNil))
theorem ok_is_round (F : Fun K "is_round" "is_round" s_is_round f fd) (G : Gf mg t_MAX_LENGTH) (C : Cs P w K mg base k T) : FnOk P w K mg base CX0 (k + 1) f fd ["precedence", "lengths", "value"] (spI K BoxK 3 (callOf 8 3 (w_is_round T))) :=
  mkFn (N := N_is_round) F sc_is_round rfl fun cdv A outer s H E hr =>
  (sssCons (ssAsg (sv 0) (sgtup (sgcons (sgn 3 sc_is_round.nd) (sgcons (sgn 4 sc_is_round.nd) sgsNil))))
  (sssCons (ssIf (PW.pt (sOrT (sNotT (stst (sisi .tuple G.b_isinstance G.b_tuple (sv 2)))) (sOrT (sct hr (slen G.b_len (sacons (sv 2) sNil)) sInt) (sort1 (sNotT (stst (sall G.b_all (sacons (sLc (own := [("i", 5)]) rfl sc_is_round.nd (sSeq (sv 2)) (blkOk_by (by rfl)) (fun s_ H_ C_ cl_ fp_ => (sgn 5 sc_is_round.nd)) (fun s_ H_ C_ cl_ fp_ => sYes) (fun s_ H_ C_ cl_ fp_ => (sCallF C.c_is_count hr rfl (sacons (sv 5) (sacons sInt (sacons (sb (sv 3) sInt) sNil))))) (fun _ => rfl)) sNil)))))))) (sssCons (ssRet sBl)
  sssNil) sssNil)
  (sssCons (ssIf (sct hr (sLenSet rfl G.b_len G.b_set (sv 2)) (slen G.b_len (sacons (sv 2) sNil))) (sssCons (ssRet sBl)
  sssNil) sssNil)
  (sssCons (ssSetLc (i := 6) (own := [("k", 7)]) rfl sc_is_round.nd rfl rfl (sw_true rfl rfl rfl rfl) (srgi1 G.b_range (slen G.b_len (sacons (sv 2) sNil))) (blkOk_by (by rfl)) (fun s_ H_ C_ cl_ fp_ => (sgn 7 sc_is_round.nd)) (fun s_ H_ C_ cl_ fp_ => sYes) (fun s_ H_ C_ cl_ fp_ => (sCallF C.c_length_gain hr rfl (sacons (sv 4) (sacons (sv 1) (sacons (six (sv 2) (sb (sv 7) sInt)) (sacons (six (sv 2) (sv 7)) sNil)))))) (fun _ => rfl))
  (sssCons (ssRet (sAnd (sc hr sNon (sv 6)) (sone (sc hr (ssum G.b_sum (sacons (sv 6) sNil)) sInt))))
  sssNil)))))
theorem ok__law_same (F : Fun K "_law_same" "_law_same" s__law_same f fd) (G : Gf mg t_MAX_LENGTH) (C : Cs P w K mg base k T) : FnOk P w K mg base CX0 (k + 1) f fd ["a", "b"] (spI K BoxK 2 (callOf 3 2 (w__law_same T))) :=
  mkFn (N := N__law_same) F sc__law_same rfl fun cdv A outer s H E hr =>
  (sssCons (ssIf (PW.pt (sOrT (PW.pt (sAndT (stst (sisi .tuple G.b_isinstance G.b_tuple (sv 0))) (sandt1 (stst (sisi .tuple G.b_isinstance G.b_tuple (sv 1)))))) (sort1 (PW.pt (sAndT (stst (sisi .list G.b_isinstance G.b_list (sv 0))) (sandt1 (stst (sisi .list G.b_isinstance G.b_list (sv 1))))))))) (sssCons (ssRet (sAnd (sc hr (slen G.b_len (sacons (sv 0) sNil)) (slen G.b_len (sacons (sv 1) sNil))) (sone (sall G.b_all (sacons (sLc (own := [("k", 2)]) rfl sc__law_same.nd (srgi1 G.b_range (slen G.b_len (sacons (sv 0) sNil))) (blkOk_by (by rfl)) (fun s_ H_ C_ cl_ fp_ => (sgn 2 sc__law_same.nd)) (fun s_ H_ C_ cl_ fp_ => sYes) (fun s_ H_ C_ cl_ fp_ => (sCallF C.c__law_same hr rfl (sacons (six (sv 0) (sv 2)) (sacons (six (sv 1) (sv 2)) sNil)))) (fun _ => rfl)) sNil)))))
  sssNil) sssNil)
  (sssCons (ssIf (PW.pt (sOrT (stst (sisi .bool G.b_isinstance G.b_bool (sv 0))) (sort1 (stst (sisi .bool G.b_isinstance G.b_bool (sv 1)))))) (sssCons (ssRet (sAnd (sisi .bool G.b_isinstance G.b_bool (sv 0)) (sAnd (sisi .bool G.b_isinstance G.b_bool (sv 1)) (sone (sc hr (sv 0) (sv 1))))))
  sssNil) sssNil)
  (sssCons (ssIf (PW.pt (sOrT (PW.pt (sAndT (stst (sisi .int G.b_isinstance G.b_int (sv 0))) (sandt1 (stst (sisi .int G.b_isinstance G.b_int (sv 1)))))) (sort1 (PW.pt (sAndT (stst (sisi .str G.b_isinstance G.b_str (sv 0))) (sandt1 (stst (sisi .str G.b_isinstance G.b_str (sv 1))))))))) (sssCons (ssRet (sc hr (sv 0) (sv 1)))
  sssNil) sssNil)
  (sssCons (ssRet (sAnd (sc hr (sv 0) sNon) (sone (sc hr (sv 1) sNon))))
  sssNil))))
theorem ok__law_bent (F : Fun K "_law_bent" "_law_bent" s__law_bent f fd) (G : Gf mg t_MAX_LENGTH) (C : Cs P w K mg base k T) : FnOk P w K mg base CX0 (k + 1) f fd ["box", "value"] (spI K BoxK 2 (callOf 4 2 (w__law_bent T))) :=
  mkFn (N := N__law_bent) F sc__law_bent rfl fun cdv A outer s H E hr =>
  (sssCons (ssIf (PW.pt (sAndT (stst (sisi .tuple G.b_isinstance G.b_tuple (sv 1))) (sAndT (sct hr (slen G.b_len (sacons (sv 1) sNil)) sInt) (sandt1 (sct hr (sCallF C.c__law_draw hr rfl (sacons (sv 0) (sacons sInt sNil))) sInt))))) (sssCons (ssset 2 sc__law_bent.nd (sCallF C.c__law_draw hr rfl (sacons (sv 0) (sacons (slen G.b_len (sacons (sv 1) sNil)) sNil))))
  (sssCons (ssRet (sb (sb (sCut (sv 1) sNoPart (sPart (sv 2))) (sTup (sacons (sCallF C.c__law_bent hr rfl (sacons (sv 0) (sacons (six (sv 1) (sv 2)) sNil))) sNil))) (sCut (sv 1) (sPart (sb (sv 2) sInt)) sNoPart)))
  sssNil)) sssNil)
  (sssCons (ssset 3 sc__law_bent.nd (sCallF C.c__law_draw hr rfl (sacons (sv 0) (sacons sInt sNil))))
  (sssCons (ssIf (stst (sisi .tuple G.b_isinstance G.b_tuple (sv 1))) (sssCons (ssRet (six (sLst (sacons (sb (sv 1) (sCut (sv 1) sNoPart (sPart sInt))) (sacons (sCut (sv 1) (sPart sInt) sNoPart) (sacons (sBack (sv 1) sNoPart sNoPart) (sacons (sb (sv 1) (sTup (sacons sInt sNil))) (sacons (sb (sCut (sv 1) sNoPart (sPart sInt)) (sv 1)) (sacons (sCut (sv 1) sNoPart (sPart (sNeg sInt))) (sacons sNon (sacons (sCut (sv 1) sNoPart (sPart sInt)) sNil))))))))) (sv 3)))
  sssNil) sssNil)
  (sssCons (ssIf (PW.pt (sAndT (stst (sisi .int G.b_isinstance G.b_int (sv 1))) (sandt1 (sNotT (stst (sisi .bool G.b_isinstance G.b_bool (sv 1))))))) (sssCons (ssRet (six (sLst (sacons (sb (sv 1) sInt) (sacons (sb (sv 1) sInt) (sacons (sNeg (sv 1)) (sacons (sc hr (sv 1) sInt) (sacons sNon (sacons (sstr G.b_str (sacons (sv 1) sNil)) (sacons (sTup (sacons (sv 1) sNil)) (sacons (sb (sv 1) sInt) sNil))))))))) (sv 3)))
  sssNil) sssNil)
  (sssCons (ssIf (stst (sisi .str G.b_isinstance G.b_str (sv 1))) (sssCons (ssRet (six (sLst (sacons (sb (sv 1) sStr) (sacons (sCut (sv 1) (sPart sInt) sNoPart) (sacons sStr (sacons sNever (sacons sInt (sacons sStr (sacons (sb (sv 1) sStr) (sacons (sTup (sacons (sv 1) sNil)) sNil))))))))) (sv 3)))
  sssNil) sssNil)
  (sssCons (ssRet (six (sLst (sacons sInt (sacons sInt (sacons sNon (sacons sBl (sacons sBl (sacons sStr (sacons (sTup sNil) (sacons (sNeg sInt) sNil))))))))) (sv 3)))
  sssNil))))))
theorem ok__law_precedence (F : Fun K "_law_precedence" "_law_precedence" s__law_precedence f fd) (G : Gf mg t_MAX_LENGTH) (C : Cs P w K mg base k T) : FnOk P w K mg base CX0 (k + 1) f fd ["stays"] (spI K BoxK 1 (callOf 5 1 (w__law_precedence T))) :=
  mkFn (N := N__law_precedence) F sc__law_precedence rfl fun cdv A outer s H E hr =>
  (sssCons (ssset 1 sc__law_precedence.nd (slen G.b_len (sacons (sv 0) sNil)))
  (sssCons (ssset 2 sc__law_precedence.nd (sLst sNil))
  (sssCons (ssFor PassesOwn.never rfl (srgi1 G.b_range (sv 1)) (sgn 3 sc__law_precedence.nd)
  (sssCons (ssset 2 sc__law_precedence.nd (sb (sv 2) (sLc (own := [("b", 4)]) rfl sc__law_precedence.nd (srgi1 G.b_range (sv 1)) (blkOk_by (by rfl)) (fun s_ H_ C_ cl_ fp_ => (sgn 4 sc__law_precedence.nd)) (fun s_ H_ C_ cl_ fp_ => (sIfs (sct hr (six (six (sv 0) (sv 3)) sInt) (six (six (sv 0) (sv 4)) sInt)))) (fun s_ H_ C_ cl_ fp_ => (sTup (sacons (sv 3) (sacons (sv 4) sNil)))) (fun _ => rfl))))
  sssNil))
  (sssCons (ssRet (sTup (sacons (sv 1) (sacons (stuple G.b_tuple (sacons (sv 2) sNil)) sNil))))
  sssNil))))
theorem ok__law_stays (F : Fun K "_law_stays" "_law_stays" s__law_stays f fd) (G : Gf mg t_MAX_LENGTH) (C : Cs P w K mg base k T) : FnOk P w K mg base CX0 (k + 1) f fd ["box", "n", "wide", "top"] (spI K BoxK 4 (callOf 7 4 (w__law_stays T))) :=
  mkFn (N := N__law_stays) F sc__law_stays rfl fun cdv A outer s H E hr =>
  (sssCons (ssSetLc (i := 4) (own := [("i", 5)]) rfl sc__law_stays.nd rfl rfl (sw_true rfl rfl rfl rfl) (srgi1 G.b_range (sv 1)) (blkOk_by (by rfl)) (fun s_ H_ C_ cl_ fp_ => (sgn 5 sc__law_stays.nd)) (fun s_ H_ C_ cl_ fp_ => sYes) (fun s_ H_ C_ cl_ fp_ => (sCallF C.c__law_draw hr rfl (sacons (sv 0) (sacons (sv 2) sNil)))) (fun _ => rfl))
  (sssCons (ssRet (stuple G.b_tuple (sacons (sLc (own := [("first", 6)]) rfl sc__law_stays.nd (sSeq (sv 4)) (blkOk_by (by rfl)) (fun s_ H_ C_ cl_ fp_ => (sgn 6 sc__law_stays.nd)) (fun s_ H_ C_ cl_ fp_ => sYes) (fun s_ H_ C_ cl_ fp_ => (sTup (sacons (sv 6) (sacons (sb (sv 6) (sCallF C.c__law_draw hr rfl (sacons (sv 0) (sacons (sv 3) sNil)))) sNil)))) (fun _ => rfl)) sNil)))
  sssNil))
theorem ok__law_gain (F : Fun K "_law_gain" "_law_gain" s__law_gain f fd) (G : Gf mg t_MAX_LENGTH) (C : Cs P w K mg base k T) : FnOk P w K mg base CX0 (k + 1) f fd ["links", "lengths", "u", "v"] (spI K BoxK 4 (callOf 4 4 (w__law_gain T))) :=
  mkFn (N := N__law_gain) F sc__law_gain rfl fun cdv A outer s H E hr =>
  (sssCons (ssIf (sct hr (sTup (sacons (sv 2) (sacons (sv 3) sNil))) (sv 0)) (sssCons (ssRet (sb (six (sv 1) (sv 2)) sInt))
  sssNil) sssNil)
  (sssCons (ssRet (sIf (sct hr (sTup (sacons (sv 3) (sacons (sv 2) sNil))) (sv 0)) sNon (sNeg (six (sv 1) (sv 3)))))
  sssNil))
theorem ok__law_due (F : Fun K "_law_due" "_law_due" s__law_due f fd) (G : Gf mg t_MAX_LENGTH) (C : Cs P w K mg base k T) : FnOk P w K mg base CX0 (k + 1) f fd ["precedence", "lengths", "value"] (spI K BoxK 3 (callOf 8 3 (w__law_due T))) :=
  mkFn (N := N__law_due) F sc__law_due rfl fun cdv A outer s H E hr =>
  (sssCons (ssAsg (sv 0) (sgtup (sgcons (sgn 3 sc__law_due.nd) (sgcons (sgn 4 sc__law_due.nd) sgsNil))))
  (sssCons (ssIf (PW.pt (sOrT (sNotT (stst (sisi .tuple G.b_isinstance G.b_tuple (sv 2)))) (sort1 (sct hr (slen G.b_len (sacons (sv 2) sNil)) sInt)))) (sssCons (ssRet sBl)
  sssNil) sssNil)
  (sssCons (ssIf (sNotT (stst (sall G.b_all (sacons (sLc (own := [("i", 5)]) rfl sc__law_due.nd (sSeq (sv 2)) (blkOk_by (by rfl)) (fun s_ H_ C_ cl_ fp_ => (sgn 5 sc__law_due.nd)) (fun s_ H_ C_ cl_ fp_ => sYes) (fun s_ H_ C_ cl_ fp_ => (sAnd (sisi .int G.b_isinstance G.b_int (sv 5)) (sAnd (sNot (sisi .bool G.b_isinstance G.b_bool (sv 5))) (sone (sch hr sInt (sv 5) (sv 3)))))) (fun _ => rfl)) sNil)))) (sssCons (ssRet sBl)
  sssNil) sssNil)
  (sssCons (ssIf (sct hr (sLenSet rfl G.b_len G.b_set (sv 2)) (slen G.b_len (sacons (sv 2) sNil))) (sssCons (ssRet sBl)
  sssNil) sssNil)
  (sssCons (ssSetLc (i := 6) (own := [("k", 7)]) rfl sc__law_due.nd rfl rfl (sw_true rfl rfl rfl rfl) (srgi1 G.b_range (slen G.b_len (sacons (sv 2) sNil))) (blkOk_by (by rfl)) (fun s_ H_ C_ cl_ fp_ => (sgn 7 sc__law_due.nd)) (fun s_ H_ C_ cl_ fp_ => sYes) (fun s_ H_ C_ cl_ fp_ => (sCallF C.c__law_gain hr rfl (sacons (sv 4) (sacons (sv 1) (sacons (six (sv 2) (sb (sv 7) sInt)) (sacons (six (sv 2) (sv 7)) sNil)))))) (fun _ => rfl))
  (sssCons (ssRet (sAnd (sc hr sNon (sv 6)) (sone (sc hr (ssum G.b_sum (sacons (sv 6) sNil)) sInt))))
  sssNil))))))
theorem ok__law_made (F : Fun K "_law_made" "_law_made" s__law_made f fd) (G : Gf mg t_MAX_LENGTH) (C : Cs P w K mg base k T) : FnOk P w K mg base CX0 (k + 1) f fd ["box"] (spI K BoxK 1 (callOf 9 1 (w__law_made T))) :=
  mkFn (N := N__law_made) F sc__law_made rfl fun cdv A outer s H E hr =>
  (sssCons (ssset 1 sc__law_made.nd (sb sInt (sCallF C.c__law_draw hr rfl (sacons (sv 0) (sacons sInt sNil)))))
  (sssCons (ssSetLc (i := 2) (own := [("k", 3)]) rfl sc__law_made.nd rfl rfl (sw_true rfl rfl rfl rfl) (srgi1 G.b_range (sv 1)) (blkOk_by (by rfl)) (fun s_ H_ C_ cl_ fp_ => (sgn 3 sc__law_made.nd)) (fun s_ H_ C_ cl_ fp_ => sYes) (fun s_ H_ C_ cl_ fp_ => (sCallF C.c__law_draw hr rfl (sacons (sv 0) (sacons sInt sNil)))) (fun _ => rfl))
  (sssCons (ssset 4 sc__law_made.nd (ssum G.b_sum (sacons (sLc (own := [("part", 5)]) rfl sc__law_made.nd (sSeq (sCut (sv 2) (sPart sInt) (sPart (sb (sv 1) sInt)))) (blkOk_by (by rfl)) (fun s_ H_ C_ cl_ fp_ => (sgn 5 sc__law_made.nd)) (fun s_ H_ C_ cl_ fp_ => sYes) (fun s_ H_ C_ cl_ fp_ => (sb (sv 5) sInt)) (fun _ => rfl)) sNil)))
  (sssCons (ssset 6 sc__law_made.nd (sLst sNil))
  (sssCons (ssFor PassesOwn.never rfl (srgi1 G.b_range (sv 1)) (sgn 3 sc__law_made.nd)
  (sssCons (ssset 6 sc__law_made.nd (sb (sv 6) (sLc (own := [("j", 7)]) rfl sc__law_made.nd (srgi2 G.b_range (sb (sv 3) sInt) (sv 1)) (blkOk_by (by rfl)) (fun s_ H_ C_ cl_ fp_ => (sgn 7 sc__law_made.nd)) (fun s_ H_ C_ cl_ fp_ => sYes) (fun s_ H_ C_ cl_ fp_ => (sTup (sacons (sv 3) (sacons (sv 7) sNil)))) (fun _ => rfl))))
  sssNil))
  (sssCons (ssset 8 sc__law_made.nd (smax G.b_max (sacons sInt (sacons (sb (sb (sv 4) (sCallF C.c__law_draw hr rfl (sacons (sv 0) (sacons sInt sNil)))) sInt) sNil))))
  (sssCons (ssRet (sTup (sacons (sTup (sacons (sb (sv 1) sInt) (sacons (stuple G.b_tuple (sacons (sv 6) sNil)) sNil))) (sacons (stuple G.b_tuple (sacons (sb (sv 2) (sLst (sacons (sv 8) sNil))) sNil)) (sacons (sb (srgt G.b_tuple (srg1 G.b_range (sv 1))) (sTup (sacons (sv 1) sNil))) sNil)))))
  sssNil)))))))
theorem law_rest {cdv : Value} {A : Around} {outer : List Env} {s : Shared} {H : Hp} {E : XK} (G : Gf mg t_MAX_LENGTH) (C : Cs P w K mg base k T) (hr : Room k (A.deeper (envOfC "law" (defScope s_law) s.heap.objs.size f cdv))) :
    PSs (cxOf CX0 P w K mg base N_law "law" (defScope s_law) f cdv A outer s H E).nox ((defBody s_law).drop 1) (tS K BoxK (w_law T)) :=
  (sssCons (ssFor PassesOwn.never rfl (srgi1 G.b_range sInt) (sgn 2 sc_law.nd)
  (sssCons (ssset 3 sc_law.nd (sCallF C.c__law_stays hr rfl (sacons (sv 1) (sacons (sb sInt (sCallF C.c__law_draw hr rfl (sacons (sv 1) (sacons sInt sNil)))) (sacons sInt (sacons sInt sNil))))))
  (sssCons (ssPar (i := 4) (j := 5) rfl sc_law.nd rfl rfl (by decide) rfl rfl (sacons (sCallF C.c__law_precedence hr rfl (sacons (sv 3) sNil)) (sacons (slen G.b_len (sacons (sv 3) sNil)) sNil)))
  (sssCons (ssset 6 sc_law.nd (stuple G.b_tuple (sacons (sLc (own := [("stay", 7)]) rfl sc_law.nd (sSeq (sv 3)) (blkOk_by (by rfl)) (fun s_ H_ C_ cl_ fp_ => (sgn 7 sc_law.nd)) (fun s_ H_ C_ cl_ fp_ => sYes) (fun s_ H_ C_ cl_ fp_ => (sCallF C.c__law_draw hr rfl (sacons (sv 1) (sacons (six (sLst (sacons sInt (sacons sInt (sacons sInt sNil)))) (sCallF C.c__law_draw hr rfl (sacons (sv 1) (sacons sInt sNil)))) sNil)))) (fun _ => rfl)) sNil)))
  (sssCons (ssset 8 sc_law.nd (sLst (sacons (srgt G.b_tuple (srg1 G.b_range (sv 5))) (sacons (sBack (srgt G.b_tuple (srg1 G.b_range (sv 5))) sNoPart sNoPart) (sacons (sTup (sacons sInt sNil)) (sacons (sTup (sacons sInt (sacons sInt sNil))) (sacons sNon (sacons (sTup sNil) sNil))))))))
  (sssCons (ssFor PassesOwn.never rfl (srgi1 G.b_range sInt) (sgn 9 sc_law.nd)
  (sssCons (ssset 10 sc_law.nd (srgl G.b_list (srg1 G.b_range (sv 5))))
  (sssCons (ssset 11 sc_law.nd (stuple G.b_tuple (sacons (sLc (own := [("k", 12)]) rfl sc_law.nd (srgi1 G.b_range (sb sInt (sCallF C.c__law_draw hr rfl (sacons (sv 1) (sacons (sv 5) sNil))))) (blkOk_by (by rfl)) (fun s_ H_ C_ cl_ fp_ => (sgn 12 sc_law.nd)) (fun s_ H_ C_ cl_ fp_ => sYes) (fun s_ H_ C_ cl_ fp_ => (spopat 10 (sCallF C.c__law_draw hr rfl (sacons (sv 1) (sacons (slen G.b_len (sacons (sv 10) sNil)) sNil))))) (fun _ => rfl)) sNil)))
  (sssCons (ssset 8 sc_law.nd (sb (sv 8) (sLst (sacons (sv 11) (sacons (sCallF C.c__law_bent hr rfl (sacons (sv 1) (sacons (sv 11) sNil))) sNil)))))
  sssNil))))
  (sssCons (ssFor PassesOwn.never rfl (sSeq (sv 8)) (sgn 13 sc_law.nd)
  (sssCons (ssIf (sNotT (stst (sCallF C.c__law_same hr rfl (sacons (sCallF C.c_is_round hr rfl (sacons (sv 4) (sacons (sv 6) (sacons (sv 13) sNil)))) (sacons (sCallF C.c__law_due hr rfl (sacons (sv 4) (sacons (sv 6) (sacons (sv 13) sNil)))) sNil))))) (sssCons (ssRet sBl)
  sssNil) sssNil)
  sssNil))
  (sssCons (ssFor PassesOwn.never rfl (srgi1 G.b_range sInt) (sgn 9 sc_law.nd)
  (sssCons (ssset 14 sc_law.nd (sCallF C.c__law_bent hr rfl (sacons (sv 1) (sacons (sv 6) sNil))))
  (sssCons (ssset 15 sc_law.nd (sAnd (sisi .tuple G.b_isinstance G.b_tuple (sv 14)) (sone (sc hr (slen G.b_len (sacons (sv 14) sNil)) (sv 5)))))
  (sssCons (ssset 15 sc_law.nd (sAnd (sv 15) (sone (sall G.b_all (sacons (sLc (own := [("part", 16)]) rfl sc_law.nd (sSeq (sv 14)) (blkOk_by (by rfl)) (fun s_ H_ C_ cl_ fp_ => (sgn 16 sc_law.nd)) (fun s_ H_ C_ cl_ fp_ => sYes) (fun s_ H_ C_ cl_ fp_ => (sAnd (sisi .int G.b_isinstance G.b_int (sv 16)) (sAnd (sNot (sisi .bool G.b_isinstance G.b_bool (sv 16))) (sone (sch hr sInt (sv 16) sInt))))) (fun _ => rfl)) sNil)))))
  (sssCons (ssIf (PW.pt (sOrT (sNotT (stst (sCallF C.c__law_same hr rfl (sacons (sCallF C.c_are_lengths hr rfl (sacons (sv 5) (sacons (sv 14) sNil))) (sacons (sv 15) sNil))))) (sort1 (sNotT (stst (sCallF C.c__law_same hr rfl (sacons (sCallF C.c_are_lengths hr rfl (sacons (sv 5) (sacons (sv 6) sNil))) (sacons sBl sNil)))))))) (sssCons (ssRet sBl)
  sssNil) sssNil)
  sssNil)))))
  sssNil))))))))
  (sssCons (ssAsg (sCallF C.c__law_made hr rfl (sacons (sv 1) sNil)) (sgtup (sgcons (sgn 4 sc_law.nd) (sgcons (sgn 6 sc_law.nd) (sgcons (sgn 11 sc_law.nd) sgsNil)))))
  (sssCons (ssFor PassesOwn.never rfl (srgi1 G.b_range (slen G.b_len (sacons (sv 11) sNil))) (sgn 12 sc_law.nd)
  (sssCons (ssset 13 sc_law.nd (sb (sCut (sv 11) (sPart (sv 12)) sNoPart) (sCut (sv 11) sNoPart (sPart (sv 12)))))
  (sssCons (ssIf (sNotT (stst (sCallF C.c__law_same hr rfl (sacons (sCallF C.c_is_round hr rfl (sacons (sv 4) (sacons (sv 6) (sacons (sv 13) sNil)))) (sacons (sCallF C.c__law_due hr rfl (sacons (sv 4) (sacons (sv 6) (sacons (sv 13) sNil)))) sNil))))) (sssCons (ssRet sBl)
  sssNil) sssNil)
  (sssCons (ssset 14 sc_law.nd (sCallF C.c__law_bent hr rfl (sacons (sv 1) (sacons (sv 13) sNil))))
  (sssCons (ssIf (sNotT (stst (sCallF C.c__law_same hr rfl (sacons (sCallF C.c_is_round hr rfl (sacons (sv 4) (sacons (sv 6) (sacons (sv 14) sNil)))) (sacons (sCallF C.c__law_due hr rfl (sacons (sv 4) (sacons (sv 6) (sacons (sv 14) sNil)))) sNil))))) (sssCons (ssRet sBl)
  sssNil) sssNil)
  sssNil)))))
  (sssCons (ssset 17 sc_law.nd (sTup (sacons sInt (sacons (sTup (sacons (sTup (sacons sInt (sacons sInt sNil))) (sacons (sTup (sacons sInt (sacons sInt sNil))) (sacons (sTup (sacons sInt (sacons sInt sNil))) sNil)))) sNil))))
  (sssCons (ssset 18 sc_law.nd (sTup (sacons sInt (sacons (sTup (sacons (sTup (sacons sInt (sacons sInt sNil))) sNil)) sNil))))
  (sssCons (ssIf (PW.pt (sOrT (sct hr (sCallF C.c_is_round hr rfl (sacons (sv 17) (sacons (sTup (sacons sInt (sacons sInt (sacons sInt sNil)))) (sacons (sTup (sacons sInt (sacons sInt sNil))) sNil)))) sBl) (sort1 (sct hr (sCallF C.c_is_round hr rfl (sacons (sv 18) (sacons (sTup (sacons sInt (sacons sInt (sacons sInt sNil)))) (sacons (sTup (sacons sInt (sacons sInt (sacons sInt sNil)))) sNil)))) sBl)))) (sssCons (ssRet sBl)
  sssNil) sssNil)
  (sssCons (ssIf (PW.pt (sOrT (sct hr (sCallF C.c_is_round hr rfl (sacons (sv 18) (sacons (sTup (sacons sInt (sacons sInt (sacons sInt sNil)))) (sacons (sTup (sacons sInt (sacons sInt (sacons sInt sNil)))) sNil)))) sBl) (sort1 (sNotT (stst (sCallF C.c__law_same hr rfl (sacons (sCallF C.c_are_lengths hr rfl (sacons sInt (sacons (sTup (sacons sInt (sacons sInt sNil))) sNil))) (sacons sBl sNil)))))))) (sssCons (ssRet sBl)
  sssNil) sssNil)
  (sssCons (ssRet (sAnd (sc hr (sGlobI G.g_MAX_LENGTH) sInt) (sAnd (sc hr (sCallF C.c_are_lengths hr rfl (sacons sInt (sacons (sTup (sacons sInt sNil)) sNil))) sBl) (sone (sc hr (sCallF C.c_are_lengths hr rfl (sacons sInt (sacons (sTup sNil) sNil))) sBl)))))
  sssNil))))))))
end
/-- one turn more of depth -/
def stepT (T : Nat → CallT) : Nat → CallT
  | 1 => callOf 3 3 (w_is_count T)
  | 4 => callOf 3 2 (w_are_lengths T)
  | 5 => callOf 4 4 (w_length_gain T)
  | 6 => callOf 8 3 (w_is_round T)
  | 10 => drawT
  | 11 => callOf 3 2 (w__law_same T)
  | 12 => callOf 4 2 (w__law_bent T)
  | 13 => callOf 5 1 (w__law_precedence T)
  | 14 => callOf 7 4 (w__law_stays T)
  | 15 => callOf 4 4 (w__law_gain T)
  | 16 => callOf 8 3 (w__law_due T)
  | 17 => callOf 9 1 (w__law_made T)
  | _ => fun _ _ => False
@[irreducible] noncomputable def TT (d : Nat) : Nat → CallT := Nat.rec (fun _ _ _ => False) (fun _ T => stepT T) d
theorem TT_zero : TT 0 = fun _ _ _ => False := by unfold TT; exact rfl
theorem TT_succ (d : Nat) : TT (d + 1) = stepT (TT d) := by unfold TT; exact rfl
end Lw

set_option Elab.async false
set_option linter.all false
set_option maxRecDepth 100000
set_option maxHeartbeats 4000000
set_option autoImplicit false
namespace Lw
open PySem L2 PySem.Spec PyProof.Rows Ip
section
variable {P : Program} {w : World} {K : Frag} {mg : Str → Option Value} {base : Heap} {f : Addr} {fd : FuncData}
theorem six_of {α : Type} {σ : List α} (h : σ.length = 6) : ∃ a b c d e g, σ = [a, b, c, d, e, g] := by
  match σ, h with
  | [a, b, c, d, e, g], _ => exact ⟨a, b, c, d, e, g, rfl⟩
theorem mulR {i j : Int} (h : Builtin.Int.intBits j ≤ 64) : IntMulOk i j := IntMulOk.of_right h
theorem tail_load {cdv : Value} {A : Around} {outer : List Env} {s : Shared} {H : Hp} {E : XK} (hint : mg "int" = none) : PSs (cxOf CX0 P w K mg base N__law_load "_law_load" (defScope s__law_load) f cdv A outer s H E).nox ((defBody s__law_load).drop 2)
    (fun D σ H1 => ∃ b c dg, σ[0]? = some (some (V.ref b)) ∧ σ.length = 6 ∧ BoxAt b c H1 dg ∧ ∀ H' r, BoxAt b c H' dg → 0 ≤ r → (∀ a, a ≠ b → a ≠ c → H' a = H1 a) → D.rt (.int r) H') := by
  have nd := sc__law_load.nd
  refine pssW (pss_cons (ps_set (i := 4) nd rfl (Or.inl rfl) (pe_op op_mod (pe_callTy call_int1 rfl hint boot_int (pa_cons (pe_op op_add (pe_op op_mulA (pe_ix ix_list (pv 0) pe_int (fun _ _ => rfl)) pe_int) pe_int) pa_nil)) pe_int))
      (pss_cons (ps_set (i := 5) nd rfl (Or.inl rfl) (pe_op op_mod (pe_callTy call_int1 rfl hint boot_int (pa_cons (pe_op op_add (pe_op op_mulA (pv 4) pe_int) pe_int) pa_nil)) pe_int))
      (pss_cons (ps_asg (pe_op op_mod (pe_callTy call_int1 rfl hint boot_int (pa_cons (pe_op op_add (pe_op op_mulA (pv 5) pe_int) pe_int) pa_nil)) pe_int) (pg_sub (pv 0) pe_int set_list))
      (pss_one (ps_ret (pe_op op_add (pe_op op_add (pe_op op_mulA (pv 4) pe_int) (pe_op op_mulA (pv 5) pe_int)) (pe_ix ix_list (pv 0) pe_int (fun _ _ => rfl)))))))) fun D σ H1 h => ?_
  obtain ⟨b, c, dg, h0, hl, ⟨ns, z, hb, hc, hz⟩, k⟩ := h
  obtain ⟨y0, y1, y2, y3, y4, y5, rfl⟩ := six_of hl
  cases h0
  have hcb : c ≠ b := fun e => by
    rw [e, hb] at hc
    cases ns <;> cases hc
  refine ⟨_, rfl, b, _, 2, _, rfl, rfl, SqL.of hb, rfl, _, _, rfl, rfl, mulR (by decide +kernel), _, _, rfl, rfl, .inl ⟨_, rfl, _, _, rfl, rfl, (by show (0 : Int) < _; decide), ?_⟩⟩
  refine ⟨_, rfl, _, _, rfl, rfl, mulR (by decide +kernel), _, _, rfl, rfl, .inl ⟨_, rfl, _, _, rfl, rfl, (by show (0 : Int) < _; decide), ?_⟩⟩
  refine ⟨_, rfl, _, _, rfl, rfl, mulR (by decide +kernel), _, _, rfl, rfl, .inl ⟨_, rfl, _, _, rfl, rfl, (by show (0 : Int) < _; decide), ?_⟩⟩
  refine ⟨_, rfl, b, _, 2, 2, rfl, rfl, hb, rfl, ?_⟩
  refine ⟨_, rfl, _, _, rfl, rfl, mulR (by decide +kernel), _, rfl, _, _, rfl, rfl, mulR (by decide +kernel), _, _, rfl, rfl, _, rfl, b, _, 2, _, rfl, rfl, SqL.of upd_same, rfl, _, _, rfl, rfl, ?_⟩
  refine k _ _ ⟨ns, _, upd_same, by rw [upd_ne hcb]; exact hc, Int.emod_nonneg _ (by decide)⟩ ?_ fun a n1 n2 => upd_ne n1
  exact Int.add_nonneg (Int.add_nonneg (Int.mul_nonneg (Int.emod_nonneg _ (by decide)) (by decide)) (Int.mul_nonneg (Int.emod_nonneg _ (by decide)) (by decide))) (Int.emod_nonneg _ (by decide))
theorem ok__law_load (F : Fun K "_law_load" "_law_load" s__law_load f fd) (hlen : mg "len" = none) (hint : mg "int" = none) : FnOk P w K mg base CX0 1 f fd ["box"] spLoad := by
  refine F.ok sc__law_load (fun vs H Q E h => ?_) (fun cdv A outer s H vs Q E hr h => ?_)
  · obtain ⟨b, c, dg, rfl, _⟩ := h
    rfl
  · obtain ⟨b, c, dg, rfl, hB, k⟩ := h
    have nd := sc__law_load.nd
    refine ⟨_, pss_cons (ps_set (i := 1) nd rfl (Or.inl rfl) (pe_ix ix_list (pv 0) pe_int (fun _ _ => rfl)))
      (pss_cons (ps_if (pt_cmpR op_gt (pe_callB call_len rfl hlen boot_len (pa_cons (pv 1) pa_nil)) pe_int (nomark _))
        (pss_cons (ps_set (i := 2) nd rfl (Or.inl rfl) (pe_callTy call_int1 rfl hint boot_int (pa_cons (pe_bm PySem.F.plainAttrs_list PySem.F.slot_list_pop PySem.F.type_list_pop mt_popAt (pv 1) (pa_cons pe_int pa_nil)) pa_nil)))
        (pss_cons (ps_set (i := 3) nd rfl (Or.inl rfl) (pe_ifExp (pt_cmpR op_ge (pv 2) pe_int (nomark _)) (pe_op op_mulA pe_int (pv 2)) (pe_op op_sub (pe_op op_mulA (pe_un un_neg pe_int) (pv 2)) pe_int)))
        (pss_cons (ps_if (pt_cmpR op_ge (pv 3) pe_int (nomark _)) (pss_one (ps_ret (pv 3))) pss_nil)
        (pss_one (ps_asg (pe_op op_mod (pe_callTy call_int1 rfl hint boot_int (pa_cons (pe_op op_add (pe_op op_add (pe_op op_mulA (pe_ix ix_list (pv 0) pe_int (fun _ _ => rfl)) pe_int) (pe_op op_mulA (pv 3) pe_int)) pe_int) pa_nil)) pe_int) (pg_sub (pv 0) pe_int set_list)))))) pss_nil)
      (tail_load hint)), ?_⟩
    have hB0 := hB
    obtain ⟨ns, z, hb, hc, hz⟩ := hB
    have hbc : b ≠ c := fun e => by
      rw [e, hc] at hb
      cases ns <;> cases hb
    refine ⟨_, rfl, b, _, 0, _, rfl, rfl, SqL.of hb, rfl, ?_⟩
    refine ⟨_, rfl, _, _, rfl, Or.inl ⟨_, SqL.of hc, rfl⟩, _, _, rfl, rfl, _, rfl, ?_⟩
    cases ns with
    | nil =>
      exact iteF ⟨b, c, dg, rfl, rfl, ⟨[], z, hb, hc, hz⟩, fun H' r h1 h2 h3 => k H' r h1 h2 h3⟩
    | cons n ns =>
      have e : decide ((0 : Int) < ((List.map V.int (n :: ns)).length : Nat)) = true := by
        rw [List.length_map]
        exact decide_eq_true (by rw [List.length_cons]; omega)
      rw [e]
      refine iteT ⟨_, rfl, .inl ⟨rfl, _, SqL.of hc⟩, c, _, 0, 0, _, rfl, rfl, hc, by decide, by decide, by rw [List.length_map]; exact seqIndex_of (by decide) (by rw [List.length_cons]; omega), rfl, .inl ⟨n, rfl, ?_⟩⟩
      have hk1 : ∀ a, a ≠ b → a ≠ c → upd H c (.lst (ns.map V.int)) a = H a := fun a _ n2 => upd_ne n2
      have hb1 : upd H c (.lst (ns.map V.int)) b = some (.lst [.ref c, .int dg, .int z]) := by rw [upd_ne hbc]; exact hb
      have hc1 : upd H c (.lst (ns.map V.int)) c = some (.lst (ns.map V.int)) := upd_same
      have go : ∀ sz : Int, 0 ≤ sz → ((∀ r, r = sz → Q (.int r) (upd H c (.lst (ns.map V.int)))) ∧ ∀ v : Int, 0 ≤ v → ∀ H' r, BoxAt b c H' dg → 0 ≤ r → (∀ a, a ≠ b → a ≠ c → H' a = upd (upd H c (.lst (ns.map V.int))) b (.lst [.ref c, .int dg, .int v]) a) → Q (.int r) H') := fun sz hsz =>
        ⟨fun r e => k _ r ⟨ns, z, hb1, hc1, hz⟩ (by omega) hk1, fun v hv H' r h1 h2 h3 => k H' r h1 h2 fun a n1 n2 => by rw [h3 a n1 n2, upd_ne n1]; exact hk1 a n1 n2⟩
      refine ⟨_, rfl, _, _, rfl, rfl, _, rfl, ite2 (fun hn => ?_) (fun hn => ?_)⟩
      · have hn := of_decide_eq_true hn
        obtain ⟨g1, g2⟩ := go (2 * n) (by omega)
        refine ⟨_, rfl, _, _, rfl, rfl, IntMulOk.of_left (by decide +kernel), ?_⟩
        refine ⟨_, rfl, _, _, rfl, rfl, _, rfl, ite2 (fun hbig => ⟨_, rfl, g1 _ rfl⟩) (fun hs => ?_)⟩
        refine ⟨_, rfl, b, _, 2, _, rfl, rfl, SqL.of hb1, rfl, _, _, rfl, rfl, mulR (by decide +kernel), _, rfl, _, _, rfl, rfl, mulR (by decide +kernel), _, _, rfl, rfl, _, _, rfl, rfl, .inl ⟨_, rfl, _, _, rfl, rfl, (by show (0 : Int) < _; decide), ?_⟩⟩
        exact ⟨_, rfl, b, _, 2, 2, rfl, rfl, hb1, rfl, b, c, dg, rfl, rfl, ⟨ns, _, upd_same, by rw [upd_ne hbc.symm]; exact hc1, Int.emod_nonneg _ (by decide)⟩, g2 _ (Int.emod_nonneg _ (by decide))⟩
      · have hn : ¬ 0 ≤ n := fun h => hn (decide_eq_true h)
        obtain ⟨g1, g2⟩ := go (-2 * n - 1) (by omega)
        refine ⟨_, rfl, _, rfl, _, _, rfl, rfl, IntMulOk.of_left (by decide +kernel), _, _, rfl, rfl, ?_⟩
        refine ⟨_, rfl, _, _, rfl, rfl, _, rfl, ite2 (fun hbig => ⟨_, rfl, g1 _ rfl⟩) (fun hs => ?_)⟩
        refine ⟨_, rfl, b, _, 2, _, rfl, rfl, SqL.of hb1, rfl, _, _, rfl, rfl, mulR (by decide +kernel), _, rfl, _, _, rfl, rfl, mulR (by decide +kernel), _, _, rfl, rfl, _, _, rfl, rfl, .inl ⟨_, rfl, _, _, rfl, rfl, (by show (0 : Int) < _; decide), ?_⟩⟩
        exact ⟨_, rfl, b, _, 2, 2, rfl, rfl, hb1, rfl, b, c, dg, rfl, rfl, ⟨ns, _, upd_same, by rw [upd_ne hbc.symm]; exact hc1, Int.emod_nonneg _ (by decide)⟩, g2 _ (Int.emod_nonneg _ (by decide))⟩
theorem three_of {α : Type} {σ : List α} (h : σ.length = 3) : ∃ a b c, σ = [a, b, c] := by
  match σ, h with
  | [a, b, c], _ => exact ⟨a, b, c, rfl⟩
theorem many_small {m : Int} (h0 : 0 < m) (h : m ≤ 1000000000) : m.natAbs < 2 ^ 70 := by
  have e : (2 : Nat) ^ 70 = 1180591620717411303424 := by decide
  rw [e]
  omega
theorem tail_draw {cdv : Value} {A : Around} {outer : List Env} {s : Shared} {H : Hp} {E : XK} (hint : mg "int" = none) : PSs (cxOf CX0 P w K mg base N__law_draw "_law_draw" (defScope s__law_draw) f cdv A outer s H E).nox ((defBody s__law_draw).drop 1)
    (fun D σ H1 => ∃ b c dg many, σ[0]? = some (some (V.ref b)) ∧ σ[1]? = some (some (V.int many)) ∧ σ.length = 3 ∧ BoxAt b c H1 dg ∧ 0 ≤ dg ∧ 0 < many ∧ many ≤ 1000000000 ∧
      ∀ H' d dg', BoxAt b c H' dg' → 0 ≤ dg' → 0 ≤ d → d < many → (∀ a, a ≠ b → a ≠ c → H' a = H1 a) → D.rt (.int d) H') := by
  have nd := sc__law_draw.nd
  refine pssW (pss_cons (ps_set (i := 2) nd rfl (Or.inl rfl) (pe_op op_mod (pe_callTy call_int1 rfl hint boot_int (pa_cons (pe_ix ix_list (pv 0) pe_int (fun _ _ => rfl)) pa_nil)) (pv 1)))
      (pss_cons (ps_asg (pe_op op_fdivW (pe_ix ix_list (pv 0) pe_int (fun _ _ => rfl)) (pv 1)) (pg_sub (pv 0) pe_int set_list))
      (pss_one (ps_ret (pv 2))))) fun D σ H1 h => ?_
  obtain ⟨b, c, dg, many, h0, h1, hl, ⟨ns, z, hb, hc, hz⟩, hd, hm, hm2, k⟩ := h
  obtain ⟨y0, y1, y2, rfl⟩ := three_of hl
  cases h0
  cases h1
  have hcb : c ≠ b := fun e => by
    rw [e, hb] at hc
    cases ns <;> cases hc
  refine ⟨_, rfl, b, _, 1, _, rfl, rfl, SqL.of hb, rfl, .inl ⟨_, rfl, _, rfl, _, _, rfl, rfl, hm, ?_⟩⟩
  refine ⟨_, rfl, b, _, 1, _, rfl, rfl, SqL.of hb, rfl, _, rfl, _, _, rfl, rfl, wide_div hm (many_small hm hm2) (by decide) (by decide), ?_⟩
  refine ⟨_, rfl, b, _, 1, 1, rfl, rfl, hb, rfl, ?_⟩
  exact ⟨_, rfl, k _ _ (dg / many) ⟨ns, z, upd_same, by rw [upd_ne hcb]; exact hc, hz⟩ (Int.ediv_nonneg hd (Int.le_of_lt hm)) (Int.emod_nonneg _ (by omega)) (Int.emod_lt_of_pos _ hm) fun a n1 n2 => upd_ne n1⟩
theorem ok__law_draw {fl : Addr} {fdl : FuncData} (F : Fun K "_law_draw" "_law_draw" s__law_draw f fd) (FL : FnOk P w K mg base CX0 1 fl fdl ["box"] spLoad) (bL : Binds K fdl ["box"] []) (mL : mg "_law_load" = some (.ref fl)) (kL : PySem.W.keepIn K (.ref fl) = true) (hint : mg "int" = none) :
    FnOk P w K mg base CX0 2 f fd ["box", "many"] (spI K BoxK 2 drawT) := by
  refine F.ok sc__law_draw (fun vs H Q E h => ?_) (fun cdv A outer s H vs Q E hr h => ?_)
  · obtain ⟨_, _, _, _, h, _⟩ := h
    exact h
  · obtain ⟨F, ds, T, C, hl, z, ⟨many, rfl, hm, hm2, hP⟩, k⟩ := h
    have nd := sc__law_draw.nd
    obtain ⟨rfl⟩ : vs = [.ref F.b, .int many] := by
      cases z with
      | cons z1 z2 =>
        cases z2 with
        | cons z2 z3 =>
          cases z1
          cases z2
          cases z3
          rfl
    refine ⟨_, pss_cons (ps_if (pt_cmpR op_lt (pe_ix ix_list (pv 0) pe_int (fun _ _ => rfl)) (pv 1) (nomark _)) (pss_one (ps_asg (pe_call (E := E0) (dvs := []) FL hr rfl mL kL bL .nil pass0 (pa_cons (pv 0) pa_nil)) (pg_sub (pv 0) pe_int set_list))) pss_nil)
      (tail_draw hint), ?_⟩
    obtain ⟨dg, hd, hB⟩ := C.box
    have hB0 := hB
    obtain ⟨ns, z', hb, hc, hz⟩ := hB
    have hcb : F.c ≠ F.b := fun e => by
      rw [e, hb] at hc
      cases ns <;> cases hc
    have fin : ∀ H' d dg', BoxAt F.b F.c H' dg' → 0 ≤ dg' → 0 ≤ d → d < many → (∀ a, a ≠ F.b → a ≠ F.c → H' a = H a) → Q (.int d) H' := fun H' d dg' h1 h2 h3 h4 h5 =>
      k (.int d) (.fz (.int d)) H' ⟨⟨dg', h2, h1⟩, fun a o n1 n2 e => by rw [h5 a n1 n2, ← C.h0]; exact e, .int d⟩ (hP d h3 h4)
    refine ⟨_, rfl, F.b, _, 1, _, rfl, rfl, SqL.of hb, rfl, _, rfl, _, _, rfl, rfl, _, rfl, ite2 (fun _ => ?_) (fun _ => ?_)⟩
    · refine ⟨_, rfl, F.b, F.c, dg, rfl, hB0, fun H' r h1 h2 h3 => ?_⟩
      obtain ⟨ns2, z2, hb2, hc2, hz2⟩ := h1
      refine ⟨_, rfl, F.b, _, 1, 1, rfl, rfl, hb2, rfl, F.b, F.c, r, many, rfl, rfl, rfl, ⟨ns2, z2, upd_same, by rw [upd_ne hcb]; exact hc2, hz2⟩, h2, hm, hm2, fun H'' d dg' q1 q2 q3 q4 q5 => fin H'' d dg' q1 q2 q3 q4 fun a n1 n2 => by rw [q5 a n1 n2, upd_ne n1]; exact h3 a n1 n2⟩
    · exact ⟨F.b, F.c, dg, many, rfl, rfl, rfl, hB0, hd, hm, hm2, fin⟩
/-- the box at its start -/
def spBox (K : Frag) : Sp := fun vs H Q _ => ∃ (a : Addr) (ns : List Int), vs = [.ref a] ∧ SqL K H a (ns.map V.int) ∧ ns.length ≤ 63 ∧ ∀ (H' : Hp) (b c : Addr), BoxAt b c H' 0 → Q (.ref b) H'
theorem ok__law_box (F : Fun K "_law_box" "_law_box" s__law_box f fd) (hlen : mg "len" = none) (hlist : mg "list" = none) : FnOk P w K mg base CX0 1 f fd ["script"] (spBox K) := by
  refine F.ok sc__law_box (fun vs H Q E h => ?_) (fun cdv A outer s H vs Q E hr h => ?_)
  · obtain ⟨a, ns, rfl, _⟩ := h
    rfl
  · obtain ⟨a, ns, rfl, hS, hn, k⟩ := h
    refine ⟨_, pss_one (ps_ret (pe_lst (pa_cons (pe_callTy call_list_of rfl hlist boot_list (pa_cons (pe_slice sl_all (pv 0) po_none (po_some pe_int)) pa_nil)) (pa_cons pe_int (pa_cons (pe_op op_add pe_int (pe_callB call_len rfl hlen boot_len (pa_cons (pv 0) pa_nil))) pa_nil))))), ?_⟩
    refine ⟨_, rfl, _, rfl, .inl ⟨a, _, rfl, hS, fun t ht => ⟨t, _, rfl, .inl (SqL.of upd_same), fun c hc => ?_⟩⟩⟩
    have hS2 : SqL K (upd (upd H t (.lst (cutV (ns.map V.int) none (some 63)))) c (.lst (cutV (ns.map V.int) none (some 63)))) a (ns.map V.int) := by
      have sm : Same H (upd (upd H t (.lst (cutV (ns.map V.int) none (some 63)))) c (.lst (cutV (ns.map V.int) none (some 63)))) := fun x o e => by
        have e1 : upd H t (.lst (cutV (ns.map V.int) none (some 63))) x = some o := by rw [upd_ne (ne_of_none e ht)]; exact e
        rw [upd_ne (ne_of_none e1 hc)]
        exact e1
      exact sm.seq hS
    refine ⟨_, rfl, _, _, rfl, Or.inl ⟨_, hS2, rfl⟩, _, _, rfl, rfl, (by rw [sizeLine_eq]; show (3 : Nat) ≤ _; decide), fun b hb => ?_⟩
    have ecut : cutV (ns.map V.int) none (some 63) = ((ns.drop (HT.sIx (ns.map V.int).length 0 none)).take (HT.sIx (ns.map V.int).length (ns.map V.int).length (some 63) - HT.sIx (ns.map V.int).length 0 none)).map V.int := by
      unfold cutV
      rw [List.map_take, List.map_drop]
    have hcb : c ≠ b := fun e => by rw [← e, upd_same] at hb; cases hb
    refine k _ b c ⟨_, _, upd_same, by rw [upd_ne hcb, upd_same, ecut], ?_⟩
    omega
end
end Lw

set_option Elab.async false
set_option linter.all false
set_option maxRecDepth 100000
set_option maxHeartbeats 400000
set_option autoImplicit false
namespace Lw
open PySem L2 PySem.Spec PyProof.Rows Ip
section
variable {P : Program} {w : World} {K : Frag} {mg : Str → Option Value} {base : Heap}
/-- the defs of the text -/
structure Fs (K : Frag) (mg : Str → Option Value) : Prop where
  x_is_count : Fx K mg "is_count" s_is_count ["value", "least", "most"]
  x_are_lengths : Fx K mg "are_lengths" s_are_lengths ["n", "value"]
  x_length_gain : Fx K mg "length_gain" s_length_gain ["links", "lengths", "u", "v"]
  x_is_round : Fx K mg "is_round" s_is_round ["precedence", "lengths", "value"]
  x__law_box : Fx K mg "_law_box" s__law_box ["script"]
  x__law_load : Fx K mg "_law_load" s__law_load ["box"]
  x__law_draw : Fx K mg "_law_draw" s__law_draw ["box", "many"]
  x__law_same : Fx K mg "_law_same" s__law_same ["a", "b"]
  x__law_bent : Fx K mg "_law_bent" s__law_bent ["box", "value"]
  x__law_precedence : Fx K mg "_law_precedence" s__law_precedence ["stays"]
  x__law_stays : Fx K mg "_law_stays" s__law_stays ["box", "n", "wide", "top"]
  x__law_gain : Fx K mg "_law_gain" s__law_gain ["links", "lengths", "u", "v"]
  x__law_due : Fx K mg "_law_due" s__law_due ["precedence", "lengths", "value"]
  x__law_made : Fx K mg "_law_made" s__law_made ["box"]
  x_law : Fx K mg "law" s_law ["script"]
theorem draw_ok {t_MAX_LENGTH : Tok} (F : Fs K mg) (G : Gf mg t_MAX_LENGTH) {f : Addr} {fd : FuncData} (h : Fun K "_law_draw" "_law_draw" s__law_draw f fd) : FnOk P w K mg base CX0 2 f fd ["box", "many"] (spI K BoxK 2 drawT) := by
  obtain ⟨fl, fdl, FL, mL, bL⟩ := F.x__law_load.ex
  exact ok__law_draw h (ok__law_load FL G.b_len G.b_int) bL mL FL.kp G.b_int
theorem cs_all {t_MAX_LENGTH : Tok} (F : Fs K mg) (G : Gf mg t_MAX_LENGTH) : ∀ d, Cs P w K mg base (d + 2) (TT d)
  | 0 => by
    rw [TT_zero]
    exact ⟨F.x_is_count.no, F.x_are_lengths.no, F.x_length_gain.no, F.x_is_round.no, F.x__law_draw.no, F.x__law_same.no, F.x__law_bent.no, F.x__law_precedence.no, F.x__law_stays.no, F.x__law_gain.no, F.x__law_due.no, F.x__law_made.no⟩
  | d + 1 => by
    have ih := cs_all F G d
    rw [TT_succ]
    exact ⟨F.x_is_count.cf (fun f fd h => ok_is_count h G ih) (fun _ _ h => h.1),
      F.x_are_lengths.cf (fun f fd h => ok_are_lengths h G ih) (fun _ _ h => h.1),
      F.x_length_gain.cf (fun f fd h => ok_length_gain h G ih) (fun _ _ h => h.1),
      F.x_is_round.cf (fun f fd h => ok_is_round h G ih) (fun _ _ h => h.1),
      F.x__law_draw.cf (fun f fd h => (draw_ok F G h).mono (by omega)) (fun _ _ h => drawT_len h),
      F.x__law_same.cf (fun f fd h => ok__law_same h G ih) (fun _ _ h => h.1),
      F.x__law_bent.cf (fun f fd h => ok__law_bent h G ih) (fun _ _ h => h.1),
      F.x__law_precedence.cf (fun f fd h => ok__law_precedence h G ih) (fun _ _ h => h.1),
      F.x__law_stays.cf (fun f fd h => ok__law_stays h G ih) (fun _ _ h => h.1),
      F.x__law_gain.cf (fun f fd h => ok__law_gain h G ih) (fun _ _ h => h.1),
      F.x__law_due.cf (fun f fd h => ok__law_due h G ih) (fun _ _ h => h.1),
      F.x__law_made.cf (fun f fd h => ok__law_made h G ih) (fun _ _ h => h.1)⟩
theorem ok_law {t_MAX_LENGTH : Tok} (F : Fs K mg) (G : Gf mg t_MAX_LENGTH) {f : Addr} {fd : FuncData} (FL : Fun K "law" "law" s_law f fd)
    (hl : w_law (TT 8) ⟨fun _ => False, fun r => r = .fz (.bl true), fun _ => False, fun _ => False⟩ (.non :: .fz .box :: List.replicate 17 .non)) : FnOk P w K mg base CX0 11 f fd ["script"] (spLaw K) := by
  obtain ⟨fb, fdb, FB, mB, bB⟩ := F.x__law_box.ex
  have GB : FnOk P w K mg base CX0 1 fb fdb ["script"] (spBox K) := ok__law_box FB G.b_len G.b_list
  have C := cs_all (P := P) (w := w) (base := base) F G 8
  refine FL.ok sc_law (fun vs H Q E h => ?_) (fun cdv A outer s H vs Q E hr h => ?_)
  · obtain ⟨a, ns, rfl, _⟩ := h
    rfl
  · obtain ⟨a, ns, rfl, hS, hn, k⟩ := h
    refine ⟨_, pss_cons (ps_set (i := 1) sc_law.nd rfl (by first | exact Or.inl rfl | exact Or.inr rfl) (pe_call (E := E0) (dvs := []) GB (hr.mono (by decide)) rfl mB FB.kp bB .nil pass0 (pa_cons (pv 0) pa_nil))) (law_rest G C hr), ?_⟩
    refine ⟨_, rfl, a, ns, rfl, hS, hn, fun H' b c hB => ?_⟩
    exact law_end hB hl k
end
theorem all_mk {l : PySem.W.OpenLaw} {w : World} {K : PySem.W.Frag} {h : Heap} {mg : Str → Option Value} {fa : Addr} {t_MAX_LENGTH : Tok} {f0 f1 f2 f3 f4 f5 f6 f7 f8 f9 f10 f11 f12 f13 f14 : Addr} (X : K.In h) (G : h.Ns mainGlobals mg) (hfa : mg "law" = some (.ref fa))
    {od0 an0 od1 an1 od2 an2 od3 an3 od4 an4 od5 an5 od6 an6 od7 an7 od8 an8 od9 an9 od10 an10 od11 an11 od12 an12 od13 an13 od14 an14 : Option Addr} {sl0 sl1 sl2 sl3 sl4 sl5 sl6 sl7 sl8 sl9 sl10 sl11 sl12 sl13 sl14 : Array (Option Value)} {oc0 kV0 dc0 pm0 cd0 ct0 oc1 kV1 dc1 pm1 cd1 ct1 oc2 kV2 dc2 pm2 cd2 ct2 oc3 kV3 dc3 pm3 cd3 ct3 oc4 kV4 dc4 pm4 cd4 ct4 oc5 kV5 dc5 pm5 cd5 ct5 oc6 kV6 dc6 pm6 cd6 ct6 oc7 kV7 dc7 pm7 cd7 ct7 oc8 kV8 dc8 pm8 cd8 ct8 oc9 kV9 dc9 pm9 cd9 ct9 oc10 kV10 dc10 pm10 cd10 ct10 oc11 kV11 dc11 pm11 cd11 ct11 oc12 kV12 dc12 pm12 cd12 ct12 oc13 kV13 dc13 pm13 cd13 ct13 oc14 kV14 dc14 pm14 cd14 ct14 : Value}
    (a0 : PySem.W.nsIn K mainGlobals "is_count" = some (some (.ref f0))) (l0 : K.lookup f0 = some ⟨oc0, od0, .func (PySem.W.fnOf "is_count" "is_count" (defArgs s_is_count) (defBody s_is_count) (defScope s_is_count) .none kV0 dc0 pm0 an0 cd0 ct0), sl0⟩) (c0 : PySem.W.codeIn K cd0 "is_count" = true) (k0 : PySem.W.keepIn K (.ref f0) = true)
    (a1 : PySem.W.nsIn K mainGlobals "are_lengths" = some (some (.ref f1))) (l1 : K.lookup f1 = some ⟨oc1, od1, .func (PySem.W.fnOf "are_lengths" "are_lengths" (defArgs s_are_lengths) (defBody s_are_lengths) (defScope s_are_lengths) .none kV1 dc1 pm1 an1 cd1 ct1), sl1⟩) (c1 : PySem.W.codeIn K cd1 "are_lengths" = true) (k1 : PySem.W.keepIn K (.ref f1) = true)
    (a2 : PySem.W.nsIn K mainGlobals "length_gain" = some (some (.ref f2))) (l2 : K.lookup f2 = some ⟨oc2, od2, .func (PySem.W.fnOf "length_gain" "length_gain" (defArgs s_length_gain) (defBody s_length_gain) (defScope s_length_gain) .none kV2 dc2 pm2 an2 cd2 ct2), sl2⟩) (c2 : PySem.W.codeIn K cd2 "length_gain" = true) (k2 : PySem.W.keepIn K (.ref f2) = true)
    (a3 : PySem.W.nsIn K mainGlobals "is_round" = some (some (.ref f3))) (l3 : K.lookup f3 = some ⟨oc3, od3, .func (PySem.W.fnOf "is_round" "is_round" (defArgs s_is_round) (defBody s_is_round) (defScope s_is_round) .none kV3 dc3 pm3 an3 cd3 ct3), sl3⟩) (c3 : PySem.W.codeIn K cd3 "is_round" = true) (k3 : PySem.W.keepIn K (.ref f3) = true)
    (a4 : PySem.W.nsIn K mainGlobals "_law_box" = some (some (.ref f4))) (l4 : K.lookup f4 = some ⟨oc4, od4, .func (PySem.W.fnOf "_law_box" "_law_box" (defArgs s__law_box) (defBody s__law_box) (defScope s__law_box) .none kV4 dc4 pm4 an4 cd4 ct4), sl4⟩) (c4 : PySem.W.codeIn K cd4 "_law_box" = true) (k4 : PySem.W.keepIn K (.ref f4) = true)
    (a5 : PySem.W.nsIn K mainGlobals "_law_load" = some (some (.ref f5))) (l5 : K.lookup f5 = some ⟨oc5, od5, .func (PySem.W.fnOf "_law_load" "_law_load" (defArgs s__law_load) (defBody s__law_load) (defScope s__law_load) .none kV5 dc5 pm5 an5 cd5 ct5), sl5⟩) (c5 : PySem.W.codeIn K cd5 "_law_load" = true) (k5 : PySem.W.keepIn K (.ref f5) = true)
    (a6 : PySem.W.nsIn K mainGlobals "_law_draw" = some (some (.ref f6))) (l6 : K.lookup f6 = some ⟨oc6, od6, .func (PySem.W.fnOf "_law_draw" "_law_draw" (defArgs s__law_draw) (defBody s__law_draw) (defScope s__law_draw) .none kV6 dc6 pm6 an6 cd6 ct6), sl6⟩) (c6 : PySem.W.codeIn K cd6 "_law_draw" = true) (k6 : PySem.W.keepIn K (.ref f6) = true)
    (a7 : PySem.W.nsIn K mainGlobals "_law_same" = some (some (.ref f7))) (l7 : K.lookup f7 = some ⟨oc7, od7, .func (PySem.W.fnOf "_law_same" "_law_same" (defArgs s__law_same) (defBody s__law_same) (defScope s__law_same) .none kV7 dc7 pm7 an7 cd7 ct7), sl7⟩) (c7 : PySem.W.codeIn K cd7 "_law_same" = true) (k7 : PySem.W.keepIn K (.ref f7) = true)
    (a8 : PySem.W.nsIn K mainGlobals "_law_bent" = some (some (.ref f8))) (l8 : K.lookup f8 = some ⟨oc8, od8, .func (PySem.W.fnOf "_law_bent" "_law_bent" (defArgs s__law_bent) (defBody s__law_bent) (defScope s__law_bent) .none kV8 dc8 pm8 an8 cd8 ct8), sl8⟩) (c8 : PySem.W.codeIn K cd8 "_law_bent" = true) (k8 : PySem.W.keepIn K (.ref f8) = true)
    (a9 : PySem.W.nsIn K mainGlobals "_law_precedence" = some (some (.ref f9))) (l9 : K.lookup f9 = some ⟨oc9, od9, .func (PySem.W.fnOf "_law_precedence" "_law_precedence" (defArgs s__law_precedence) (defBody s__law_precedence) (defScope s__law_precedence) .none kV9 dc9 pm9 an9 cd9 ct9), sl9⟩) (c9 : PySem.W.codeIn K cd9 "_law_precedence" = true) (k9 : PySem.W.keepIn K (.ref f9) = true)
    (a10 : PySem.W.nsIn K mainGlobals "_law_stays" = some (some (.ref f10))) (l10 : K.lookup f10 = some ⟨oc10, od10, .func (PySem.W.fnOf "_law_stays" "_law_stays" (defArgs s__law_stays) (defBody s__law_stays) (defScope s__law_stays) .none kV10 dc10 pm10 an10 cd10 ct10), sl10⟩) (c10 : PySem.W.codeIn K cd10 "_law_stays" = true) (k10 : PySem.W.keepIn K (.ref f10) = true)
    (a11 : PySem.W.nsIn K mainGlobals "_law_gain" = some (some (.ref f11))) (l11 : K.lookup f11 = some ⟨oc11, od11, .func (PySem.W.fnOf "_law_gain" "_law_gain" (defArgs s__law_gain) (defBody s__law_gain) (defScope s__law_gain) .none kV11 dc11 pm11 an11 cd11 ct11), sl11⟩) (c11 : PySem.W.codeIn K cd11 "_law_gain" = true) (k11 : PySem.W.keepIn K (.ref f11) = true)
    (a12 : PySem.W.nsIn K mainGlobals "_law_due" = some (some (.ref f12))) (l12 : K.lookup f12 = some ⟨oc12, od12, .func (PySem.W.fnOf "_law_due" "_law_due" (defArgs s__law_due) (defBody s__law_due) (defScope s__law_due) .none kV12 dc12 pm12 an12 cd12 ct12), sl12⟩) (c12 : PySem.W.codeIn K cd12 "_law_due" = true) (k12 : PySem.W.keepIn K (.ref f12) = true)
    (a13 : PySem.W.nsIn K mainGlobals "_law_made" = some (some (.ref f13))) (l13 : K.lookup f13 = some ⟨oc13, od13, .func (PySem.W.fnOf "_law_made" "_law_made" (defArgs s__law_made) (defBody s__law_made) (defScope s__law_made) .none kV13 dc13 pm13 an13 cd13 ct13), sl13⟩) (c13 : PySem.W.codeIn K cd13 "_law_made" = true) (k13 : PySem.W.keepIn K (.ref f13) = true)
    (a14 : PySem.W.nsIn K mainGlobals "law" = some (some (.ref f14))) (l14 : K.lookup f14 = some ⟨oc14, od14, .func (PySem.W.fnOf "law" "law" (defArgs s_law) (defBody s_law) (defScope s_law) .none kV14 dc14 pm14 an14 cd14 ct14), sl14⟩) (c14 : PySem.W.codeIn K cd14 "law" = true) (k14 : PySem.W.keepIn K (.ref f14) = true)
    (z_all : PySem.W.nsIn K mainGlobals "all" = some none)
    (z_bool : PySem.W.nsIn K mainGlobals "bool" = some none)
    (z_int : PySem.W.nsIn K mainGlobals "int" = some none)
    (z_isinstance : PySem.W.nsIn K mainGlobals "isinstance" = some none)
    (z_len : PySem.W.nsIn K mainGlobals "len" = some none)
    (z_list : PySem.W.nsIn K mainGlobals "list" = some none)
    (z_max : PySem.W.nsIn K mainGlobals "max" = some none)
    (z_range : PySem.W.nsIn K mainGlobals "range" = some none)
    (z_set : PySem.W.nsIn K mainGlobals "set" = some none)
    (z_str : PySem.W.nsIn K mainGlobals "str" = some none)
    (z_sum : PySem.W.nsIn K mainGlobals "sum" = some none)
    (z_tuple : PySem.W.nsIn K mainGlobals "tuple" = some none)
    (g_MAX_LENGTH : PySem.W.nsIn K mainGlobals "MAX_LENGTH" = some (some (.int 10000 t_MAX_LENGTH)))
    (hl : w_law (TT 8) ⟨fun _ => False, fun r => r = .fz (.bl true), fun _ => False, fun _ => False⟩ (.non :: .fz .box :: List.replicate 17 .non)) :
    ∃ fd : FuncData, (∀ (s : Shared) (v : Value), BindsTo s fd ⟨[v], []⟩ [("script", v)]) ∧ ∀ base : Heap, K.In base → base.Ns mainGlobals mg → FnOk l.prog w K mg base CX0 11 fa fd ["script"] (spLaw K) := by
  have e := hfa.symm.trans (PySem.W.mg_of X G a14)
  cases e
  have F0 := fun_mk (st := s_is_count) l0 c0 k0
  have b0 := F0.binds (ps := ["value", "least", "most"]) fun _ _ _ _ _ _ us hl => match us, hl with | [_, _, _], _ => rfl
  have F1 := fun_mk (st := s_are_lengths) l1 c1 k1
  have b1 := F1.binds (ps := ["n", "value"]) fun _ _ _ _ _ _ us hl => match us, hl with | [_, _], _ => rfl
  have F2 := fun_mk (st := s_length_gain) l2 c2 k2
  have b2 := F2.binds (ps := ["links", "lengths", "u", "v"]) fun _ _ _ _ _ _ us hl => match us, hl with | [_, _, _, _], _ => rfl
  have F3 := fun_mk (st := s_is_round) l3 c3 k3
  have b3 := F3.binds (ps := ["precedence", "lengths", "value"]) fun _ _ _ _ _ _ us hl => match us, hl with | [_, _, _], _ => rfl
  have F4 := fun_mk (st := s__law_box) l4 c4 k4
  have b4 := F4.binds (ps := ["script"]) fun _ _ _ _ _ _ us hl => match us, hl with | [_], _ => rfl
  have F5 := fun_mk (st := s__law_load) l5 c5 k5
  have b5 := F5.binds (ps := ["box"]) fun _ _ _ _ _ _ us hl => match us, hl with | [_], _ => rfl
  have F6 := fun_mk (st := s__law_draw) l6 c6 k6
  have b6 := F6.binds (ps := ["box", "many"]) fun _ _ _ _ _ _ us hl => match us, hl with | [_, _], _ => rfl
  have F7 := fun_mk (st := s__law_same) l7 c7 k7
  have b7 := F7.binds (ps := ["a", "b"]) fun _ _ _ _ _ _ us hl => match us, hl with | [_, _], _ => rfl
  have F8 := fun_mk (st := s__law_bent) l8 c8 k8
  have b8 := F8.binds (ps := ["box", "value"]) fun _ _ _ _ _ _ us hl => match us, hl with | [_, _], _ => rfl
  have F9 := fun_mk (st := s__law_precedence) l9 c9 k9
  have b9 := F9.binds (ps := ["stays"]) fun _ _ _ _ _ _ us hl => match us, hl with | [_], _ => rfl
  have F10 := fun_mk (st := s__law_stays) l10 c10 k10
  have b10 := F10.binds (ps := ["box", "n", "wide", "top"]) fun _ _ _ _ _ _ us hl => match us, hl with | [_, _, _, _], _ => rfl
  have F11 := fun_mk (st := s__law_gain) l11 c11 k11
  have b11 := F11.binds (ps := ["links", "lengths", "u", "v"]) fun _ _ _ _ _ _ us hl => match us, hl with | [_, _, _, _], _ => rfl
  have F12 := fun_mk (st := s__law_due) l12 c12 k12
  have b12 := F12.binds (ps := ["precedence", "lengths", "value"]) fun _ _ _ _ _ _ us hl => match us, hl with | [_, _, _], _ => rfl
  have F13 := fun_mk (st := s__law_made) l13 c13 k13
  have b13 := F13.binds (ps := ["box"]) fun _ _ _ _ _ _ us hl => match us, hl with | [_], _ => rfl
  have F14 := fun_mk (st := s_law) l14 c14 k14
  have b14 := F14.binds (ps := ["script"]) fun _ _ _ _ _ _ us hl => match us, hl with | [_], _ => rfl
  have Gm : Gf mg t_MAX_LENGTH := ⟨PySem.W.mg_none_of X G z_all, PySem.W.mg_none_of X G z_bool, PySem.W.mg_none_of X G z_int, PySem.W.mg_none_of X G z_isinstance, PySem.W.mg_none_of X G z_len, PySem.W.mg_none_of X G z_list, PySem.W.mg_none_of X G z_max, PySem.W.mg_none_of X G z_range, PySem.W.mg_none_of X G z_set, PySem.W.mg_none_of X G z_str, PySem.W.mg_none_of X G z_sum, PySem.W.mg_none_of X G z_tuple, PySem.W.mg_of X G g_MAX_LENGTH⟩
  have Fm : Fs K mg := ⟨⟨_, _, F0, PySem.W.mg_of X G a0, b0⟩, ⟨_, _, F1, PySem.W.mg_of X G a1, b1⟩, ⟨_, _, F2, PySem.W.mg_of X G a2, b2⟩, ⟨_, _, F3, PySem.W.mg_of X G a3, b3⟩, ⟨_, _, F4, PySem.W.mg_of X G a4, b4⟩, ⟨_, _, F5, PySem.W.mg_of X G a5, b5⟩, ⟨_, _, F6, PySem.W.mg_of X G a6, b6⟩, ⟨_, _, F7, PySem.W.mg_of X G a7, b7⟩, ⟨_, _, F8, PySem.W.mg_of X G a8, b8⟩, ⟨_, _, F9, PySem.W.mg_of X G a9, b9⟩, ⟨_, _, F10, PySem.W.mg_of X G a10, b10⟩, ⟨_, _, F11, PySem.W.mg_of X G a11, b11⟩, ⟨_, _, F12, PySem.W.mg_of X G a12, b12⟩, ⟨_, _, F13, PySem.W.mg_of X G a13, b13⟩, ⟨_, _, F14, PySem.W.mg_of X G a14, b14⟩⟩
  exact ⟨PySem.W.fnOf "law" "law" (defArgs s_law) (defBody s_law) (defScope s_law) .none kV14 dc14 pm14 an14 cd14 ct14, fun s v => .of_eq rfl, fun base _ _ => ok_law Fm Gm F14 hl⟩
theorem walk {l : PySem.W.OpenLaw} {q : Program} {loose : List Str} {XP : (Str → Option Value) → Heap → Prop} {YP : World → Heap → Prop} {d : DefRec} {K : Params → PySem.W.Frag} (hn : l.most = some 63) (hdf : d.params.defaults = [])
    (hY : ∀ (w : World) (h : Heap), YP w h → (K w.params).In h)
    (F : ∀ (w : World) (mg : Str → Option Value) (fa : Addr) (h : Heap), (K w.params).In h → h.Ns mainGlobals mg → mg d.name = some (.ref fa) →
      ∃ fd : FuncData, (∀ (s : Shared) (u : Value), BindsTo s fd ⟨[u], []⟩ [("script", u)]) ∧ ∀ base : Heap, (K w.params).In base → base.Ns mainGlobals mg → FnOk l.prog w (K w.params) mg base CX0 11 fa fd ["script"] (spLaw (K w.params))) :
    PySem.W.WalkO q loose XP YP l.row.toRowW d [] (fun f vs => PySem.call f vs) :=
  L2.walk_of (n := 63) (k := 11) (x := "script") (CX := fun _ => CX0) (sp := fun w => spLaw (K w.params)) hn (by decide) hdf ⟨rfl, by decide, by decide⟩ hY F (fun _ _ a ns hl _ hS => ⟨a, ns, rfl, hS, hl, fun _ => rfl⟩) fun _ _ _ _ _ z => z
end Lw

set_option Elab.async false
set_option linter.all false
set_option maxRecDepth 100000
set_option maxHeartbeats 400000
set_option autoImplicit false
namespace Lw
open PySem L2 PySem.Spec PyProof.Rows Ip
/-- what isinstance may look at -/
def El : D → Bool
  | .dct _ _ => false
  | .st _ => false
  | .box => false
  | _ => true
def isCnt (lo hi : Int) : D → Bool
  | .int i => decide (lo ≤ i) && decide (i ≤ hi)
  | _ => false
theorem sp_is_count {d : Nat} {v : D} {lo hi : Int} {P : Res → Prop} (hv : El v = true) (h : P (.fz (.bl (isCnt lo hi v)))) : TT (d + 1) 1 [v, .int lo, .int hi] P := by
  rw [TT_succ]
  refine ⟨rfl, ?_⟩
  cases v with
  | int i =>
    refine ite2 (fun q => ?_) (fun q => ?_)
    · have e : isCnt lo hi (.int i) = decide (i ≤ hi) := by show (decide (lo ≤ i) && _) = _; rw [q]; rfl
      rw [e] at h
      exact h
    · have e : isCnt lo hi (.int i) = false := by show (decide (lo ≤ i) && _) = _; rw [Bool.eq_false_iff.mpr q]; rfl
      rw [e] at h
      exact h
  | bl b => exact h
  | non => exact h
  | str s => exact h
  | tup ds => exact h
  | lst ds => exact h
  | _ => cases hv
theorem bls_map {α : Type} (f : α → Bool) : ∀ ds : List α, blsOf (ds.map fun x => .bl (f x)) = some (ds.map f)
  | [] => rfl
  | d :: ds => by
    show (blsOf (ds.map fun x => .bl (f x))).map (f d :: ·) = _
    rw [bls_map f ds]
    rfl
theorem all_id {α : Type} (f : α → Bool) (ds : List α) : (ds.map f).all id = ds.all f := by rw [List.all_map]; rfl
def ElA (v : D) : Prop := El v = true ∧ ∀ ds, v = .tup ds → ∀ d ∈ ds, El d = true
def arL (n : Int) : D → Bool
  | .tup ds => decide ((ds.length : Int) = n) && ds.all (isCnt 0 10000)
  | _ => false
theorem eqv_int {a b : Int} : D.eqv (.int a) (.int b) = decide (a = b) := by
  show PyData.eqv (.int a) (.int b) = _
  first | rfl | simp [PyData.eqv]
theorem sp_are_lengths {d : Nat} {v : D} {n : Int} {P : Res → Prop} (hv : ElA v) (h : P (.fz (.bl (arL n v)))) : TT (d + 2) 4 [.int n, v] P := by
  rw [TT_succ]
  refine ⟨rfl, ?_⟩
  cases v with
  | tup ds =>
    refine ite2 (fun q => ?_) (fun q => ?_)
    · have q : D.eqv (.int ds.length) (.int n) = true := q
      rw [eqv_int] at q
      refine ⟨rfl, lc_map1 (fun x => .bl (isCnt 0 10000 x)) (fun x hx C hC => ⟨rfl, sp_is_count (hv.2 ds rfl x hx) ⟨rfl, hC⟩⟩) ?_⟩
      refine need_intro (a := .fz (.bl (ds.all (isCnt 0 10000)))) ?_ ?_
      · show (blsOf _).map _ = _
        rw [bls_map, Option.map_some, all_id]
      · have e : arL n (.tup ds) = ds.all (isCnt 0 10000) := by show (decide _ && _) = _; rw [q]; rfl
        rw [e] at h
        exact h
    · have q : ¬ D.eqv (.int ds.length) (.int n) = true := q
      rw [eqv_int] at q
      have e : arL n (.tup ds) = false := by show (decide _ && _) = _; rw [Bool.eq_false_iff.mpr q]; rfl
      rw [e] at h
      exact h
  | int i => exact h
  | bl b => exact h
  | non => exact h
  | str s => exact h
  | lst ds => exact h
  | _ => cases hv.1
/-- plain things that are no lists -/
def Sm (x : D) : Prop := El x = true ∧ x.pure = true
theorem sp_draw {d : Nat} {m : Int} {P : Res → Prop} (h0 : 0 < m) (h1 : m ≤ 1000000000) (h : ∀ x, 0 ≤ x → x < m → P (.fz (.int x))) : TT (d + 1) 10 [.box, .int m] P := by
  rw [TT_succ]
  exact ⟨m, rfl, h0, h1, h⟩
theorem eight {p : Int} (h0 : 0 ≤ p) (h1 : p < 8) : p = 0 ∨ p = 1 ∨ p = 2 ∨ p = 3 ∨ p = 4 ∨ p = 5 ∨ p = 6 ∨ p = 7 := by omega
theorem nle {n m : Nat} (h : Nat.ble n m = true) : n ≤ m := Nat.le_of_ble_eq_true h
theorem sp_bent_int {d : Nat} {i : Int} {P : Res → Prop} (hi : small i) (h : ∀ x, Sm x → P (.fz x)) : TT (d + 2) 12 [.box, .int i] P := by
  rw [TT_succ]
  refine ⟨rfl, ?_⟩
  refine sp_draw (m := 8) (by decide) (by decide) fun p p0 p1 => ?_
  refine ⟨rfl, nle rfl, ?_⟩
  refine need_intro (a := .fz (.str (toString i))) (by show (if small i then _ else _) = _; rw [if_pos hi]) ?_
  refine ⟨nle rfl, ?_⟩
  refine ⟨nle rfl, ?_⟩
  rcases eight p0 p1 with rfl | rfl | rfl | rfl | rfl | rfl | rfl | rfl <;> exact h _ ⟨rfl, rfl⟩
theorem sp_same_bl {d : Nat} {a : Bool} {P : Res → Prop} (h : P (.fz (.bl true))) : TT (d + 1) 11 [.bl a, .bl a] P := by
  rw [TT_succ]
  refine ⟨rfl, ?_⟩
  cases a <;> exact h
/-- rows of plain things -/
def Row (m : Nat) (d : D) : Prop := ∃ ds, d = .tup ds ∧ ds.length ≤ m ∧ ∀ x ∈ ds, Sm x
def Val (m : Nat) (d : D) : Prop := d = .non ∨ Row m d
theorem mem_cut {α : Type} {xs : List α} {lo hi : Option Int} {x : α} (h : x ∈ cutL xs lo hi) : x ∈ xs := List.mem_of_mem_drop (List.mem_of_mem_take h)
theorem cut_le {α : Type} (xs : List α) (lo hi : Option Int) : (cutL xs lo hi).length ≤ xs.length := by
  unfold cutL
  rw [List.length_take, List.length_drop]
  omega
theorem mem_back {α : Type} {xs : List α} {lo hi : Option Int} {x : α} (h : x ∈ backL xs lo hi) : x ∈ xs := by
  obtain ⟨k, _, e⟩ := List.mem_filterMap.mp h
  exact List.mem_iff_getElem?.mpr ⟨k, e⟩
theorem pures_of : ∀ {ds : List D}, (∀ x ∈ ds, x.pure = true) → D.pures ds = true
  | [], _ => rfl
  | d :: ds, h => by
    show (d.pure && D.pures ds) = true
    rw [h d List.mem_cons_self, pures_of fun x hx => h x (List.mem_cons_of_mem _ hx)]
    rfl
theorem Val.pure {m : Nat} {d : D} (h : Val m d) : resPure (.fz d) = true := by
  rcases h with rfl | ⟨ds, rfl, _, h⟩
  · rfl
  · exact pures_of fun x hx => (h x hx).2
theorem Val.elA {m : Nat} {d : D} (h : Val m d) : ElA d := by
  rcases h with rfl | ⟨ds, rfl, _, h⟩
  · exact ⟨rfl, fun ds e => by cases e⟩
  · exact ⟨rfl, fun es e => by cases e; exact fun x hx => (h x hx).1⟩
/-- how much a row of whole numbers may be bent -/
theorem bent_tail {d m : Nat} {ds : List D} {P : Res → Prop} (hl : ds.length ≤ m) (hm2 : m ≤ 1000) (hS : ∀ x ∈ ds, Sm x) (h : ∀ x, Val (2 * m + 2) x → P (.fz x)) :
    w__law_bent_1 (TT (d + 2)) ⟨fun _ => P (.fz .non), P, fun _ => False, fun _ => False⟩ [.fz .box, .fz (.tup ds), .non, .non] := by
  have row : ∀ es : List D, es.length ≤ 2 * m + 2 → (∀ x ∈ es, Sm x) → P (.fz (.tup es)) := fun es h1 h2 => h _ (.inr ⟨es, rfl, h1, h2⟩)
  have cl := cut_le ds
  have cS : ∀ (lo hi : Option Int), ∀ x ∈ cutL ds lo hi, Sm x := fun lo hi x hx => hS x (mem_cut hx)
  have apS : ∀ {xs ys : List D}, (∀ x ∈ xs, Sm x) → (∀ x ∈ ys, Sm x) → ∀ x ∈ xs ++ ys, Sm x := fun a b x hx => (List.mem_append.mp hx).elim (a x) (b x)
  have oneS : ∀ {y : D}, Sm y → ∀ x ∈ [y], Sm x := fun hy x hx => by rw [List.mem_singleton.mp hx]; exact hy
  have addk : ∀ xs ys : List D, xs.length + ys.length ≤ lim → addD (.tup xs) (.tup ys) = some (.fz (.tup (xs ++ ys))) := fun xs ys hh => by
    show (if xs.length + ys.length ≤ lim then _ else _) = _
    rw [if_pos hh]
  have hlim : 2 * m + 2 ≤ lim := by show _ ≤ 10000000; omega
  refine sp_draw (m := 8) (by decide) (by decide) fun p p0 p1 => ?_
  refine ⟨rfl, nle rfl, ?_⟩
  have c1 := cl none (some 1)
  refine need_intro (addk ds (cutL ds none (some 1)) (by omega)) ?_
  refine ⟨nle rfl, ?_⟩
  refine n3 rfl rfl (addk ds [.int 0] (by simp; omega)) ?_
  refine need_intro (addk (cutL ds none (some 1)) ds (by omega)) ?_
  refine ⟨nle rfl, ?_⟩
  rcases eight p0 p1 with rfl | rfl | rfl | rfl | rfl | rfl | rfl | rfl
  · exact row _ (by rw [List.length_append]; omega) (apS hS (cS _ _))
  · exact row _ (by have := cl (some 1) none; omega) (cS _ _)
  · exact row _ (by have := backL_len ds none none; omega) fun x hx => hS x (mem_back hx)
  · exact row _ (by rw [List.length_append]; simp; omega) (apS hS (oneS ⟨rfl, rfl⟩))
  · exact row _ (by rw [List.length_append]; omega) (apS (cS _ _) hS)
  · exact row _ (by have := cl none (some (-1)); omega) (cS _ _)
  · exact h _ (.inl rfl)
  · exact row _ (by omega) (cS _ _)
theorem sp_bent_row {d m : Nat} {vs : List Int} {P : Res → Prop} (hm : vs.length ≤ m) (hm2 : m ≤ 1000) (hi : ∀ i ∈ vs, small i) (h : ∀ x, Val (2 * m + 2) x → P (.fz x)) : TT (d + 3) 12 [.box, .tup (vs.map .int)] P := by
  have hS : ∀ x ∈ vs.map D.int, Sm x := fun x hx => by
    obtain ⟨i, _, rfl⟩ := List.mem_map.mp hx
    exact ⟨rfl, rfl⟩
  have hl : (vs.map D.int).length ≤ m := by rw [List.length_map]; exact hm
  have row : ∀ es : List D, es.length ≤ 2 * m + 2 → (∀ x ∈ es, Sm x) → P (.fz (.tup es)) := fun es h1 h2 => h _ (.inr ⟨es, rfl, h1, h2⟩)
  have tail := bent_tail (d := d) hl hm2 hS h
  have cl := cut_le (vs.map D.int)
  have cS : ∀ (lo hi : Option Int), ∀ x ∈ cutL (vs.map D.int) lo hi, Sm x := fun lo hi x hx => hS x (mem_cut hx)
  have apS : ∀ {xs ys : List D}, (∀ x ∈ xs, Sm x) → (∀ x ∈ ys, Sm x) → ∀ x ∈ xs ++ ys, Sm x := fun a b x hx => (List.mem_append.mp hx).elim (a x) (b x)
  have oneS : ∀ {y : D}, Sm y → ∀ x ∈ [y], Sm x := fun hy x hx => by rw [List.mem_singleton.mp hx]; exact hy
  have addk : ∀ xs ys : List D, xs.length + ys.length ≤ lim → addD (.tup xs) (.tup ys) = some (.fz (.tup (xs ++ ys))) := fun xs ys hh => by
    show (if xs.length + ys.length ≤ lim then _ else _) = _
    rw [if_pos hh]
  have hlim : 2 * m + 2 ≤ lim := by show _ ≤ 10000000; omega
  rw [TT_succ]
  refine ⟨rfl, ?_⟩
  refine ite2 (fun q => ?_) (fun q => tail)
  have q : (0 : Int) < ((vs.map D.int).length : Nat) := of_decide_eq_true q
  refine sp_draw (m := 5) (by decide) (by decide) fun p p0 p1 => ?_
  refine ite2 (fun q2 => ?_) (fun q2 => tail)
  refine sp_draw (m := ((vs.map D.int).length : Nat)) q (by omega) fun at_ a0 a1 => ?_
  refine ⟨rfl, nle rfl, ?_⟩
  obtain ⟨j, rfl⟩ : ∃ j : Nat, at_ = j := ⟨at_.toNat, by omega⟩
  have hj : j < vs.length := by rw [List.length_map] at a1; omega
  have e1 : idxD (.tup (vs.map D.int)) (.int (j : Int)) = some (.fz (.int vs[j])) := by
    show (atI (vs.map D.int) (j : Int)).map Res.fz = _
    rw [atI_nat (v := D.int vs[j]) (by rw [List.getElem?_map, List.getElem?_eq_getElem hj]; rfl)]
    rfl
  refine need_intro e1 ?_
  refine sp_bent_int (hi _ (List.getElem_mem hj)) fun x hx => ?_
  refine need_intro (a := _) (backRho_pure hx.2) ?_
  refine ⟨nle rfl, ?_⟩
  have c1 := cl none (some (j : Int))
  have c2 := cl (some ((j : Int) + 1)) none
  refine n3 rfl rfl (addk _ [x] (by simp; omega)) ?_
  refine need_intro (addk (cutL (vs.map D.int) none (some (j : Int)) ++ [x]) (cutL (vs.map D.int) (some ((j : Int) + 1)) none) (by rw [List.length_append, List.length_singleton]; omega)) ?_
  refine need_intro (a := _) rfl ?_
  exact row _ (by rw [List.length_append, List.length_append]; simp; omega) (apS (apS (cS _ _) (oneS hx)) (cS _ _))
end Lw

set_option Elab.async false
set_option linter.all false
set_option maxRecDepth 100000
set_option maxHeartbeats 400000
set_option autoImplicit false
namespace Lw
open PySem L2 PySem.Spec PyProof.Rows Ip
def Pr (p : Int × Int) : D := .tup [.int p.1, .int p.2]
theorem pr_plains : ∀ L : List (Int × Int), D.plains (L.map Pr) = true
  | [] => rfl
  | p :: L => by
    show (D.plain (Pr p) && D.plains (L.map Pr)) = true
    rw [pr_plains L]
    rfl
theorem pr_deps : ∀ L : List (Int × Int), D.deps (L.map Pr) ≤ 1
  | [] => Nat.zero_le _
  | p :: L => by
    show max (D.dep (Pr p)) (D.deps (L.map Pr)) ≤ 1
    have := pr_deps L
    have e : D.dep (Pr p) = 1 := rfl
    rw [e]
    omega
theorem pr_ok (L : List (Int × Int)) : (D.tup (L.map Pr)).ok = true := by
  show (D.plains (L.map Pr) && decide (D.deps (L.map Pr) + 1 ≤ 64)) = true
  rw [pr_plains]
  have := pr_deps L
  exact decide_eq_true (by omega)
theorem pr_pure : ∀ L : List (Int × Int), D.pures (L.map Pr) = true
  | [] => rfl
  | p :: L => by
    show (D.pure (Pr p) && D.pures (L.map Pr)) = true
    rw [pr_pure L]
    rfl
theorem ints_pure (L : List Int) : D.pures (L.map .int) = true := pures_of fun x hx => by
  obtain ⟨i, _, rfl⟩ := List.mem_map.mp hx
  rfl
def inB (L : List (Int × Int)) (u v : Int) : Bool := (L.map Pr).any fun z => z.eqv (Pr (u, v))
theorem in_links (L : List (Int × Int)) (u v : Int) : cmpD .In (.tup [.int u, .int v]) (.tup (L.map Pr)) = some (inB L u v) := by
  show (if ((D.tup [.int u, .int v]).ok && (D.tup (L.map Pr)).ok) = true then _ else _) = _
  rw [pr_ok]
  exact if_pos rfl
def gainD (L : List (Int × Int)) (lens : List Int) (u v : Nat) : D := if inB L u v = true then .int (lens.getD u 0 + 1) else if inB L v u = true then .non else .int (-(lens.getD v 0))
theorem at_ints {lens : List Int} {u : Nat} (h : u < lens.length) : idxD (.tup (lens.map .int)) (.int (u : Int)) = some (.fz (.int (lens.getD u 0))) := by
  show (atI (lens.map D.int) (u : Int)).map Res.fz = _
  rw [atI_nat (v := D.int (lens.getD u 0)) (by rw [List.getElem?_map, List.getElem?_eq_getElem h, List.getD_eq_getElem?_getD, List.getElem?_eq_getElem h]; rfl)]
  rfl
theorem gain_run {T : Nat → CallT} {L : List (Int × Int)} {lens : List Int} {u v : Nat} {P : Res → Prop} (hu : u < lens.length) (hv : v < lens.length) (h : P (.fz (gainD L lens u v))) :
    callOf 4 4 (w_length_gain T) [.tup (L.map Pr), .tup (lens.map .int), .int u, .int v] P := by
  refine ⟨rfl, ?_⟩
  refine ⟨nle rfl, ?_⟩
  refine need_intro (in_links L u v) ?_
  refine ite2 (fun q => ?_) (fun q => ?_)
  · refine need_intro (at_ints hu) ?_
    have e : gainD L lens u v = .int (lens.getD u 0 + 1) := if_pos q
    rw [e] at h
    exact h
  · refine ⟨nle rfl, ?_⟩
    refine need_intro (in_links L v u) ?_
    have e : gainD L lens u v = if inB L v u = true then .non else .int (-(lens.getD v 0)) := if_neg q
    rw [e] at h
    refine ite2 (fun q => ?_) (fun q => ?_)
    · rw [if_pos q] at h
      exact h
    · rw [if_neg q] at h
      refine need_intro (at_ints hv) ?_
      exact h
theorem sp_gain5 {d : Nat} {L : List (Int × Int)} {lens : List Int} {u v : Nat} {P : Res → Prop} (hu : u < lens.length) (hv : v < lens.length) (h : P (.fz (gainD L lens u v))) : TT (d + 1) 5 [.tup (L.map Pr), .tup (lens.map .int), .int u, .int v] P := by
  rw [TT_succ]
  exact gain_run (T := TT d) hu hv h
theorem sp_gain15 {d : Nat} {L : List (Int × Int)} {lens : List Int} {u v : Nat} {P : Res → Prop} (hu : u < lens.length) (hv : v < lens.length) (h : P (.fz (gainD L lens u v))) : TT (d + 1) 15 [.tup (L.map Pr), .tup (lens.map .int), .int u, .int v] P := by
  rw [TT_succ]
  exact gain_run (T := TT d) hu hv h
/-! rounds -/
def natsOf (ds : List D) : List Nat := ds.map fun d => match d with
  | .int i => i.toNat
  | _ => 0
theorem cnt_nats {n : Int} : ∀ {ds : List D}, ds.all (isCnt 0 (n - 1)) = true → ds = (natsOf ds).map (fun (k : Nat) => D.int (k : Int)) ∧ ∀ k ∈ natsOf ds, (k : Int) < n
  | [], _ => ⟨rfl, fun k h => by cases h⟩
  | d :: ds, h => by
    rw [List.all_cons, Bool.and_eq_true] at h
    obtain ⟨e, b⟩ := cnt_nats h.2
    cases d with
    | int i =>
      have h1 : (decide (0 ≤ i) && decide (i ≤ n - 1)) = true := h.1
      rw [Bool.and_eq_true, decide_eq_true_eq, decide_eq_true_eq] at h1
      have e1 : ((i.toNat : Nat) : Int) = i := by omega
      refine ⟨?_, fun k hk => ?_⟩
      · show D.int i :: ds = D.int ((i.toNat : Nat) : Int) :: (natsOf ds).map _
        rw [e1, ← e]
      · rcases List.mem_cons.mp hk with e2 | hk
        · have e2 : k = i.toNat := e2
          omega
        · exact b k hk
    | _ => cases h.1
def prevI (m k : Nat) : Nat := if k = 0 then m - 1 else k - 1
def gainsD (L : List (Int × Int)) (lens : List Int) (vs : List Nat) : List D := (List.range vs.length).map fun k => gainD L lens (vs.getD (prevI vs.length k) 0) (vs.getD k 0)
def simpleD (d : D) : Prop := d = .non ∨ ∃ i, d = .int i
theorem gain_simple (L : List (Int × Int)) (lens : List Int) (u v : Nat) : simpleD (gainD L lens u v) := by
  unfold gainD
  split
  · exact .inr ⟨_, rfl⟩
  · split
    · exact .inl rfl
    · exact .inr ⟨_, rfl⟩
theorem simple_ok : ∀ {ds : List D}, (∀ d ∈ ds, simpleD d) → D.plains ds = true ∧ D.deps ds = 0
  | [], _ => ⟨rfl, rfl⟩
  | d :: ds, h => by
    obtain ⟨a, b⟩ := simple_ok fun x hx => h x (List.mem_cons_of_mem _ hx)
    constructor
    · show (d.plain && D.plains ds) = true
      rw [a]
      rcases h d List.mem_cons_self with rfl | ⟨i, rfl⟩ <;> rfl
    · show max d.dep (D.deps ds) = 0
      rw [b]
      rcases h d List.mem_cons_self with rfl | ⟨i, rfl⟩ <;> rfl
theorem simple_lst {ds : List D} (h : ∀ d ∈ ds, simpleD d) : (D.lst ds).ok = true := by
  obtain ⟨a, b⟩ := simple_ok h
  show (D.plains ds && decide (D.deps ds + 1 ≤ 64)) = true
  rw [a, b]
  rfl
theorem simple_ints : ∀ {ds : List D}, (∀ d ∈ ds, simpleD d) → (ds.any fun z => z.eqv .non) = false → ∃ ns, intsOf ds = some ns
  | [], _, _ => ⟨[], rfl⟩
  | d :: ds, h, q => by
    rw [List.any_cons, Bool.or_eq_false_iff] at q
    obtain ⟨ns, e⟩ := simple_ints (fun x hx => h x (List.mem_cons_of_mem _ hx)) q.2
    rcases h d List.mem_cons_self with rfl | ⟨i, rfl⟩
    · cases q.1
    · exact ⟨i :: ns, by unfold intsOf; rw [e]; rfl⟩
def sumB (gs : List D) : Bool := !(gs.any fun z => z.eqv .non) && decide (0 < ((intsOf gs).getD []).sum)
def roundT (n : Int) (L : List (Int × Int)) (lens : List Int) (ds : List D) : Bool := !decide (ds.length < 2) && (ds.all (isCnt 0 (n - 1)) && (decide ((ddp ((natsOf ds).map Int.ofNat)).length = ds.length) && sumB (gainsD L lens (natsOf ds))))
def roundB (n : Int) (L : List (Int × Int)) (lens : List Int) : D → Bool
  | .tup ds => roundT n L lens ds
  | _ => false
theorem ints_nats : ∀ vs : List Nat, intsOf (vs.map fun (k : Nat) => D.int (k : Int)) = some (vs.map Int.ofNat)
  | [] => rfl
  | v :: vs => by
    show (intsOf (vs.map _)).map ((v : Int) :: ·) = _
    rw [ints_nats vs]
    rfl
theorem at_nats {vs : List Nat} {u : Nat} (h : u < vs.length) : idxD (.tup (vs.map fun (k : Nat) => D.int (k : Int))) (.int (u : Int)) = some (.fz (.int ((vs.getD u 0 : Nat) : Int))) := by
  show (atI (vs.map _) (u : Int)).map Res.fz = _
  rw [atI_nat (v := D.int ((vs.getD u 0 : Nat) : Int)) (by rw [List.getElem?_map, List.getElem?_eq_getElem h, List.getD_eq_getElem?_getD, List.getElem?_eq_getElem h]; rfl)]
  rfl
theorem at_prev {vs : List Nat} {u : Nat} (h : u < vs.length) : idxD (.tup (vs.map fun (k : Nat) => D.int (k : Int))) (.int ((u : Int) - 1)) = some (.fz (.int ((vs.getD (prevI vs.length u) 0 : Nat) : Int))) := by
  unfold prevI
  by_cases h0 : u = 0
  · subst h0
    rw [if_pos rfl]
    show (atI (vs.map fun (k : Nat) => D.int (k : Int)) (-1)).map Res.fz = _
    have e : atI (vs.map fun (k : Nat) => D.int (k : Int)) (-1) = some (D.int ((vs.getD (vs.length - 1) 0 : Nat) : Int)) := by
      unfold atI ixN
      rw [if_neg (by decide), List.length_map, if_pos (by omega)]
      show (vs.map _)[(-1 + (vs.length : Int)).toNat]? = _
      have e2 : (-1 + (vs.length : Int)).toNat = vs.length - 1 := by omega
      have h2 : vs.length - 1 < vs.length := by omega
      rw [e2, List.getElem?_map, List.getElem?_eq_getElem h2, List.getD_eq_getElem?_getD, List.getElem?_eq_getElem h2]
      rfl
    rw [e]
    rfl
  · rw [if_neg h0]
    have e : ((u : Int) - 1) = ((u - 1 : Nat) : Int) := by omega
    rw [e]
    exact at_nats (by omega)
end Lw

set_option Elab.async false
set_option linter.all false
set_option maxRecDepth 100000
set_option maxHeartbeats 400000
set_option autoImplicit false
namespace Lw
open PySem L2 PySem.Spec PyProof.Rows Ip
theorem all_cnt {ds : List D} {f : D → Bool} : allD (.lst (ds.map fun x => .bl (f x))) = some (.fz (.bl (ds.all f))) := by
  show (blsOf _).map _ = _
  rw [bls_map, Option.map_some, all_id]
theorem set_len {vs : List Nat} (h : vs.length ≤ 4000) : setLen (.tup (vs.map fun (k : Nat) => D.int (k : Int))) = some (ddp (vs.map Int.ofNat)).length := by
  show (intsOf _).bind _ = _
  rw [ints_nats]
  show (if (vs.map Int.ofNat).length ≤ 4000 then _ else _) = _
  rw [List.length_map]
  exact if_pos h
theorem ne_nat (a b : Nat) : cmpD .NotEq (.int (a : Int)) (.int (b : Int)) = some (!decide (a = b)) := by
  show some (!(D.eqv (.int a) (.int b))) = _
  rw [eqv_int]
  congr 2
  by_cases h : a = b
  · subst h; simp
  · rw [decide_eq_false h, decide_eq_false (by omega)]
theorem rg_nats (m : Nat) : rgD 0 (m : Int) = (List.range m).map fun (k : Nat) => D.int (k : Int) := by
  unfold rgD
  rw [show ((m : Int) - 0).toNat = m by omega]
  apply List.map_congr_left
  intro k _
  rw [Int.zero_add]
theorem last_run {gs : List D} (hs : ∀ d ∈ gs, simpleD d) {P : Res → Rho → Prop} {s0 s1 s2 s3 s4 s5 s7 : Slot} (h : P (.fz (.bl (sumB gs))) [s0, s1, s2, s3, s4, s5, .ow (.lst gs), s7]) :
    (wAnd (w2 (cmpR .NotIn) (wLit .non) (wVar 6)) (w2 (cmpR .Gt) (wBlt (arg1 sumD) (wCons (wVar 6) wNil)) (wLit (.int 0)))) [s0, s1, s2, s3, s4, s5, .ow (.lst gs), s7] P := by
  have e2 : cmpR .NotIn .non (.lst gs) = some (.fz (.bl (!(gs.any fun z => z.eqv .non)))) := by
    have : cmpD .NotIn .non (.lst gs) = some (!(gs.any fun z => z.eqv .non)) := by
      show notD (if ((D.non).ok && (D.lst gs).ok) = true then _ else _) = _
      rw [simple_lst hs]
      exact congrArg notD (if_pos rfl)
    unfold cmpR
    rw [this]
  refine need_intro e2 ?_
  by_cases q : (gs.any fun z => z.eqv .non) = false
  · obtain ⟨ns, en⟩ := simple_ints hs q
    have es : sumB gs = decide (0 < ns.sum) := by
      unfold sumB
      rw [q, en]
      rfl
    rw [es] at h
    rw [q]
    refine need_intro (a := D.bl true) rfl (need_intro (a := true) rfl (iteT ?_))
    refine need_intro (a := .fz (.int ns.sum)) (by show (intsOf gs).map _ = _; rw [en]; rfl) ?_
    exact h
  · have q : (gs.any fun z => z.eqv .non) = true := by simpa using q
    have es : sumB gs = false := by
      unfold sumB
      rw [q]
      rfl
    rw [es] at h
    rw [q]
    exact h
theorem rg0 {m : Nat} (h : m ≤ 5000000) : rgOk 0 (m : Int) := ⟨by omega, by omega, by omega, by omega⟩
theorem simple_pure {d : D} (h : simpleD d) : resPure (.fz d) = true := by
  rcases h with rfl | ⟨i, rfl⟩ <;> rfl
theorem getD_lt {vs : List Nat} {n k : Nat} (h : ∀ k ∈ vs, k < n) (hk : k < vs.length) : vs.getD k 0 < n := by
  rw [List.getD_eq_getElem?_getD, List.getElem?_eq_getElem hk]
  exact h _ (List.getElem_mem hk)
theorem prev_lt {m k : Nat} (h : k < m) : prevI m k < m := by
  unfold prevI
  split <;> omega
theorem gains_simple (L : List (Int × Int)) (lens : List Int) (vs : List Nat) : ∀ d ∈ gainsD L lens vs, simpleD d := fun d hd => by
  obtain ⟨k, _, rfl⟩ := List.mem_map.mp hd
  exact gain_simple _ _ _ _
theorem sp_round6 {d : Nat} {n : Int} {L : List (Int × Int)} {lens : List Int} {v : D} {P : Res → Prop} (hn : (lens.length : Int) = n) (hv : ElA v) (hl : ∀ ds, v = .tup ds → ds.length ≤ 4000) (h : P (.fz (.bl (roundB n L lens v)))) :
    TT (d + 2) 6 [.tup [.int n, .tup (L.map Pr)], .tup (lens.map .int), v] P := by
  rw [TT_succ]
  refine ⟨rfl, ?_⟩
  refine ⟨rfl, rfl, ?_⟩
  cases v with
  | tup ds =>
    refine ite2 (fun q => ?_) (fun q => ?_)
    · have q : decide ((ds.length : Int) < 2) = true := q
      have e : roundB n L lens (.tup ds) = false := by
        show roundT n L lens ds = _
        unfold roundT
        rw [decide_eq_true (by have := of_decide_eq_true q; omega)]
        rfl
      rw [e] at h
      exact h
    · have q : ¬ decide ((ds.length : Int) < 2) = true := q
      have q0 : decide (ds.length < 2) = false := decide_eq_false fun z => q (decide_eq_true (by omega))
      refine ⟨rfl, lc_map1 (fun x => .bl (isCnt 0 (n - 1) x)) (fun x hx C hC => ⟨rfl, sp_is_count (hv.2 ds rfl x hx) ⟨rfl, hC⟩⟩) ?_⟩
      refine need_intro all_cnt ?_
      cases q1 : ds.all (isCnt 0 (n - 1)) with
      | false =>
        have e : roundB n L lens (.tup ds) = false := by
          show roundT n L lens ds = _
          unfold roundT
          rw [q0, q1]
          rfl
        rw [e] at h
        exact h
      | true =>
        obtain ⟨ev, hb⟩ := cnt_nats q1
        have hlen : ds.length = (natsOf ds).length := by
          conv => lhs; rw [ev]
          rw [List.length_map]
        have hl' : (natsOf ds).length ≤ 4000 := by rw [← hlen]; exact hl ds rfl
        have eR : roundB n L lens (.tup ds) = (decide ((ddp ((natsOf ds).map Int.ofNat)).length = (natsOf ds).length) && sumB (gainsD L lens (natsOf ds))) := by
          show roundT n L lens ds = _
          unfold roundT
          rw [q0, q1, hlen]
          rfl
        rw [eR] at h
        generalize natsOf ds = vs at *
        subst ev
        show w_is_round_2 (TT (d + 1)) ⟨fun _ => P (.fz .non), P, fun _ => False, fun _ => False⟩ [.fz (.tup [.int n, .tup (L.map Pr)]), .fz (.tup (lens.map .int)), .fz (.tup (vs.map fun (k : Nat) => D.int (k : Int))), .fz (.int n), .fz (.tup (L.map Pr)), .non, .non, .non]
        refine need_intro (set_len hl') ?_
        have eq_ : D.eqv (.int ((ddp (vs.map Int.ofNat)).length : Nat)) (.int ((vs.map fun (k : Nat) => D.int (k : Int)).length : Nat)) = decide ((ddp (vs.map Int.ofNat)).length = vs.length) := by
          rw [eqv_int, List.length_map]
          by_cases hh : (ddp (vs.map Int.ofNat)).length = vs.length
          · rw [hh]; simp
          · rw [decide_eq_false hh, decide_eq_false (by omega)]
        refine ite2 (fun q2 => ?_) (fun q2 => ?_)
        · have q2 : (!D.eqv (.int ((ddp (vs.map Int.ofNat)).length : Nat)) (.int ((vs.map fun (k : Nat) => D.int (k : Int)).length : Nat))) = true := q2
          rw [eq_] at q2
          have q2 : decide ((ddp (vs.map Int.ofNat)).length = vs.length) = false := by simpa using q2
          rw [q2] at h
          exact h
        · have q2 : ¬ (!D.eqv (.int ((ddp (vs.map Int.ofNat)).length : Nat)) (.int ((vs.map fun (k : Nat) => D.int (k : Int)).length : Nat))) = true := q2
          rw [eq_] at q2
          have q2 : decide ((ddp (vs.map Int.ofNat)).length = vs.length) = true := by simpa using q2
          rw [q2] at h
          show w_is_round_3 (TT (d + 1)) ⟨fun _ => P (.fz .non), P, fun _ => False, fun _ => False⟩ [.fz (.tup [.int n, .tup (L.map Pr)]), .fz (.tup (lens.map .int)), .fz (.tup (vs.map fun (k : Nat) => D.int (k : Int))), .fz (.int n), .fz (.tup (L.map Pr)), .non, .non, .non]
          have hm : (vs.map fun (k : Nat) => D.int (k : Int)).length = vs.length := List.length_map _
          refine ⟨rg0 (by omega), rfl, ?_⟩
          rw [hm, rg_nats]
          refine lc_map1 (fun x => match x with
            | .int k => gainD L lens (vs.getD (prevI vs.length k.toNat) 0) (vs.getD k.toNat 0)
            | _ => .non) (fun x hx C hC => ?_) ?_
          · obtain ⟨k, hk, rfl⟩ := List.mem_map.mp hx
            have hk := List.mem_range.mp hk
            have hb' : ∀ k ∈ vs, k < lens.length := fun k h => by have := hb k h; omega
            refine ⟨rfl, ?_⟩
            refine need_intro (at_prev hk) ?_
            refine need_intro (at_nats hk) ?_
            refine sp_gain5 (getD_lt hb' (prev_lt hk)) (getD_lt hb' hk) ?_
            refine need_intro (backRho_pure (simple_pure (gain_simple _ _ _ _))) ?_
            exact ⟨rfl, hC⟩
          · rw [List.map_map]
            refine ⟨rfl, nle rfl, ?_⟩
            exact last_run (gains_simple L lens vs) h
  | int i => exact h
  | bl b => exact h
  | non => exact h
  | str s => exact h
  | lst ds => exact h
  | _ => cases hv.1
end Lw

set_option Elab.async false
set_option linter.all false
set_option maxRecDepth 100000
set_option maxHeartbeats 400000
set_option autoImplicit false
namespace Lw
open PySem L2 PySem.Spec PyProof.Rows Ip
theorem cnt_step {n i : Int} {C : D → Prop} (h : C (.bl (isCnt 0 (n - 1) (.int i)))) : if decide (0 ≤ i) = true then C (.bl (decide (i < n))) else C (.bl false) := by
  have e : isCnt 0 (n - 1) (.int i) = (decide (0 ≤ i) && decide (i ≤ n - 1)) := rfl
  rw [e] at h
  refine ite2 (fun q => ?_) (fun q => ?_)
  · rw [q] at h
    have e2 : decide (i < n) = decide (i ≤ n - 1) := by
      by_cases hh : i < n
      · rw [decide_eq_true hh, decide_eq_true (by omega)]
      · rw [decide_eq_false hh, decide_eq_false (by omega)]
    rw [e2]
    exact h
  · rw [Bool.eq_false_iff.mpr q] at h
    exact h
theorem sp_due16 {d : Nat} {n : Int} {L : List (Int × Int)} {lens : List Int} {v : D} {P : Res → Prop} (hn : (lens.length : Int) = n) (hv : ElA v) (hl : ∀ ds, v = .tup ds → ds.length ≤ 4000) (h : P (.fz (.bl (roundB n L lens v)))) :
    TT (d + 2) 16 [.tup [.int n, .tup (L.map Pr)], .tup (lens.map .int), v] P := by
  rw [TT_succ]
  refine ⟨rfl, ?_⟩
  refine ⟨rfl, rfl, ?_⟩
  cases v with
  | tup ds =>
    refine ite2 (fun q => ?_) (fun q => ?_)
    · have q : decide ((ds.length : Int) < 2) = true := q
      have e : roundB n L lens (.tup ds) = false := by
        show roundT n L lens ds = _
        unfold roundT
        rw [decide_eq_true (by have := of_decide_eq_true q; omega)]
        rfl
      rw [e] at h
      exact h
    · have q : ¬ decide ((ds.length : Int) < 2) = true := q
      have q0 : decide (ds.length < 2) = false := decide_eq_false fun z => q (decide_eq_true (by omega))
      refine ⟨rfl, lc_map1 (fun x => .bl (isCnt 0 (n - 1) x)) (fun x hx C hC => ?_) ?_⟩
      · have hE := hv.2 ds rfl x hx
        refine ⟨rfl, ?_⟩
        cases x with
        | int i =>
          have z := cnt_step (C := fun y => C y _) hC
          refine ite2 (fun q => ?_) (fun q => ?_)
          · rw [if_pos q] at z
            exact ⟨rfl, z⟩
          · rw [if_neg q] at z
            exact ⟨rfl, z⟩
        | bl b => exact ⟨rfl, hC⟩
        | non => exact ⟨rfl, hC⟩
        | str s => exact ⟨rfl, hC⟩
        | tup es => exact ⟨rfl, hC⟩
        | lst es => exact ⟨rfl, hC⟩
        | _ => cases hE
      refine need_intro all_cnt ?_
      cases q1 : ds.all (isCnt 0 (n - 1)) with
      | false =>
        have e : roundB n L lens (.tup ds) = false := by
          show roundT n L lens ds = _
          unfold roundT
          rw [q0, q1]
          rfl
        rw [e] at h
        exact h
      | true =>
        obtain ⟨ev, hb⟩ := cnt_nats q1
        have hlen : ds.length = (natsOf ds).length := by
          conv => lhs; rw [ev]
          rw [List.length_map]
        have hl' : (natsOf ds).length ≤ 4000 := by rw [← hlen]; exact hl ds rfl
        have eR : roundB n L lens (.tup ds) = (decide ((ddp ((natsOf ds).map Int.ofNat)).length = (natsOf ds).length) && sumB (gainsD L lens (natsOf ds))) := by
          show roundT n L lens ds = _
          unfold roundT
          rw [q0, q1, hlen]
          rfl
        rw [eR] at h
        generalize natsOf ds = vs at *
        subst ev
        show w__law_due_3 (TT (d + 1)) ⟨fun _ => P (.fz .non), P, fun _ => False, fun _ => False⟩ [.fz (.tup [.int n, .tup (L.map Pr)]), .fz (.tup (lens.map .int)), .fz (.tup (vs.map fun (k : Nat) => D.int (k : Int))), .fz (.int n), .fz (.tup (L.map Pr)), .non, .non, .non]
        refine need_intro (set_len hl') ?_
        have eq_ : D.eqv (.int ((ddp (vs.map Int.ofNat)).length : Nat)) (.int ((vs.map fun (k : Nat) => D.int (k : Int)).length : Nat)) = decide ((ddp (vs.map Int.ofNat)).length = vs.length) := by
          rw [eqv_int, List.length_map]
          by_cases hh : (ddp (vs.map Int.ofNat)).length = vs.length
          · rw [hh]; simp
          · rw [decide_eq_false hh, decide_eq_false (by omega)]
        refine ite2 (fun q2 => ?_) (fun q2 => ?_)
        · have q2 : (!D.eqv (.int ((ddp (vs.map Int.ofNat)).length : Nat)) (.int ((vs.map fun (k : Nat) => D.int (k : Int)).length : Nat))) = true := q2
          rw [eq_] at q2
          have q2 : decide ((ddp (vs.map Int.ofNat)).length = vs.length) = false := by simpa using q2
          rw [q2] at h
          exact h
        · have q2 : ¬ (!D.eqv (.int ((ddp (vs.map Int.ofNat)).length : Nat)) (.int ((vs.map fun (k : Nat) => D.int (k : Int)).length : Nat))) = true := q2
          rw [eq_] at q2
          have q2 : decide ((ddp (vs.map Int.ofNat)).length = vs.length) = true := by simpa using q2
          rw [q2] at h
          show w__law_due_4 (TT (d + 1)) ⟨fun _ => P (.fz .non), P, fun _ => False, fun _ => False⟩ [.fz (.tup [.int n, .tup (L.map Pr)]), .fz (.tup (lens.map .int)), .fz (.tup (vs.map fun (k : Nat) => D.int (k : Int))), .fz (.int n), .fz (.tup (L.map Pr)), .non, .non, .non]
          have hm : (vs.map fun (k : Nat) => D.int (k : Int)).length = vs.length := List.length_map _
          refine ⟨rg0 (by omega), rfl, ?_⟩
          rw [hm, rg_nats]
          refine lc_map1 (fun x => match x with
            | .int k => gainD L lens (vs.getD (prevI vs.length k.toNat) 0) (vs.getD k.toNat 0)
            | _ => .non) (fun x hx C hC => ?_) ?_
          · obtain ⟨k, hk, rfl⟩ := List.mem_map.mp hx
            have hk := List.mem_range.mp hk
            have hb' : ∀ k ∈ vs, k < lens.length := fun k h => by have := hb k h; omega
            refine ⟨rfl, ?_⟩
            refine need_intro (at_prev hk) ?_
            refine need_intro (at_nats hk) ?_
            refine sp_gain15 (getD_lt hb' (prev_lt hk)) (getD_lt hb' hk) ?_
            refine need_intro (backRho_pure (simple_pure (gain_simple _ _ _ _))) ?_
            exact ⟨rfl, hC⟩
          · rw [List.map_map]
            refine ⟨rfl, nle rfl, ?_⟩
            exact last_run (gains_simple L lens vs) h
  | int i => exact h
  | bl b => exact h
  | non => exact h
  | str s => exact h
  | lst ds => exact h
  | _ => cases hv.1

/-! stays, precedences -/
/-- pairs of hours -/
def stayD (p : Int × Int) : D := .tup [.int p.1, .int p.2]
theorem sp_stays {d : Nat} {n wide top : Int} {P : Res → Prop} (h0 : 0 ≤ n) (h1 : n ≤ 1000) (hw : 0 < wide) (hw2 : wide ≤ 1000000) (ht : 0 < top) (ht2 : top ≤ 1000000) (h : ∀ L : List (Int × Int), (L.length : Int) = n → P (.fz (.tup (L.map Pr)))) :
    TT (d + 2) 14 [.box, .int n, .int wide, .int top] P := by
  rw [TT_succ]
  refine ⟨rfl, ?_⟩
  obtain ⟨m, rfl⟩ : ∃ m : Nat, n = m := ⟨n.toNat, by omega⟩
  refine ⟨rg0 (by omega), rfl, ?_⟩
  refine lc_any (fun x => ∃ i, x = .int i) (fun x hx C hC => ⟨rfl, sp_draw (d := d) hw (by omega) fun y _ _ => ⟨rfl, hC _ ⟨y, rfl⟩⟩⟩) fun xs hl hx => ?_
  refine ⟨rfl, nle rfl, ?_⟩
  refine ⟨rfl, lc_any (fun x => ∃ p, x = Pr p) (fun x hx' C hC => ?_) fun ys hl2 hy => ?_⟩
  · obtain ⟨i, rfl⟩ := hx x hx'
    refine ⟨rfl, sp_draw (d := d) ht (by omega) fun y _ _ => ⟨nle rfl, ⟨rfl, hC _ ⟨(i, i + y), rfl⟩⟩⟩⟩
  · have hL : ∃ L : List (Int × Int), ys = L.map Pr := by
      clear hl2
      induction ys with
      | nil => exact ⟨[], rfl⟩
      | cons y ys ih =>
        obtain ⟨L, e⟩ := ih fun x hx => hy x (List.mem_cons_of_mem _ hx)
        obtain ⟨p, e2⟩ := hy y List.mem_cons_self
        exact ⟨p :: L, by rw [List.map_cons, ← e, e2]⟩
    obtain ⟨L, rfl⟩ := hL
    have : (L.length : Int) = m := by
      rw [List.length_map] at hl2
      rw [hl2, hl]
      unfold rgD
      simp
    exact h L this
end Lw

set_option Elab.async false
set_option linter.all false
set_option maxRecDepth 100000
set_option maxHeartbeats 400000
set_option autoImplicit false
namespace Lw
open PySem L2 PySem.Spec PyProof.Rows Ip
theorem pr_list : ∀ {ys : List D}, (∀ x ∈ ys, ∃ p, x = Pr p) → ∃ L : List (Int × Int), ys = L.map Pr
  | [], _ => ⟨[], rfl⟩
  | y :: ys, h => by
    obtain ⟨L, e⟩ := pr_list fun x hx => h x (List.mem_cons_of_mem _ hx)
    obtain ⟨p, e2⟩ := h y List.mem_cons_self
    exact ⟨p :: L, by rw [List.map_cons, ← e, e2]⟩
theorem int_list : ∀ {ys : List D}, (∀ x ∈ ys, ∃ i, x = .int i) → ∃ L : List Int, ys = L.map .int
  | [], _ => ⟨[], rfl⟩
  | y :: ys, h => by
    obtain ⟨L, e⟩ := int_list fun x hx => h x (List.mem_cons_of_mem _ hx)
    obtain ⟨p, e2⟩ := h y List.mem_cons_self
    exact ⟨p :: L, by rw [List.map_cons, ← e, e2]⟩
theorem ints_of : ∀ L : List Int, intsOf (L.map .int) = some L
  | [] => rfl
  | i :: L => by
    show (intsOf (L.map .int)).map (i :: ·) = _
    rw [ints_of L]
    rfl
theorem at_pr {S : List (Int × Int)} {u : Nat} (h : u < S.length) : idxD (.tup (S.map Pr)) (.int (u : Int)) = some (.fz (Pr (S.getD u (0, 0)))) := by
  show (atI (S.map Pr) (u : Int)).map Res.fz = _
  rw [atI_nat (v := Pr (S.getD u (0, 0))) (by rw [List.getElem?_map, List.getElem?_eq_getElem h, List.getD_eq_getElem?_getD, List.getElem?_eq_getElem h]; rfl)]
  rfl
theorem addl {xs ys : List D} (h : xs.length + ys.length ≤ lim) : binD .Add (.lst xs) (.lst ys) = some (.ow (.lst (xs ++ ys))) := if_pos h
theorem addt {xs ys : List D} (h : xs.length + ys.length ≤ lim) : binD .Add (.tup xs) (.tup ys) = some (.fz (.tup (xs ++ ys))) := if_pos h
theorem sp_prec {d : Nat} {S : List (Int × Int)} {P : Res → Prop} (hS : S.length ≤ 1000) (h : ∀ L : List (Int × Int), P (.fz (.tup [.int S.length, .tup (L.map Pr)]))) : TT (d + 1) 13 [.tup (S.map Pr)] P := by
  rw [TT_succ]
  refine ⟨rfl, ?_⟩
  refine ⟨rfl, nle rfl, ?_⟩
  refine ⟨nle rfl, rfl, nle rfl, ?_⟩
  have hl : (S.map Pr).length = S.length := List.length_map _
  refine ⟨rg0 (by omega), ?_⟩
  rw [hl, rg_nats]
  refine for_rule (fun j ρ => ∃ (L : List (Int × Int)) (s : Slot), ρ = [.fz (.tup (S.map Pr)), .fz (.int S.length), .ow (.lst (L.map Pr)), s, .non] ∧ L.length ≤ j * 1000 ∧ notLk s = true) ⟨[], .non, rfl, Nat.zero_le _, rfl⟩ ?_ ?_
  · rintro j x ρ e ⟨L, s, rfl, hL, hs⟩ C k
    have hj : j < S.length := by
      have := (List.getElem?_eq_some_iff.mp e).1
      rw [List.length_map, List.length_range] at this
      exact this
    obtain rfl : x = .int (j : Int) := by
      rw [List.getElem?_map, List.getElem?_range hj] at e
      exact (Option.some.inj e).symm
    refine ⟨hs, ?_⟩
    show w__law_precedence_B1_0 (TT d) _ [.fz (.tup (S.map Pr)), .fz (.int S.length), .ow (.lst (L.map Pr)), .fz (.int (j : Int)), .non]
    refine ⟨rg0 (by omega), rfl, ?_⟩
    rw [rg_nats]
    refine lcGo_rule (fun i acc ρ' => ρ' = [.fz (.tup (S.map Pr)), .fz (.int S.length), .ow (.lst (L.map Pr)), .fz (.int (j : Int)), .non] ∧ acc.length ≤ i ∧ ∀ x ∈ acc, ∃ p, x = Pr p) _ 0 [] _ ⟨rfl, Nat.le_refl _, fun x hx => by cases hx⟩ ?_ ?_
    · rintro b x acc ρ e ⟨rfl, ha, hx⟩ C2 k2
      rw [Nat.zero_add] at *
      have hb : b < S.length := by
        have := (List.getElem?_eq_some_iff.mp e).1
        rw [List.length_map, List.length_range] at this
        exact this
      obtain rfl : x = .int (b : Int) := by
        rw [List.getElem?_map, List.getElem?_range hb] at e
        exact (Option.some.inj e).symm
      refine ⟨rfl, ?_⟩
      refine need_intro (at_pr hj) ?_
      refine need_intro (at_pr hb) ?_
      refine ite2 (fun q => ?_) (fun q => ?_)
      · refine ⟨nle rfl, rfl, ?_⟩
        refine k2 _ _ ⟨rfl, by rw [List.length_append, List.length_singleton]; omega, fun y hy => ?_⟩
        rcases List.mem_append.mp hy with hy | hy
        · exact hx y hy
        · exact ⟨(j, b), List.mem_singleton.mp hy⟩
      · exact ⟨rfl, k2 _ _ ⟨rfl, by omega, hx⟩⟩
    · rintro acc ρ ⟨rfl, ha, hx⟩
      rw [Nat.zero_add, List.length_map, List.length_range] at ha
      obtain ⟨L2, rfl⟩ := pr_list hx
      rw [List.length_map] at ha
      have hlim : (L.map Pr).length + (L2.map Pr).length ≤ lim := by
        rw [List.length_map, List.length_map]
        have : j * 1000 ≤ 1000 * 1000 := Nat.mul_le_mul_right _ (by omega)
        show _ ≤ 10000000
        omega
      refine n3 rfl rfl (addl hlim) ?_
      refine ⟨rfl, nle rfl, ?_⟩
      refine k _ ⟨L ++ L2, .fz (.int (j : Int)), by rw [List.map_append]; rfl, ?_, rfl⟩
      rw [List.length_append]
      have : (j + 1) * 1000 = j * 1000 + 1000 := by omega
      omega
  · rintro ρ ⟨L, s, rfl, hL, hs⟩
    refine ⟨nle rfl, ?_⟩
    exact h L
theorem sum_ints (L : List Int) : arg1 sumD [.lst (L.map .int)] = some (.fz (.int L.sum)) := by
  show (intsOf _).map _ = _
  rw [ints_of]
  rfl
theorem cut_map {α β : Type} (f : α → β) (xs : List α) (lo hi : Option Int) : cutL (xs.map f) lo hi = (cutL xs lo hi).map f := by
  unfold cutL
  rw [List.length_map, List.map_take, List.map_drop]
theorem rg2_nats (a b : Nat) : rgD (a : Int) (b : Int) = (List.range (b - a)).map fun (k : Nat) => D.int ((a + k : Nat) : Int) := by
  unfold rgD
  rw [show ((b : Int) - a).toNat = b - a by omega]
  apply List.map_congr_left
  intro k _
  congr 1
theorem rg_len (m : Nat) : (rgD 0 (m : Int)).length = m := by rw [rg_nats, List.length_map, List.length_range]
theorem at_rg {m j : Nat} {x : D} (e : (rgD 0 (m : Int))[j]? = some x) : j < m ∧ x = .int (j : Int) := by
  rw [rg_nats] at e
  have hj : j < m := by
    have := (List.getElem?_eq_some_iff.mp e).1
    rw [List.length_map, List.length_range] at this
    exact this
  rw [List.getElem?_map, List.getElem?_range hj] at e
  exact ⟨hj, (Option.some.inj e).symm⟩
theorem sp_made {d : Nat} {P : Res → Prop} (h : ∀ (m : Nat) (L : List (Int × Int)) (lens : List Int) (vs : List Nat), m ≤ 10 → lens.length = m + 1 → vs.length = m + 1 → (∀ k ∈ vs, k < m + 1) → P (.fz (.tup [.tup [.int ((m + 1 : Nat) : Int), .tup (L.map Pr)], .tup (lens.map .int), .tup (vs.map fun (k : Nat) => D.int (k : Int))]))) : TT (d + 2) 17 [.box] P := by
  rw [TT_succ]
  refine ⟨rfl, ?_⟩
  refine sp_draw (d := d) (m := 6) (by decide) (by decide) fun y y0 y1 => ?_
  refine ⟨rfl, nle rfl, ?_⟩
  obtain ⟨m, hm, hm2⟩ : ∃ m : Nat, (2 + y) = (m : Int) ∧ m ≤ 10 := ⟨(2 + y).toNat, by omega, by omega⟩
  show w__law_made_1 (TT (d + 1)) ⟨fun _ => P (.fz .non), P, fun _ => False, fun _ => False⟩ [.fz .box, .fz (.int (2 + y)), .non, .non, .non, .non, .non, .non, .non]
  rw [hm]
  refine ⟨rg0 (by omega), rfl, ?_⟩
  refine lc_any (fun x => ∃ i, x = .int i) (fun x hx C hC => ⟨rfl, sp_draw (d := d) (m := 9) (by decide) (by decide) fun y _ _ => ⟨rfl, hC _ ⟨y, rfl⟩⟩⟩) fun xs hl hx => ?_
  rw [rg_len] at hl
  obtain ⟨lens, rfl⟩ := int_list hx
  rw [List.length_map] at hl
  refine ⟨rfl, nle rfl, ?_⟩
  show w__law_made_2 (TT (d + 1)) ⟨fun _ => P (.fz .non), P, fun _ => False, fun _ => False⟩ [.fz .box, .fz (.int (m : Int)), .ow (.lst (lens.map .int)), .non, .non, .non, .non, .non, .non]
  refine ⟨rfl, ?_⟩
  rw [cut_map]
  refine lc_any (fun x => ∃ i, x = .int i) (fun x hx C hC => ?_) fun xs hl2 hx2 => ?_
  · obtain ⟨i, _, rfl⟩ := List.mem_map.mp hx
    exact ⟨rfl, rfl, hC _ ⟨_, rfl⟩⟩
  obtain ⟨ps, rfl⟩ := int_list hx2
  refine need_intro (sum_ints ps) ?_
  refine ⟨rfl, nle rfl, ?_⟩
  refine ⟨nle rfl, rfl, nle rfl, ?_⟩
  refine ⟨rg0 (by omega), ?_⟩
  refine for_rule (fun j ρ => ∃ (L : List (Int × Int)) (s : Slot), ρ = [.fz .box, .fz (.int (m : Int)), .ow (.lst (lens.map .int)), s, .fz (.int ps.sum), .non, .ow (.lst (L.map Pr)), .non, .non] ∧ L.length ≤ j * 10 ∧ notLk s = true) ⟨[], .non, rfl, Nat.zero_le _, rfl⟩ ?_ ?_
  · rintro j x ρ e ⟨L, s, rfl, hL, hs⟩ C k
    obtain ⟨hj, rfl⟩ := at_rg e
    refine ⟨hs, ?_⟩
    show w__law_made_B1_0 (TT (d + 1)) _ [.fz .box, .fz (.int (m : Int)), .ow (.lst (lens.map .int)), .fz (.int (j : Int)), .fz (.int ps.sum), .non, .ow (.lst (L.map Pr)), .non, .non]
    refine ⟨⟨by omega, by omega, by omega, by omega⟩, rfl, ?_⟩
    refine lc_any (fun x => ∃ p, x = Pr p) (fun x hx C hC => ?_) fun xs hl2 hx2 => ?_
    · obtain ⟨i, _, rfl⟩ := List.mem_map.mp hx
      exact ⟨rfl, nle rfl, rfl, hC _ ⟨(_, _), rfl⟩⟩
    obtain ⟨L2, rfl⟩ := pr_list hx2
    have hl2 : L2.length ≤ 10 := by
      rw [List.length_map] at hl2
      rw [hl2]
      unfold rgD
      rw [List.length_map, List.length_range]
      omega
    refine n3 rfl rfl (addl (by rw [List.length_map, List.length_map]; show _ ≤ 10000000; omega)) ?_
    refine ⟨rfl, nle rfl, ?_⟩
    refine k _ ⟨L ++ L2, .fz (.int (j : Int)), by rw [List.map_append]; rfl, ?_, rfl⟩
    rw [List.length_append]
    omega
  · rintro ρ ⟨L, s, rfl, hL, hs⟩
    refine sp_draw (d := d) (m := 3) (by decide) (by decide) fun y y0 y1 => ?_
    refine ⟨rfl, nle rfl, ?_⟩
    show w__law_made_6 (TT (d + 1)) ⟨fun _ => P (.fz .non), P, fun _ => False, fun _ => False⟩ [.fz .box, .fz (.int (m : Int)), .ow (.lst (lens.map .int)), s, .fz (.int ps.sum), .non, .ow (.lst (L.map Pr)), .non, .fz (.int (if ps.sum + y - 1 > 0 then ps.sum + y - 1 else 0))]
    generalize (if ps.sum + y - 1 > 0 then ps.sum + y - 1 else 0) = z
    refine ⟨nle rfl, ?_⟩
    refine ⟨nle rfl, ?_⟩
    refine n3 rfl rfl (addl (ys := [.int z]) (by rw [List.length_map]; show _ + 1 ≤ 10000000; omega)) ?_
    refine ⟨rg0 (by omega), ?_⟩
    refine ⟨nle rfl, ?_⟩
    refine n3 rfl rfl (addt (ys := [.int (m : Int)]) (by rw [rg_len]; show _ + 1 ≤ 10000000; omega)) ?_
    refine ⟨nle rfl, ?_⟩
    refine nx ⟨_, rfl, ?_⟩
    have e1 : lens.map D.int ++ [.int z] = (lens ++ [z]).map D.int := by rw [List.map_append]; rfl
    have e2 : rgD 0 (m : Int) ++ [.int (m : Int)] = (List.range (m + 1)).map fun (k : Nat) => D.int (k : Int) := by
      rw [rg_nats, List.range_succ, List.map_append]; rfl
    have hh := h m L (lens ++ [z]) (List.range (m + 1)) hm2 (by rw [List.length_append]; simp; omega) List.length_range fun k hk => List.mem_range.mp hk
    rw [← e1, ← e2] at hh
    exact hh
end Lw

set_option Elab.async false
set_option linter.all false
set_option maxRecDepth 100000
set_option maxHeartbeats 1000000
set_option autoImplicit false
namespace Lw
open PySem L2 PySem.Spec PyProof.Rows Ip
/-- the law's frame -/
abbrev R (s2 s3 s4 s5 s6 s8 s9 s10 s11 s12 s13 s14 s15 s17 s18 : Ip.Slot) : Rho := [.non, .fz .box, s2, s3, s4, s5, s6, .non, s8, s9, s10, s11, s12, s13, s14, s15, .non, s17, s18]
abbrev EL : WEnds := ⟨fun _ => False, fun r => r = .fz (.bl true), fun _ => False, fun _ => False⟩
theorem val_mono {a b : Nat} {d : D} (h : Val a d) (hab : a ≤ b) : Val b d := by
  rcases h with h | ⟨ds, e, hl, hx⟩
  · exact .inl h
  · exact .inr ⟨ds, e, Nat.le_trans hl hab, hx⟩
theorem val_len {a : Nat} {d : D} (h : Val a d) (ha : a ≤ 4000) : ∀ ds, d = .tup ds → ds.length ≤ 4000 := fun ds e => by
  rcases h with h | ⟨es, e2, hl, hx⟩
  · rw [h] at e; cases e
  · rw [e2] at e
    cases e
    exact Nat.le_trans hl ha
theorem val_ints {a : Nat} {L : List Int} (h : L.length ≤ a) : Val a (.tup (L.map .int)) := .inr ⟨_, rfl, by rw [List.length_map]; exact h, fun x hx => by
  obtain ⟨i, _, rfl⟩ := List.mem_map.mp hx
  exact ⟨rfl, rfl⟩⟩
theorem val_rg (m : Nat) : Val m (.tup (rgD 0 (m : Int))) := .inr ⟨_, rfl, Nat.le_of_eq (rg_len m), fun x hx => by
  rw [rg_nats] at hx
  obtain ⟨i, _, rfl⟩ := List.mem_map.mp hx
  exact ⟨rfl, rfl⟩⟩
theorem val_back {m : Nat} {ds : List D} (h : Val m (.tup ds)) : Val m (.tup (backL ds none none)) := by
  rcases h with h | ⟨es, e2, hl, hx⟩
  · cases h
  · cases e2
    exact .inr ⟨_, rfl, Nat.le_trans (backL_len _ _ _) hl, fun x h => hx x (mem_back h)⟩
/-- a row of numbers drawn without putting back -/
theorem pop_ok {n : Nat} {z : Int} (h0 : 0 ≤ z) (h1 : z < n) : ixN n z = some z.toNat := by
  unfold ixN
  rw [if_pos h0, if_pos h1]
/-- turn: a value is tried against both -/
theorem B3_ok {n : Int} {L : List (Int × Int)} {lens : List Int} (hn : (lens.length : Int) = n) {v : D} (hv : Val 4000 v) {C : Rho → Prop} {E : WEnds} {s2 s3 s8 s9 s10 s11 s12 s14 s15 s17 s18 : Ip.Slot} (hE : E.nx = C)
    (h : C (R s2 s3 (.fz (.tup [.int n, .tup (L.map Pr)])) (.fz (.int n)) (.fz (.tup (lens.map .int))) s8 s9 s10 s11 s12 (.fz v) s14 s15 s17 s18)) :
    w_law_B3_0 (TT 8) E (R s2 s3 (.fz (.tup [.int n, .tup (L.map Pr)])) (.fz (.int n)) (.fz (.tup (lens.map .int))) s8 s9 s10 s11 s12 (.fz v) s14 s15 s17 s18) := by
  subst hE
  refine sp_round6 (d := 6) hn hv.elA (val_len hv (Nat.le_refl _)) ?_
  refine sp_due16 (d := 6) hn hv.elA (val_len hv (Nat.le_refl _)) ?_
  exact sp_same_bl (d := 7) h
theorem arL_lens {lens : List Int} (h : ∀ i ∈ lens, 0 ≤ i ∧ i ≤ 10000) : arL (lens.length : Nat) (.tup (lens.map .int)) = true := by
  show (decide (((lens.map D.int).length : Int) = _) && (lens.map D.int).all (isCnt 0 10000)) = true
  rw [List.length_map, decide_eq_true rfl, List.all_map, Bool.true_and, List.all_eq_true]
  intro i hi
  have := h i hi
  show (decide (0 ≤ i) && decide (i ≤ 10000)) = true
  rw [decide_eq_true this.1, decide_eq_true this.2]
  rfl
theorem cnt_lit {i : Int} {C : D → Prop} (h : C (.bl (isCnt 0 10000 (.int i)))) : if decide (0 ≤ i) = true then C (.bl (decide (i ≤ 10000))) else C (.bl false) := by
  have e : isCnt 0 10000 (.int i) = (decide (0 ≤ i) && decide (i ≤ 10000)) := rfl
  rw [e] at h
  refine ite2 (fun q => ?_) (fun q => ?_)
  · rw [q] at h
    exact h
  · rw [Bool.eq_false_iff.mpr q] at h
    exact h
/-- turn: the lengths, bent, are judged -/
theorem B4_ok {L : List (Int × Int)} {lens : List Int} (hl : lens.length ≤ 100) (hb : ∀ i ∈ lens, 0 ≤ i ∧ i ≤ 10000) {C : Rho → Prop} {E : WEnds} {s2 s3 s8 s9 s10 s11 s12 s13 s14 s15 s17 s18 : Ip.Slot} (hE : E.nx = C) (n14 : notLk s14 = true) (n15 : notLk s15 = true)
    (h : ∀ x y, C (R s2 s3 (.fz (.tup [.int (lens.length : Nat), .tup (L.map Pr)])) (.fz (.int (lens.length : Nat))) (.fz (.tup (lens.map .int))) s8 s9 s10 s11 s12 s13 (.fz x) (.fz y) s17 s18)) :
    w_law_B4_0 (TT 8) E (R s2 s3 (.fz (.tup [.int (lens.length : Nat), .tup (L.map Pr)])) (.fz (.int (lens.length : Nat))) (.fz (.tup (lens.map .int))) s8 s9 s10 s11 s12 s13 s14 s15 s17 s18) := by
  subst hE
  have last : ∀ (x : D) (b : Bool), Val 202 x → b = arL (lens.length : Nat) x → w_law_B4_3 (TT 8) E (R s2 s3 (.fz (.tup [.int (lens.length : Nat), .tup (L.map Pr)])) (.fz (.int (lens.length : Nat))) (.fz (.tup (lens.map .int))) s8 s9 s10 s11 s12 s13 (.fz x) (.fz (.bl b)) s17 s18) := fun x b hx e => by
    subst e
    refine sp_are_lengths (d := 6) hx.elA ?_
    refine sp_same_bl (d := 7) ?_
    refine sp_are_lengths (d := 6) (val_ints (Nat.le_refl _)).elA ?_
    rw [arL_lens hb]
    exact sp_same_bl (d := 7) (h _ _)
  refine sp_bent_row (d := 5) (m := 100) hl (by decide) (fun i hi => ?_) fun x hx => ?_
  · have := hb i hi
    exact ⟨by omega, by omega⟩
  refine need_intro (backRho_pure hx.pure) ?_
  refine ⟨n14, nle rfl, ?_⟩
  rcases hx with rfl | ⟨ds, rfl, hd, hS⟩
  · refine ⟨n15, nle rfl, ?_⟩
    refine ⟨rfl, nle rfl, ?_⟩
    exact last .non false (.inl rfl) rfl
  · have hx : Val 202 (.tup ds) := .inr ⟨ds, rfl, hd, hS⟩
    refine ⟨n15, nle rfl, ?_⟩
    show w_law_B4_2 (TT 8) E (R s2 s3 (.fz (.tup [.int (lens.length : Nat), .tup (L.map Pr)])) (.fz (.int (lens.length : Nat))) (.fz (.tup (lens.map .int))) s8 s9 s10 s11 s12 s13 (.fz (.tup ds)) (.fz (.bl (D.eqv (.int (ds.length : Nat)) (.int (lens.length : Nat))))) s17 s18)
    rw [eqv_int]
    refine ite2 (fun q => ?_) (fun q => ?_)
    · refine ⟨rfl, lc_map1 (fun x => .bl (isCnt 0 10000 x)) (fun x hx C hC => ?_) ?_⟩
      · have hE := (hS x hx).1
        refine ⟨rfl, ?_⟩
        cases x with
        | int i =>
          have z := cnt_lit (C := fun y => C y _) hC
          refine ite2 (fun q => ?_) (fun q => ?_)
          · rw [if_pos q] at z
            exact ⟨rfl, z⟩
          · rw [if_neg q] at z
            exact ⟨rfl, z⟩
        | bl b => exact ⟨rfl, hC⟩
        | non => exact ⟨rfl, hC⟩
        | str s => exact ⟨rfl, hC⟩
        | tup es => exact ⟨rfl, hC⟩
        | lst es => exact ⟨rfl, hC⟩
        | _ => cases hE
      refine need_intro all_cnt ?_
      refine ⟨rfl, nle rfl, ?_⟩
      refine last _ _ hx ?_
      show _ = (decide _ && _)
      rw [q]
      rfl
    · refine ⟨rfl, nle rfl, ?_⟩
      refine last _ _ hx ?_
      show _ = (decide _ && _)
      rw [Bool.eq_false_iff.mpr q]
      rfl
end Lw

set_option Elab.async false
set_option linter.all false
set_option maxRecDepth 100000
set_option maxHeartbeats 1000000
set_option autoImplicit false
namespace Lw
open PySem L2 PySem.Spec PyProof.Rows Ip
theorem ints_rgD (m : Nat) : rgD 0 (m : Int) = ((List.range m).map Int.ofNat).map .int := by
  rw [rg_nats, List.map_map]
  rfl
theorem erase_map {α β : Type} (f : α → β) : ∀ (xs : List α) (i : Nat), (xs.map f).eraseIdx i = (xs.eraseIdx i).map f
  | [], _ => rfl
  | _ :: _, 0 => rfl
  | x :: xs, i + 1 => congrArg (f x :: ·) (erase_map f xs i)
/-- turn: a drawn row and it bent are put to the values -/
theorem B2_ok {n : Nat} (h0 : 0 < n) (hn : n ≤ 100) {vs : List D} (hv : ∀ v ∈ vs, Val 202 v) (hvl : vs.length ≤ 1000) {C : Rho → Prop} {E : WEnds} {s2 s3 s4 s6 s9 s10 s11 s13 s14 s15 s17 s18 : Ip.Slot} (hE : E.nx = C) (n10 : notLk s10 = true) (n11 : notLk s11 = true)
    (h : ∀ vs' t10 t11, notLk t10 = true → notLk t11 = true → (∀ v ∈ vs', Val 202 v) → vs'.length = vs.length + 2 → C (R s2 s3 s4 (.fz (.int n)) s6 (.ow (.lst vs')) s9 t10 t11 .non s13 s14 s15 s17 s18)) :
    w_law_B2_0 (TT 8) E (R s2 s3 s4 (.fz (.int n)) s6 (.ow (.lst vs)) s9 s10 s11 .non s13 s14 s15 s17 s18) := by
  subst hE
  refine ⟨rg0 (by omega), ?_⟩
  refine ⟨n10, nle rfl, ?_⟩
  show w_law_B2_1 (TT 8) E (R s2 s3 s4 (.fz (.int n)) s6 (.ow (.lst vs)) s9 (.ow (.lst (rgD 0 (n : Int)))) s11 .non s13 s14 s15 s17 s18)
  refine sp_draw (d := 7) (m := (n : Int)) (by omega) (by omega) fun y y0 y1 => ?_
  obtain ⟨m, hm, hm2⟩ : ∃ m : Nat, (1 + y) = (m : Int) ∧ m ≤ n := ⟨(1 + y).toNat, by omega, by omega⟩
  have ok : rgOk 0 (1 + y) := ⟨by omega, by omega, by omega, by omega⟩
  refine ⟨ok, rfl, ?_⟩
  rw [hm]
  refine lcGo_rule (fun i acc ρ' => ∃ (rest ns : List Int), ρ' = R s2 s3 s4 (.fz (.int n)) s6 (.ow (.lst vs)) s9 (.ow (.lst (rest.map .int))) s11 .non s13 s14 s15 s17 s18 ∧ rest.length + i = n ∧ (∀ k ∈ rest, small k) ∧ acc = ns.map .int ∧ (∀ k ∈ ns, small k) ∧ ns.length = i) _ 0 [] _
    ⟨(List.range n).map Int.ofNat, [], by rw [← ints_rgD]; rfl, by simp, fun k hk => ?_, rfl, fun k hk => (by cases hk), rfl⟩ ?_ ?_
  · obtain ⟨j, hj, rfl⟩ := List.mem_map.mp hk
    have := List.mem_range.mp hj
    exact ⟨by show _ ≤ (j : Int); omega, by show (j : Int) ≤ _; omega⟩
  · rintro i x acc ρ e ⟨rest, ns, rfl, hl, hr, rfl, hns, hnl⟩ C k
    rw [Nat.zero_add] at *
    obtain ⟨hi, rfl⟩ := at_rg e
    have hr0 : 0 < rest.length := by omega
    refine ⟨rfl, ?_⟩
    refine sp_draw (d := 7) (m := ((rest.map D.int).length : Nat)) (by rw [List.length_map]; omega) (by rw [List.length_map]; omega) fun z z0 z1 => ?_
    rw [List.length_map] at z1
    refine ⟨by rw [List.length_map]; show _ ≤ 10000000; omega, ?_⟩
    refine need_intro (pop_ok z0 (by rw [List.length_map]; exact z1)) ?_
    have hz : z.toNat < rest.length := by omega
    have e2 : (rest.map D.int)[z.toNat]? = some (.int rest[z.toNat]) := by
      rw [List.getElem?_map, List.getElem?_eq_getElem hz]; rfl
    refine need_intro e2 ?_
    refine ⟨rfl, ?_⟩
    refine k _ _ ⟨rest.eraseIdx z.toNat, ns ++ [rest[z.toNat]], ?_, ?_, fun k hk => hr k (List.mem_of_mem_eraseIdx hk), by rw [List.map_append]; rfl, fun k hk => ?_, by rw [List.length_append, hnl]; rfl⟩
    · have e3 : (rest.map D.int).eraseIdx z.toNat = (rest.eraseIdx z.toNat).map D.int := erase_map _ _ _
      rw [← e3]
      rfl
    · rw [List.length_eraseIdx_of_lt hz]
      omega
    · rcases List.mem_append.mp hk with hk | hk
      · exact hns k hk
      · rw [List.mem_singleton.mp hk]
        exact hr _ (List.getElem_mem hz)
  · rintro acc ρ ⟨rest, ns, rfl, hl, hr, rfl, hns, hnl⟩
    rw [Nat.zero_add, rg_len] at hnl
    refine ⟨n11, nle rfl, ?_⟩
    show w_law_B2_2 (TT 8) E (R s2 s3 s4 (.fz (.int n)) s6 (.ow (.lst vs)) s9 (.ow (.lst (rest.map .int))) (.fz (.tup (ns.map .int))) .non s13 s14 s15 s17 s18)
    refine sp_bent_row (d := 5) (m := 100) (by omega) (by decide) hns fun x hx => ?_
    refine need_intro (backRho_pure hx.pure) ?_
    refine ⟨nle rfl, ?_⟩
    refine n3 rfl rfl (addl (xs := vs) (ys := [.tup (ns.map .int), x]) (by show _ + 2 ≤ 10000000; omega)) ?_
    refine ⟨rfl, nle rfl, ?_⟩
    refine h (vs ++ [.tup (ns.map .int), x]) _ _ rfl rfl (fun v hv' => ?_) (by rw [List.length_append]; rfl)
    rcases List.mem_append.mp hv' with hv' | hv'
    · exact hv v hv'
    · rcases List.mem_cons.mp hv' with rfl | hv'
      · exact val_ints (by omega)
      · rw [List.mem_singleton.mp hv']
        exact hx
theorem three {p : Int} (h0 : 0 ≤ p) (h1 : p < 3) : p = 0 ∨ p = 1 ∨ p = 2 := by omega
theorem len_list : ∀ {ys : List D}, (∀ x ∈ ys, ∃ i : Int, x = .int i ∧ 0 ≤ i ∧ i ≤ 10000) → ∃ L : List Int, ys = L.map .int ∧ ∀ i ∈ L, 0 ≤ i ∧ i ≤ 10000
  | [], _ => ⟨[], rfl, fun i hi => by cases hi⟩
  | y :: ys, h => by
    obtain ⟨L, e, hL⟩ := len_list fun x hx => h x (List.mem_cons_of_mem _ hx)
    obtain ⟨p, e2, h2⟩ := h y List.mem_cons_self
    refine ⟨p :: L, by rw [List.map_cons, ← e, e2], fun i hi => ?_⟩
    rcases List.mem_cons.mp hi with rfl | hi
    · exact h2
    · exact hL i hi
/-- a turn of the law -/
theorem B1_ok {C : Rho → Prop} {E : WEnds} {s2 s3 s4 s5 s6 s8 s9 s10 s11 s13 s14 s15 : Ip.Slot} (hE : E.nx = C) (n3' : notLk s3 = true) (n4 : notLk s4 = true) (n5 : notLk s5 = true) (n6 : notLk s6 = true) (n8 : notLk s8 = true) (n9 : notLk s9 = true) (n10 : notLk s10 = true) (n11 : notLk s11 = true)
    (n13 : notLk s13 = true) (n14 : notLk s14 = true) (n15 : notLk s15 = true)
    (h : ∀ t3 t4 t5 t6 t8 t9 t10 t11 t13 t14 t15, notLk t3 = true → notLk t4 = true → notLk t5 = true → notLk t6 = true → notLk t8 = true → notLk t9 = true → notLk t10 = true → notLk t11 = true → notLk t13 = true → notLk t14 = true → notLk t15 = true →
      C (R s2 t3 t4 t5 t6 t8 t9 t10 t11 .non t13 t14 t15 .non .non)) :
    w_law_B1_0 (TT 8) E (R s2 s3 s4 s5 s6 s8 s9 s10 s11 .non s13 s14 s15 .non .non) := by
  subst hE
  refine sp_draw (d := 7) (m := 8) (by decide) (by decide) fun y y0 y1 => ?_
  refine sp_stays (d := 6) (n := 1 + y) (by omega) (by omega) (by decide) (by decide) (by decide) (by decide) fun S hS => ?_
  refine need_intro (backRho_pure (r := .fz (.tup (S.map Pr))) (pr_pure S)) ?_
  refine ⟨n3', nle rfl, ?_⟩
  show w_law_B1_1 (TT 8) E (R s2 (.fz (.tup (S.map Pr))) s4 s5 s6 s8 s9 s10 s11 .non s13 s14 s15 .non .non)
  refine sp_prec (d := 7) (by omega) fun L => ?_
  refine need_intro (backRho_pure (r := .fz (.tup [.int S.length, .tup (L.map Pr)])) (by show (true && (D.pures (L.map Pr) && true)) = true; rw [pr_pure]; rfl)) ?_
  have hl : (S.map Pr).length = S.length := List.length_map _
  refine ⟨n4, n5, ?_⟩
  show w_law_B1_2 (TT 8) E (R s2 (.fz (.tup (S.map Pr))) (.fz (.tup [.int S.length, .tup (L.map Pr)])) (.fz (.int ((S.map Pr).length : Nat))) s6 s8 s9 s10 s11 .non s13 s14 s15 .non .non)
  rw [hl]
  refine ⟨rfl, lc_any (fun x => ∃ i : Int, x = .int i ∧ 0 ≤ i ∧ i ≤ 10000) (fun x hx C hC => ?_) fun xs hxl hx => ?_⟩
  · refine ⟨rfl, ⟨nle rfl, ?_⟩⟩
    refine sp_draw (d := 7) (m := 3) (by decide) (by decide) fun z z0 z1 => ?_
    rcases three z0 z1 with rfl | rfl | rfl
    · exact sp_draw (d := 7) (m := 3) (by decide) (by decide) fun i i0 i1 => ⟨rfl, hC _ ⟨i, rfl, i0, by omega⟩⟩
    · exact sp_draw (d := 7) (m := 9) (by decide) (by decide) fun i i0 i1 => ⟨rfl, hC _ ⟨i, rfl, i0, by omega⟩⟩
    · exact sp_draw (d := 7) (m := 10001) (by decide) (by decide) fun i i0 i1 => ⟨rfl, hC _ ⟨i, rfl, i0, by omega⟩⟩
  obtain ⟨lens, rfl, hb⟩ := len_list hx
  have hll : lens.length = S.length := by
    rw [List.length_map, List.length_map] at hxl
    exact hxl
  have hS2 : lens.length ≤ 8 := by omega
  have hS3 : 0 < lens.length := by omega
  refine ⟨n6, nle rfl, ?_⟩
  show w_law_B1_3 (TT 8) E (R s2 (.fz (.tup (S.map Pr))) (.fz (.tup [.int S.length, .tup (L.map Pr)])) (.fz (.int (S.length : Nat))) (.fz (.tup (lens.map .int))) s8 s9 s10 s11 .non s13 s14 s15 .non .non)
  rw [← hll]
  refine ⟨rg0 (by omega), rg0 (by omega), nle rfl, nle rfl, nle rfl, nle rfl, ?_⟩
  refine ⟨n8, nle rfl, ?_⟩
  have v0 := val_mono (val_rg lens.length) (show lens.length ≤ 202 by omega)
  have vs0 : ∀ v ∈ [D.tup (rgD 0 (lens.length : Nat)), .tup (backL (rgD 0 (lens.length : Nat)) none none), .tup [.int 0], .tup [.int 0, .int 0], .non, .tup []], Val 202 v := fun v hv => by
    rcases List.mem_cons.mp hv with rfl | hv
    · exact v0
    rcases List.mem_cons.mp hv with rfl | hv
    · exact val_back v0
    rcases List.mem_cons.mp hv with rfl | hv
    · exact val_ints (L := [0]) (nle rfl)
    rcases List.mem_cons.mp hv with rfl | hv
    · exact val_ints (L := [0, 0]) (nle rfl)
    rcases List.mem_cons.mp hv with rfl | hv
    · exact .inl rfl
    rcases List.mem_cons.mp hv with rfl | hv
    · exact val_ints (L := []) (nle rfl)
    · cases hv
  generalize hvs : [D.tup (rgD 0 (lens.length : Nat)), .tup (backL (rgD 0 (lens.length : Nat)) none none), .tup [.int 0], .tup [.int 0, .int 0], .non, .tup []] = vs at vs0
  have hvl : vs.length = 6 := by rw [← hvs]; rfl
  show w_law_B1_4 (TT 8) E (R s2 (.fz (.tup (S.map Pr))) (.fz (.tup [.int (lens.length : Nat), .tup (L.map Pr)])) (.fz (.int (lens.length : Nat))) (.fz (.tup (lens.map .int))) (.ow (.lst vs)) s9 s10 s11 .non s13 s14 s15 .non .non)
  refine ⟨rg0 (m := 12) (by decide), ?_⟩
  refine for_rule (fun j ρ => ∃ vs t9 t10 t11, ρ = R s2 (.fz (.tup (S.map Pr))) (.fz (.tup [.int (lens.length : Nat), .tup (L.map Pr)])) (.fz (.int (lens.length : Nat))) (.fz (.tup (lens.map .int))) (.ow (.lst vs)) t9 t10 t11 .non s13 s14 s15 .non .non ∧ notLk t9 = true ∧ notLk t10 = true ∧ notLk t11 = true ∧
    (∀ v ∈ vs, Val 202 v) ∧ vs.length = 6 + 2 * j) ⟨vs, s9, s10, s11, rfl, n9, n10, n11, vs0, hvl⟩ ?_ ?_
  · rintro j x ρ e ⟨vs, t9, t10, t11, rfl, m9, m10, m11, hv, hvl⟩ C k
    obtain ⟨hj, rfl⟩ := at_rg (m := 12) e
    refine ⟨m9, ?_⟩
    refine B2_ok (C := C) hS3 (by omega) hv (by omega) rfl m10 m11 fun vs' u10 u11 q10 q11 hv' hl' => k _ ⟨vs', _, u10, u11, rfl, rfl, q10, q11, hv', by omega⟩
  · rintro ρ ⟨vs, t9, t10, t11, rfl, m9, m10, m11, hv, hvl⟩
    refine for_rule (fun j ρ => ∃ t13, ρ = R s2 (.fz (.tup (S.map Pr))) (.fz (.tup [.int (lens.length : Nat), .tup (L.map Pr)])) (.fz (.int (lens.length : Nat))) (.fz (.tup (lens.map .int))) (.lk (.lst vs)) t9 t10 t11 .non t13 s14 s15 .non .non ∧ notLk t13 = true) ⟨s13, rfl, n13⟩ ?_ ?_
    · rintro j x ρ e ⟨t13, rfl, m13⟩ C k
      refine ⟨m13, ?_⟩
      exact B3_ok (C := C) rfl (val_mono (hv x (List.mem_iff_getElem?.mpr ⟨j, e⟩)) (by decide)) rfl (k _ ⟨_, rfl, rfl⟩)
    · rintro ρ ⟨t13, rfl, m13⟩
      show w_law_B1_6 (TT 8) E (R s2 (.fz (.tup (S.map Pr))) (.fz (.tup [.int (lens.length : Nat), .tup (L.map Pr)])) (.fz (.int (lens.length : Nat))) (.fz (.tup (lens.map .int))) (.ow (.lst vs)) t9 t10 t11 .non t13 s14 s15 .non .non)
      refine ⟨rg0 (m := 4) (by decide), ?_⟩
      refine for_rule (fun j ρ => ∃ u9 t14 t15, ρ = R s2 (.fz (.tup (S.map Pr))) (.fz (.tup [.int (lens.length : Nat), .tup (L.map Pr)])) (.fz (.int (lens.length : Nat))) (.fz (.tup (lens.map .int))) (.ow (.lst vs)) u9 t10 t11 .non t13 t14 t15 .non .non ∧ notLk u9 = true ∧ notLk t14 = true ∧ notLk t15 = true) ⟨t9, s14, s15, rfl, m9, n14, n15⟩ ?_ ?_
      · rintro j x ρ e ⟨u9, t14, t15, rfl, q9, m14, m15⟩ C k
        obtain ⟨hj, rfl⟩ := at_rg (m := 4) e
        refine ⟨q9, ?_⟩
        exact B4_ok (C := C) (by omega) hb rfl m14 m15 fun x y => k _ ⟨_, _, _, rfl, rfl, rfl, rfl⟩
      · rintro ρ ⟨u9, t14, t15, rfl, q9, m14, m15⟩
        exact h _ _ _ _ _ _ _ _ _ _ _ rfl rfl rfl rfl rfl q9 m10 m11 m13 m14 m15
end Lw

set_option Elab.async false
set_option linter.all false
set_option maxRecDepth 100000
set_option maxHeartbeats 1000000
set_option autoImplicit false
namespace Lw
open PySem L2 PySem.Spec PyProof.Rows Ip
theorem small_nat {k : Nat} (h : k ≤ 1000) : small (k : Int) := ⟨by omega, by omega⟩
/-- a turned row is judged, and bent -/
theorem B5_ok {L : List (Int × Int)} {lens : List Int} {n : Int} (hn : (lens.length : Int) = n) {row : List Int} (hr : ∀ k ∈ row, small k) (hl : row.length ≤ 50) {j : Nat} {C : Rho → Prop} {E : WEnds} {s2 s3 s5 s8 s9 s10 s13 s14 s15 s17 s18 : Ip.Slot} (hE : E.nx = C) (n13 : notLk s13 = true) (n14 : notLk s14 = true)
    (h : ∀ x y, C (R s2 s3 (.fz (.tup [.int n, .tup (L.map Pr)])) s5 (.fz (.tup (lens.map .int))) s8 s9 s10 (.fz (.tup (row.map .int))) (.fz (.int (j : Int))) (.fz x) (.fz y) s15 s17 s18)) :
    w_law_B5_0 (TT 8) E (R s2 s3 (.fz (.tup [.int n, .tup (L.map Pr)])) s5 (.fz (.tup (lens.map .int))) s8 s9 s10 (.fz (.tup (row.map .int))) (.fz (.int (j : Int))) s13 s14 s15 s17 s18) := by
  subst hE
  have c1 := cut_le (row.map D.int) (some (j : Int)) none
  have c2 := cut_le (row.map D.int) none (some (j : Int))
  rw [List.length_map] at c1 c2
  refine need_intro (addt (xs := cutL (row.map .int) (some (j : Int)) none) (ys := cutL (row.map .int) none (some (j : Int))) (by show _ ≤ 10000000; omega)) ?_
  rw [cut_map, cut_map, ← List.map_append]
  rw [cut_map, List.length_map] at c1 c2
  have hv : ∀ k ∈ cutL row (some (j : Int)) none ++ cutL row none (some (j : Int)), small k := fun k hk => (List.mem_append.mp hk).elim (fun z => hr k (mem_cut z)) fun z => hr k (mem_cut z)
  have hvl : (cutL row (some (j : Int)) none ++ cutL row none (some (j : Int))).length ≤ 100 := by rw [List.length_append]; omega
  generalize cutL row (some (j : Int)) none ++ cutL row none (some (j : Int)) = vs at *
  refine ⟨n13, nle rfl, ?_⟩
  have v1 : Val 4000 (.tup (vs.map .int)) := val_ints (by omega)
  refine sp_round6 (d := 6) hn v1.elA (val_len v1 (Nat.le_refl _)) ?_
  refine sp_due16 (d := 6) hn v1.elA (val_len v1 (Nat.le_refl _)) ?_
  refine sp_same_bl (d := 7) ?_
  refine sp_bent_row (d := 5) (m := 100) hvl (by decide) hv fun x hx => ?_
  refine need_intro (backRho_pure hx.pure) ?_
  refine ⟨n14, nle rfl, ?_⟩
  have v2 : Val 4000 x := val_mono hx (by decide)
  refine sp_round6 (d := 6) hn v2.elA (val_len v2 (Nat.le_refl _)) ?_
  refine sp_due16 (d := 6) hn v2.elA (val_len v2 (Nat.le_refl _)) ?_
  exact sp_same_bl (d := 7) (h _ _)
theorem end_ok {s2 s3 s4 s5 s6 s8 s9 s10 s11 s12 s13 s14 s15 : Ip.Slot} : w_law_3 (TT 8) EL (R s2 s3 s4 s5 s6 s8 s9 s10 s11 s12 s13 s14 s15 .non .non) := by
  refine ⟨nle rfl, nle rfl, nle rfl, nle rfl, nle rfl, ?_⟩
  refine ⟨rfl, nle rfl, ?_⟩
  refine ⟨nle rfl, nle rfl, nle rfl, ?_⟩
  refine ⟨rfl, nle rfl, ?_⟩
  have i3 : ∀ {a : Nat} (L : List Int), L.length ≤ a → a ≤ 4000 → ElA (.tup (L.map .int)) := fun L h _ => (val_ints h).elA
  refine ⟨nle rfl, nle rfl, ?_⟩
  refine sp_round6 (d := 6) (n := 3) (L := [(0, 1), (0, 2), (1, 2)]) (lens := [1, 1, 1]) (v := .tup [.int 0, .int 1]) rfl (i3 (a := 2) [0, 1] (nle rfl) (nle rfl)) (fun ds e => by cases e; exact nle rfl) ?_
  rw [show roundB 3 [(0, 1), (0, 2), (1, 2)] [1, 1, 1] (.tup [.int 0, .int 1]) = false by decide +kernel]
  refine ⟨nle rfl, nle rfl, ?_⟩
  refine sp_round6 (d := 6) (n := 3) (L := [(0, 2)]) (lens := [4, 0, 4]) (v := .tup [.int 0, .int 2, .int 1]) rfl (i3 (a := 3) [0, 2, 1] (nle rfl) (nle rfl)) (fun ds e => by cases e; exact nle rfl) ?_
  rw [show roundB 3 [(0, 2)] [4, 0, 4] (.tup [.int 0, .int 2, .int 1]) = true by decide +kernel]
  refine ⟨nle rfl, nle rfl, ?_⟩
  refine sp_round6 (d := 6) (n := 3) (L := [(0, 2)]) (lens := [4, 5, 4]) (v := .tup [.int 0, .int 2, .int 1]) rfl (i3 (a := 3) [0, 2, 1] (nle rfl) (nle rfl)) (fun ds e => by cases e; exact nle rfl) ?_
  rw [show roundB 3 [(0, 2)] [4, 5, 4] (.tup [.int 0, .int 2, .int 1]) = false by decide +kernel]
  refine ⟨nle rfl, ?_⟩
  refine sp_are_lengths (d := 6) (n := 2) (v := .tup [.int 10000, .int 0]) (i3 (a := 2) [10000, 0] (nle rfl) (nle rfl)) ?_
  rw [show arL 2 (.tup [.int 10000, .int 0]) = true by decide +kernel]
  refine sp_same_bl (d := 7) ?_
  refine ⟨nle rfl, ?_⟩
  refine sp_are_lengths (d := 6) (n := 1) (v := .tup [.int 10001]) (i3 (a := 1) [10001] (nle rfl) (nle rfl)) ?_
  rw [show arL 1 (.tup [.int 10001]) = false by decide +kernel]
  refine ⟨nle rfl, ?_⟩
  refine sp_are_lengths (d := 6) (n := 0) (v := .tup []) (i3 (a := 0) [] (nle rfl) (nle rfl)) ?_
  rw [show arL 0 (.tup []) = true by decide +kernel]
  exact rfl
theorem law_true : w_law (TT 8) ⟨fun _ => False, fun r => r = .fz (.bl true), fun _ => False, fun _ => False⟩ (.non :: .fz .box :: List.replicate 17 .non) := by
  refine ⟨rg0 (m := 3) (by decide), ?_⟩
  refine for_rule (fun j ρ => ∃ s2 s3 s4 s5 s6 s8 s9 s10 s11 s13 s14 s15, ρ = R s2 s3 s4 s5 s6 s8 s9 s10 s11 .non s13 s14 s15 .non .non ∧ notLk s2 = true ∧ notLk s3 = true ∧ notLk s4 = true ∧ notLk s5 = true ∧ notLk s6 = true ∧ notLk s8 = true ∧ notLk s9 = true ∧ notLk s10 = true ∧ notLk s11 = true ∧ notLk s13 = true ∧ notLk s14 = true ∧ notLk s15 = true)
    ⟨.non, .non, .non, .non, .non, .non, .non, .non, .non, .non, .non, .non, rfl, rfl, rfl, rfl, rfl, rfl, rfl, rfl, rfl, rfl, rfl, rfl, rfl⟩ ?_ ?_
  · rintro j x ρ e ⟨s2, s3, s4, s5, s6, s8, s9, s10, s11, s13, s14, s15, rfl, n2, n3', n4, n5, n6, n8, n9, n10, n11, n13, n14, n15⟩ C k
    obtain ⟨hj, rfl⟩ := at_rg (m := 3) e
    refine ⟨n2, ?_⟩
    exact B1_ok (C := C) rfl n3' n4 n5 n6 n8 n9 n10 n11 n13 n14 n15 fun t3 t4 t5 t6 t8 t9 t10 t11 t13 t14 t15 m3 m4 m5 m6 m8 m9 m10 m11 m13 m14 m15 => k _ ⟨_, t3, t4, t5, t6, t8, t9, t10, t11, t13, t14, t15, rfl, rfl, m3, m4, m5, m6, m8, m9, m10, m11, m13, m14, m15⟩
  · rintro ρ ⟨s2, s3, s4, s5, s6, s8, s9, s10, s11, s13, s14, s15, rfl, n2, n3', n4, n5, n6, n8, n9, n10, n11, n13, n14, n15⟩
    refine sp_made (d := 6) fun m L lens vs hm hl hv hb => ?_
    have e1 : (vs.map fun (k : Nat) => D.int (k : Int)) = (vs.map Int.ofNat).map .int := by rw [List.map_map]; rfl
    rw [e1]
    refine need_intro (backRho_pure (by show (D.pures [.int _, .tup (L.map Pr)] && (D.pures (lens.map .int) && (D.pures ((vs.map Int.ofNat).map .int) && true))) = true; rw [ints_pure, ints_pure]; show ((true && (D.pures (L.map Pr) && true)) && _) = true; rw [pr_pure]; rfl)) ?_
    refine ⟨n4, n6, n11, ?_⟩
    show w_law_2 (TT 8) EL (R s2 s3 (.fz (.tup [.int ((m + 1 : Nat) : Int), .tup (L.map Pr)])) s5 (.fz (.tup (lens.map .int))) s8 s9 s10 (.fz (.tup ((vs.map Int.ofNat).map .int))) .non s13 s14 s15 .non .non)
    have hr : ∀ k ∈ vs.map Int.ofNat, small k := fun k hk => by
      obtain ⟨i, hi, rfl⟩ := List.mem_map.mp hk
      exact small_nat (by have := hb i hi; omega)
    have hrl : (vs.map Int.ofNat).length = m + 1 := by rw [List.length_map]; exact hv
    generalize vs.map Int.ofNat = row at *
    refine ⟨rg0 (by rw [List.length_map]; omega), ?_⟩
    refine for_rule (fun j ρ => ∃ t12 t13 t14, ρ = R s2 s3 (.fz (.tup [.int ((m + 1 : Nat) : Int), .tup (L.map Pr)])) s5 (.fz (.tup (lens.map .int))) s8 s9 s10 (.fz (.tup (row.map .int))) t12 t13 t14 s15 .non .non ∧ notLk t12 = true ∧ notLk t13 = true ∧ notLk t14 = true) ⟨.non, s13, s14, rfl, rfl, n13, n14⟩ ?_ ?_
    · rintro j x ρ e ⟨t12, t13, t14, rfl, m12, m13, m14⟩ C k
      obtain ⟨hj, rfl⟩ := at_rg e
      refine ⟨m12, ?_⟩
      exact B5_ok (C := C) (by rw [hl]) hr (by omega) rfl m13 m14 fun x y => k _ ⟨_, _, _, rfl, rfl, rfl, rfl⟩
    · rintro ρ ⟨t12, t13, t14, rfl, m12, m13, m14⟩
      exact end_ok
end Lw

open PySem PySem.W PyProof.Rows
set_option maxRecDepth 100000 in
set_option maxHeartbeats 0 in
theorem PySem.Challenge.cw_onevisit_k44_rounds_judged_holds : PySem.Challenge.rw_onevisit_k44_rounds_judged.Holds := by
  w_on; o_law; k_head; (case hw => w_witness2)
  k_fill
  refine Lw.walk (l := PySem.Challenge.rw_onevisit_k44_rounds_judged) rfl rfl (fun w h Y => PySem.W.kIn_of Y) ?F
  case F =>
    intro w mg fa h KX G hmg
    refine' Lw.all_mk KX G hmg ?a0 ?l0 ?c0 ?k0 ?a1 ?l1 ?c1 ?k1 ?a2 ?l2 ?c2 ?k2 ?a3 ?l3 ?c3 ?k3 ?a4 ?l4 ?c4 ?k4 ?a5 ?l5 ?c5 ?k5 ?a6 ?l6 ?c6 ?k6 ?a7 ?l7 ?c7 ?k7 ?a8 ?l8 ?c8 ?k8 ?a9 ?l9 ?c9 ?k9 ?a10 ?l10 ?c10 ?k10 ?a11 ?l11 ?c11 ?k11 ?a12 ?l12 ?c12 ?k12 ?a13 ?l13 ?c13 ?k13 ?a14 ?l14 ?c14 ?k14 ?z_all ?z_bool ?z_int ?z_isinstance ?z_len ?z_list ?z_max ?z_range ?z_set ?z_str ?z_sum ?z_tuple ?g_MAX_LENGTH Lw.law_true
    (case a0 => k_is); (case l0 => k_is); (case c0 => k_is); (case k0 => k_is); (case a1 => k_is); (case l1 => k_is)
    (case c1 => k_is); (case k1 => k_is); (case a2 => k_is); (case l2 => k_is); (case c2 => k_is); (case k2 => k_is)
    (case a3 => k_is); (case l3 => k_is); (case c3 => k_is); (case k3 => k_is); (case a4 => k_is); (case l4 => k_is)
    (case c4 => k_is); (case k4 => k_is); (case a5 => k_is); (case l5 => k_is); (case c5 => k_is); (case k5 => k_is)
    (case a6 => k_is); (case l6 => k_is); (case c6 => k_is); (case k6 => k_is); (case a7 => k_is); (case l7 => k_is)
    (case c7 => k_is); (case k7 => k_is); (case a8 => k_is); (case l8 => k_is); (case c8 => k_is); (case k8 => k_is)
    (case a9 => k_is); (case l9 => k_is); (case c9 => k_is); (case k9 => k_is); (case a10 => k_is); (case l10 => k_is)
    (case c10 => k_is); (case k10 => k_is); (case a11 => k_is); (case l11 => k_is); (case c11 => k_is); (case k11 => k_is)
    (case a12 => k_is); (case l12 => k_is); (case c12 => k_is); (case k12 => k_is); (case a13 => k_is); (case l13 => k_is)
    (case c13 => k_is); (case k13 => k_is); (case a14 => k_is); (case l14 => k_is); (case c14 => k_is); (case k14 => k_is)
    (case z_all => k_is); (case z_bool => k_is); (case z_int => k_is); (case z_isinstance => k_is); (case z_len => k_is); (case z_list => k_is)
    (case z_max => k_is); (case z_range => k_is); (case z_set => k_is); (case z_str => k_is); (case z_sum => k_is); (case z_tuple => k_is)
    (case g_MAX_LENGTH => k_is)
#print axioms PySem.Challenge.cw_onevisit_k44_rounds_judged_holds
