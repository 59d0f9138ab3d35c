import PyProof.Rows.All
import Wide.All
import OpenK.AllK
import Wide.FinOn
import HandS.ForMost
import HandS.ForExc
import HandS.IsInst
import KE.KDictKeyed
import HandS.CallSlots
import HandS.ExcInit
import HandS.Small
import HandS.TupAny
import HandS.TupMul
import HandS.Wide
import HandS.Deep
import HandS.Style
import HandS.Conv
import HandS.ExcIs
import HandS.Walk
import KE.KExcIs
import HandS.TupLen
import HandS.ExcValue
import HandS.ExcField
import HandS.TryMany
import HandS.Zip
import KE.KDictOf
import KE.KEqDict
import PyProof.EnumMake
import PyProof.Draws
import KE.KDictDisplayH
import PyProof.DictDisplay
import PySem.Challenge.RW_carrytower_k47_kinds_listed
set_option Elab.async false
set_option linter.all false
set_option maxRecDepth 100000
/-! Data without a heap: what a program of plain values computes, and when a heap bears it. -/
namespace Mir
open PySem PySem.Spec PyProof.Rows L2

/-- data -/
inductive D where
  | non | bl (b : Bool) | int (i : Int) | str (s : Str)
  | tup (xs : List D) | lst (xs : List D)
  | scr (ns : List Int)
  | dic (ks : List D) (vs : List D)
  | obj (c : Nat) (vs : List D)
  | exc (c : Nat) (vs : List D)
  | cls (c : Nat) | ty (n : String)
  deriving Inhabited

/-- the classes by numbers: their names, their attributes in order -/
def cname : Nat → Str
  | 0 => "Rounds" | 1 => "Tower" | 2 => "Table" | 3 => "Map" | 4 => "Desk" | 5 => "Group"
  | 10 => "CarryError" | 11 => "NoRounds" | 12 => "NoElement" | 13 => "NoLower" | 14 => "NoUpper" | 15 => "NoHead" | 16 => "NotLike" | 17 => "NoCount" | 18 => "NoPair"
  | 19 => "NoKind" | 20 => "NoLine" | 21 => "NothingDone" | 22 => "NoText" | 23 => "NoCarry" | 24 => "NoTower" | 25 => "Uneven" | 26 => "NoRelabeling" | 27 => "TooMany" | 28 => "NoMap" | 29 => "NoName"
  | _ => ""
def cflds : Nat → List Str
  | 0 => ["rounds"] | 1 => ["table", "ground"] | 2 => ["lower", "upper", "kept"] | 3 => ["source", "goal", "images"] | 4 => ["kept", "past"]
  | 22 => ["at"] | 23 => ["y", "x"] | 24 => ["three"] | 25 => ["two"] | 26 => ["x"] | 27 => ["many"] | 28 => ["head"] | 29 => ["name"]
  | _ => []

inductive Res (α : Type) where
  | ok (a : α) | er (e : D) | bad

@[inline] def Res.bind {α β : Type} (r : Res α) (f : α → Res β) : Res β := match r with
  | .ok a => f a
  | .er e => .er e
  | .bad => .bad
instance : Monad Res where
  pure := .ok
  bind := Res.bind
@[simp] theorem ok_bind {α β : Type} (a : α) (f : α → Res β) : (Res.ok a >>= f) = f a := rfl
@[simp] theorem er_bind {α β : Type} (e : D) (f : α → Res β) : ((Res.er e : Res α) >>= f) = .er e := rfl
@[simp] theorem bad_bind {α β : Type} (f : α → Res β) : ((Res.bad : Res α) >>= f) = .bad := rfl
@[simp] theorem pure_ok {α : Type} (a : α) : (pure a : Res α) = .ok a := rfl

/-- the ground: what the module has written -/
structure GC where
  P : Program
  w : World
  K : PySem.W.Frag
  mg : Str → Option Value
/-- where the class stands -/
def GC.ca (G : GC) (c : Nat) : Addr := match G.mg (cname c) with
  | some (.ref C) => C
  | _ => 0
abbrev gOf (X : Cx) : GC := ⟨X.prog, X.w, X.K, X.mg⟩

/-- a datum as a key -/
def keyOf : D → Option NestedKey
  | .non => some .none
  | .bl b => some (.num (if b = true then 1 else 0))
  | .int i => some (.num i)
  | .str s => some (.text s)
  | .tup xs => (keysOf xs).map .tup
  | _ => none
where keysOf : List D → Option (List NestedKey)
  | [] => some []
  | x :: xs => match keyOf x, keysOf xs with
    | some k, some ks => some (k :: ks)
    | _, _ => none

/-- at a stands a dict with the entries' keys at addresses and values -/
structure DicO (G : GC) (o : Obj) (xs : List (NestedKey × Addr × Value)) : Prop where
  ex : o.ExactDict
  dat : ∃ es ep, o.data = .dict es ep ∧ es.toList = xs.map (entryOfKey (nestedKind G.P G.w))
  nd : (xs.map (·.1)).Nodup
  dp : ∀ x ∈ xs, x.1.depth ≤ 8
  sz : xs.length ≤ sizeLine
def isObj' (a : Addr) (o : Obj) : Heap → Prop := fun h => h.get? a = some o
def isExc (a : Addr) (C : Addr) (d : Option Addr) : Heap → Prop := fun h => ∃ oe vs, h.get? a = some oe ∧ oe.cls = .ref C ∧ oe.dict = d ∧ oe.data = .fields vs

mutual
/-- v bears d in F -/
inductive Rep (G : GC) (F : Hp) : V → D → Prop
  | non : Rep G F .non .non
  | bl (b : Bool) : Rep G F (.bl b) (.bl b)
  | int (i : Int) : Rep G F (.int i) (.int i)
  | str (s : Str) : Rep G F (.str s) (.str s)
  | tup {a : Addr} {vs : List V} {ds : List D} : SqT G.K F a vs → RepAll G F vs ds → Rep G F (.ref a) (.tup ds)
  | lst {a : Addr} {vs : List V} {ds : List D} : F a = some (.lst vs) → RepAll G F vs ds → Rep G F (.ref a) (.lst ds)
  | scr {a : Addr} {ns : List Int} : SqL G.K F a (ns.map V.int) → Rep G F (.ref a) (.scr ns)
  | dic {a : Addr} {o : Obj} {xs : List (NestedKey × Addr × Value)} {ws : List V} {ks vs : List D} : F a = some (.ext (isObj' a o)) → (a == sysModules) = false → DicO G o xs → Vals ws (xs.map (·.2.2)) →
      RepAll G F (xs.map fun x => V.ref x.2.1) ks → ks.map keyOf = xs.map (fun x => some x.1) → RepAll G F ws vs → Rep G F (.ref a) (.dic ks vs)
  | obj {a dx : Addr} {c : Nat} {ws : List V} {vs : List D} : F a = some (.ins (G.ca c) dx ((cflds c).zip ws)) → ws.length ≤ (cflds c).length → RepAll G F ws vs → Rep G F (.ref a) (.obj c vs)
  | exc {a : Addr} {c : Nat} : F a = some (.ext (isExc a (G.ca c) none)) → cflds c = [] → Rep G F (.ref a) (.exc c [])
  | excF {a dx : Addr} {c : Nat} {ws : List V} {vs : List D} : F a = some (.ext (isExc a (G.ca c) (some dx))) → F dx = some (.xd ((cflds c).zip ws)) → ws.length = (cflds c).length → RepAll G F ws vs → Rep G F (.ref a) (.exc c vs)
  | cls {C : Addr} {c : Nat} : G.mg (cname c) = some (.ref C) → Rep G F (.ref C) (.cls c)
  | ty (n : String) : Rep G F (.ty n) (.ty n)
inductive RepAll (G : GC) (F : Hp) : List V → List D → Prop
  | nil : RepAll G F [] []
  | cons {v : V} {d : D} {vs : List V} {ds : List D} : Rep G F v d → RepAll G F vs ds → RepAll G F (v :: vs) (d :: ds)
end

theorem Same.sqT {K : PySem.W.Frag} {H H' : Hp} {a : Addr} {xs : List V} (e : Same H H') (h : SqT K H a xs) : SqT K H' a xs := by
  rcases h with (h | ⟨o, h⟩) | h
  · exact .inl (.inl (e _ _ h))
  · exact .inl (.inr ⟨o, e _ _ h⟩)
  · exact .inr h
mutual
theorem Rep.mono {G : GC} {F F' : Hp} (s : Same F F') : ∀ {v : V} {d : D}, Rep G F v d → Rep G F' v d
  | _, _, .non => .non
  | _, _, .bl b => .bl b
  | _, _, .int i => .int i
  | _, _, .str x => .str x
  | _, _, .tup h r => .tup (Same.sqT s h) (RepAll.mono s r)
  | _, _, .lst h r => .lst (s _ _ h) (RepAll.mono s r)
  | _, _, .scr h => .scr (s.seq h)
  | _, _, .dic h1 h2 h3 h4 h5 h6 h7 => .dic (s _ _ h1) h2 h3 h4 (RepAll.mono s h5) h6 (RepAll.mono s h7)
  | _, _, .obj h z r => .obj (s _ _ h) z (RepAll.mono s r)
  | _, _, .exc h z => .exc (s _ _ h) z
  | _, _, .excF h1 h2 z r => .excF (s _ _ h1) (s _ _ h2) z (RepAll.mono s r)
  | _, _, .cls h => .cls h
  | _, _, .ty n => .ty n
theorem RepAll.mono {G : GC} {F F' : Hp} (s : Same F F') : ∀ {vs : List V} {ds : List D}, RepAll G F vs ds → RepAll G F' vs ds
  | _, _, .nil => .nil
  | _, _, .cons r t => .cons (Rep.mono s r) (RepAll.mono s t)
end
section
variable {G : GC} {F : Hp}
theorem RepAll.length : ∀ {vs : List V} {ds : List D}, RepAll G F vs ds → vs.length = ds.length
  | _, _, .nil => rfl
  | _, _, .cons _ t => congrArg (· + 1) (RepAll.length t)
theorem RepAll.get : ∀ {vs : List V} {ds : List D} {i : Nat} {d : D}, RepAll G F vs ds → ds[i]? = some d → ∃ v, vs[i]? = some v ∧ Rep G F v d
  | _, _, _, _, .nil, e => by simp at e
  | _, _, 0, _, .cons r _, e => by simp at e; subst e; exact ⟨_, rfl, r⟩
  | _, _, i + 1, d, .cons _ t, e => by
    obtain ⟨v, h1, h2⟩ := RepAll.get (i := i) (d := d) t (by simpa using e)
    exact ⟨v, by simpa using h1, h2⟩
theorem RepAll.getV : ∀ {vs : List V} {ds : List D} {i : Nat} {v : V}, RepAll G F vs ds → vs[i]? = some v → ∃ d, ds[i]? = some d ∧ Rep G F v d
  | _, _, _, _, .nil, e => by simp at e
  | _, _, 0, _, .cons r _, e => by simp at e; subst e; exact ⟨_, rfl, r⟩
  | _, _, i + 1, v, .cons _ t, e => by
    obtain ⟨d, h1, h2⟩ := RepAll.getV (i := i) (v := v) t (by simpa using e)
    exact ⟨d, by simpa using h1, h2⟩
theorem RepAll.append : ∀ {vs ws : List V} {ds es : List D}, RepAll G F vs ds → RepAll G F ws es → RepAll G F (vs ++ ws) (ds ++ es)
  | _, _, _, _, .nil, s => s
  | _, _, _, _, .cons r t, s => .cons r (RepAll.append t s)
theorem RepAll.set {v : V} {d : D} (r : Rep G F v d) : ∀ {vs : List V} {ds : List D} (i : Nat), RepAll G F vs ds → RepAll G F (vs.set i v) (ds.set i d)
  | _, _, _, .nil => .nil
  | _, _, 0, .cons _ t => .cons r t
  | _, _, i + 1, .cons q t => .cons q (RepAll.set r i t)
theorem RepAll.take : ∀ {vs : List V} {ds : List D} (n : Nat), RepAll G F vs ds → RepAll G F (vs.take n) (ds.take n)
  | _, _, 0, _ => .nil
  | _, _, _ + 1, .nil => .nil
  | _, _, n + 1, .cons r t => .cons r (RepAll.take n t)
theorem RepAll.drop : ∀ {vs : List V} {ds : List D} (n : Nat), RepAll G F vs ds → RepAll G F (vs.drop n) (ds.drop n)
  | _, _, 0, r => r
  | _, _, _ + 1, .nil => .nil
  | _, _, n + 1, .cons _ t => RepAll.drop n t
theorem RepAll.reverse : ∀ {vs : List V} {ds : List D}, RepAll G F vs ds → RepAll G F vs.reverse ds.reverse
  | _, _, .nil => .nil
  | _, _, .cons r t => by
    rw [List.reverse_cons, List.reverse_cons]
    exact RepAll.append (RepAll.reverse t) (.cons r .nil)
end

/-! ### what is owned: the shape tells which of the parts are one's own -/
inductive Shape where
  | sh
  | flat
  | parts (l : List Shape)
/-- the shape of the i-th part -/
def Shape.kid : Shape → Nat → Shape
  | .parts l, i => l.getD i .sh
  | _, _ => .sh
def Shape.pts : Shape → Bool
  | .parts _ => true
  | _ => false
def Shape.own : Shape → Bool
  | .sh => false
  | _ => true
theorem kid_flat : Shape.kid .flat = fun _ => .sh := rfl

mutual
/-- v bears d, its own parts stand in H at A, the others in F -/
inductive Own (G : GC) (F H : Hp) : Shape → V → D → List Addr → Prop
  | sh {v : V} {d : D} : Rep G F v d → Own G F H .sh v d []
  | lst {s : Shape} {a : Addr} {vs : List V} {ds : List D} {A : List Addr} : s.own = true → H a = some (.lst vs) → F a = none → OwnAll G F H s.kid 0 vs ds A → a ∉ A → Own G F H s (.ref a) (.lst ds) (a :: A)
  | tup {s : Shape} {a : Addr} {vs : List V} {ds : List D} {A : List Addr} : s.pts = true → H a = some (.tup vs) → F a = none → OwnAll G F H s.kid 0 vs ds A → a ∉ A → Own G F H s (.ref a) (.tup ds) (a :: A)
  | dic {s : Shape} {a : Addr} {o : Obj} {xs : List (NestedKey × Addr × Value)} {ws : List V} {ks vs : List D} {A : List Addr} : s.own = true → H a = some (.ext (isObj' a o)) → F a = none → (a == sysModules) = false → DicO G o xs → Vals ws (xs.map (·.2.2)) →
      RepAll G F (xs.map fun x => V.ref x.2.1) ks → ks.map keyOf = xs.map (fun x => some x.1) → OwnAll G F H s.kid 0 ws vs A → a ∉ A → Own G F H s (.ref a) (.dic ks vs) (a :: A)
  | obj {s : Shape} {a dx : Addr} {c : Nat} {ws : List V} {vs : List D} {A : List Addr} : s.own = true → H a = some (.ins (G.ca c) dx ((cflds c).zip ws)) → F a = none → ws.length ≤ (cflds c).length → OwnAll G F H s.kid 0 ws vs A → a ∉ A →
      Own G F H s (.ref a) (.obj c vs) (a :: A)
inductive OwnAll (G : GC) (F H : Hp) : (Nat → Shape) → Nat → List V → List D → List Addr → Prop
  | nil {f : Nat → Shape} {n : Nat} : OwnAll G F H f n [] [] []
  | cons {f : Nat → Shape} {n : Nat} {v : V} {d : D} {vs : List V} {ds : List D} {A B : List Addr} : Own G F H (f n) v d A → OwnAll G F H f (n + 1) vs ds B → (∀ a ∈ A, a ∉ B) → OwnAll G F H f n (v :: vs) (d :: ds) (A ++ B)
end

/-- what grows: the heap, the shared part; nothing old becomes shared -/
structure Grow (F H F' H' : Hp) : Prop where
  h : Same H H'
  f : Same F F'
  sub : Same F' H'
  new : ∀ a o, F' a = some o → F a = some o ∨ H a = none
theorem Grow.refl {F H : Hp} (s : Same F H) : Grow F H F H := ⟨Same.refl _, Same.refl _, s, fun _ _ e => .inl e⟩
theorem Grow.trans {F H F1 H1 F2 H2 : Hp} (a : Grow F H F1 H1) (b : Grow F1 H1 F2 H2) : Grow F H F2 H2 :=
  ⟨a.h.trans b.h, a.f.trans b.f, b.sub, fun x o e => (b.new x o e).elim (fun q => a.new x o q) fun q => .inr (a.h.free q)⟩

/-- what stays of the own parts -/
structure Keep (A : List Addr) (F H F' H' : Hp) : Prop where
  h : ∀ a ∈ A, ∀ o, H a = some o → H' a = some o
  f : Same F F'
  n : ∀ a ∈ A, F a = none → F' a = none
theorem Grow.keep {F H F' H' : Hp} (g : Grow F H F' H') {A : List Addr} (hA : ∀ a ∈ A, ∃ o, H a = some o) : Keep A F H F' H' :=
  ⟨fun a _ o e => g.h a o e, g.f, fun a ha e => by
    cases q : F' a with
    | none => rfl
    | some o =>
      rcases g.new a o q with z | z
      · rw [e] at z; cases z
      · obtain ⟨o', e'⟩ := hA a ha
        rw [z] at e'; cases e'⟩
section
variable {G : GC} {F H F' H' : Hp}
mutual
theorem Own.keep : ∀ {s : Shape} {v : V} {d : D} {A : List Addr}, Own G F H s v d A → Keep A F H F' H' → Own G F' H' s v d A
  | _, _, _, _, .sh r, k => .sh (r.mono k.f)
  | _, _, _, _, .lst h0 h1 h2 h3 h4, k => .lst h0 (k.h _ List.mem_cons_self _ h1) (k.n _ List.mem_cons_self h2) (OwnAll.keep h3 ⟨fun a ha => k.h a (List.mem_cons_of_mem _ ha), k.f, fun a ha => k.n a (List.mem_cons_of_mem _ ha)⟩) h4
  | _, _, _, _, .tup h0 h1 h2 h3 h4, k => .tup h0 (k.h _ List.mem_cons_self _ h1) (k.n _ List.mem_cons_self h2) (OwnAll.keep h3 ⟨fun a ha => k.h a (List.mem_cons_of_mem _ ha), k.f, fun a ha => k.n a (List.mem_cons_of_mem _ ha)⟩) h4
  | _, _, _, _, .dic h0 h1 h2 z1 z2 z3 z4 z5 h3 h4, k => .dic h0 (k.h _ List.mem_cons_self _ h1) (k.n _ List.mem_cons_self h2) z1 z2 z3 (z4.mono k.f) z5 (OwnAll.keep h3 ⟨fun a ha => k.h a (List.mem_cons_of_mem _ ha), k.f, fun a ha => k.n a (List.mem_cons_of_mem _ ha)⟩) h4
  | _, _, _, _, .obj h0 h1 h2 z h3 h4, k => .obj h0 (k.h _ List.mem_cons_self _ h1) (k.n _ List.mem_cons_self h2) z (OwnAll.keep h3 ⟨fun a ha => k.h a (List.mem_cons_of_mem _ ha), k.f, fun a ha => k.n a (List.mem_cons_of_mem _ ha)⟩) h4
theorem OwnAll.keep : ∀ {f : Nat → Shape} {n : Nat} {vs : List V} {ds : List D} {A : List Addr}, OwnAll G F H f n vs ds A → Keep A F H F' H' → OwnAll G F' H' f n vs ds A
  | _, _, _, _, _, .nil, _ => .nil
  | _, _, _, _, _, .cons r t x, k => .cons (Own.keep r ⟨fun a ha => k.h a (List.mem_append_left _ ha), k.f, fun a ha => k.n a (List.mem_append_left _ ha)⟩)
      (OwnAll.keep t ⟨fun a ha => k.h a (List.mem_append_right _ ha), k.f, fun a ha => k.n a (List.mem_append_right _ ha)⟩) x
end
mutual
theorem Own.there : ∀ {s : Shape} {v : V} {d : D} {A : List Addr}, Own G F H s v d A → ∀ a ∈ A, F a = none ∧ ∃ o, H a = some o
  | _, _, _, _, .sh _, _, h => nomatch h
  | _, _, _, _, .lst _ h1 h2 h3 _, a, h => (List.mem_cons.mp h).elim (fun e => by subst e; exact ⟨h2, _, h1⟩) (OwnAll.there h3 a)
  | _, _, _, _, .tup _ h1 h2 h3 _, a, h => (List.mem_cons.mp h).elim (fun e => by subst e; exact ⟨h2, _, h1⟩) (OwnAll.there h3 a)
  | _, _, _, _, .dic _ h1 h2 _ _ _ _ _ h3 _, a, h => (List.mem_cons.mp h).elim (fun e => by subst e; exact ⟨h2, _, h1⟩) (OwnAll.there h3 a)
  | _, _, _, _, .obj _ h1 h2 _ h3 _, a, h => (List.mem_cons.mp h).elim (fun e => by subst e; exact ⟨h2, _, h1⟩) (OwnAll.there h3 a)
theorem OwnAll.there : ∀ {f : Nat → Shape} {n : Nat} {vs : List V} {ds : List D} {A : List Addr}, OwnAll G F H f n vs ds A → ∀ a ∈ A, F a = none ∧ ∃ o, H a = some o
  | _, _, _, _, _, .nil, _, h => nomatch h
  | _, _, _, _, _, .cons r t _, a, h => (List.mem_append.mp h).elim (Own.there r a) (OwnAll.there t a)
end
theorem Own.grow {s : Shape} {v : V} {d : D} {A : List Addr} (o : Own G F H s v d A) (g : Grow F H F' H') : Own G F' H' s v d A := o.keep (g.keep fun a ha => (o.there a ha).2)

/-- the own parts become shared -/
def share (F H : Hp) (A : List Addr) : Hp := fun b => if b ∈ A then H b else F b
theorem share_sub (s : Same F H) (A : List Addr) : Same (share F H A) H := fun b o e => by
  unfold share at e
  split at e
  · exact e
  · exact s b o e
theorem share_same (s : Same F H) (A : List Addr) : Same F (share F H A) := fun b o e => by
  unfold share
  split
  · exact s b o e
  · exact e
theorem share_at {A : List Addr} {a : Addr} (h : a ∈ A) : share F H A a = H a := if_pos h
theorem share_ne {A : List Addr} {a : Addr} (h : a ∉ A) : share F H A a = F a := if_neg h
mutual
theorem Own.rep (s : Same F H) : ∀ {sp : Shape} {v : V} {d : D} {A : List Addr}, Own G F H sp v d A → ∀ B : List Addr, (∀ a ∈ A, a ∈ B) → Rep G (share F H B) v d
  | _, _, _, _, .sh r, B, _ => r.mono (share_same s B)
  | _, _, _, _, .lst _ h1 _ h3 _, B, hB => .lst ((share_at (hB _ List.mem_cons_self)).trans h1) (OwnAll.rep s h3 B fun a ha => hB a (List.mem_cons_of_mem _ ha))
  | _, _, _, _, .tup _ h1 _ h3 _, B, hB => .tup (.of ((share_at (hB _ List.mem_cons_self)).trans h1)) (OwnAll.rep s h3 B fun a ha => hB a (List.mem_cons_of_mem _ ha))
  | _, _, _, _, .dic _ h1 _ z1 z2 z3 z4 z5 h3 _, B, hB => .dic ((share_at (hB _ List.mem_cons_self)).trans h1) z1 z2 z3 (z4.mono (share_same s B)) z5 (OwnAll.rep s h3 B fun a ha => hB a (List.mem_cons_of_mem _ ha))
  | _, _, _, _, .obj _ h1 _ z h3 _, B, hB => .obj ((share_at (hB _ List.mem_cons_self)).trans h1) z (OwnAll.rep s h3 B fun a ha => hB a (List.mem_cons_of_mem _ ha))
theorem OwnAll.rep (s : Same F H) : ∀ {f : Nat → Shape} {n : Nat} {vs : List V} {ds : List D} {A : List Addr}, OwnAll G F H f n vs ds A → ∀ B : List Addr, (∀ a ∈ A, a ∈ B) → RepAll G (share F H B) vs ds
  | _, _, _, _, _, .nil, _, _ => .nil
  | _, _, _, _, _, .cons r t _, B, hB => .cons (Own.rep s r B fun a ha => hB a (List.mem_append_left _ ha)) (OwnAll.rep s t B fun a ha => hB a (List.mem_append_right _ ha))
end
theorem OwnAll.of_rep : ∀ {vs : List V} {ds : List D} {n : Nat}, RepAll G F vs ds → OwnAll G F H (fun _ => .sh) n vs ds []
  | _, _, _, .nil => .nil
  | _, _, _, .cons r t => OwnAll.cons (A := []) (B := []) (.sh r) (OwnAll.of_rep t) (fun _ z => nomatch z)
theorem OwnAll.to_rep : ∀ {vs : List V} {ds : List D} {n : Nat} {A : List Addr}, OwnAll G F H (fun _ => .sh) n vs ds A → A = [] ∧ RepAll G F vs ds
  | _, _, _, _, .nil => ⟨rfl, .nil⟩
  | _, _, _, _, .cons r t _ => by
    cases r with
    | sh r =>
      obtain ⟨e, t'⟩ := OwnAll.to_rep t
      subst e
      exact ⟨rfl, .cons r t'⟩
    | lst h => cases h
    | tup h => cases h
    | dic h => cases h
    | obj h => cases h
end
end Mir

/-! The state of a def over data, and what its expressions and statements do. -/
namespace Mir
open PySem PySem.Spec PyProof.Rows L2

inductive Slot where
  | un | sh (d : D) | ow (s : Shape) (d : D)
abbrev Env := List Slot

/-- to be read: shared, or one's own with shared parts -/
def RdD (G : GC) (F H : Hp) (v : V) (d : D) : Prop := Rep G F v d ∨ ∃ A, Own G F H .flat v d A
def getS (i : Nat) (r : Env) : Res D := match r[i]? with
  | some (.sh d) => .ok d
  | _ => .bad
def getR (i : Nat) (r : Env) : Res D := match r[i]? with
  | some (.sh d) => .ok d
  | some (.ow .flat d) => .ok d
  | _ => .bad
def freeze (i : Nat) (r : Env) : Env := match r[i]? with
  | some (.ow _ d) => r.set i (.sh d)
  | _ => r

/-- what is wished of an exception; what stays true of the names' values -/
structure Wi where
  w : WX
  J : L2.St → Prop
/-- the state of a def: slots, heap; fp i: the addresses that the i-th name owns -/
structure MS (G : GC) (J : L2.St → Prop) (H0 F0 : Hp) (fp : Nat → List Addr) (F : Hp) (σ : L2.St) (H : Hp) (r : Env) : Prop where
  jo : J σ
  s0 : Same H0 H
  f0 : Same F0 F
  sub : Same F H
  new : ∀ a o, F a = some o → F0 a = some o ∨ H0 a = none
  len : r.length = σ.length
  sh : ∀ (i : Nat) (d : D), r[i]? = some (.sh d) → ∃ v, σ[i]? = some (some v) ∧ Rep G F v d
  ow : ∀ (i : Nat) (s : Shape) (d : D), r[i]? = some (.ow s d) → (∃ v, σ[i]? = some (some v) ∧ Own G F H s v d (fp i)) ∧ ∀ a ∈ fp i, H0 a = none
  ap : ∀ (i j : Nat) (s t : Shape) (d e : D), i ≠ j → r[i]? = some (.ow s d) → r[j]? = some (.ow t e) → ∀ a ∈ fp i, a ∉ fp j

section
variable {G : GC} {J : L2.St → Prop} {H0 F0 F H F' H' : Hp} {fp : Nat → List Addr} {σ : L2.St} {r : Env}
theorem MS.grow (m : MS G J H0 F0 fp F σ H r) (g : Grow F H F' H') : MS G J H0 F0 fp F' σ H' r where
  jo := m.jo
  s0 := m.s0.trans g.h
  f0 := m.f0.trans g.f
  sub := g.sub
  new := fun a o e => (g.new a o e).elim (m.new a o) fun q => .inr (m.s0.free q)
  len := m.len
  sh := fun i d e => let ⟨v, h1, h2⟩ := m.sh i d e; ⟨v, h1, h2.mono g.f⟩
  ow := fun i s d e => let ⟨⟨v, h1, h2⟩, h3⟩ := m.ow i s d e; ⟨⟨v, h1, h2.grow g⟩, h3⟩
  ap := m.ap
theorem MS.getS (m : MS G J H0 F0 fp F σ H r) {i : Nat} {d : D} (h : getS i r = .ok d) : ∃ v, σ[i]? = some (some v) ∧ Rep G F v d := by
  unfold Mir.getS at h
  split at h
  · rename_i e; cases h; exact m.sh i _ e
  · cases h
theorem getS_not_er {i : Nat} {e : D} {r : Env} (h : Mir.getS i r = .er e) : False := by
  unfold Mir.getS at h
  split at h <;> cases h
theorem getR_not_er {i : Nat} {e : D} {r : Env} (h : Mir.getR i r = .er e) : False := by
  unfold Mir.getR at h
  split at h <;> cases h
theorem MS.getR (m : MS G J H0 F0 fp F σ H r) {i : Nat} {d : D} (h : getR i r = .ok d) : ∃ v, σ[i]? = some (some v) ∧ RdD G F H v d := by
  unfold Mir.getR at h
  split at h
  · rename_i e
    cases h
    obtain ⟨v, h1, h2⟩ := m.sh i _ e
    exact ⟨v, h1, .inl h2⟩
  · rename_i _ e
    cases h
    obtain ⟨⟨v, h1, h2⟩, _⟩ := m.ow i _ _ e
    exact ⟨v, h1, .inr ⟨_, h2⟩⟩
  · cases h
theorem get_set_slot {r : Env} {i j : Nat} {x y : Slot} (h : (r.set i x)[j]? = some y) : (i = j ∧ x = y ∧ i < r.length) ∨ (i ≠ j ∧ r[j]? = some y) := by
  by_cases e : i = j
  · subst e
    by_cases hl : i < r.length
    · rw [List.getElem?_set_self hl] at h
      exact .inl ⟨rfl, Option.some.inj h, hl⟩
    · rw [List.getElem?_eq_none (by simpa using hl)] at h
      cases h
  · rw [List.getElem?_set_ne e] at h
    exact .inr ⟨e, h⟩
/-- a shared value is put into the i-th name -/
theorem MS.setS (m : MS G J H0 F0 fp F σ H r) {v : V} {d : D} (i : Nat) (q : Rep G F v d) (hJ : ∀ σ v, J σ → J (σ.set i v)) : MS G J H0 F0 fp F (σ.set i (some v)) H (r.set i (.sh d)) where
  jo := hJ _ _ m.jo
  s0 := m.s0
  f0 := m.f0
  sub := m.sub
  new := m.new
  len := by simpa using m.len
  sh := fun j e h => by
    rcases get_set_slot h with ⟨rfl, x, hl⟩ | ⟨ne, h⟩
    · cases x
      exact ⟨v, List.getElem?_set_self (by rw [← m.len]; exact hl), q⟩
    · rw [List.getElem?_set_ne ne]
      exact m.sh j e h
  ow := fun j s e h => by
    rcases get_set_slot h with ⟨_, x, _⟩ | ⟨ne, h⟩
    · cases x
    · rw [List.getElem?_set_ne ne]
      exact m.ow j s e h
  ap := fun j k s t d e n h1 h2 => by
    rcases get_set_slot h1 with ⟨_, x, _⟩ | ⟨_, h1⟩
    · cases x
    · rcases get_set_slot h2 with ⟨_, x, _⟩ | ⟨_, h2⟩
      · cases x
      · exact m.ap j k s t d e n h1 h2
/-- an owned value is put into the i-th name -/
theorem MS.setO (m : MS G J H0 F0 fp F σ H r) {v : V} {d : D} {s : Shape} {A : List Addr} (i : Nat) (q : Own G F H s v d A) (hn : ∀ a ∈ A, H0 a = none) (hd : ∀ (j : Nat) (t : Shape) (e : D), j ≠ i → r[j]? = some (.ow t e) → ∀ a ∈ A, a ∉ fp j) (hJ : ∀ σ v, J σ → J (σ.set i v)) :
    MS G J H0 F0 (fun j => if j = i then A else fp j) F (σ.set i (some v)) H (r.set i (.ow s d)) where
  jo := hJ _ _ m.jo
  s0 := m.s0
  f0 := m.f0
  sub := m.sub
  new := m.new
  len := by simpa using m.len
  sh := fun j e h => by
    rcases get_set_slot h with ⟨_, x, _⟩ | ⟨ne, h⟩
    · cases x
    · rw [List.getElem?_set_ne ne]
      exact m.sh j e h
  ow := fun j s e h => by
    rcases get_set_slot h with ⟨rfl, x, hl⟩ | ⟨ne, h⟩
    · cases x
      rw [if_pos rfl]
      exact ⟨⟨v, List.getElem?_set_self (by rw [← m.len]; exact hl), q⟩, hn⟩
    · rw [List.getElem?_set_ne ne, if_neg (Ne.symm ne)]
      exact m.ow j s e h
  ap := fun j k s t d e n h1 h2 a => by
    rcases get_set_slot h1 with ⟨rfl, x, _⟩ | ⟨n1, h1⟩
    · rcases get_set_slot h2 with ⟨z, _, _⟩ | ⟨n2, h2⟩
      · exact absurd z n
      · cases x
        rw [if_pos rfl, if_neg (Ne.symm n2)]
        exact hd k t e (Ne.symm n2) h2 a
    · rcases get_set_slot h2 with ⟨rfl, x, _⟩ | ⟨n2, h2⟩
      · cases x
        rw [if_pos rfl, if_neg (Ne.symm n1)]
        exact fun ha hb => hd j s d (Ne.symm n1) h1 a hb ha
      · rw [if_neg (Ne.symm n1), if_neg (Ne.symm n2)]
        exact m.ap j k s t d e n h1 h2 a
/-- the i-th name's own parts become shared -/
theorem MS.freeze (m : MS G J H0 F0 fp F σ H r) (i : Nat) : ∃ F', Same F F' ∧ MS G J H0 F0 fp F' σ H (Mir.freeze i r) := by
  unfold Mir.freeze
  split
  · rename_i s d e
    obtain ⟨⟨v, h1, h2⟩, h3⟩ := m.ow i s d e
    refine ⟨share F H (fp i), share_same m.sub _, ?_⟩
    have hi : i < r.length := (List.getElem?_eq_some_iff.mp e).1
    refine ⟨m.jo, m.s0, m.f0.trans (share_same m.sub _), share_sub m.sub _, fun a o q => ?_, by simpa using m.len, fun j e' h => ?_, fun j t e' h => ?_, fun j k t u d' e' n q1 q2 => ?_⟩
    · by_cases ha : a ∈ fp i
      · exact .inr (h3 a ha)
      · rw [share_ne ha] at q
        exact m.new a o q
    · rcases get_set_slot h with ⟨rfl, x, hl⟩ | ⟨ne, h⟩
      · cases x
        exact ⟨v, h1, h2.rep m.sub _ fun _ z => z⟩
      · obtain ⟨w, q1, q2⟩ := m.sh j e' h
        exact ⟨w, q1, q2.mono (share_same m.sub _)⟩
    · rcases get_set_slot h with ⟨_, x, _⟩ | ⟨ne, h⟩
      · cases x
      · obtain ⟨⟨w, q1, q2⟩, q3⟩ := m.ow j t e' h
        refine ⟨⟨w, q1, q2.keep ⟨fun _ _ _ z => z, share_same m.sub _, fun a ha z => ?_⟩⟩, q3⟩
        rw [share_ne (m.ap j i t s e' d (Ne.symm ne) h e a ha)]
        exact z
    · rcases get_set_slot q1 with ⟨_, x, _⟩ | ⟨_, q1⟩
      · cases x
      · rcases get_set_slot q2 with ⟨_, x, _⟩ | ⟨_, q2⟩
        · cases x
        · exact m.ap j k t u d' e' n q1 q2
  · exact ⟨F, Same.refl _, m⟩
end

/-! ### an expression's worth -/
inductive Kd where
  | S | R
  | O (s : Shape)
/-- what may be read -/
def Kd.rd : Kd → Bool
  | .O (.parts _) => false
  | _ => true
/-- v bears d: shared; to be read; one's own and new since H -/
def Kd.Rep (G : GC) (H F' H' : Hp) (v : V) (d : D) : Kd → Prop
  | .S => Mir.Rep G F' v d
  | .R => RdD G F' H' v d
  | .O s => ∃ A, Own G F' H' s v d A ∧ ∀ a ∈ A, H a = none
/-- an exception in the air is the datum e -/
def ExcIs (G : GC) (F : Hp) (cls : Value) (dd : Option Addr) (e : D) : Prop :=
  ∃ (c : Nat) (ws : List V) (vs : List D), e = .exc c vs ∧ cls = .ref (G.ca c) ∧ RepAll G F ws vs ∧
    ((dd = none ∧ cflds c = [] ∧ ws = []) ∨ ∃ dx, dd = some dx ∧ F dx = some (.xd ((cflds c).zip ws)) ∧ ws.length = (cflds c).length)

/-- what is due of an answer: behind it P; of an exception: the wish -/
def Out (G : GC) (W : Wi) (σ : L2.St) {α : Type} (F H : Hp) (P : Hp → Hp → α → Prop) : Res α → Prop
  | .ok a => ∀ F' H', Grow F H F' H' → P F' H' a
  | .er e => ∀ cls dd F' H', Grow F H F' H' → ExcIs G F' cls dd e → W.w cls dd σ H'
  | .bad => False
/-- the reading of an expression of worth f -/
def tE (G : GC) (W : Wi) (k : Kd) (f : Env → Res D) : TE := fun σ H Q => ∃ H0 F0 fp F r, MS G W.J H0 F0 fp F σ H r ∧ Out G W σ F H (fun F' H' d => ∀ v, k.Rep G H F' H' v d → Q v H') (f r)
def tT (G : GC) (W : Wi) (f : Env → Res Bool) : TT := fun σ H Q => ∃ H0 F0 fp F r, MS G W.J H0 F0 fp F σ H r ∧ Out G W σ F H (fun F' H' b => Q b H') (f r)
def tA (G : GC) (W : Wi) (f : Env → Res (List D)) : TA := fun σ H Q => ∃ H0 F0 fp F r, MS G W.J H0 F0 fp F σ H r ∧ Out G W σ F H (fun F' H' ds => ∀ vs, RepAll G F' vs ds → Q vs H') (f r)
abbrev RE (X : Cx) (W : Wi) (k : Kd) (e : Expr) (f : Env → Res D) : Prop := PE X e (tE (gOf X) W k f)
abbrev RT (X : Cx) (W : Wi) (e : Expr) (f : Env → Res Bool) : Prop := PT X e (tT (gOf X) W f)
abbrev RA (X : Cx) (W : Wi) (es : List Expr) (f : Env → Res (List D)) : Prop := PA X es (tA (gOf X) W f)

theorem _root_.L2.PE.imp {X : Cx} {e : Expr} {t t' : TE} (h : PE X e t) (i : ∀ σ H Q, t' σ H Q → t σ H Q) : PE X e t' := ⟨fun pins s σ H Q I hw => h.run pins s σ H Q I (i σ H Q hw)⟩
theorem _root_.L2.PT.imp {X : Cx} {e : Expr} {t t' : TT} (h : PT X e t) (i : ∀ σ H Q, t' σ H Q → t σ H Q) : PT X e t' := ⟨fun pins s σ H Q I hw => h.run pins s σ H Q I (i σ H Q hw)⟩
theorem _root_.L2.PW.imp {X : Cx} {e : Expr} {t t' : TT} (h : PW X e t) (i : ∀ σ H Q, t' σ H Q → t σ H Q) : PW X e t' := ⟨fun wh pins s σ H Q I hw => h.run wh pins s σ H Q I (i σ H Q hw)⟩
theorem _root_.L2.PA.imp {X : Cx} {e : List Expr} {t t' : TA} (h : PA X e t) (i : ∀ σ H Q, t' σ H Q → t σ H Q) : PA X e t' := ⟨fun pos pins s σ H Q I hw => h.run pos pins s σ H Q I (i σ H Q hw)⟩
theorem _root_.L2.PS.imp {X : Cx} {e : Stmt} {t t' : TS} (h : PS X e t) (i : ∀ D σ H, t' D σ H → t D σ H) : PS X e t' := ⟨fun pins s σ H D I hw => h.run pins s σ H D I (i D σ H hw)⟩
theorem _root_.L2.PSs.imp {X : Cx} {e : List Stmt} {t t' : TS} (h : PSs X e t) (i : ∀ D σ H, t' D σ H → t D σ H) : PSs X e t' := ⟨fun pins s σ H D I hw => h.run pins s σ H D I (i D σ H hw)⟩

section
variable {G : GC} {J : L2.St → Prop} {W : Wi} {k : Kd} {σ : L2.St} {H F H1 F1 : Hp} {H0 F0 : Hp} {fp : Nat → List Addr} {r : Env} {α β : Type}
theorem Kd.R_of {k : Kd} {H F' H' : Hp} {v : V} {d : D} (hk : k.rd = true) (h : k.Rep G H F' H' v d) : Kd.R.Rep G H F' H' v d := by
  cases k with
  | S => exact Or.inl h
  | R => exact h
  | O s =>
    obtain ⟨A, ow, _⟩ := h
    cases s with
    | sh =>
      cases ow with
      | sh r => exact Or.inl r
      | lst h => cases h
      | tup h => cases h
      | dic h => cases h
      | obj h => cases h
    | flat => exact Or.inr ⟨A, ow⟩
    | parts l => cases hk
theorem Kd.Rep.later (s : Same H H1) : ∀ {k : Kd} {F' H' : Hp} {v : V} {d : D}, k.Rep G H1 F' H' v d → k.Rep G H F' H' v d
  | .S, _, _, _, _, h => h
  | .R, _, _, _, _, h => h
  | .O _, _, _, _, _, ⟨A, h, n⟩ => ⟨A, h, fun a ha => s.free (n a ha)⟩
/-- it stays while the heap grows -/
theorem Kd.Rep.grow {H F1 H1 F2 H2 : Hp} (g : Grow F1 H1 F2 H2) : ∀ {k : Kd} {v : V} {d : D}, k.Rep G H F1 H1 v d → k.Rep G H F2 H2 v d
  | .S, _, _, h => Mir.Rep.mono g.f h
  | .R, _, _, .inl h => .inl (Mir.Rep.mono g.f h)
  | .R, _, _, .inr ⟨A, h⟩ => .inr ⟨A, h.grow g⟩
  | .O _, _, _, ⟨A, h, n⟩ => ⟨A, h.grow g, n⟩
theorem Out.grow {P : Hp → Hp → α → Prop} {x : Res α} (h : Out G W σ F H P x) (g : Grow F H F1 H1) : Out G W σ F1 H1 P x := by
  cases x with
  | ok a => exact fun F' H' q => h F' H' (g.trans q)
  | er e => exact fun cls dd F' H' q => h cls dd F' H' (g.trans q)
  | bad => exact h
theorem Out.imp {P P' : Hp → Hp → α → Prop} {x : Res α} (h : Out G W σ F H P x) (i : ∀ F' H' a, Grow F H F' H' → P F' H' a → P' F' H' a) : Out G W σ F H P' x := by
  cases x with
  | ok a => exact fun F' H' q => i F' H' a q (h F' H' q)
  | er e => exact h
  | bad => exact h
/-- behind the first of two -/
theorem Out.bind {P : Hp → Hp → β → Prop} {P1 : Hp → Hp → α → Prop} {x : Res α} {g : α → Res β} (h : Out G W σ F H P (x >>= g)) (i : ∀ F' H' a, Grow F H F' H' → Out G W σ F' H' P (g a) → P1 F' H' a) : Out G W σ F H P1 x := by
  cases x with
  | ok a => exact fun F' H' q => i F' H' a q (Out.grow h q)
  | er e => exact h
  | bad => exact h
theorem Out.val {P : Hp → Hp → α → Prop} {x : Res α} {a : α} (h : Out G W σ F H P x) (e : x = .ok a) (s : Same F H) : P F H a := by
  subst e
  exact h F H (Grow.refl s)
end

/-! ### names, constants -/
section
variable {X : Cx} {W : Wi}
theorem re_var (i : Nat) {x : Str} {pos : Pos} (hN : X.N[i]? = some x := by rfl) (hv : Vis X.env.scope x := by first | exact Or.inl rfl | exact Or.inr (Or.inl rfl) | exact Or.inr (Or.inr rfl)) (hd : (x == ("__debug__" : Str)) = false := by decide)
    (hcd : (x == ("__classdict__" : Str)) = false := by decide) : RE X W .S (.Name x pos) (getS i) := by
  refine (pe_var hN hv hd hcd).imp fun σ H Q ⟨H0, F0, fp, F, r, m, o⟩ => ?_
  cases e : getS i r with
  | ok d =>
    obtain ⟨v, h1, h2⟩ := m.getS e
    exact ⟨v, h1, o.val e m.sub v h2⟩
  | er x => exact (getS_not_er e).elim
  | bad => rw [e] at o; exact o.elim
theorem re_varR (i : Nat) {x : Str} {pos : Pos} (hN : X.N[i]? = some x := by rfl) (hv : Vis X.env.scope x := by first | exact Or.inl rfl | exact Or.inr (Or.inl rfl) | exact Or.inr (Or.inr rfl)) (hd : (x == ("__debug__" : Str)) = false := by decide)
    (hcd : (x == ("__classdict__" : Str)) = false := by decide) : RE X W .R (.Name x pos) (getR i) := by
  refine (pe_var hN hv hd hcd).imp fun σ H Q ⟨H0, F0, fp, F, r, m, o⟩ => ?_
  cases e : getR i r with
  | ok d =>
    obtain ⟨v, h1, h2⟩ := m.getR e
    exact ⟨v, h1, o.val e m.sub v h2⟩
  | er x => exact (getR_not_er e).elim
  | bad => rw [e] at o; exact o.elim
theorem re_cst {e : Expr} {v : V} {d : D} (h : PE X e (tC v)) (r : ∀ F, Rep (gOf X) F v d) : RE X W .S e (fun _ => .ok d) :=
  h.imp fun σ H Q ⟨H0, F0, fp, F, _, m, o⟩ => o F H (Grow.refl m.sub) v (r F)
theorem re_int {i j pos} : RE X W .S (.Constant (.int i) j pos) (fun _ => .ok (.int i)) := re_cst pe_int fun _ => .int i
theorem re_bl {b j pos} : RE X W .S (.Constant (.bool b) j pos) (fun _ => .ok (.bl b)) := re_cst pe_bl fun _ => .bl b
theorem re_non {j pos} : RE X W .S (.Constant .none j pos) (fun _ => .ok .non) := re_cst pe_non fun _ => .non
theorem re_str {x j pos} : RE X W .S (.Constant (.str x) j pos) (fun _ => .ok (.str x)) := re_cst pe_str fun _ => .str x
/-- a shared value, one's own: to be read -/
theorem re_rd {k : Kd} {e : Expr} {f : Env → Res D} (h : RE X W k e f) (hk : k.rd = true := by rfl) : RE X W .R e f :=
  h.imp fun σ H Q ⟨H0, F0, fp, F, r, m, o⟩ => ⟨H0, F0, fp, F, r, m, o.imp fun F' H' d _ p v kr => p v (Kd.R_of hk kr)⟩
/-- one's own is shared -/
theorem re_share {s : Shape} {e : Expr} {f : Env → Res D} (h : RE X W (.O s) e f) : RE X W .S e f :=
  h.imp fun σ H Q ⟨H0, F0, fp, F, r, m, o⟩ => ⟨H0, F0, fp, F, r, m, by
    cases e : f r with
    | ok d =>
      rw [e] at o
      intro F' H' g v ⟨A, ow, n⟩
      refine o (share F' H' A) H' ⟨g.h, g.f.trans (share_same g.sub A), share_sub g.sub A, fun a u q => ?_⟩ v (ow.rep g.sub A fun _ z => z)
      by_cases ha : a ∈ A
      · exact .inr (n a ha)
      · rw [share_ne ha] at q
        exact g.new a u q
    | er x => rw [e] at o; exact o
    | bad => rw [e] at o; exact o⟩
/-! ### argument lists -/
theorem ra_nil : RA X W [] (fun _ => .ok []) := pa_nil.imp fun σ H Q ⟨H0, F0, fp, F, r, m, o⟩ => o F H (Grow.refl m.sub) [] .nil
theorem ra_cons {e : Expr} {es : List Expr} {f : Env → Res D} {g : Env → Res (List D)} (he : RE X W .S e f) (hr : RA X W es g) (hs : starEach (e :: es) X.env = (false, eval e X.env) :: starEach es X.env := by rfl) :
    RA X W (e :: es) (fun r => f r >>= fun d => g r >>= fun ds => .ok (d :: ds)) :=
  (pa_cons he hr hs).imp fun σ H Q ⟨H0, F0, fp, F, r, m, o⟩ => ⟨H0, F0, fp, F, r, m, o.bind fun F1 H1 d g1 o1 v kv =>
    ⟨H0, F0, fp, F1, r, m.grow g1, o1.bind fun F2 H2 ds g2 o2 vs rv => o2 F2 H2 (Grow.refl g2.sub) (v :: vs) (.cons (Mir.Rep.mono g2.f kv) rv)⟩⟩
end

/-! ### operators by values -/
/-- what an operation by values is worth -/
def OpD (G : GC) (rr : R2) (k1 k2 k : Kd) (op : D → D → Res D) : Prop := ∀ (F H : Hp) (x y : V) (a b d : D) (Q : VK) (Ha Hb : Hp), Same F H → k1.Rep G Ha F H x a → k2.Rep G Hb F H y b → op a b = .ok d → (∀ v F' H', Grow F H F' H' → k.Rep G H F' H' v d → Q v H') → rr x y H Q
def NoEr2 (op : D → D → Res D) : Prop := ∀ a b e, op a b ≠ .er e
section
variable {X : Cx} {W : Wi} {k1 k2 k : Kd} {a b : Expr} {fa fb : Env → Res D} {pos : Pos} {op : D → D → Res D}
theorem t_op {rr : R2} (h : OpD (gOf X) rr k1 k2 k op) (ne : NoEr2 op) (σ : L2.St) (H : Hp) (Q : VK)
    (t : tE (gOf X) W k (fun r => fa r >>= fun x => fb r >>= fun y => op x y) σ H Q) : tOp rr (tE (gOf X) W k1 fa) (tE (gOf X) W k2 fb) σ H Q := by
  obtain ⟨H0, F0, fp, F, r, m, o⟩ := t
  refine ⟨H0, F0, fp, F, r, m, o.bind fun F1 H1 d g1 o1 v kv => ⟨H0, F0, fp, F1, r, m.grow g1, o1.bind fun F2 H2 e g2 o2 u ku => ?_⟩⟩
  cases z : op d e with
  | ok w =>
    rw [z] at o2
    exact h F2 H2 v u d e w Q _ _ g2.sub (kv.grow g2) ku z fun v' F' H' g kr => o2 F' H' g v' (kr.later (g1.h.trans g2.h))
  | er x => exact (ne _ _ _ z).elim
  | bad => rw [z] at o2; exact o2.elim
theorem re_op {o : Operator} {rr : R2} (ho : OpR X (binaryOp o) rr) (h : OpD (gOf X) rr k1 k2 k op) (ne : NoEr2 op) (ha : RE X W k1 a fa) (hb : RE X W k2 b fb) :
    RE X W k (.BinOp a o b pos) (fun r => fa r >>= fun x => fb r >>= fun y => op x y) := (pe_op ho ha hb).imp (t_op h ne)
theorem re_cmp {o : CmpOp} {rr : R2} (ho : OpR X (compareOp o) rr) (h : OpD (gOf X) rr k1 k2 k op) (ne : NoEr2 op) (ha : RE X W k1 a fa) (hb : RE X W k2 b fb) (hm : behindInMarks o b = false) :
    RE X W k (.Compare a [o] [b] pos) (fun r => fa r >>= fun x => fb r >>= fun y => op x y) := (pe_cmpR ho ha hb hm).imp (t_op h ne)
end
end Mir

/-! Statements over data. -/
namespace Mir
open PySem PySem.Spec PyProof.Rows L2

/-- how a block ends -/
inductive Oc where
  | nx (r : Env) | rt (d : D) | bk (r : Env) | ct (r : Env) | er (e : D) (r : Env) | bad
def Oc.seq (o : Oc) (g : Env → Oc) : Oc := match o with
  | .nx r => g r
  | o => o
@[simp] theorem nx_seq (r : Env) (g : Env → Oc) : (Oc.nx r).seq g = g r := rfl
@[simp] theorem rt_seq (d : D) (g : Env → Oc) : (Oc.rt d).seq g = .rt d := rfl
@[simp] theorem bk_seq (r : Env) (g : Env → Oc) : (Oc.bk r).seq g = .bk r := rfl
@[simp] theorem ct_seq (r : Env) (g : Env → Oc) : (Oc.ct r).seq g = .ct r := rfl
@[simp] theorem er_seq (e : D) (r : Env) (g : Env → Oc) : (Oc.er e r).seq g = .er e r := rfl
@[simp] theorem bad_seq (g : Env → Oc) : Oc.bad.seq g = .bad := rfl
/-- an expression ahead of the rest -/
def lift {α : Type} (x : Res α) (r : Env) (g : α → Oc) : Oc := match x with
  | .ok a => g a
  | .er e => .er e r
  | .bad => .bad
@[simp] theorem lift_ok {α : Type} (a : α) (r : Env) (g : α → Oc) : lift (.ok a) r g = g a := rfl
@[simp] theorem lift_er {α : Type} (e : D) (r : Env) (g : α → Oc) : lift (.er e : Res α) r g = .er e r := rfl
@[simp] theorem lift_bad {α : Type} (r : Env) (g : α → Oc) : lift (.bad : Res α) r g = .bad := rfl
/-- the names behind a target -/
def into (x : Res Env) : Oc := match x with
  | .ok r => .nx r
  | _ => .bad
@[simp] theorem into_ok (r : Env) : into (.ok r) = .nx r := rfl

/-- what is due behind a statement -/
def OutS (G : GC) (W : Wi) (k : Kd) (H0 F0 F : Hp) (D : Ends) : Oc → Prop
  | .nx r => ∀ fp F' σ' H', Same F F' → MS G W.J H0 F0 fp F' σ' H' r → D.nx σ' H'
  | .rt d => ∀ F' H' v, Same F F' → Grow F0 H0 F' H' → k.Rep G H0 F' H' v d → D.rt v H'
  | .bk r => ∀ fp F' σ' H', Same F F' → MS G W.J H0 F0 fp F' σ' H' r → D.bk σ' H'
  | .ct r => ∀ fp F' σ' H', Same F F' → MS G W.J H0 F0 fp F' σ' H' r → D.ct σ' H'
  | .er e r => ∀ fp F' σ' H' cls dd, Same F F' → MS G W.J H0 F0 fp F' σ' H' r → ExcIs G F' cls dd e → W.w cls dd σ' H'
  | .bad => False
def tS (G : GC) (W : Wi) (k : Kd) (g : Env → Oc) : TS := fun D σ H => ∃ H0 F0 fp F r, MS G W.J H0 F0 fp F σ H r ∧ OutS G W k H0 F0 F D (g r)
abbrev RS (X : Cx) (W : Wi) (k : Kd) (s : Stmt) (g : Env → Oc) : Prop := PS X s (tS (gOf X) W k g)
abbrev RSs (X : Cx) (W : Wi) (k : Kd) (s : List Stmt) (g : Env → Oc) : Prop := PSs X s (tS (gOf X) W k g)

section
variable {G : GC} {W : Wi} {k : Kd} {σ : L2.St} {H F F1 : Hp} {H0 F0 : Hp} {fp : Nat → List Addr} {r : Env} {D : Ends}
theorem MS.g0 {J : L2.St → Prop} (m : MS G J H0 F0 fp F σ H r) : Grow F0 H0 F H := ⟨m.s0, m.f0, m.sub, m.new⟩
theorem OutS.same {o : Oc} (h : OutS G W k H0 F0 F D o) (s : Same F F1) : OutS G W k H0 F0 F1 D o := by
  cases o with
  | nx r => exact fun fp F' σ' H' q m => h fp F' σ' H' (s.trans q) m
  | rt d => exact fun F' H' v q g kr => h F' H' v (s.trans q) g kr
  | bk r => exact fun fp F' σ' H' q m => h fp F' σ' H' (s.trans q) m
  | ct r => exact fun fp F' σ' H' q m => h fp F' σ' H' (s.trans q) m
  | er e r => exact fun fp F' σ' H' cls dd q m x => h fp F' σ' H' cls dd (s.trans q) m x
  | bad => exact h
/-- the first of two -/
theorem OutS.seq {o : Oc} {g : Env → Oc} (h : OutS G W k H0 F0 F D (o.seq g)) : OutS G W k H0 F0 F { D with nx := tS G W k g D } o := by
  cases o with
  | nx r => exact fun fp F' σ' H' q m => ⟨H0, F0, fp, F', r, m, h.same q⟩
  | rt d => exact h
  | bk r => exact h
  | ct r => exact h
  | er e r => exact h
  | bad => exact h
/-- an expression ahead -/
theorem OutS.lift {α : Type} {x : Res α} {g : α → Oc} {P : Hp → Hp → α → Prop} (m : MS G W.J H0 F0 fp F σ H r) (h : OutS G W k H0 F0 F D (lift x r g)) (i : ∀ F' H' a, Grow F H F' H' → OutS G W k H0 F0 F' D (g a) → P F' H' a) : Out G W σ F H P x := by
  cases x with
  | ok a => exact fun F' H' gr => i F' H' a gr (OutS.same h gr.f)
  | er e => exact fun cls dd F' H' gr x => h fp F' σ H' cls dd gr.f (m.grow gr) x
  | bad => exact h
end

section
variable {X : Cx} {W : Wi} {k : Kd}
theorem rss_nil : RSs X W k [] (fun r => .nx r) := pss_nil.imp fun D σ H ⟨H0, F0, fp, F, r, m, o⟩ => o fp F σ H (Same.refl _) m
theorem rss_cons {s : Stmt} {ss : List Stmt} {g1 g2 : Env → Oc} (h1 : RS X W k s g1) (h2 : RSs X W k ss g2) : RSs X W k (s :: ss) (fun r => (g1 r).seq g2) :=
  (pss_cons h1 h2).imp fun D σ H ⟨H0, F0, fp, F, r, m, o⟩ => ⟨H0, F0, fp, F, r, m, o.seq⟩
theorem rss_one {s : Stmt} {g : Env → Oc} (h1 : RS X W k s g) : RSs X W k [s] g := pss_one h1
theorem rss_never {ss : List Stmt} : RSs X W k ss (fun _ => .bad) := pss_never.imp fun D σ H ⟨_, _, _, _, _, _, o⟩ => o
theorem rs_never {s : Stmt} : RS X W k s (fun _ => .bad) := ps_never.imp fun D σ H ⟨_, _, _, _, _, _, o⟩ => o
theorem rs_pass {pos : Pos} : RS X W k (.Pass pos) (fun r => .nx r) := ps_pass.imp fun D σ H ⟨H0, F0, fp, F, r, m, o⟩ => o fp F σ H (Same.refl _) m
theorem rs_break {pos : Pos} : RS X W k (.Break pos) (fun r => .bk r) := ps_break.imp fun D σ H ⟨H0, F0, fp, F, r, m, o⟩ => o fp F σ H (Same.refl _) m
theorem rs_continue {pos : Pos} : RS X W k (.Continue pos) (fun r => .ct r) := ps_continue.imp fun D σ H ⟨H0, F0, fp, F, r, m, o⟩ => o fp F σ H (Same.refl _) m
/-- names that one owns are shared ahead of a statement -/
theorem rs_freeze (i : Nat) {s : Stmt} {g : Env → Oc} (h : RS X W k s g) : RS X W k s (fun r => g (freeze i r)) :=
  h.imp fun D σ H ⟨H0, F0, fp, F, r, m, o⟩ => let ⟨F', s, m'⟩ := m.freeze i; ⟨H0, F0, fp, F', _, m', o.same s⟩
theorem rs_if {c : Expr} {a b : List Stmt} {pos : Pos} {f : Env → Res Bool} {ga gb : Env → Oc} (hc : RT X W c f) (ha : RSs X W k a ga) (hb : RSs X W k b gb) :
    RS X W k (.If c a b pos) (fun r => lift (f r) r fun t => if t = true then ga r else gb r) :=
  (ps_if hc ha hb).imp fun D σ H ⟨H0, F0, fp, F, r, m, o⟩ => ⟨H0, F0, fp, F, r, m, o.lift m fun F' H' t g o' => by
    cases t with
    | true => exact ⟨H0, F0, fp, F', r, m.grow g, o'⟩
    | false => exact ⟨H0, F0, fp, F', r, m.grow g, o'⟩⟩
theorem rs_ret {e : Expr} {pos : Pos} {f : Env → Res D} (he : RE X W k e f) : RS X W k (.Return (some e) pos) (fun r => lift (f r) r fun d => .rt d) :=
  (ps_ret he).imp fun D σ H ⟨H0, F0, fp, F, r, m, o⟩ => ⟨H0, F0, fp, F, r, m, o.lift m fun F' H' d g o' v kv => o' F' H' v (Same.refl _) (m.grow g).g0 (kv.later m.s0)⟩
theorem rs_retN {pos : Pos} : RS X W .S (.Return none pos) (fun _ => .rt .non) :=
  ps_retN.imp fun D σ H ⟨H0, F0, fp, F, r, m, o⟩ => o F H .non (Same.refl _) m.g0 .non
theorem rs_expr {k' : Kd} {e : Expr} {pos : Pos} {f : Env → Res D} (he : RE X W k' e f) (hs : swapsWith e none pos.line X.env = pure false := by rfl) : RS X W k (.Expr e pos) (fun r => lift (f r) r fun _ => .nx r) :=
  (ps_expr he hs).imp fun D σ H ⟨H0, F0, fp, F, r, m, o⟩ => ⟨H0, F0, fp, F, r, m, o.lift m fun F' H' d g o' v kv => o' fp F' σ H' (Same.refl _) (m.grow g)⟩

/-! ### targets -/
theorem jset {i j : Nat} {v0 : Option (Option V)} (h : i ≠ j) : ∀ (σ : L2.St) (v : Option V), σ[j]? = v0 → (σ.set i v)[j]? = v0 := fun σ v e => (List.getElem?_set_ne h).trans e
def tGd (G : GC) (J : L2.St → Prop) (g : D → Env → Res Env) : TG := fun v σ H Q => ∃ H0 F0 fp F r d, MS G J H0 F0 fp F σ H r ∧ Rep G F v d ∧ ∃ r', g d r = .ok r' ∧ ∀ fp' σ', MS G J H0 F0 fp' F σ' H r' → Q σ' H
def tGds (G : GC) (J : L2.St → Prop) (g : List D → Env → Res Env) : TGs := fun vs σ H Q => ∃ H0 F0 fp F r ds, MS G J H0 F0 fp F σ H r ∧ RepAll G F vs ds ∧ ∃ r', g ds r = .ok r' ∧ ∀ fp' σ', MS G J H0 F0 fp' F σ' H r' → Q σ' H
abbrev RG (X : Cx) (J : L2.St → Prop) (tg : Expr) (g : D → Env → Res Env) : Prop := PG X tg (tGd (gOf X) J g)
abbrev RGs (X : Cx) (J : L2.St → Prop) (tg : List Expr) (g : List D → Env → Res Env) : Prop := PGs X tg (tGds (gOf X) J g)
theorem PG.imp {e : Expr} {t t' : TG} (h : PG X e t) (i : ∀ v σ H Q, t' v σ H Q → t v σ H Q) : PG X e t' := ⟨fun pins s σ H v u Q I r hw => h.run pins s σ H v u Q I r (i v σ H Q hw)⟩
theorem PGs.imp {e : List Expr} {t t' : TGs} (h : PGs X e t) (i : ∀ v σ H Q, t' v σ H Q → t v σ H Q) : PGs X e t' := ⟨fun pins s σ H v u Q I r hw => h.run pins s σ H v u Q I r (i v σ H Q hw)⟩
theorem rg_name {J : L2.St → Prop} (i : Nat) {x : Str} {pos : Pos} (hN : X.N.Nodup) (hJ : ∀ σ v, J σ → J (σ.set i v) := by first | exact fun _ _ h => h | exact jset (by decide)) (hi : X.N[i]? = some x := by rfl) (hx : Loc X.env.scope x := by first | exact Or.inl rfl | exact Or.inr rfl) (hf : X.fn x = true ∨ X.env.scope.names.lookup x = some .local := by first | exact .inl rfl | exact .inr rfl) :
    RG X J (.Name x pos) (fun d r => .ok (r.set i (.sh d))) :=
  PG.imp (pg_name hN hi hx hf) fun v σ H Q ⟨H0, F0, fp, F, r, d, m, rv, r', e, q⟩ => by
    cases e
    exact q fp _ (m.setS i rv hJ)
theorem rgs_nil {J : L2.St → Prop} : RGs X J [] (fun ds r => match ds with
    | [] => .ok r
    | _ => .bad) :=
  PGs.imp pgs_nil fun vs σ H Q ⟨H0, F0, fp, F, r, ds, m, rv, r', e, q⟩ => by
    cases rv with
    | nil => cases e; exact ⟨rfl, q fp σ m⟩
    | cons _ _ => cases e
theorem rgs_cons {J : L2.St → Prop} {e : Expr} {es : List Expr} {g : D → Env → Res Env} {gs : List D → Env → Res Env} (h1 : RG X J e g) (h2 : RGs X J es gs) (hs : (assignEach (e :: es) X.env).map (·.2) = assign e X.env :: (assignEach es X.env).map (·.2) := by rfl) :
    RGs X J (e :: es) (fun ds r => match ds with
    | d :: ds => g d r >>= fun r' => gs ds r'
    | [] => .bad) :=
  PGs.imp (pgs_cons h1 h2 hs) fun vs σ H Q ⟨H0, F0, fp, F, r, ds, m, rv, r', e, q⟩ => by
    cases rv with
    | nil => cases e
    | @cons v d vs ds rv rr =>
      have e' : (g d r >>= fun r' => gs ds r') = .ok r' := e
      cases e1 : g d r with
      | ok r1 =>
        rw [e1] at e'
        exact ⟨v, vs, rfl, H0, F0, fp, F, r, d, m, rv, r1, e1, fun fp1 σ1 m1 => ⟨H0, F0, fp1, F, r1, ds, m1, rr, r', e', q⟩⟩
      | er x => rw [e1] at e'; cases e'
      | bad => rw [e1] at e'; cases e'
theorem rg_tup {J : L2.St → Prop} {es : List Expr} {kk : Nat} {pos : Pos} {gs : List D → Env → Res Env} {n : Nat} (hc : X.calm = true) (h : RGs X J es gs) (hn : (assignEach es X.env).length = n := by rfl) (hst : (assignEach es X.env).findIdx? (·.1) = none := by rfl) :
    RG X J (.Tuple es kk pos) (fun d r => match d with
    | .tup ds => if ds.length = n then gs ds r else .bad
    | _ => .bad) :=
  PG.imp (pg_tup hc h hn hst) fun v σ H Q ⟨H0, F0, fp, F, r, d, m, rv, r', e, q⟩ => by
    cases rv with
    | @tup a vs ds sq ra =>
      have e' : (if ds.length = n then gs ds r else .bad) = .ok r' := e
      split at e'
      · rename_i hl
        exact ⟨a, vs, rfl, Same.sqT m.sub sq, by rw [ra.length]; exact hl, H0, F0, fp, F, r, ds, m, ra, r', e', q⟩
      · cases e'
    | _ => cases e
theorem t_asg {e : Expr} {te : TE} {f : Env → Res D} {g : D → Env → Res Env} {D : Ends} {σ : L2.St} {H : Hp}
    (t : tS (gOf X) W k (fun r => lift (f r) r fun d => into (g d r)) D σ H) : tAsg (tE (gOf X) W .S f) (tGd (gOf X) W.J g) D σ H := by
  obtain ⟨H0, F0, fp, F, r, m, o⟩ := t
  refine ⟨H0, F0, fp, F, r, m, o.lift m fun F' H' d gr o' v kv => ?_⟩
  cases e1 : g d r with
  | ok r1 =>
    rw [e1] at o'
    exact ⟨H0, F0, fp, F', r, d, m.grow gr, kv, r1, e1, fun fp' σ' m' => o' fp' F' σ' H' (Same.refl _) m'⟩
  | er x => rw [e1] at o'; exact o'.elim
  | bad => rw [e1] at o'; exact o'.elim
theorem rs_asg {tg e : Expr} {pos : Pos} {f : Env → Res D} {g : D → Env → Res Env} (he : RE X W .S e f) (hg : RG X W.J tg g) (hs : swapsWithSole [tg] e pos.line X.env = pure false := by rfl) (hw : swappedStores [tg] e X.env = pure none := by rfl)
    (h1 : (assignEach [tg] X.env).map (·.2) = [assign tg X.env] := by rfl) : RS X W k (.Assign [tg] e pos) (fun r => lift (f r) r fun d => into (g d r)) :=
  (ps_asg he hg hs hw h1).imp fun D σ H t => t_asg (e := e) (te := tE (gOf X) W .S f) t
theorem rs_set (i : Nat) {x : Str} {e : Expr} {pos pos' : Pos} {f : Env → Res D} (hN : X.N.Nodup) (he : RE X W .S e f) (hJ : ∀ σ v, W.J σ → W.J (σ.set i v) := by first | exact fun _ _ h => h | exact jset (by decide)) (hi : X.N[i]? = some x := by rfl) (hx : Loc X.env.scope x := by first | exact Or.inl rfl | exact Or.inr rfl)
    (hs : swapsWith e (some (.Name x pos')) pos.line X.env = pure false := by rfl) (hf : X.fn x = true ∨ X.env.scope.names.lookup x = some .local := by first | exact .inl rfl | exact .inr rfl) :
    RS X W k (.Assign [.Name x pos'] e pos) (fun r => lift (f r) r fun d => .nx (r.set i (.sh d))) :=
  (ps_set hN hi hx he hs hf).imp fun D σ H ⟨H0, F0, fp, F, r, m, o⟩ => ⟨H0, F0, fp, F, r, m, o.lift m fun F' H' d gr o' v kv => o' fp F' _ H' (Same.refl _) ((m.grow gr).setS i kv hJ)⟩
theorem MS.setNew {G : GC} {J : L2.St → Prop} {H0 F0 F H F' H' : Hp} {fp : Nat → List Addr} {σ : L2.St} {r : Env} (m : MS G J H0 F0 fp F σ H r) (gr : Grow F H F' H') {v : V} {d : D} {s : Shape} (i : Nat) (kv : (Kd.O s).Rep G H F' H' v d) (hJ : ∀ σ v, J σ → J (σ.set i v)) :
    ∃ fp', MS G J H0 F0 fp' F' (σ.set i (some v)) H' (r.set i (.ow s d)) := by
  obtain ⟨A, ow, n⟩ := kv
  refine ⟨_, (m.grow gr).setO i ow (fun a ha => m.s0.free (n a ha)) (fun j t e ne h a ha hb => ?_) hJ⟩
  obtain ⟨⟨w, _, o2⟩, _⟩ := m.ow j t e h
  obtain ⟨_, u, z⟩ := o2.there a hb
  rw [n a ha] at z
  cases z
/-- name = a thing of one's own -/
theorem rs_setO (i : Nat) {s : Shape} {x : Str} {e : Expr} {pos pos' : Pos} {f : Env → Res D} (hN : X.N.Nodup) (he : RE X W (.O s) e f) (hJ : ∀ σ v, W.J σ → W.J (σ.set i v) := by first | exact fun _ _ h => h | exact jset (by decide)) (hi : X.N[i]? = some x := by rfl) (hx : Loc X.env.scope x := by first | exact Or.inl rfl | exact Or.inr rfl)
    (hs : swapsWith e (some (.Name x pos')) pos.line X.env = pure false := by rfl) (hf : X.fn x = true ∨ X.env.scope.names.lookup x = some .local := by first | exact .inl rfl | exact .inr rfl) :
    RS X W k (.Assign [.Name x pos'] e pos) (fun r => lift (f r) r fun d => .nx (r.set i (.ow s d))) :=
  (ps_set hN hi hx he hs hf).imp fun D σ H ⟨H0, F0, fp, F, r, m, o⟩ => ⟨H0, F0, fp, F, r, m, o.lift m fun F' H' d gr o' v kv =>
    let ⟨fp', m'⟩ := m.setNew gr i kv hJ
    o' fp' F' _ H' (Same.refl _) m'⟩
end

/-! ### loops -/
/-- from the heap B on J walks the data ds, their parts in F -/
structure WalkD (G : GC) (F B : Hp) (J : It) (ds : List D) : Prop where
  goes : ∀ i H, i < ds.length → Same B H → J.go i H
  stops : ∀ H, Same B H → J.stop ds.length H
  yields : ∀ (i : Nat) F2 H2 x H3, i < ds.length → Same F F2 → Same F2 H2 → Same B H2 → J.yld i H2 x H3 → ∃ F3 d, Grow F2 H2 F3 H3 ∧ ds[i]? = some d ∧ Rep G F3 x d
def tI (G : GC) (W : Wi) (b : Bool) (f : Env → Res (List D)) : TI := fun σ H R => ∃ H0 F0 fp F r, MS G W.J H0 F0 fp F σ H r ∧ Out G W σ F H (fun F' H' ds => ∀ J, WalkD G F' (if b = true then F' else H') J ds → R J H') (f r)
/-- what a for walks: b: it stands in the shared part -/
abbrev RI (X : Cx) (W : Wi) (b : Bool) (tg iter : Expr) (f : Env → Res (List D)) : Prop := PI X tg iter (tI (gOf X) W b f)
def forD (f : D → Env → Oc) : List D → Env → Oc
  | [], r => .nx r
  | d :: ds, r => match f d r with
    | .nx r' => forD f ds r'
    | .ct r' => forD f ds r'
    | .bk r' => .nx r'
    | o => o
@[simp] theorem forD_nil (f : D → Env → Oc) (r : Env) : forD f [] r = .nx r := rfl
theorem forD_cons (f : D → Env → Oc) (d : D) (ds : List D) (r : Env) : forD f (d :: ds) r = match f d r with
    | .nx r' => forD f ds r'
    | .ct r' => forD f ds r'
    | .bk r' => .nx r'
    | o => o := rfl
section
variable {X : Cx} {W : Wi} {k : Kd}
theorem rs_for {tg iter : Expr} {body : List Stmt} {pos : Pos} {f : Env → Res (List D)} {g : D → Env → Res Env} {gb : Env → Oc} (hp : PassesOwn (model X.prog X.w) X.A X.env X.xe) (hc : X.calm = true) (hi : RI X W true tg iter f) (hg : RG X W.J tg g) (hb : RSs X W k body gb)
    (hs : ∀ x, foldedSetIterable iter X.env x = pure x := by intro _; rfl) : RS X W k (.For tg iter body [] pos) (fun r => lift (f r) r fun ds => forD (fun d r => (into (g d r)).seq gb) ds r) :=
  (ps_for hp hc hi hg hb hs).imp fun D σ H ⟨H0, F0, fp, F, r, m, o⟩ => ⟨H0, F0, fp, F, r, m, o.lift m fun F1 H1 ds gr o1 J w => by
    rw [if_pos rfl] at w
    refine ⟨fun i n σ H => n = ds.length - i ∧ i ≤ ds.length ∧ ∃ fp F r, Same F1 F ∧ MS (gOf X) W.J H0 F0 fp F σ H r ∧ OutS (gOf X) W k H0 F0 F D (forD (fun d r => (into (g d r)).seq gb) (ds.drop i) r),
      ⟨ds.length, by simp, Nat.zero_le _, fp, F1, r, Same.refl _, m.grow gr, by simpa using o1⟩, ?_⟩
    rintro i n σ H ⟨rfl, hi, fp, F, r, sF, m, o⟩
    by_cases hlt : i < ds.length
    · refine .inr ⟨w.goes i H hlt (sF.trans m.sub), fun σ' H' => i + 1 ≤ ds.length ∧ ∃ fp F r, Same F1 F ∧ MS (gOf X) W.J H0 F0 fp F σ' H' r ∧ OutS (gOf X) W k H0 F0 F D (forD (fun d r => (into (g d r)).seq gb) (ds.drop (i + 1)) r),
        fun σ' H' ⟨h1, h2⟩ => ⟨ds.length - (i + 1), by omega, rfl, h1, h2⟩, fun x H' y => ?_⟩
      obtain ⟨F3, d, g3, ed, rx⟩ := w.yields i F H x H' hlt sF m.sub (sF.trans m.sub) y
      have e : ds.drop i = d :: ds.drop (i + 1) := by
        rw [List.drop_eq_getElem_cons hlt]
        rw [List.getElem?_eq_getElem hlt] at ed
        rw [Option.some.inj ed]
      rw [e, forD_cons] at o
      cases e1 : g d r with
      | ok r1 =>
        rw [e1] at o
        refine ⟨H0, F0, fp, F3, r, d, m.grow g3, rx, r1, e1, fun fp' σ' m' => ⟨H0, F0, fp', F3, r1, m', ?_⟩⟩
        have o' : OutS (gOf X) W k H0 F0 F3 D _ := OutS.same o g3.f
        simp only [into_ok, nx_seq] at o'
        cases e2 : gb r1 with
        | nx r2 => rw [e2] at o'; exact fun fp2 F2 σ2 H2 q m2 => ⟨hlt, fp2, F2, r2, (sF.trans g3.f).trans q, m2, o'.same q⟩
        | ct r2 => rw [e2] at o'; exact fun fp2 F2 σ2 H2 q m2 => ⟨hlt, fp2, F2, r2, (sF.trans g3.f).trans q, m2, o'.same q⟩
        | bk r2 => rw [e2] at o'; exact o'
        | rt d2 => rw [e2] at o'; exact o'
        | er x2 r2 => rw [e2] at o'; exact o'
        | bad => rw [e2] at o'; exact o'
      | er x2 => rw [e1] at o; exact o.elim
      | bad => rw [e1] at o; exact o.elim
    · have e : i = ds.length := by omega
      subst e
      rw [List.drop_length] at o
      exact .inl ⟨w.stops H (sF.trans m.sub), o fp F σ H (Same.refl _) m⟩⟩
/-- a while of at most so many turns -/
def whileD (c : Env → Res Bool) (b : Env → Oc) : Nat → Env → Oc
  | 0, _ => .bad
  | n + 1, r => lift (c r) r fun t => if t = true then (match b r with
    | .nx r' => whileD c b n r'
    | .ct r' => whileD c b n r'
    | .bk r' => .nx r'
    | o => o) else .nx r
theorem rs_while {c : Expr} {body : List Stmt} {pos : Pos} {f : Env → Res Bool} {gb : Env → Oc} (hp : PassesOwn (model X.prog X.w) X.A X.env X.xe) (hc : RT X W c f) (hb : RSs X W k body gb) (N : Env → Nat) :
    RS X W k (.While c body [] pos) (fun r => whileD f gb (N r) r) :=
  (ps_while hp hc hb).imp fun D σ H ⟨H0, F0, fp, F, r, m, o⟩ => by
    refine ⟨fun n σ H => ∃ fp F' r, Same F F' ∧ MS (gOf X) W.J H0 F0 fp F' σ H r ∧ OutS (gOf X) W k H0 F0 F' D (whileD f gb n r), ⟨N r, fp, F, r, Same.refl _, m, o⟩, ?_⟩
    rintro n σ H ⟨fp, F1, r, s, m, o⟩
    cases n with
    | zero => exact o.elim
    | succ n =>
      refine ⟨H0, F0, fp, F1, r, m, OutS.lift m (show OutS (gOf X) W k H0 F0 F1 D (lift (f r) r _) from o) fun F2 H2 t g o2 => ?_⟩
      cases t with
      | false => exact o2 fp F2 σ H2 (Same.refl _) (m.grow g)
      | true =>
        rw [if_pos rfl]
        rw [if_pos rfl] at o2
        refine ⟨fun σ' H' => ∃ fp F' r, Same F F' ∧ MS (gOf X) W.J H0 F0 fp F' σ' H' r ∧ OutS (gOf X) W k H0 F0 F' D (whileD f gb n r), fun σ' H' q => ⟨n, Nat.lt_succ_self _, q⟩, H0, F0, fp, F2, r, m.grow g, ?_⟩
        cases e2 : gb r with
        | nx r2 => rw [e2] at o2; exact fun fp2 F3 σ2 H3 q m2 => ⟨fp2, F3, r2, (s.trans g.f).trans q, m2, o2.same q⟩
        | ct r2 => rw [e2] at o2; exact fun fp2 F3 σ2 H3 q m2 => ⟨fp2, F3, r2, (s.trans g.f).trans q, m2, o2.same q⟩
        | bk r2 => rw [e2] at o2; exact o2
        | rt d2 => rw [e2] at o2; exact o2
        | er x2 r2 => rw [e2] at o2; exact o2
        | bad => rw [e2] at o2; exact o2
end
end Mir

/-! Defs, methods, objects, raised errors. -/
namespace Mir
open PySem PySem.Spec PyProof.Rows L2

/-- what a call is to leave -/
def OutC (G : GC) (E : XK) {α : Type} (F H : Hp) (P : Hp → Hp → α → Prop) : Res α → Prop
  | .ok a => ∀ F' H', Grow F H F' H' → P F' H' a
  | .er e => ∀ cls dd F' H', Grow F H F' H' → ExcIs G F' cls dd e → E cls dd H'
  | .bad => False
/-- the promise of a def of worth g -/
def spM (G : GC) (k : Kd) (g : List D → Res D) : Sp := fun vs H Q E => ∃ F ds, Same F H ∧ RepAll G F vs ds ∧ OutC G E F H (fun F' H' d => ∀ v, k.Rep G H F' H' v d → Q v H') (g ds)
/-- the promise of an __init__: it makes of the arguments the object -/
def spI (G : GC) (c : Nat) (g : List D → Res D) : Sp := fun vs H Q E => ∃ (x dx : Addr) (vs' : List V) (F H0 : Hp) (ds : List D), vs = .ref x :: vs' ∧ H x = some (.ins (G.ca c) dx []) ∧ Same H0 H ∧ H0 x = none ∧ Same F H0 ∧ RepAll G F vs' ds ∧
  OutC G E F H0 (fun F' H' d => Rep G F' (.ref x) d → Q .non H') (g ds)
def startD (n : Nat) (ds : List D) : Env := ds.map .sh ++ List.replicate (n - ds.length) .un
/-- a body's worth -/
def runD (p n : Nat) (g : Env → Oc) (ds : List D) : Res D := if ds.length = p then (match g (startD n ds) with
  | .rt d => .ok d
  | .nx _ => .ok .non
  | .er e _ => .er e
  | _ => .bad) else .bad
def runO (p n : Nat) (g : Env → Oc) (ds : List D) : Res D := if ds.length = p then (match g (startD n ds) with
  | .rt d => .ok d
  | .er e _ => .er e
  | _ => .bad) else .bad
def startI (n c : Nat) (ds : List D) : Env := .ow .flat (.obj c []) :: startD (n - 1) ds
def selfR (r : Env) : Res D := match r[0]? with
  | some (Slot.sh d) => .ok d
  | some (Slot.ow _ d) => .ok d
  | _ => .bad
/-- the worth of an __init__ -/
def runI (p n c : Nat) (g : Env → Oc) (ds : List D) : Res D := if ds.length = p then (match g (startI n c ds) with
  | .nx r => selfR r
  | .er e _ => .er e
  | _ => .bad) else .bad

section
variable {G : GC}
theorem startD_un {n : Nat} {ds : List D} {i : Nat} {s : Slot} (h : (startD n ds)[i]? = some s) : (∃ d, ds[i]? = some d ∧ s = .sh d) ∨ s = .un := by
  unfold startD at h
  by_cases hi : i < ds.length
  · rw [List.getElem?_append_left (by simpa using hi), List.getElem?_map] at h
    cases e : ds[i]? with
    | none => rw [e] at h; cases h
    | some d => rw [e] at h; cases h; exact .inl ⟨d, rfl, rfl⟩
  · rw [List.getElem?_append_right (by simpa using hi), List.getElem?_replicate] at h
    split at h
    · cases h; exact .inr rfl
    · cases h
theorem start_at {N : List Str} {vs : List V} {i : Nat} {v : V} (h : vs[i]? = some v) : (L2.start N vs)[i]? = some (some v) := by
  have hi : i < vs.length := (List.getElem?_eq_some_iff.mp h).1
  unfold L2.start
  rw [List.getElem?_append_left (by simpa using hi), List.getElem?_map, h]
  rfl
theorem ms_start {F H : Hp} {N : List Str} {vs : List V} {ds : List D} (s : Same F H) (r : RepAll G F vs ds) : MS G (fun _ => True) H F (fun _ => []) F (L2.start N vs) H (startD N.length ds) where
  jo := trivial
  s0 := Same.refl _
  f0 := Same.refl _
  sub := s
  new := fun _ _ e => .inl e
  len := by
    unfold L2.start startD
    have := r.length
    simp only [List.length_append, List.length_map, List.length_replicate]
    omega
  sh := fun i d e => by
    rcases startD_un e with ⟨d', e1, e2⟩ | e2
    · cases e2
      obtain ⟨v, h1, h2⟩ := r.get e1
      exact ⟨v, start_at h1, h2⟩
    · cases e2
  ow := fun i s d e => by
    rcases startD_un e with ⟨_, _, z⟩ | z <;> cases z
  ap := fun i j s t d e _ h1 _ => by
    rcases startD_un h1 with ⟨_, _, z⟩ | z <;> cases z
end

/-! ### defs -/
section
variable {P : Program} {w : World} {K : PySem.W.Frag} {mg : Str → Option Value} {base : Heap}
abbrev WD (E : XK) : Wi := ⟨fun cls d _ H => E cls d H, fun _ => True⟩
theorem spM_len {G : GC} {k : Kd} {n : Nat} {g : List D → Res D} (hg : ∀ ds, ds.length ≠ n → g ds = .bad) : ∀ vs H Q E, spM G k g vs H Q E → vs.length = n := fun vs H Q E ⟨F, ds, _, r, o⟩ => by
  by_cases h : ds.length = n
  · rw [r.length]; exact h
  · rw [hg ds h] at o; exact o.elim
theorem OutC.out {G : GC} {E : XK} {α : Type} {F H : Hp} {P : Hp → Hp → α → Prop} {x : Res α} (h : OutC G E F H P x) (σ : L2.St) : Out G (WD E) σ F H P x := by
  cases x <;> exact h
/-- A DEF by its body (what it gives is shared) -/
theorem fn_ok {x qual : Str} {st : Stmt} {f : Addr} {fd : FuncData} {N ps : List Str} {k : Nat} {g : Env → Oc} (F : Fun K x qual st f fd) (S : FnScope N ps (defScope st))
    (hb : ∀ (cdv : Value) (A : Around) (outer : List PySem.Env) (s : Shared) (H : Hp) (E : XK), Room k (A.deeper (envOfC qual (defScope st) s.heap.objs.size f cdv)) →
      RSs (cxOf (L2.CX P w) P w K mg base N qual (defScope st) f cdv A outer s H E) (WD E) .S (defBody st) g) : FnOk P w K mg base (L2.CX P w) (k + 1) f fd ps (spM ⟨P, w, K, mg⟩ .S (runD ps.length N.length g)) := by
  refine F.okX S (spM_len fun ds h => if_neg h) fun cdv A outer s H vs Q E hr ⟨F0, ds, s0, r, o⟩ => ⟨_, hb cdv A outer s H E hr, H, F0, _, F0, _, ms_start s0 r, ?_⟩
  unfold runD at o
  split at o
  case isFalse => exact o.elim
  cases e : g (startD N.length ds) with
  | nx r' =>
    rw [e] at o
    exact fun fp F' σ' H' _ m => o F' H' m.g0 .non .non
  | rt d =>
    rw [e] at o
    exact fun F' H' v _ gr kr => o F' H' gr v kr
  | er x r' =>
    rw [e] at o
    exact fun fp F' σ' H' cls dd _ m ex => o cls dd F' H' m.g0 ex
  | bk r' => rw [e] at o; exact o.elim
  | ct r' => rw [e] at o; exact o.elim
  | bad => rw [e] at o; exact o.elim
/-- .. what it gives is the caller's own -/
theorem fn_okO {x qual : Str} {st : Stmt} {f : Addr} {fd : FuncData} {N ps : List Str} {k : Nat} {g : Env → Oc} {sp : Shape} (F : Fun K x qual st f fd) (S : FnScope N ps (defScope st))
    (hb : ∀ (cdv : Value) (A : Around) (outer : List PySem.Env) (s : Shared) (H : Hp) (E : XK), Room k (A.deeper (envOfC qual (defScope st) s.heap.objs.size f cdv)) →
      RSs (cxOf (L2.CX P w) P w K mg base N qual (defScope st) f cdv A outer s H E) (WD E) (.O sp) (defBody st) g) : FnOk P w K mg base (L2.CX P w) (k + 1) f fd ps (spM ⟨P, w, K, mg⟩ (.O sp) (runO ps.length N.length g)) := by
  refine F.okX S (spM_len fun ds h => if_neg h) fun cdv A outer s H vs Q E hr ⟨F0, ds, s0, r, o⟩ => ⟨_, hb cdv A outer s H E hr, H, F0, _, F0, _, ms_start s0 r, ?_⟩
  unfold runO at o
  split at o
  case isFalse => exact o.elim
  cases e : g (startD N.length ds) with
  | rt d =>
    rw [e] at o
    exact fun F' H' v _ gr kr => o F' H' gr v kr
  | er x r' =>
    rw [e] at o
    exact fun fp F' σ' H' cls dd _ m ex => o cls dd F' H' m.g0 ex
  | nx r' => rw [e] at o; exact o.elim
  | bk r' => rw [e] at o; exact o.elim
  | ct r' => rw [e] at o; exact o.elim
  | bad => rw [e] at o; exact o.elim
end

/-! ### what stands in the module, at hand for a call -/
/-- a def of the module by its name -/
structure FnM (P : Program) (w : World) (K : PySem.W.Frag) (mg : Str → Option Value) (base : Heap) (j : Nat) (x : Str) (k : Kd) (g : List D → Res D) : Prop where
  ex : ∃ (f : Addr) (fd : FuncData) (ps : List Str), FnOk P w K mg base (L2.CX P w) j f fd ps (spM ⟨P, w, K, mg⟩ k g) ∧ mg x = some (.ref f) ∧ PySem.W.keepIn K (.ref f) = true ∧ Binds K fd ps []
/-- a method m of the class c -/
structure MtM (P : Program) (w : World) (K : PySem.W.Frag) (mg : Str → Option Value) (base : Heap) (j : Nat) (m : Str) (c : Nat) (k : Kd) (g : List D → Res D) : Prop where
  ex : ∃ (f : Addr) (fd : FuncData) (ps : List Str), FnOk P w K mg base (L2.CX P w) j f fd ps (spM ⟨P, w, K, mg⟩ k g) ∧ Meth K ((⟨P, w, K, mg⟩ : GC).ca c) m f ∧ Binds K fd ps []
  cl : Cls K ((⟨P, w, K, mg⟩ : GC).ca c)
  no : m ∉ cflds c
/-- the class c is made by its __init__ -/
structure MkM (P : Program) (w : World) (K : PySem.W.Frag) (mg : Str → Option Value) (base : Heap) (j : Nat) (c : Nat) (g : List D → Res D) : Prop where
  ex : ∃ (f : Addr) (fd : FuncData) (ps : List Str), FnOk P w K mg base (L2.CX P w) j f fd ps (spI ⟨P, w, K, mg⟩ c g) ∧ Mk K ((⟨P, w, K, mg⟩ : GC).ca c) f ∧ mg (cname c) = some (.ref ((⟨P, w, K, mg⟩ : GC).ca c)) ∧ Binds K fd ps []
/-- an attribute f, by classes: its place -/
structure FldM (K : PySem.W.Frag) (ca : Nat → Addr) (f : Str) (p : Nat → Option Nat) : Prop where
  h : ∀ c i, p c = some i → (cflds c)[i]? = some f ∧ (cflds c).Nodup ∧ Cls K (ca c) ∧ NoAttr K (ca c) f

theorem lookup_zip {f : Str} : ∀ {l : List Str} {ws : List V} {i : Nat} {v : V}, l.Nodup → l[i]? = some f → ws[i]? = some v → (l.zip ws).lookup f = some v
  | [], _, _, _, _, h, _ => by simp at h
  | _ :: _, [], _, _, _, _, h => by simp at h
  | a :: l, w :: ws, 0, v, _, h, q => by
    simp at h q
    subst h q
    simp [List.lookup]
  | a :: l, w :: ws, i + 1, v, n, h, q => by
    have hm : f ∈ l := List.mem_of_getElem? (by simpa using h)
    have ne : f ≠ a := fun e => (List.nodup_cons.mp n).1 (e ▸ hm)
    have e : (f == a) = false := by simpa using ne
    rw [List.zip_cons_cons, List.lookup_cons, e]
    exact lookup_zip (i := i) (List.nodup_cons.mp n).2 (by simpa using h) (by simpa using q)
theorem lookup_zip_none {f : Str} : ∀ {l : List Str} {ws : List V}, f ∉ l → (l.zip ws).lookup f = none
  | [], _, _ => rfl
  | _ :: _, [], _ => rfl
  | a :: l, w :: ws, h => by
    have ne : f ≠ a := fun e => h (e ▸ List.mem_cons_self)
    have e : (f == a) = false := by simpa using ne
    rw [List.zip_cons_cons, List.lookup_cons, e]
    exact lookup_zip_none fun q => h (List.mem_cons_of_mem _ q)

/-- an attribute of an object -/
def fldD (p : Nat → Option Nat) (d : D) : Res D := match d with
  | .obj c vs => match p c with
    | some i => match vs[i]? with
      | some d => .ok d
      | none => .bad
    | none => .bad
  | _ => .bad
/-- the method of an object -/
def mthD (mt : Nat → Option (List D → Res D)) (d : D) : Res (List D → Res D) := match d with
  | .obj c vs => match mt c with
    | some g => .ok fun ds => g (.obj c vs :: ds)
    | none => .bad
  | _ => .bad
theorem fldD_er {p : Nat → Option Nat} {d e : D} (h : fldD p d = .er e) : False := by
  unfold fldD at h
  split at h
  · split at h
    · split at h <;> cases h
    · cases h
  · cases h
theorem fldD_ok {p : Nat → Option Nat} {d e : D} (h : fldD p d = .ok e) : ∃ c vs i, d = .obj c vs ∧ p c = some i ∧ vs[i]? = some e := by
  unfold fldD at h
  split at h
  · rename_i c vs
    split at h
    · rename_i i hp
      split at h
      · rename_i d' hv
        cases h
        exact ⟨c, vs, i, rfl, hp, hv⟩
      · cases h
    · cases h
  · cases h
theorem mthD_er {mt : Nat → Option (List D → Res D)} {d e : D} (h : mthD mt d = .er e) : False := by
  unfold mthD at h
  split at h
  · split at h <;> cases h
  · cases h
theorem mthD_ok {mt : Nat → Option (List D → Res D)} {d : D} {g' : List D → Res D} (h : mthD mt d = .ok g') : ∃ c vs g, d = .obj c vs ∧ mt c = some g ∧ g' = fun ds => g (.obj c vs :: ds) := by
  unfold mthD at h
  split at h
  · rename_i c vs
    split at h
    · rename_i g hm
      cases h
      exact ⟨c, vs, g, rfl, hm, rfl⟩
    · cases h
  · cases h

section
variable {X : Cx} {W : Wi} {k : Kd} {e o : Expr} {es : List Expr} {p pos apos : Pos}
theorem OutC.of {G : GC} {W : Wi} {σ : L2.St} {F H : Hp} {α : Type} {P : Hp → Hp → α → Prop} {x : Res α} (h : Out G W σ F H P x) : OutC G (WE W.w σ) F H P x := by
  cases x <;> exact h
theorem spM_of {G : GC} {W : Wi} {σ : L2.St} {F H1 H : Hp} {g : List D → Res D} {vs : List V} {ds : List D} {Q : VK} (s : Same F H) (hs : Same H1 H) (r : RepAll G F vs ds)
    (o : Out G W σ F H (fun F' H' d => ∀ v, k.Rep G H1 F' H' v d → Q v H') (g ds)) : spM G k g vs H Q (WE W.w σ) :=
  ⟨F, ds, s, r, OutC.of (o.imp fun F' H' d _ q v kv => q v (kv.later hs))⟩
/-- f(e, ..) -/
theorem re_call {j : Nat} {x : Str} {g : List D → Res D} {fa : Env → Res (List D)} (M : FnM X.prog X.w X.K X.mg X.base j x k g) (hr : Room j X.A) (tk : Takes X W.w) (ha : RA X W (e :: es) fa) (hg : Gl X x := by rfl)
    (hdb : (x == ("__debug__" : Str)) = false := by decide) (he : starEach (e :: es) X.env = (false, eval e X.env) :: starEach es X.env := by rfl) (hpl : (backTo pos (starEach es X.env)).any (·.1) = false := by rfl) :
    RE X W k (.Call (.Name x p) (e :: es) [] pos) (fun r => fa r >>= g) := by
  obtain ⟨f, fd, ps, F, hm, hk, hb⟩ := M.ex
  refine ⟨fun pins s σ H Q I ⟨H0, F0, fp, F1, r, m, o⟩ => ?_⟩
  refine wpAny_Call_Name_kw (ld_glob I hg hm ?_ hdb)
  have hw : tA (gOf X) W fa σ H fun vs H1 => spM (gOf X) k g vs H1 Q (WE W.w σ) := ⟨H0, F0, fp, F1, r, m, o.bind fun F2 H2 ds gr o2 vs rv => spM_of gr.sub gr.h rv o2⟩
  refine PySem.W.callWith_K (h₀ := X.base) I.ok.mod.kin hk (thn (ha.run pos pins s σ H _ I hw) fun us s1 ⟨vs, H1, I1, r1, q⟩ => ⟨I1.kIn, ?_⟩) he hpl
  exact run_fnS F hr hb (passAt tk σ) I1 r1 q
theorem re_call0 {j : Nat} {x : Str} {g : List D → Res D} (M : FnM X.prog X.w X.K X.mg X.base j x k g) (hr : Room j X.A) (tk : Takes X W.w) (hg : Gl X x := by rfl)
    (hdb : (x == ("__debug__" : Str)) = false := by decide) : RE X W k (.Call (.Name x p) [] [] pos) (fun _ => g []) := by
  obtain ⟨f, fd, ps, F, hm, hk, hb⟩ := M.ex
  refine ⟨fun pins s σ H Q I ⟨H0, F0, fp, F1, r, m, o⟩ => ?_⟩
  refine wpAny_Call_Name_kw (ld_glob I hg hm ?_ hdb)
  exact PySem.W.callWith_K0 I.kIn hk (run_fnS (us := []) F hr hb (passAt tk σ) I .nil (spM_of m.sub (Same.refl _) .nil o))
/-- o.f -/
theorem re_fld {f : Str} {pt : Nat → Option Nat} {fo : Env → Res D} (M : FldM X.K (gOf X).ca f pt) (ho : RE X W .S o fo) (hb : attributeBase o f X.env (eval o X.env) = eval o X.env := by rfl) : RE X W .S (.Attribute o f pos) (fun r => fo r >>= fldD pt) :=
  (pe_fld ho hb).imp fun σ H Q ⟨H0, F0, fp, F, r, m, oo⟩ => ⟨H0, F0, fp, F, r, m, oo.bind fun F' H' d gr o2 v kv => by
    cases ef : fldD pt d with
    | er x => exact (fldD_er ef).elim
    | bad => rw [ef] at o2; exact o2.elim
    | ok d' =>
      obtain ⟨c, vs, i, rfl, hp, hv⟩ := fldD_ok ef
      rw [ef] at o2
      have kv' : Rep (gOf X) F' v (.obj c vs) := kv
      cases kv' with
      | @obj a dx _ ws _ ha hz ra =>
        obtain ⟨h1, h2, h3, h4⟩ := M.h c i hp
        obtain ⟨w, hw, rw'⟩ := ra.get hv
        exact ⟨a, _, dx, _, w, rfl, gr.sub _ _ ha, h3, h4, lookup_zip h2 h1 hw, o2 F' H' (Grow.refl gr.sub) w rw'⟩⟩
/-- o.m(e, ..) -/
theorem re_meth {j : Nat} {mn : Str} {mt : Nat → Option (List D → Res D)} {fo : Env → Res D} {fa : Env → Res (List D)} {pl : Sem Bool} (M : ∀ c g, mt c = some g → MtM X.prog X.w X.K X.mg X.base j mn c k g) (hr : Room j X.A) (tk : Takes X W.w) (ho : RE X W .S o fo) (ha : RA X W (e :: es) fa)
    (he : starEach (e :: es) X.env = (false, eval e X.env) :: starEach es X.env := by rfl) (hpl : (backTo pos (starEach es X.env)).any (·.1) = false := by rfl)
    (ht : eval (.Call (.Attribute o mn apos) (e :: es) [] pos) X.env = (do
      let ov ← eval o X.env
      standAt apos.atName
      let (f, first) ← holding [ov] (getMethod ov mn pl)
      callWith pos f first (backTo pos (starEach (e :: es) X.env)) (backToKw pos (keywordEach [] X.env))) := by rfl) :
    RE X W k (.Call (.Attribute o mn apos) (e :: es) [] pos) (fun r => fo r >>= fun d => mthD mt d >>= fun g => fa r >>= g) := by
  refine ⟨fun pins s σ H Q I ⟨H0, F0, fp, F, r, m, oo⟩ => methcall_of ho I ⟨H0, F0, fp, F, r, m, oo.bind fun F1 H1 d gr o2 v kv => ?_⟩ ht⟩
  cases em : mthD mt d with
  | er x => exact (mthD_er em).elim
  | bad => rw [em] at o2; exact o2.elim
  | ok g' =>
    obtain ⟨c, vs, g, rfl, hc, rfl⟩ := mthD_ok em
    rw [em] at o2
    have kv' : Rep (gOf X) F1 v (.obj c vs) := kv
    obtain ⟨⟨f, fd, ps, FO, hmt, hb⟩, hcl, hno⟩ := M c g hc
    cases hkv : kv' with
    | @obj a dx _ ws _ hat hz ra =>
      refine ⟨a, _, dx, _, f, rfl, gr.sub _ _ hat, hcl, hmt, lookup_zip_none hno, fun s1 I1 => ?_⟩
      have hw : tA (gOf X) W fa σ H1 fun us H2 => spM (gOf X) k g (.ref a :: us) H2 Q (WE W.w σ) := ⟨H0, F0, fp, F1, r, m.grow gr, Out.bind o2 fun F2 H2 ds gr2 o3 us ru =>
        spM_of gr2.sub (gr.h.trans gr2.h) (.cons (kv'.mono gr2.f) ru) o3⟩
      refine PySem.W.callWith_K (first := [.ref a]) (h₀ := X.base) I1.ok.mod.kin hmt.kp (thn (ha.run pos pins s1 σ H1 _ I1 hw) fun us s2 ⟨vs2, H2, I2, r2, q2⟩ => ⟨I2.kIn, ?_⟩) he hpl
      exact run_fnS (us := .ref a :: us) (vs := .ref a :: vs2) FO hr hb (passAt tk σ) I2 (.cons rfl r2) q2
theorem re_meth0 {j : Nat} {mn : Str} {mt : Nat → Option (List D → Res D)} {fo : Env → Res D} {pl : Sem Bool} (M : ∀ c g, mt c = some g → MtM X.prog X.w X.K X.mg X.base j mn c k g) (hr : Room j X.A) (tk : Takes X W.w) (ho : RE X W .S o fo)
    (ht : eval (.Call (.Attribute o mn apos) [] [] pos) X.env = (do
      let ov ← eval o X.env
      standAt apos.atName
      let (f, first) ← holding [ov] (getMethod ov mn pl)
      callWith pos f first (backTo pos (starEach [] X.env)) (backToKw pos (keywordEach [] X.env))) := by rfl) :
    RE X W k (.Call (.Attribute o mn apos) [] [] pos) (fun r => fo r >>= fun d => mthD mt d >>= fun g => g []) := by
  refine ⟨fun pins s σ H Q I ⟨H0, F0, fp, F, r, m, oo⟩ => methcall_of ho I ⟨H0, F0, fp, F, r, m, oo.bind fun F1 H1 d gr o2 v kv => ?_⟩ ht⟩
  cases em : mthD mt d with
  | er x => exact (mthD_er em).elim
  | bad => rw [em] at o2; exact o2.elim
  | ok g' =>
    obtain ⟨c, vs, g, rfl, hc, rfl⟩ := mthD_ok em
    rw [em] at o2
    have kv' : Rep (gOf X) F1 v (.obj c vs) := kv
    obtain ⟨⟨f, fd, ps, FO, hmt, hb⟩, hcl, hno⟩ := M c g hc
    cases hkv : kv' with
    | @obj a dx _ ws _ hat hz ra =>
      refine ⟨a, _, dx, _, f, rfl, gr.sub _ _ hat, hcl, hmt, lookup_zip_none hno, fun s1 I1 => ?_⟩
      exact PySem.W.callWith_K0 (first := [.ref a]) I1.kIn hmt.kp (run_fnS (us := [.ref a]) (vs := [.ref a]) FO hr hb (passAt tk σ) I1 (.cons rfl .nil) (spM_of gr.sub gr.h (.cons kv' .nil) o2))
end
end Mir

/-! Objects made, errors raised. -/
namespace Mir
open PySem PySem.Spec PyProof.Rows L2

section
variable {X : Cx} {CX : CXT} {k : Nat} {f C : Addr} {fd : FuncData} {ps : List Str} {sp : Sp} {E : L2.St → XK}
/-- a new instance and its __init__, what is raised wished for at the names' values -/
theorem run_makeS {pins : List (Addr × Obj)} {σ : L2.St} {H : Hp} {s : Shared} {Q : VK} {us : List Value} {vs : List V} (M : Mk X.K C f) (F : FnOk X.prog X.w X.K X.mg X.base CX k f fd ps sp) (hr : Room (k + 1) X.A) (hb : Binds X.K fd ps []) (hx : PassesAt CX X σ (E σ)) (I : Inv X pins σ H s) (r : Vals vs us)
    (h : ∀ x dx, H x = none → H dx = none → dx ≠ x → sp (.ref x :: vs) (upd (upd H dx (.own x)) x (.ins C dx [])) (fun v H2 => v = .non ∧ Q (.ref x) H2) (E σ)) : wpAny (model X.prog X.w) X.A (call (.ref C) us) (EP X pins σ Q) X.xe s := by
  have n1 : H (s.heap.objs.size + 1) = none := I.hok.fresh (Nat.le_succ _)
  have n0 : H s.heap.objs.size = none := I.hok.fresh (Nat.le_refl _)
  have due := h _ _ n1 n0 (Nat.ne_of_lt (Nat.lt_succ_self _))
  have J := Inv.made (C := C) I
  have rr : Vals (V.ref (s.heap.objs.size + 1) :: vs) (Value.ref (s.heap.objs.size + 1) :: us) := .cons rfl r
  have hl : (Value.ref (s.heap.objs.size + 1) :: us).length = ps.length := (F.len _ _ _ _ due) ▸ rr.length.symm
  have bt := hb _ (Value.ref (s.heap.objs.size + 1) :: us) J.kIn (by rw [List.append_nil]; exact hl)
  rw [List.append_nil] at bt
  refine wpAny_call (make_map (f := f) I.kIn M.makes M.init (beq_iff_eq.mp M.fn) (codeAny_mono (F.run _ X.stack _ _ _ _ _ _ (E σ) (hr.make C us []) (J.env0.make C us []) bt rr due) fun res s' q => ?_))
  match res, q with
  | .error e, q => exact hx pins _ _ e s' J q
  | .ok (.ret u), q =>
    obtain ⟨v, H', I', rv, ev, q'⟩ := J.after q
    subst ev
    exact ⟨rv, ⟨V.ref (s.heap.objs.size + 1), H', I', rfl, q'⟩⟩
  | .ok .next, q => exact q.elim
  | .ok .brk, q => exact q.elim
  | .ok .cont, q => exact q.elim
end

section
variable {X : Cx} {W : Wi} {e : Expr} {es : List Expr} {p pos : Pos}
theorem spI_of {G : GC} {W : Wi} {σ : L2.St} {F H1 H : Hp} {c : Nat} {g : List D → Res D} {vs : List V} {ds : List D} {Q : VK} (s : Same F H) (r : RepAll G F vs ds)
    (o : Out G W σ F H (fun F' H' d => ∀ v, Kd.S.Rep G H1 F' H' v d → Q v H') (g ds)) : ∀ x dx, H x = none → H dx = none → dx ≠ x →
      spI G c g (.ref x :: vs) (upd (upd H dx (.own x)) x (.ins (G.ca c) dx [])) (fun v H2 => v = .non ∧ Q (.ref x) H2) (WE W.w σ) := fun x dx nx ndx ne =>
  ⟨x, dx, vs, F, H, ds, rfl, upd_same, fun b o e => by rw [upd_ne (ne_of_none e nx), upd_ne (ne_of_none e ndx)]; exact e, nx, s, r, OutC.of (o.imp fun F' H' d _ q rv => ⟨rfl, q (.ref x) rv⟩)⟩
/-- C(e, ..) -/
theorem re_make {j c : Nat} {x : Str} {g : List D → Res D} {fa : Env → Res (List D)} (M : MkM X.prog X.w X.K X.mg X.base j c g) (hr : Room (j + 1) X.A) (tk : Takes X W.w) (ha : RA X W (e :: es) fa) (hx : x = cname c := by rfl) (hg : Gl X x := by rfl)
    (hdb : (x == ("__debug__" : Str)) = false := by decide) (he : starEach (e :: es) X.env = (false, eval e X.env) :: starEach es X.env := by rfl) (hpl : (backTo pos (starEach es X.env)).any (·.1) = false := by rfl) :
    RE X W .S (.Call (.Name x p) (e :: es) [] pos) (fun r => fa r >>= g) := by
  subst hx
  obtain ⟨f, fd, ps, F, hmk, hm, hb⟩ := M.ex
  refine ⟨fun pins s σ H Q I ⟨H0, F0, fp, F1, r, m, o⟩ => ?_⟩
  refine wpAny_Call_Name_kw (ld_glob I hg hm ?_ hdb)
  have hw : tA (gOf X) W fa σ H fun vs H1 => ∀ x dx, H1 x = none → H1 dx = none → dx ≠ x → spI (gOf X) c g (.ref x :: vs) (upd (upd H1 dx (.own x)) x (.ins ((gOf X).ca c) dx [])) (fun v H2 => v = .non ∧ Q (.ref x) H2) (WE W.w σ) :=
    ⟨H0, F0, fp, F1, r, m, o.bind fun F2 H2 ds gr o2 vs rv => spI_of gr.sub rv o2⟩
  refine PySem.W.callWith_K (h₀ := X.base) I.ok.mod.kin hmk.kp (thn (ha.run pos pins s σ H _ I hw) fun us s1 ⟨vs, H1, I1, r1, q⟩ => ⟨I1.kIn, ?_⟩) he hpl
  exact run_makeS hmk F hr hb (passAt tk σ) I1 r1 q
theorem re_make0 {j c : Nat} {x : Str} {g : List D → Res D} (M : MkM X.prog X.w X.K X.mg X.base j c g) (hr : Room (j + 1) X.A) (tk : Takes X W.w) (hx : x = cname c := by rfl) (hg : Gl X x := by rfl)
    (hdb : (x == ("__debug__" : Str)) = false := by decide) : RE X W .S (.Call (.Name x p) [] [] pos) (fun _ => g []) := by
  subst hx
  obtain ⟨f, fd, ps, F, hmk, hm, hb⟩ := M.ex
  refine ⟨fun pins s σ H Q I ⟨H0, F0, fp, F1, r, m, o⟩ => ?_⟩
  refine wpAny_Call_Name_kw (ld_glob I hg hm ?_ hdb)
  exact PySem.W.callWith_K0 I.kIn hmk.kp (run_makeS (us := []) hmk F hr hb (passAt tk σ) I .nil (spI_of m.sub .nil o))
end

/-! ### an __init__ by its body -/
section
variable {G : GC}
theorem spI_len {c n : Nat} {g : List D → Res D} (hg : ∀ ds, ds.length ≠ n → g ds = .bad) : ∀ vs H Q E, spI G c g vs H Q E → vs.length = n + 1 := fun vs H Q E ⟨x, dx, vs', F, H0, ds, ev, _, _, _, _, r, o⟩ => by
  by_cases h : ds.length = n
  · rw [ev, List.length_cons, r.length, h]
  · rw [hg ds h] at o; exact o.elim
theorem ms_startI {c : Nat} {x dx : Addr} {F H0 H : Hp} {N : List Str} {vs : List V} {ds : List D} (hx : H x = some (.ins (G.ca c) dx [])) (s0 : Same H0 H) (nx : H0 x = none) (s : Same F H0) (r : RepAll G F vs ds) (hN : 0 < N.length) :
    MS G (fun σ => σ[0]? = some (some (.ref x))) H0 F (fun _ => [x]) F (L2.start N (.ref x :: vs)) H (startI N.length c ds) where
  jo := start_at rfl
  s0 := s0
  f0 := Same.refl _
  sub := s.trans s0
  new := fun _ _ e => .inl e
  len := by
    unfold L2.start startI startD
    have := r.length
    simp only [List.length_append, List.length_map, List.length_replicate, List.length_cons]
    omega
  sh := fun i d e => by
    cases i with
    | zero => cases e
    | succ i =>
      rcases startD_un (show (startD (N.length - 1) ds)[i]? = some (.sh d) from e) with ⟨d', e1, e2⟩ | e2
      · cases e2
        obtain ⟨v, h1, h2⟩ := r.get e1
        exact ⟨v, start_at (by simpa using h1), h2⟩
      · cases e2
  ow := fun i t d e => by
    cases i with
    | zero =>
      cases e
      refine ⟨⟨.ref x, start_at rfl, ?_⟩, fun a ha => by rw [List.mem_singleton.mp ha]; exact nx⟩
      refine Own.obj (ws := []) (dx := dx) rfl (by rw [List.zip_nil_right]; exact hx) (s.free nx) (Nat.zero_le _) .nil (by simp)
    | succ i =>
      rcases startD_un (show (startD (N.length - 1) ds)[i]? = some (.ow t d) from e) with ⟨_, _, z⟩ | z <;> cases z
  ap := fun i j t u d e ne h1 h2 => by
    have z : ∀ {i : Nat} {t : Shape} {d : D}, (startI N.length c ds)[i]? = some (.ow t d) → i = 0 := fun {i t d} h => by
      cases i with
      | zero => rfl
      | succ i =>
        rcases startD_un (show (startD (N.length - 1) ds)[i]? = some (.ow t d) from h) with ⟨_, _, z⟩ | z <;> cases z
    exact absurd ((z h1).trans (z h2).symm) ne
end
section
variable {P : Program} {w : World} {K : PySem.W.Frag} {mg : Str → Option Value} {base : Heap}
abbrev WI (x : Addr) (E : XK) : Wi := ⟨fun cls d _ H => E cls d H, fun σ => σ[0]? = some (some (.ref x))⟩
theorem fn_okI {qual : Str} {st : Stmt} {f : Addr} {fd : FuncData} {N ps : List Str} {k c : Nat} {g : Env → Oc} (F : Fun K "__init__" qual st f fd) (S : FnScope N ps (defScope st)) (hps : 0 < ps.length)
    (hb : ∀ (cdv : Value) (A : Around) (outer : List PySem.Env) (s : Shared) (H : Hp) (E : XK) (x : Addr), Room k (A.deeper (envOfC qual (defScope st) s.heap.objs.size f cdv)) →
      RSs (cxOf (L2.CX P w) P w K mg base N qual (defScope st) f cdv A outer s H E) (WI x E) .S (defBody st) g) : FnOk P w K mg base (L2.CX P w) (k + 1) f fd ps (spI ⟨P, w, K, mg⟩ c (runI (ps.length - 1) N.length c g)) := by
  have hNl : ps.length ≤ N.length := by have := congrArg List.length S.pre; rw [List.length_take] at this; omega
  refine F.okX S (fun vs H Q E h => (spI_len (n := ps.length - 1) (fun ds h => if_neg h) vs H Q E h).trans (by omega)) fun cdv A outer s H vs Q E hr ⟨x, dx, vs', F1, H0, ds, ev, hx, s0, nx, sF, r, o⟩ => ?_
  subst ev
  refine ⟨_, hb cdv A outer s H E x hr, H0, F1, _, F1, _, ms_startI hx s0 nx sF r (by omega), ?_⟩
  unfold runI at o
  split at o
  case isFalse => exact o.elim
  cases e : g (startI N.length c ds) with
  | rt d => rw [e] at o; exact o.elim
  | er y r' =>
    rw [e] at o
    exact fun fp F' σ' H' cls dd _ m ex => o cls dd F' H' m.g0 ex
  | nx r' =>
    rw [e] at o
    intro fp F' σ' H' _ m
    have o' : OutC _ E F1 H0 _ (selfR r') := o
    have j0 : σ'[0]? = some (some (.ref x)) := m.jo
    cases e2 : selfR r' with
    | er y => unfold selfR at e2; split at e2 <;> cases e2
    | bad => rw [e2] at o'; exact o'.elim
    | ok d =>
      rw [e2] at o'
      obtain ⟨F2, _, m2⟩ := m.freeze 0
      have hs : (freeze 0 r')[0]? = some (.sh d) := by
        unfold selfR at e2
        split at e2
        · rename_i d' hd
          cases e2
          unfold freeze
          rw [hd]
          exact hd
        · rename_i t d' hd
          cases e2
          unfold freeze
          rw [hd]
          exact List.getElem?_set_self (List.getElem?_eq_some_iff.mp hd).1
        · cases e2
      obtain ⟨v, hv, rv⟩ := m2.sh 0 d hs
      rw [j0] at hv
      cases hv
      exact o' F2 H' m2.g0 rv
  | bk r' => rw [e] at o; exact o.elim
  | ct r' => rw [e] at o; exact o.elim
  | bad => rw [e] at o; exact o.elim
end

/-! ### attributes of a new object -/
section
variable {G : GC} {F H F' H' : Hp}
theorem OwnAll.snoc {f f' : Nat → Shape} {s : Shape} {v : V} {d : D} {B : List Addr} (q : Own G F H s v d B) : ∀ {n : Nat} {vs : List V} {ds : List D} {A : List Addr}, OwnAll G F H f n vs ds A → (∀ j, n ≤ j → j < n + vs.length → f' j = f j) → f' (n + vs.length) = s → (∀ a ∈ A, a ∉ B) →
    OwnAll G F H f' n (vs ++ [v]) (ds ++ [d]) (A ++ B)
  | n, [], _, _, .nil, _, h2, _ => by
    have z : OwnAll G F H f' n [v] [d] (B ++ []) := .cons (by rw [show f' n = s from h2]; exact q) .nil (fun _ _ h => nomatch h)
    rw [List.append_nil] at z
    exact z
  | n, v' :: vs, d' :: ds, _, .cons (A := A1) (B := A2) r t x, h1, h2, h3 => by
    rw [List.append_assoc]
    refine .cons (by rw [h1 n (Nat.le_refl _) (by simp)]; exact r) (OwnAll.snoc q t (fun j a b => h1 j (by omega) (by simp only [List.length_cons]; omega)) (by rw [← h2]; congr 1; simp only [List.length_cons]; omega) fun a ha => h3 a (List.mem_append_right _ ha)) fun a ha hb => ?_
    rcases List.mem_append.mp hb with z | z
    · exact x a ha z
    · exact h3 a (List.mem_append_left _ ha) z
theorem OwnAll.length {f : Nat → Shape} : ∀ {n : Nat} {vs : List V} {ds : List D} {A : List Addr}, OwnAll G F H f n vs ds A → vs.length = ds.length
  | _, _, _, _, .nil => rfl
  | _, _, _, _, .cons _ t _ => congrArg (· + 1) (OwnAll.length t)
theorem Keep.upd {A : List Addr} {a : Addr} {o : HO} (h : a ∉ A) : Keep A F H F (upd H a o) := ⟨fun b hb u e => by rw [upd_ne (fun z => h (by rw [← z]; exact hb))]; exact e, Same.refl _, fun _ _ z => z⟩
theorem putF_zip {f : Str} {y : V} : ∀ {l : List Str} {ws : List V}, l.Nodup → l[ws.length]? = some f → putF f y (l.zip ws) = l.zip (ws ++ [y])
  | [], ws, _, h => by simp at h
  | a :: l, [], _, h => by
    simp at h
    subst h
    show [(a, y)] = _
    rw [List.nil_append, List.zip_cons_cons, List.zip_nil_right]
  | a :: l, w :: ws, n, h => by
    have h' : l[ws.length]? = some f := by simpa using h
    have hm : f ∈ l := List.mem_of_getElem? h'
    have ne : ¬ a = f := fun e => (List.nodup_cons.mp n).1 (e ▸ hm)
    rw [List.cons_append, List.zip_cons_cons, List.zip_cons_cons, ← putF_zip (List.nodup_cons.mp n).2 h']
    show (if a = f then _ else _) = _
    rw [if_neg ne]
/-- an owned thing is written: the state behind -/
theorem MS.write {J : L2.St → Prop} {H0 F0 : Hp} {fp : Nat → List Addr} {σ : L2.St} {r : Env} (m : MS G J H0 F0 fp F σ H r) {i : Nat} {s s' : Shape} {d d' : D} {v : V} {a : Addr} {o : HO} {A : List Addr} (hi : r[i]? = some (.ow s d)) (hv : σ[i]? = some (some v)) (ha : a ∈ fp i)
    (q : Own G F (upd H a o) s' v d' A) (hA : ∀ b ∈ A, b ∈ fp i ∨ (H b = none ∨ (H0 b = none ∧ ∀ j, j ≠ i → ∀ t e, r[j]? = some (.ow t e) → b ∉ fp j))) : ∃ fp', MS G J H0 F0 fp' F σ (upd H a o) (r.set i (.ow s' d')) := by
  have hil : i < r.length := (List.getElem?_eq_some_iff.mp hi).1
  obtain ⟨⟨v0, hv0, o0⟩, hn⟩ := m.ow i s d hi
  have h0 : H0 a = none := hn a ha
  have f0 : F a = none := (o0.there a (by assumption)).1
  have notA : ∀ j t e, j ≠ i → r[j]? = some (.ow t e) → a ∉ fp j := fun j t e ne h z => m.ap i j s t d e (Ne.symm ne) hi h a ha z
  refine ⟨fun j => if j = i then A else fp j, m.jo, fun b u e => ?_, m.f0, fun b u e => ?_, m.new, by simpa using m.len, fun j e h => ?_, fun j t e h => ?_, fun j k t u e1 e2 ne h1 h2 b => ?_⟩
  · rw [upd_ne (ne_of_none e h0)]; exact m.s0 b u e
  · rw [upd_ne (ne_of_none e f0)]; exact m.sub b u e
  · rcases get_set_slot h with ⟨_, x, _⟩ | ⟨ne, h⟩
    · cases x
    · exact m.sh j e h
  · rcases get_set_slot h with ⟨rfl, x, hl⟩ | ⟨ne, h⟩
    · cases x
      rw [if_pos rfl]
      refine ⟨⟨v, hv, q⟩, fun b hb => ?_⟩
      rcases hA b hb with z | z | z
      · exact hn b z
      · exact m.s0.free z
      · exact z.1
    · rw [if_neg (Ne.symm ne)]
      obtain ⟨⟨u, q1, q2⟩, q3⟩ := m.ow j t e h
      exact ⟨⟨u, q1, q2.keep (Keep.upd (notA j t e (Ne.symm ne) h))⟩, q3⟩
  · have other : ∀ j t e, j ≠ i → r[j]? = some (.ow t e) → ∀ b ∈ A, b ∉ fp j := fun j t e ne h b hb z => by
      rcases hA b hb with y | y | y
      · exact m.ap i j s t d e (Ne.symm ne) hi h b y z
      · obtain ⟨⟨_, _, o3⟩, _⟩ := m.ow j t e h
        obtain ⟨_, w, e3⟩ := o3.there b z
        rw [y] at e3
        cases e3
      · exact y.2 j ne t e h z
    rcases get_set_slot h1 with ⟨rfl, x, _⟩ | ⟨n1, h1⟩
    · rcases get_set_slot h2 with ⟨z, _, _⟩ | ⟨n2, h2⟩
      · exact absurd z ne
      · rw [if_pos rfl, if_neg (Ne.symm n2)]
        exact other k u e2 (Ne.symm n2) h2 b
    · rcases get_set_slot h2 with ⟨rfl, x, _⟩ | ⟨n2, h2⟩
      · rw [if_pos rfl, if_neg (Ne.symm n1)]
        exact fun hb hz => other j t e1 (Ne.symm n1) h1 b hz hb
      · rw [if_neg (Ne.symm n1), if_neg (Ne.symm n2)]
        exact m.ap j k t u e1 e2 ne h1 h2 b
end
/-- a class that may be made and read -/
structure ClM (K : PySem.W.Frag) (ca : Nat → Addr) (f : Str) (c : Nat) : Prop where
  cl : Cls K (ca c)
  no : NoAttr K (ca c) f
  nd : (cflds c).Nodup
/-- the n-th part is of the shape t -/
def Shape.setKid (s : Shape) (n : Nat) (t : Shape) : Shape := match t with
  | .sh => s
  | t => .parts ((List.range n).map s.kid ++ [t])
/-- the n-th part is none of one's own as yet -/
def Shape.fits (s : Shape) (n : Nat) : Bool := match s with
  | .parts l => decide (l.length ≤ n)
  | _ => true
theorem Shape.kid_fits {s : Shape} {n : Nat} (h : s.fits n = true) : s.kid n = .sh := by
  cases s with
  | parts l =>
    have h' : l.length ≤ n := of_decide_eq_true h
    show l.getD n .sh = .sh
    rw [List.getD_eq_getElem?_getD, List.getElem?_eq_none h']
    rfl
  | _ => rfl
theorem Shape.setKid_own {s : Shape} {n : Nat} {t : Shape} (h : s.own = true) : (s.setKid n t).own = true := by
  cases t with
  | sh => exact h
  | _ => rfl
theorem Shape.setKid_at {s : Shape} {n : Nat} {t : Shape} (h : s.fits n = true) : (s.setKid n t).kid n = t := by
  have e : ∀ t, Shape.kid (.parts ((List.range n).map s.kid ++ [t])) n = t := fun t => by
    show (_ ++ [t]).getD n .sh = t
    rw [List.getD_eq_getElem?_getD, List.getElem?_append_right (by simp)]
    simp
  cases t with
  | sh => exact Shape.kid_fits h
  | flat => exact e _
  | parts l => exact e _
theorem Shape.setKid_lt {s : Shape} {n j : Nat} {t : Shape} (h : j < n) : (s.setKid n t).kid j = s.kid j := by
  have e : ∀ t, Shape.kid (.parts ((List.range n).map s.kid ++ [t])) j = s.kid j := fun t => by
    show (_ ++ [t]).getD j .sh = _
    rw [List.getD_eq_getElem?_getD, List.getElem?_append_left (by simpa using h), List.getElem?_map, List.getElem?_range h]
    rfl
  cases t with
  | sh => rfl
  | flat => exact e _
  | parts l => exact e _
section
variable {X : Cx} {W : Wi} {k : Kd} {e : Expr} {f : Str} {pos p' ps : Pos} {fe : Env → Res D}
theorem re_shO {e : Expr} {f : Env → Res D} (h : RE X W .S e f) : RE X W (.O .sh) e f :=
  h.imp fun σ H Q ⟨H0, F0, fp, F, r, m, o⟩ => ⟨H0, F0, fp, F, r, m, o.imp fun F' H' d _ p v kv => p v ⟨[], .sh kv, fun _ z => nomatch z⟩⟩
/-- the next attribute of the object in slot i -/
def setF (i c : Nat) (f : Str) (s : Shape) (d : D) (r : Env) : Oc := match r[i]? with
  | some (.ow g (.obj c' vs)) => if c' = c ∧ (cflds c)[vs.length]? = some f ∧ g.own = true ∧ g.fits vs.length = true then .nx (r.set i (.ow (g.setKid vs.length s) (.obj c (vs ++ [d])))) else .bad
  | _ => .bad
theorem rs_fldO (i c : Nat) {s : Shape} {x : Str} (M : ClM X.K (gOf X).ca f c) (he : RE X W (.O s) e fe) (hN : X.N[i]? = some x := by rfl) (hv : Vis X.env.scope x := by first | exact Or.inl rfl | exact Or.inr (Or.inl rfl)) (hd : (x == ("__debug__" : Str)) = false := by decide)
    (hcd : (x == ("__classdict__" : Str)) = false := by decide) (hs : swapsWith e (some (.Attribute (.Name x ps) f p')) pos.line X.env = pure false := by rfl) :
    RS X W k (.Assign [.Attribute (.Name x ps) f p'] e pos) (fun r => lift (fe r) r fun d => setF i c f s d r) :=
  (ps_fld (pe_var hN hv hd hcd) he hs).imp fun D σ H ⟨H0, F0, fp, F, r, m, o⟩ => ⟨H0, F0, fp, F, r, m, o.lift m fun F' H' d gr o' v ⟨B, ob, nb⟩ => by
    unfold setF at o'
    split at o'
    · rename_i g c' vs hi
      split at o'
      · rename_i hc
        obtain ⟨rfl, hf, go, gf⟩ := hc
        have m' := m.grow gr
        obtain ⟨⟨w, hw, ow⟩, hn⟩ := m'.ow i _ _ hi
        have hff : fp i = fp i := rfl
        generalize hA : fp i = A at ow hn
        cases ow with
        | sh _ => cases go
        | @obj _ a dx _ ws _ A' _ ha fa hz oa na =>
          have hl := oa.length
          refine ⟨.ref a, hw, a, (gOf X).ca c', dx, _, rfl, ha, M.cl, M.no, ?_, ?_⟩
          · rw [List.length_zip]
            have : (cflds c').length ≤ 8 := by
              unfold cflds
              split <;> decide
            omega
          · rw [putF_zip M.nd (by rw [hl]; exact hf)]
            have ain : a ∈ fp i := by rw [hA]; exact List.mem_cons_self
            have aB : a ∉ B := fun z => by
              obtain ⟨⟨_, q1, q2⟩, _⟩ := m.ow i _ _ hi
              obtain ⟨_, u, e⟩ := q2.there a ain
              rw [nb a z] at e
              cases e
            have AB : ∀ b ∈ A', b ∉ B := fun b hb z => by
              obtain ⟨⟨_, q1, q2⟩, _⟩ := m.ow i _ _ hi
              obtain ⟨_, u, e⟩ := q2.there b (by rw [hA]; exact List.mem_cons_of_mem _ hb)
              rw [nb b z] at e
              cases e
            have q : Own (gOf X) F' (upd H' a (.ins ((gOf X).ca c') dx ((cflds c').zip (ws ++ [v])))) (g.setKid vs.length s) (.ref a) (.obj c' (vs ++ [d])) (a :: (A' ++ B)) := by
              refine .obj (Shape.setKid_own go) upd_same fa ?_ (OwnAll.snoc (f := g.kid) (ob.keep (Keep.upd aB)) (oa.keep (Keep.upd na)) (fun j _ hj => ?_) ?_ AB) fun z => (List.mem_append.mp z).elim na aB
              · rw [List.length_append]
                have := (List.getElem?_eq_some_iff.mp hf).1
                simp only [List.length_cons, List.length_nil]
                omega
              · exact Shape.setKid_lt (by omega)
              · rw [Nat.zero_add, hl]
                exact Shape.setKid_at gf
            obtain ⟨fp', m2⟩ := m'.write hi hw ain q fun b hb => by
              rcases List.mem_cons.mp hb with z | z
              · exact .inl (by rw [hA, z]; exact List.mem_cons_self)
              · rcases List.mem_append.mp z with z | z
                · exact .inl (by rw [hA]; exact List.mem_cons_of_mem _ z)
                · refine .inr (.inr ⟨m.s0.free (nb b z), fun j ne t e h y => ?_⟩)
                  obtain ⟨⟨_, _, q2⟩, _⟩ := m.ow j t e h
                  obtain ⟨_, u, e⟩ := q2.there b y
                  rw [nb b z] at e
                  cases e
            exact o' fp' F' σ _ (Same.refl _) m2
      · exact o'.elim
    · exact o'.elim⟩
/-- self.f = e, shared -/
theorem rs_fldS (i c : Nat) {x : Str} (M : ClM X.K (gOf X).ca f c) (he : RE X W .S e fe) (hN : X.N[i]? = some x := by rfl) (hv : Vis X.env.scope x := by first | exact Or.inl rfl | exact Or.inr (Or.inl rfl)) (hd : (x == ("__debug__" : Str)) = false := by decide)
    (hcd : (x == ("__classdict__" : Str)) = false := by decide) (hs : swapsWith e (some (.Attribute (.Name x ps) f p')) pos.line X.env = pure false := by rfl) :
    RS X W k (.Assign [.Attribute (.Name x ps) f p'] e pos) (fun r => lift (fe r) r fun d => setF i c f .sh d r) :=
  rs_fldO i c M (re_shO he) hN hv hd hcd hs
end
end Mir

/-! Errors raised. -/
namespace Mir
open PySem PySem.Spec PyProof.Rows L2

abbrev veT : List Value := [.type "ValueError", .type "Exception", .type "BaseException", .type "object"]
/-- an own error class without own __init__ -/
structure ExM0 (K : PySem.W.Frag) (mg : Str → Option Value) (C : Addr) (c : Nat) : Prop where
  gC : mg (cname c) = some (.ref C)
  ex : PySem.W.excIn K C veT "ValueError.__new__" = true
  kC : PySem.W.keepIn K (.ref C) = true
  sb : PySem.W.subIn K (.ref C) (.type "BaseException") = some true
  ty : PySem.W.typeIn K (.ref C) = some (.type "type")
  no : cflds c = []
/-- the promise of an error's __init__: the attributes fl, the last one stored first in it -/
def spE (C : Addr) (fl : List Str) : Sp := fun vs H Q _ => ∃ (a : Addr) (ys : List V), vs = .ref a :: ys ∧ ys.length = fl.length ∧ H a = some (exo a C none) ∧ ∀ dx, H dx = none → dx ≠ a → Q .non (upd (upd H dx (exd dx (fl.zip ys.reverse))) a (exo a C (some dx)))
/-- an own error class with an __init__ that stores what it is given -/
structure ExMA (P : Program) (w : World) (K : PySem.W.Frag) (mg : Str → Option Value) (base : Heap) (C : Addr) (c : Nat) : Prop where
  gC : mg (cname c) = some (.ref C)
  T : OexC K C
  ex : ∃ (f : Addr) (fd : FuncData) (ps : List Str), FnOk P w K mg base (L2.CX P w) 1 f fd ps (spE C (cflds c)) ∧ PySem.W.findIn K (.ref C) "__init__" = some (some (.ref f)) ∧ PySem.W.typeIn K (.ref f) = some (.type "function") ∧ Binds K fd ps []

theorem ca_of {G : GC} {c : Nat} {C : Addr} (h : G.mg (cname c) = some (.ref C)) : G.ca c = C := by
  unfold GC.ca
  rw [h]
section
variable {X : Cx} {W : Wi} {k : Kd} {C : Addr} {c : Nat} {x : Str} {p pos pos2 : Pos} {e : Expr} {es : List Expr}
/-- X() -/
theorem pmk_own0 (M : ExM0 X.K X.mg C c) (hx : x = cname c) (hg : Gl X x) (hdb : (x == ("__debug__" : Str)) = false) : PMk X (.Call (.Name x p) [] [] pos) (fun _ H Q => Q (.ref C) none H) := by
  subst hx
  intro pins s σ H Q I h
  refine wpAny_Call_Name_kw (ld_glob I hg M.gC ?_ hdb)
  refine PySem.W.callWith_K0 I.kIn M.kC ?_
  obtain ⟨bm, N, nm, qn, bs, hdct, sn, sub, ab, col, dd, k0, k1, k2, k3, k5, mN, hC, hN, hni, T⟩ := exc_obj I.kIn M.ex
  refine wpAny_call_exc_subT PySem.F.excBase_ValueError T hC hN hni (fun h' e hm => ?_) (Nat.zero_le _)
  exact mk_of I hm (raises_own M.sb M.ty) h (I.hok.gone hm.new)
theorem rs_raise0 (M : ExM0 X.K X.mg C c) (hc : X.calm = true) (tk : Takes X W.w) (hx : x = cname c := by rfl) (hg : Gl X x := by rfl) (hdb : (x == ("__debug__" : Str)) = false := by decide) :
    RS X W k (.Raise (some (.Call (.Name x p) [] [] pos)) none pos2) (fun r => .er (.exc c []) r) :=
  (ps_raise hc tk (pmk_own0 M hx hg hdb)).imp fun D σ H ⟨H0, F0, fp, F, r, m, o⟩ =>
    o fp F σ H _ _ (Same.refl _) m ⟨c, [], [], rfl, by rw [ca_of (G := gOf X) M.gC], .nil, .inl ⟨rfl, M.no, rfl⟩⟩
/-- X(e, ..) -/
theorem rs_raise (M : ExMA X.prog X.w X.K X.mg X.base C c) (hc : X.calm = true) (tk : Takes X W.w) (hr : Room 2 X.A) {fa : Env → Res (List D)} (ha : RA X W (e :: es) fa) (hl : (e :: es).length ≤ 1000 := by decide) (hx : x = cname c := by rfl) (hg : Gl X x := by rfl) (hdb : (x == ("__debug__" : Str)) = false := by decide)
    (he : starEach (e :: es) X.env = (false, eval e X.env) :: starEach es X.env := by rfl) (hpl : (backTo pos (starEach es X.env)).any (·.1) = false := by rfl) :
    RS X W k (.Raise (some (.Call (.Name x p) (e :: es) [] pos)) none pos2) (fun r => lift (fa r) r fun ds => if ds.length = (cflds c).length ∧ ds.length ≤ 1000 then .er (.exc c ds.reverse) r else .bad) := by
  subst hx
  obtain ⟨f, fd, ps, F1, iC, tI, hb⟩ := M.ex
  refine (ps_raise hc tk (pmk_oex M.T iC tI F1 hr hb .nil (passL (X := X)) hg M.gC ha hdb he hpl)).imp fun D σ H ⟨H0, F0, fp, F, r, m, o⟩ => ⟨H0, F0, fp, F, r, m, o.lift m fun F' H' ds gr o' vs rv => ?_⟩
  split at o'
  · rename_i hl
    have hlen := rv.length
    refine ⟨by omega, fun a na => ⟨a, vs, by simp, by omega, upd_same, fun dx ndx ne => ⟨rfl, dx, _, upd_same, by rw [upd_ne ne, upd_same], ?_, ?_⟩⟩⟩
    · rw [upd_ne ne] at ndx
      exact ndx
    · rw [upd_ne ne] at ndx
      have eH : upd (del (upd (upd (upd H' a (exo a C none)) dx (exd dx ((cflds c).zip vs.reverse))) a (exo a C (some dx))) a) dx (.xd ((cflds c).zip vs.reverse)) = upd H' dx (.xd ((cflds c).zip vs.reverse)) := by
        funext b
        by_cases hb : b = dx
        · rw [hb, upd_same, upd_same]
        · rw [upd_ne hb, upd_ne hb]
          by_cases ha : b = a
          · rw [ha, del_same, na]
          · rw [del_ne ha, upd_ne ha, upd_ne hb, upd_ne ha]
      rw [eH]
      have nF : F' dx = none := gr.sub.free ndx
      have s1 : Same F' (upd F' dx (.xd ((cflds c).zip vs.reverse))) := fun b u q => by rw [upd_ne (ne_of_none q nF)]; exact q
      have g2 : Grow F' H' (upd F' dx (.xd ((cflds c).zip vs.reverse))) (upd H' dx (.xd ((cflds c).zip vs.reverse))) := {
        h := fun b u q => by rw [upd_ne (ne_of_none q ndx)]; exact q
        f := s1
        sub := fun b u q => by
          by_cases hb : b = dx
          · subst hb; rw [upd_same] at q ⊢; exact q
          · rw [upd_ne hb] at q ⊢; exact gr.sub b u q
        new := fun b u q => by
          by_cases hb : b = dx
          · subst hb; exact .inr ndx
          · rw [upd_ne hb] at q; exact .inl q }
      exact o' fp _ σ _ _ _ g2.f ((m.grow gr).grow g2) ⟨c, vs.reverse, ds.reverse, rfl, by rw [ca_of (G := gOf X) M.gC], (rv.mono s1).reverse, .inr ⟨dx, rfl, upd_same, by rw [List.length_reverse]; omega⟩⟩
  · exact o'.elim
end

/-! ### an error's __init__ by its body -/
section
variable {P : Program} {w : World} {K : PySem.W.Frag} {mg : Str → Option Value} {base : Heap} {C f : Addr} {fd : FuncData} {st : Stmt} {qual fn gn pn qn : Str}
theorem exc1_ok (F : Fun K "__init__" qual st f fd) (S : FnScope ([("self" : Str), pn]) ([("self" : Str), pn]) (defScope st)) (T : OexC K C) (no : PySem.W.findIn K (.ref C) fn = some none)
    (hb : ∀ X : Cx, X.N = [("self" : Str), pn] → X.env.scope = defScope st → PSs X (defBody st) (tOst X.K fn (tVar 0) (tVar 1))) : FnOk P w K mg base (L2.CX P w) 1 f fd [("self" : Str), pn] (spE C [fn]) := by
  refine F.okX S (fun vs H Q E ⟨a, ys, e, hl, _⟩ => by rw [e, List.length_cons, hl]; rfl) fun cdv A outer s H vs Q E hr ⟨a, ys, e, hl, ha, k⟩ => ?_
  subst e
  match ys, hl with
  | [y], _ => exact ⟨_, hb _ rfl rfl, _, rfl, _, rfl, a, C, rfl, T, no, .inl ⟨ha, fun dx nd ne => k dx nd ne⟩⟩
theorem exc2_ok (F : Fun K "__init__" qual st f fd) (S : FnScope ([("self" : Str), pn, qn]) ([("self" : Str), pn, qn]) (defScope st)) (T : OexC K C) (no : PySem.W.findIn K (.ref C) fn = some none) (no2 : PySem.W.findIn K (.ref C) gn = some none)
    (hb : ∀ X : Cx, X.N = [("self" : Str), pn, qn] → X.env.scope = defScope st → PSs X (defBody st) (tSeq (tOst X.K fn (tVar 0) (tVar 1)) (tOst X.K gn (tVar 0) (tVar 2)))) : FnOk P w K mg base (L2.CX P w) 1 f fd [("self" : Str), pn, qn] (spE C [gn, fn]) := by
  refine F.okX S (fun vs H Q E ⟨a, ys, e, hl, _⟩ => by rw [e, List.length_cons, hl]; rfl) fun cdv A outer s H vs Q E hr ⟨a, ys, e, hl, ha, k⟩ => ?_
  subst e
  match ys, hl with
  | [y, z], _ =>
    refine ⟨_, hb _ rfl rfl, _, rfl, _, rfl, a, C, rfl, T, no, .inl ⟨ha, fun dx nd ne => ⟨_, rfl, _, rfl, a, C, rfl, T, no2, .inr ⟨dx, [(fn, y)], upd_same, by rw [upd_ne ne, upd_same], (by show 1 ≤ 900; decide), ?_⟩⟩⟩⟩
    have q := k dx nd ne
    have eH : upd (upd (upd H dx (exd dx [(fn, y)])) a (exo a C (some dx))) dx (exd dx [(gn, z), (fn, y)]) = upd (upd H dx (exd dx [(gn, z), (fn, y)])) a (exo a C (some dx)) := by
      funext b
      by_cases hb : b = dx
      · rw [hb, upd_same, upd_ne ne, upd_same]
      · rw [upd_ne hb]
        by_cases hba : b = a
        · rw [hba, upd_same, upd_same]
        · rw [upd_ne hba, upd_ne hb, upd_ne hba, upd_ne hb]
    show Q .non _
    rw [eH]
    exact q
end
end Mir

/-! Operators and built-ins over data. -/
namespace Mir
open PySem PySem.Spec PyProof.Rows L2

/-- the longest list that is looked after -/
def lim : Nat := 1000000
theorem lim_le : lim ≤ sizeLine := by rw [sizeLine_eq]; decide

section
variable {G : GC} {F H F' H' : Hp} {v : V} {d : D}
theorem RdD.grow (h : RdD G F H v d) (g : Grow F H F' H') : RdD G F' H' v d := h.elim (fun r => .inl (r.mono g.f)) fun ⟨A, o⟩ => .inr ⟨A, o.grow g⟩
theorem RdD.int {i : Int} (h : RdD G F H v (.int i)) : v = .int i := by
  rcases h with h | ⟨A, h⟩ <;> cases h
  rfl
theorem RdD.bl {i : Bool} (h : RdD G F H v (.bl i)) : v = .bl i := by
  rcases h with h | ⟨A, h⟩ <;> cases h
  rfl
theorem RdD.str {i : Str} (h : RdD G F H v (.str i)) : v = .str i := by
  rcases h with h | ⟨A, h⟩ <;> cases h
  rfl
theorem RdD.non (h : RdD G F H v .non) : v = .non := by
  rcases h with h | ⟨A, h⟩ <;> cases h
  rfl
theorem RdD.lst {ds : List D} (s : Same F H) (h : RdD G F H v (.lst ds)) : ∃ a vs, v = .ref a ∧ H a = some (.lst vs) ∧ RepAll G F vs ds := by
  rcases h with h | ⟨A, h⟩
  · cases h with
    | lst e r => exact ⟨_, _, rfl, s _ _ e, r⟩
  · cases h with
    | lst _ e _ r _ => exact ⟨_, _, rfl, e, r.to_rep.2⟩
theorem RdD.tupS {ds : List D} (h : RdD G F H v (.tup ds)) : Rep G F v (.tup ds) := by
  rcases h with h | ⟨A, h⟩
  · exact h
  · cases h with
    | tup e => cases e
theorem RdD.tup {ds : List D} (s : Same F H) (h : RdD G F H v (.tup ds)) : ∃ a vs, v = .ref a ∧ SqT G.K H a vs ∧ RepAll G F vs ds := by
  cases h.tupS with
  | tup e r => exact ⟨_, _, rfl, Same.sqT s e, r⟩
theorem RdD.scr {ns : List Int} (s : Same F H) (h : RdD G F H v (.scr ns)) : ∃ a, v = .ref a ∧ SqL G.K H a (ns.map V.int) := by
  rcases h with h | ⟨A, h⟩
  · cases h with
    | scr e => exact ⟨_, rfl, s.seq e⟩
  · cases h
theorem RdD.obj {c : Nat} {vs : List D} (s : Same F H) (h : RdD G F H v (.obj c vs)) : ∃ a dx fs, v = .ref a ∧ H a = some (.ins (G.ca c) dx fs) := by
  rcases h with h | ⟨A, h⟩
  · cases h with
    | obj e _ _ => exact ⟨_, _, _, rfl, s _ _ e⟩
  · cases h with
    | obj _ e _ _ _ _ => exact ⟨_, _, _, rfl, e⟩
theorem RdD.dic {ks vs : List D} (s : Same F H) (h : RdD G F H v (.dic ks vs)) : ∃ a o xs ws, v = .ref a ∧ H a = some (.ext (isObj' a o)) ∧ (a == sysModules) = false ∧ DicO G o xs ∧ Vals ws (xs.map (·.2.2)) ∧ RepAll G F (xs.map fun x => V.ref x.2.1) ks ∧ ks.map keyOf = xs.map (fun x => some x.1) ∧ RepAll G F ws vs := by
  rcases h with h | ⟨A, h⟩
  · cases h with
    | dic e z1 z2 z3 z4 z5 r => exact ⟨_, _, _, _, rfl, s _ _ e, z1, z2, z3, z4, z5, r⟩
  · cases h with
    | dic _ e _ z1 z2 z3 z4 z5 r _ => exact ⟨_, _, _, _, rfl, e, z1, z2, z3, z4, z5, r.to_rep.2⟩
/-- a new object, shared -/
theorem Grow.mk1 {p : Addr} {o : HO} (s : Same F H) (hp : H p = none) : Grow F H (upd F p o) (upd H p o) where
  h := fun b u q => by rw [upd_ne (ne_of_none q hp)]; exact q
  f := fun b u q => by rw [upd_ne (ne_of_none (s b u q) hp)]; exact q
  sub := fun b u q => by
    by_cases hb : b = p
    · subst hb; rw [upd_same] at q ⊢; exact q
    · rw [upd_ne hb] at q ⊢; exact s b u q
  new := fun b u q => by
    by_cases hb : b = p
    · subst hb; exact .inr hp
    · rw [upd_ne hb] at q; exact .inl q
/-- a new object, one's own -/
theorem Grow.own {p : Addr} {o : HO} (s : Same F H) (hp : H p = none) : Grow F H F (upd H p o) where
  h := fun b u q => by rw [upd_ne (ne_of_none q hp)]; exact q
  f := Same.refl _
  sub := fun b u q => by rw [upd_ne (ne_of_none (s b u q) hp)]; exact s b u q
  new := fun b u q => .inl q
end

/-! ### data as PyData -/
def toPy : D → Option PyData
  | .non => some .none
  | .bl b => some (.bool b)
  | .int i => some (.int i)
  | .str s => some (.str s)
  | .tup xs => (toPys xs).map .tuple
  | .lst xs => (toPys xs).map .list
  | _ => none
where toPys : List D → Option (List PyData)
  | [] => some []
  | x :: xs => match toPy x, toPys xs with
    | some p, some ps => some (p :: ps)
    | _, _ => none
mutual
theorem Rep.dp {G : GC} {F H : Hp} (s : Same F H) : ∀ {v : V} {d : D} {p : PyData}, Rep G F v d → toPy d = some p → Dp G.K H v p
  | _, _, _, .non, e => by simp only [toPy, Option.some.injEq] at e; subst e; exact .non
  | _, _, _, .bl b, e => by simp only [toPy, Option.some.injEq] at e; subst e; exact .bl b
  | _, _, _, .int i, e => by simp only [toPy, Option.some.injEq] at e; subst e; exact .int i
  | _, _, _, .str x, e => by simp only [toPy, Option.some.injEq] at e; subst e; exact .str x
  | _, _, _, .tup h r, e => by
    simp only [toPy, Option.map_eq_some_iff] at e
    obtain ⟨ps, e1, e2⟩ := e
    subst e2
    exact .tup (Same.sqT s h) (RepAll.dp s r e1)
  | _, _, _, .lst h r, e => by
    simp only [toPy, Option.map_eq_some_iff] at e
    obtain ⟨ps, e1, e2⟩ := e
    subst e2
    exact .lst (.of (s _ _ h)) (RepAll.dp s r e1)
  | _, _, _, .scr _, e => by simp [toPy] at e
  | _, _, _, .dic _ _ _ _ _ _ _, e => by simp [toPy] at e
  | _, _, _, .obj _ _ _, e => by simp [toPy] at e
  | _, _, _, .exc _ _, e => by simp [toPy] at e
  | _, _, _, .excF _ _ _ _, e => by simp [toPy] at e
  | _, _, _, .cls _, e => by simp [toPy] at e
  | _, _, _, .ty _, e => by simp [toPy] at e
theorem RepAll.dp {G : GC} {F H : Hp} (s : Same F H) : ∀ {vs : List V} {ds : List D} {ps : List PyData}, RepAll G F vs ds → toPy.toPys ds = some ps → DpAll G.K H vs ps
  | _, _, _, .nil, e => by simp only [toPy.toPys, Option.some.injEq] at e; subst e; exact .nil
  | _, _, _, .cons r t, e => by
    rw [toPy.toPys] at e
    split at e
    · rename_i p ps h1 h2
      cases e
      exact .cons (Rep.dp s r h1) (RepAll.dp s t h2)
    · cases e
end
theorem RdD.dp {G : GC} {F H : Hp} {v : V} {d : D} {p : PyData} (s : Same F H) (h : RdD G F H v d) (e : toPy d = some p) : Dp G.K H v p := by
  rcases h with h | ⟨A, h⟩
  · exact h.dp s e
  · cases h with
    | lst _ h _ r _ =>
      simp only [toPy, Option.map_eq_some_iff] at e
      obtain ⟨ps, e1, e2⟩ := e
      subst e2
      exact .lst (.of h) (r.to_rep.2.dp s e1)
    | tup z => cases z
    | dic => simp [toPy] at e
    | obj => simp [toPy] at e

/-! ### operators -/
def addD : D → D → Res D
  | .int i, .int j => .ok (.int (i + j))
  | .str s, .str t => if s.length + t.length ≤ lim then .ok (.str (s ++ t)) else .bad
  | .tup xs, .tup ys => if xs.length + ys.length ≤ lim then .ok (.tup (xs ++ ys)) else .bad
  | .lst xs, .lst ys => if xs.length + ys.length ≤ lim then .ok (.lst (xs ++ ys)) else .bad
  | _, _ => .bad
def addLD : D → D → Res D
  | .lst xs, .lst ys => if xs.length + ys.length ≤ lim then .ok (.lst (xs ++ ys)) else .bad
  | _, _ => .bad
def subD : D → D → Res D
  | .int i, .int j => .ok (.int (i - j))
  | _, _ => .bad
/-- the bits of a number -/
def bits (i : Int) : Nat := i.natAbs.log2
instance (i j : Int) : Decidable (CMul i j) := by unfold CMul; infer_instance
def mulD : D → D → Res D
  | .int i, .int j => if bits i + bits j < 1000000 ∨ CMul i j then .ok (.int (i * j)) else .bad
  | .lst xs, .int k => if k ≤ 1000 ∧ 0 ≤ k ∧ xs.length ≤ 1000 then .ok (.lst (List.replicate k.toNat xs).flatten) else .bad
  | .tup xs, .int k => if k ≤ 1000 ∧ 0 ≤ k ∧ xs.length ≤ 1000 then .ok (.tup (List.replicate k.toNat xs).flatten) else .bad
  | _, _ => .bad
def modD : D → D → Res D
  | .int i, .int j => if 0 < j then .ok (.int (i % j)) else .bad
  | _, _ => .bad
def divD : D → D → Res D
  | .int i, .int j => if 0 < j ∧ bits j < 9000 then .ok (.int (i / j)) else .bad
  | _, _ => .bad
def powD : D → D → Res D
  | .int i, .int j => if 0 ≤ j ∧ j ≤ 1000000 ∧ i.natAbs < 2 ^ 64 then .ok (.int (i ^ j.toNat)) else .bad
  | _, _ => .bad
def shrD : D → D → Res D
  | .int i, .int j => if 0 ≤ j then .ok (.int (i / 2 ^ j.toNat)) else .bad
  | _, _ => .bad
def cmpD (p : Int → Int → Bool) : D → D → Res D
  | .int i, .int j => .ok (.bl (p i j))
  | _, _ => .bad
def eqS (a b : D) : Res D := match toPy a, toPy b with
  | some p, some q => if SeqAt.shaped p = true ∧ SeqAt.shaped q = true then .ok (.bl (PyData.eqv p q)) else .bad
  | _, _ => .bad
def neS (a b : D) : Res D := match toPy a, toPy b with
  | some p, some q => if SeqAt.shaped p = true ∧ SeqAt.shaped q = true then .ok (.bl (!PyData.eqv p q)) else .bad
  | _, _ => .bad
def isN : D → D → Res D
  | .non, .non => .ok (.bl true)
  | _, .non => .ok (.bl false)
  | _, _ => .bad
def notN : D → D → Res D
  | .non, .non => .ok (.bl false)
  | _, .non => .ok (.bl true)
  | _, _ => .bad
section
variable {X : Cx}
theorem noer2 {op : D → D → Res D} (h : ∀ a b, op a b = .bad ∨ ∃ d, op a b = .ok d) : NoEr2 op := fun a b e z => by
  rcases h a b with q | ⟨d, q⟩ <;> (rw [q] at z; cases z)
theorem opD_I {rr : R2} {op : D → D → Res D} (h : ∀ a b d, op a b = .ok d → ∃ i j r, a = .int i ∧ b = .int j ∧ (∀ F, Rep (gOf X) F r d) ∧ ∀ (H : Hp) (Q : VK), Q r H → rr (.int i) (.int j) H Q) : OpD (gOf X) rr .R .R .S op := fun F H x y a b d Q Ha Hb s ka kb e k => by
  obtain ⟨i, j, r, rfl, rfl, hr, q⟩ := h a b d e
  rw [RdD.int (show RdD _ _ _ x _ from ka), RdD.int (show RdD _ _ _ y _ from kb)]
  exact q H Q (k r F H (Grow.refl s) (hr F))
theorem sub_ok : OpD (gOf X) (rI0 fun i j => .int (i - j)) .R .R .S subD := opD_I fun a b d e => by
  unfold subD at e
  split at e <;> cases e
  exact ⟨_, _, _, rfl, rfl, fun F => .int _, fun H Q q => ⟨_, _, rfl, rfl, q⟩⟩
theorem mod_ok : OpD (gOf X) (rI (fun _ j => 0 < j) fun i j => .int (i % j)) .R .R .S modD := opD_I fun a b d e => by
  unfold modD at e
  split at e
  · split at e <;> cases e
    rename_i h
    exact ⟨_, _, _, rfl, rfl, fun F => .int _, fun H Q q => ⟨_, _, rfl, rfl, h, q⟩⟩
  · cases e
theorem div_ok : OpD (gOf X) (rI CDivW fun i j => .int (i / j)) .R .R .S divD := opD_I fun a b d e => by
  unfold divD at e
  split at e
  · split at e <;> cases e
    rename_i h
    exact ⟨_, _, _, rfl, rfl, fun F => .int _, fun H Q q => ⟨_, _, rfl, rfl, h, q⟩⟩
  · cases e
theorem pow_ok : OpD (gOf X) (rI CPow fun i j => .int (i ^ j.toNat)) .R .R .S powD := opD_I fun a b d e => by
  unfold powD at e
  split at e
  · split at e <;> cases e
    rename_i h
    exact ⟨_, _, _, rfl, rfl, fun F => .int _, fun H Q q => ⟨_, _, rfl, rfl, h, q⟩⟩
  · cases e
theorem shr_ok : OpD (gOf X) (rI (fun _ j => 0 ≤ j) fun i j => .int (i / 2 ^ j.toNat)) .R .R .S shrD := opD_I fun a b d e => by
  unfold shrD at e
  split at e
  · split at e <;> cases e
    rename_i h
    exact ⟨_, _, _, rfl, rfl, fun F => .int _, fun H Q q => ⟨_, _, rfl, rfl, h, q⟩⟩
  · cases e
theorem cmp_ok {p : Int → Int → Bool} : OpD (gOf X) (rI0 fun i j => .bl (p i j)) .R .R .S (cmpD p) := opD_I fun a b d e => by
  unfold cmpD at e
  split at e <;> cases e
  exact ⟨_, _, _, rfl, rfl, fun F => .bl _, fun H Q q => ⟨_, _, rfl, rfl, q⟩⟩
theorem eq_ok : OpD (gOf X) (rEqD X.K) .R .R .S eqS := fun F H x y a b d Q Ha Hb s ka kb e k => by
  unfold eqS at e
  split at e
  · rename_i p q h1 h2
    split at e <;> cases e
    rename_i h
    exact ⟨p, q, RdD.dp s (show RdD (gOf X) F H x a from ka) h1, RdD.dp s (show RdD (gOf X) F H y b from kb) h2, h.1, h.2, k _ F H (Grow.refl s) (.bl _)⟩
  · cases e
theorem ne_ok : OpD (gOf X) (rNeD X.K) .R .R .S neS := fun F H x y a b d Q Ha Hb s ka kb e k => by
  unfold neS at e
  split at e
  · rename_i p q h1 h2
    split at e <;> cases e
    rename_i h
    exact ⟨p, q, RdD.dp s (show RdD (gOf X) F H x a from ka) h1, RdD.dp s (show RdD (gOf X) F H y b from kb) h2, h.1, h.2, k _ F H (Grow.refl s) (.bl _)⟩
  · cases e
theorem RdD.non_iff {G : GC} {F H : Hp} {v : V} {d : D} (h : RdD G F H v d) : decide (v = .non) = (match d with | .non => true | _ => false) := by
  rcases h with h | ⟨A, h⟩ <;> cases h <;> simp
theorem isN_ok : OpD (gOf X) (fun x y H Q => y = .non ∧ Q (.bl (decide (x = .non))) H) .R .R .S isN := fun F H x y a b d Q Ha Hb s ka kb e k => by
  have z := RdD.non_iff (show RdD (gOf X) F H x a from ka)
  unfold isN at e
  split at e <;> cases e
  · exact ⟨RdD.non kb, by rw [z]; exact k _ F H (Grow.refl s) (.bl _)⟩
  · refine ⟨RdD.non kb, ?_⟩
    have z2 : decide (x = .non) = false := by
      rw [z]
      split
      · rename_i h; exact absurd rfl h
      · rfl
    rw [z2]
    exact k _ F H (Grow.refl s) (.bl _)
theorem notN_ok : OpD (gOf X) (fun x y H Q => y = .non ∧ Q (.bl (!decide (x = .non))) H) .R .R .S notN := fun F H x y a b d Q Ha Hb s ka kb e k => by
  have z := RdD.non_iff (show RdD (gOf X) F H x a from ka)
  unfold notN at e
  split at e <;> cases e
  · exact ⟨RdD.non kb, by rw [z]; exact k _ F H (Grow.refl s) (.bl _)⟩
  · refine ⟨RdD.non kb, ?_⟩
    have z2 : decide (x = .non) = false := by
      rw [z]
      split
      · rename_i h; exact absurd rfl h
      · rfl
    rw [z2]
    exact k _ F H (Grow.refl s) (.bl _)
def rAddA (K : PySem.W.Frag) : R2 := fun x y H Q => (rI0 (fun i j => .int (i + j)) x y H Q ∨ ∃ i j, x = .str i ∧ y = .str j ∧ i.length + j.length ≤ sizeLine ∧ Q (.str (i ++ j)) H) ∨ (rCatA K x y H Q ∨ rCat x y H Q)
theorem op_addA : OpR X (binaryOp .Add) (rAddA X.K) := (op_add.or op_add_str).or (op_catA.or op_cat)
theorem add_ok : OpD (gOf X) (rAddA X.K) .R .R .S addD := fun F H x y a b d Q Ha Hb s ka kb e k => by
  have ka : RdD (gOf X) F H x a := ka
  have kb : RdD (gOf X) F H y b := kb
  unfold addD at e
  split at e
  · cases e
    exact .inl (.inl ⟨_, _, ka.int, kb.int, k _ F H (Grow.refl s) (.int _)⟩)
  · split at e <;> cases e
    rename_i h
    exact .inl (.inr ⟨_, _, ka.str, kb.str, Nat.le_trans h lim_le, k _ F H (Grow.refl s) (.str _)⟩)
  · split at e <;> cases e
    rename_i h
    obtain ⟨p, vs, rfl, h1, r1⟩ := ka.tup s
    obtain ⟨q, ws, rfl, h2, r2⟩ := kb.tup s
    refine .inr (.inl ⟨p, q, vs, ws, rfl, rfl, h1, h2, Nat.le_trans (by rw [r1.length, r2.length]; exact h) lim_le, fun z => ?_, fun _ z => ?_, fun _ _ t ht => ?_⟩)
    · subst z
      cases r1
      exact k _ F H (Grow.refl s) kb.tupS
    · subst z
      cases r2
      rw [List.append_nil] at k
      exact k _ F H (Grow.refl s) ka.tupS
    · exact k _ _ _ (Grow.mk1 s ht) (Rep.tup (.of upd_same) ((r1.append r2).mono (Grow.mk1 s ht).f))
  · split at e <;> cases e
    rename_i h
    obtain ⟨p, vs, rfl, h1, r1⟩ := ka.lst s
    obtain ⟨q, ws, rfl, h2, r2⟩ := kb.lst s
    exact .inr (.inr ⟨p, q, vs, ws, rfl, rfl, h1, h2, Nat.le_trans (by rw [r1.length, r2.length]; exact h) lim_le, fun t ht => k _ _ _ (Grow.mk1 s ht) (Rep.lst upd_same ((r1.append r2).mono (Grow.mk1 s ht).f))⟩)
  · cases e
theorem addL_ok : OpD (gOf X) rCat .R .R (.O .flat) addLD := fun F H x y a b d Q Ha Hb s ka kb e k => by
  have ka : RdD (gOf X) F H x a := ka
  have kb : RdD (gOf X) F H y b := kb
  unfold addLD at e
  split at e
  · split at e <;> cases e
    rename_i h
    obtain ⟨p, vs, rfl, h1, r1⟩ := ka.lst s
    obtain ⟨q, ws, rfl, h2, r2⟩ := kb.lst s
    refine ⟨p, q, vs, ws, rfl, rfl, h1, h2, Nat.le_trans (by rw [r1.length, r2.length]; exact h) lim_le, fun t ht => k _ _ _ (Grow.own s ht) ⟨[t], ?_, fun a ha => by rw [List.mem_singleton.mp ha]; exact ht⟩⟩
    exact Own.lst rfl upd_same (s.free ht) (OwnAll.of_rep (r1.append r2)) (by simp)
  · cases e
theorem rep_all {G : GC} {F : Hp} {vs : List V} {ds : List D} (r : RepAll G F vs ds) : ∀ n : Nat, RepAll G F (List.replicate n vs).flatten (List.replicate n ds).flatten
  | 0 => .nil
  | n + 1 => by
    rw [List.replicate_succ, List.flatten_cons, List.replicate_succ, List.flatten_cons]
    exact r.append (rep_all r n)
theorem tuple_mulOne (l : Addr) (items : Array Value) (n : Nat) (dd : Option Addr) (sl : Array (Option Value)) (x : Int) (u : Tok) (c0 : (decide (x < -(2 ^ 63)) || decide (x ≥ 2 ^ 63)) = false) (c1 : (items.isEmpty || x == 1) = true) :
    Meets (Builtin.«tuple.__mul__» ⟨[.ref l, .int x u], []⟩) (fun _ R s => s.heap.get? l = some { cls := .type "tuple", dict := dd, data := .seq items n, slots := sl } ∧
      R (.ok (.ret (Value.ref l))) s) :=
  .of_wp fun prog w A R s h => by
    obtain ⟨hp, g, d, tk, os⟩ := s
    obtain ⟨hl, h⟩ := h
    have f1 := AutoSeq1.idx_int
    wp_walk using wpAny_loadPart' hl
    repeat (first
      | (refine wpAny_ite_false (decide_eq_false (by rw [c0]; exact Bool.false_ne_true)) ?_; wp_walk using wpAny_loadPart' hl)
      | (refine wpAny_ite_true (decide_eq_true (by rw [c1])) ?_; wp_walk using wpAny_loadPart' hl))
    exact ⟨_, rfl, h⟩
theorem tuple_mulNone (l : Addr) (items : Array Value) (n : Nat) (dd : Option Addr) (sl : Array (Option Value)) (x : Int) (u : Tok) (c0 : (decide (x < -(2 ^ 63)) || decide (x ≥ 2 ^ 63)) = false) (c1 : (items.isEmpty || x == 1) = false) (c2 : (decide (x ≤ 0) || items.isEmpty) = true) :
    Meets (Builtin.«tuple.__mul__» ⟨[.ref l, .int x u], []⟩) (fun _ R s => s.heap.get? l = some { cls := .type "tuple", dict := dd, data := .seq items n, slots := sl } ∧
      R (.ok (.ret (Value.ref s.heap.objs.size))) { s with heap := s.heap.push { cls := Value.type "tuple", data := Data.seq #[] }, toks := s.toks }) :=
  .of_wp fun prog w A R s h => by
    obtain ⟨hp, g, d, tk, os⟩ := s
    obtain ⟨hl, h⟩ := h
    have f1 := AutoSeq1.idx_int
    wp_walk using wpAny_loadPart' hl
    repeat (first
      | (refine wpAny_ite_false (decide_eq_false (by rw [c0]; exact Bool.false_ne_true)) ?_; wp_walk using wpAny_loadPart' hl)
      | (refine wpAny_ite_false (decide_eq_false (by rw [c1]; exact Bool.false_ne_true)) ?_; wp_walk using wpAny_loadPart' hl)
      | (refine wpAny_ite_true (decide_eq_true (by rw [c2])) ?_; wp_walk using wpAny_loadPart' hl))
    exact ⟨_, rfl, h⟩
def rRepT1 (K : PySem.W.Frag) : R2 := fun x y H Q => ∃ l k xs, x = .ref l ∧ y = .int k ∧ SqT K H l xs ∧ (xs = [] ∨ k = 1) ∧ 0 ≤ k ∧ k ≤ 1000 ∧ Q (.ref l) H
def rRepT0 (K : PySem.W.Frag) : R2 := fun x y H Q => ∃ l xs, x = .ref l ∧ y = .int 0 ∧ SqT K H l xs ∧ xs ≠ [] ∧ ∀ p, H p = none → Q (.ref p) (upd H p (.tup []))
theorem op_repT1 {X : Cx} : OpR X (binaryOp .Mult) (rRepT1 X.K) := by
  intro pins s σ H x y v u Q I rx ry h
  obtain ⟨l, k, xs, rfl, rfl, hT, hne, h1, h2, q⟩ := h
  cases rx
  obtain ⟨t, rfl⟩ := ry
  obtain ⟨its, r, ⟨⟨cls, dd, data, sl⟩, ho, hc, n, hd⟩, hs⟩ := I.tuple hT
  simp only at hc hd
  subst hc hd
  have hle : its.length = xs.length := r.length.symm
  have c0 : (decide (k < -(2 ^ 63)) || decide (k ≥ 2 ^ 63)) = false := by
    rw [decide_eq_false (by omega), decide_eq_false (by omega)] <;> rfl
  have c1 : (its.toArray.isEmpty || k == 1) = true := by
    rcases hne with rfl | rfl
    · have : its = [] := List.eq_nil_of_length_eq_zero hle
      subst this
      rfl
    · simp
  refine wpAny_binaryOp_repeat_ref (T := "tuple") (U := "int") (by decide) ⟨_, ho, rfl⟩ (fun s' => typeIs_int s' k t) noFill_tuple_mul F.fills_int_mul F.slot_int_rmul repeat_tuple F.slot_int_index.lookup
    (call_meets F.slot_int_rmul (typeIs_int s k t) F.entry_int_rmul (F.args_int_rmul_2 _ _) (int_rmul_tuple k t l its.toArray n dd sl)
      ⟨ho, rfl, ⟨_, ho, rfl⟩, call_meets F.slot_tuple_mul ⟨_, ho, rfl⟩ F.entry_tuple_mul (F.args_tuple_mul_2 _ _) (tuple_mulOne l its.toArray n dd sl k t c0 c1) ⟨ho, ?_⟩⟩)
  exact ⟨.ref l, _, I, rfl, q⟩
theorem op_repT0 {X : Cx} : OpR X (binaryOp .Mult) (rRepT0 X.K) := by
  intro pins s σ H x y v u Q I rx ry h
  obtain ⟨l, xs, rfl, rfl, hT, hne, q⟩ := h
  cases rx
  obtain ⟨t, rfl⟩ := ry
  obtain ⟨its, r, ⟨⟨cls, dd, data, sl⟩, ho, hc, n, hd⟩, hs⟩ := I.tuple hT
  simp only at hc hd
  subst hc hd
  have hle : its.length = xs.length := r.length.symm
  have hn : its ≠ [] := fun e => hne (by
    rw [e] at hle
    exact List.eq_nil_of_length_eq_zero hle.symm)
  have hi : its.toArray.isEmpty = false := by
    cases its with
    | nil => exact absurd rfl hn
    | cons a b => rfl
  have c0 : (decide ((0 : Int) < -(2 ^ 63)) || decide ((0 : Int) ≥ 2 ^ 63)) = false := by decide
  have c1 : (its.toArray.isEmpty || (0 : Int) == 1) = false := by rw [hi]; rfl
  have c2 : (decide ((0 : Int) ≤ 0) || its.toArray.isEmpty) = true := by simp
  refine wpAny_binaryOp_repeat_ref (T := "tuple") (U := "int") (by decide) ⟨_, ho, rfl⟩ (fun s' => typeIs_int s' 0 t) noFill_tuple_mul F.fills_int_mul F.slot_int_rmul repeat_tuple F.slot_int_index.lookup
    (call_meets F.slot_int_rmul (typeIs_int s 0 t) F.entry_int_rmul (F.args_int_rmul_2 _ _) (int_rmul_tuple 0 t l its.toArray n dd sl)
      ⟨ho, rfl, ⟨_, ho, rfl⟩, call_meets F.slot_tuple_mul ⟨_, ho, rfl⟩ F.entry_tuple_mul (F.args_tuple_mul_2 _ _) (tuple_mulNone l its.toArray n dd sl 0 t c0 c1 c2) ⟨ho, ?_⟩⟩)
  refine ⟨.ref s.heap.objs.size, _, I.laid (t' := s.toks) (o := .tup []) (fun b ob q => Heap.get?_push_of_some _ q) (Nat.le_refl _) ?_, rfl, q _ (I.hok.fresh (Nat.le_refl _))⟩
  exact ⟨by rw [sizeLine_eq]; simp, [], .nil, IsTup.new _ _⟩
def rMulA (K : PySem.W.Frag) : R2 := fun x y H Q => (rI CMulW (fun i j => .int (i * j)) x y H Q ∨ rI CMul (fun i j => .int (i * j)) x y H Q) ∨ (rRep x y H Q ∨ (rRepT K x y H Q ∨ (rRepT1 K x y H Q ∨ rRepT0 K x y H Q)))
theorem op_mulA : OpR X (binaryOp .Mult) (rMulA X.K) := (op_mulW.or op_mul).or (op_rep.or (op_repT.or (op_repT1.or op_repT0)))
theorem mul_ok : OpD (gOf X) (rMulA X.K) .R .R .S mulD := fun F H x y a b d Q Ha Hb s ka kb e k => by
  have ka : RdD (gOf X) F H x a := ka
  have kb : RdD (gOf X) F H y b := kb
  unfold mulD at e
  split at e
  · split at e <;> cases e
    rename_i h
    rcases h with h | h
    · exact .inl (.inl ⟨_, _, ka.int, kb.int, h, k _ F H (Grow.refl s) (.int _)⟩)
    · exact .inl (.inr ⟨_, _, ka.int, kb.int, h, k _ F H (Grow.refl s) (.int _)⟩)
  · split at e <;> cases e
    rename_i h
    obtain ⟨p, vs, rfl, h1, r1⟩ := ka.lst s
    refine .inr (.inl ⟨p, _, vs, rfl, kb.int, h1, by omega, by omega, ?_, fun t ht => k _ _ _ (Grow.mk1 s ht) (Rep.lst upd_same ((rep_all r1 _).mono (Grow.mk1 s ht).f))⟩)
    rw [sizeLine_eq, r1.length]
    exact Nat.le_trans (Nat.mul_le_mul h.2.2 (show _ ≤ 1000 by omega)) (by decide)
  · split at e <;> cases e
    rename_i h
    obtain ⟨p, vs, rfl, h1, r1⟩ := ka.tup s
    rename_i xs0 k0 _ _
    by_cases e0 : vs = []
    · subst e0
      cases r1
      refine .inr (.inr (.inr (.inl ⟨p, _, [], rfl, kb.int, h1, .inl rfl, by omega, by omega, k _ F H (Grow.refl s) ?_⟩)))
      rw [show (List.replicate (Int.toNat _) ([] : List D)).flatten = [] by simp]
      exact (RdD.tupS ka)
    · by_cases e1 : k0 = 1
      · subst e1
        refine .inr (.inr (.inr (.inl ⟨p, _, vs, rfl, kb.int, h1, .inr rfl, by omega, by omega, k _ F H (Grow.refl s) ?_⟩)))
        rw [show (List.replicate (Int.toNat 1) xs0).flatten = xs0 by simp]
        exact (RdD.tupS ka)
      · by_cases e2 : k0 = 0
        · subst e2
          refine .inr (.inr (.inr (.inr ⟨p, vs, rfl, kb.int, h1, e0, fun t ht => k _ _ _ (Grow.mk1 s ht) ?_⟩)))
          rw [show (List.replicate (Int.toNat 0) xs0).flatten = ([] : List D) by simp]
          exact Rep.tup (.of upd_same) .nil
        · refine .inr (.inr (.inl ⟨p, _, vs, rfl, kb.int, h1, e0, by omega, by omega, by rw [r1.length]; omega, fun t ht => k _ _ _ (Grow.mk1 s ht) (Rep.tup (.of upd_same) ((rep_all r1 _).mono (Grow.mk1 s ht).f))⟩))
  · cases e
def isB : D → D → Res D
  | .bl a, .bl b => .ok (.bl (decide (a = b)))
  | _, _ => .bad
def notB : D → D → Res D
  | .bl a, .bl b => .ok (.bl (!decide (a = b)))
  | _, _ => .bad
theorem isB_ok : OpD (gOf X) rIsB .R .R .S isB := fun F H x y a b d Q Ha Hb s ka kb e k => by
  unfold isB at e
  split at e <;> cases e
  exact ⟨_, _, RdD.bl ka, RdD.bl kb, k _ F H (Grow.refl s) (.bl _)⟩
theorem notB_ok : OpD (gOf X) rNotB .R .R .S notB := fun F H x y a b d Q Ha Hb s ka kb e k => by
  unfold notB at e
  split at e <;> cases e
  exact ⟨_, _, RdD.bl ka, RdD.bl kb, k _ F H (Grow.refl s) (.bl _)⟩
/-- x in xs, a list or tuple of data -/
def inS (x xs : D) : Res D := match toPy x, toPy xs with
  | some p, some (.list ps) => if SeqAt.shaped p = true ∧ SeqAt.shaped (.list ps) = true then .ok (.bl (ps.any fun z => PyData.eqv z p)) else .bad
  | _, _ => .bad
def notInS (x xs : D) : Res D := match toPy x, toPy xs with
  | some p, some (.list ps) => if SeqAt.shaped p = true ∧ SeqAt.shaped (.list ps) = true then .ok (.bl (!ps.any fun z => PyData.eqv z p)) else .bad
  | _, _ => .bad
theorem in_ok : OpD (gOf X) (rInD X.K) .R .R .S inS := fun F H x y a b d Q Ha Hb s ka kb e k => by
  unfold inS at e
  split at e
  · rename_i p ps h1 h2
    split at e <;> cases e
    rename_i h
    exact ⟨p, ps, RdD.dp s (show RdD (gOf X) F H x a from ka) h1, RdD.dp s (show RdD (gOf X) F H y b from kb) h2, h.1, h.2, k _ F H (Grow.refl s) (.bl _)⟩
  · cases e
theorem notIn_ok : OpD (gOf X) (rNotInD X.K) .R .R .S notInS := fun F H x y a b d Q Ha Hb s ka kb e k => by
  unfold notInS at e
  split at e
  · rename_i p ps h1 h2
    split at e <;> cases e
    rename_i h
    exact ⟨p, ps, RdD.dp s (show RdD (gOf X) F H x a from ka) h1, RdD.dp s (show RdD (gOf X) F H y b from kb) h2, h.1, h.2, k _ F H (Grow.refl s) (.bl _)⟩
  · cases e
end
theorem ne_add : NoEr2 addD := fun a b e z => by unfold addD at z; split at z <;> (try split at z) <;> cases z
theorem ne_addL : NoEr2 addLD := fun a b e z => by unfold addLD at z; split at z <;> (try split at z) <;> cases z
theorem ne_sub : NoEr2 subD := fun a b e z => by unfold subD at z; split at z <;> cases z
theorem ne_mul : NoEr2 mulD := fun a b e z => by unfold mulD at z; split at z <;> (try split at z) <;> cases z
theorem ne_mod : NoEr2 modD := fun a b e z => by unfold modD at z; split at z <;> (try split at z) <;> cases z
theorem ne_div : NoEr2 divD := fun a b e z => by unfold divD at z; split at z <;> (try split at z) <;> cases z
theorem ne_pow : NoEr2 powD := fun a b e z => by unfold powD at z; split at z <;> (try split at z) <;> cases z
theorem ne_shr : NoEr2 shrD := fun a b e z => by unfold shrD at z; split at z <;> (try split at z) <;> cases z
theorem ne_cmp {p : Int → Int → Bool} : NoEr2 (cmpD p) := fun a b e z => by unfold cmpD at z; split at z <;> cases z
theorem ne_eq : NoEr2 eqS := fun a b e z => by unfold eqS at z; split at z <;> (try split at z) <;> cases z
theorem ne_ne : NoEr2 neS := fun a b e z => by unfold neS at z; split at z <;> (try split at z) <;> cases z
theorem ne_isN : NoEr2 isN := fun a b e z => by unfold isN at z; split at z <;> cases z
theorem ne_notN : NoEr2 notN := fun a b e z => by unfold notN at z; split at z <;> cases z
theorem ne_isB : NoEr2 isB := fun a b e z => by unfold isB at z; split at z <;> cases z
theorem ne_notB : NoEr2 notB := fun a b e z => by unfold notB at z; split at z <;> cases z
theorem ne_in : NoEr2 inS := fun a b e z => by unfold inS at z; split at z <;> (try split at z) <;> cases z
theorem ne_notIn : NoEr2 notInS := fun a b e z => by unfold notInS at z; split at z <;> (try split at z) <;> cases z
/-! ### the rules by name -/
section
variable {X : Cx} {W : Wi} {k : Nat} {a b c : Expr} {fa fb fc : Env → Res D} {pos : Pos}
theorem re_add (ha : RE X W .R a fa) (hb : RE X W .R b fb) : RE X W .S (.BinOp a .Add b pos) (fun r => fa r >>= fun x => fb r >>= fun y => addD x y) := re_op op_addA add_ok ne_add ha hb
theorem re_addL (ha : RE X W .R a fa) (hb : RE X W .R b fb) : RE X W (.O .flat) (.BinOp a .Add b pos) (fun r => fa r >>= fun x => fb r >>= fun y => addLD x y) := re_op op_cat addL_ok ne_addL ha hb
theorem re_sub (ha : RE X W .R a fa) (hb : RE X W .R b fb) : RE X W .S (.BinOp a .Sub b pos) (fun r => fa r >>= fun x => fb r >>= fun y => subD x y) := re_op op_sub sub_ok ne_sub ha hb
theorem re_mul (ha : RE X W .R a fa) (hb : RE X W .R b fb) : RE X W .S (.BinOp a .Mult b pos) (fun r => fa r >>= fun x => fb r >>= fun y => mulD x y) := re_op op_mulA mul_ok ne_mul ha hb
theorem re_mod (ha : RE X W .R a fa) (hb : RE X W .R b fb) : RE X W .S (.BinOp a .Mod b pos) (fun r => fa r >>= fun x => fb r >>= fun y => modD x y) := re_op op_mod mod_ok ne_mod ha hb
theorem re_div (ha : RE X W .R a fa) (hb : RE X W .R b fb) : RE X W .S (.BinOp a .FloorDiv b pos) (fun r => fa r >>= fun x => fb r >>= fun y => divD x y) := re_op op_fdivW div_ok ne_div ha hb
theorem re_pow (ha : RE X W .R a fa) (hb : RE X W .R b fb) : RE X W .S (.BinOp a .Pow b pos) (fun r => fa r >>= fun x => fb r >>= fun y => powD x y) := re_op op_pow pow_ok ne_pow ha hb
theorem re_shr (ha : RE X W .R a fa) (hb : RE X W .R b fb) : RE X W .S (.BinOp a .RShift b pos) (fun r => fa r >>= fun x => fb r >>= fun y => shrD x y) := re_op op_shr shr_ok ne_shr ha hb
def ltD : D → D → Res D := cmpD fun i j => decide (i < j)
def leD : D → D → Res D := cmpD fun i j => decide (i ≤ j)
def gtD : D → D → Res D := cmpD fun i j => decide (j < i)
def geD : D → D → Res D := cmpD fun i j => decide (j ≤ i)
def asB : D → Res Bool
  | .bl b => .ok b
  | _ => .bad
/-- what a comparison by its sign is worth -/
structure Cmp (X : Cx) (o : CmpOp) (op : D → D → Res D) : Prop where
  ex : ∃ rr : R2, OpR X (compareOp o) rr ∧ OpD (gOf X) rr .R .R .S op
  ne : NoEr2 op
theorem c_lt : Cmp X .Lt ltD := ⟨⟨_, op_lt, cmp_ok⟩, ne_cmp⟩
theorem c_le : Cmp X .LtE leD := ⟨⟨_, op_le, cmp_ok⟩, ne_cmp⟩
theorem c_gt : Cmp X .Gt gtD := ⟨⟨_, op_gt, cmp_ok⟩, ne_cmp⟩
theorem c_ge : Cmp X .GtE geD := ⟨⟨_, op_ge, cmp_ok⟩, ne_cmp⟩
theorem c_eqS (hr : Room k X.A) : Cmp X .Eq eqS := ⟨⟨_, op_eqD hr.units, eq_ok⟩, ne_eq⟩
theorem c_neS (hr : Room k X.A) : Cmp X .NotEq neS := ⟨⟨_, op_neD hr.units, ne_ok⟩, ne_ne⟩
theorem c_isN : Cmp X .Is isN := ⟨⟨_, op_isN, isN_ok⟩, ne_isN⟩
theorem c_notN : Cmp X .IsNot notN := ⟨⟨_, op_notN, notN_ok⟩, ne_notN⟩
theorem c_isB : Cmp X .Is isB := ⟨⟨_, op_isBl, isB_ok⟩, ne_isB⟩
theorem c_notB : Cmp X .IsNot notB := ⟨⟨_, op_notBl, notB_ok⟩, ne_notB⟩
theorem units65 (hr : Room k X.A) : X.A.units + 65 < cLine := by have := hr.un; omega
theorem c_inS (hr : Room k X.A) : Cmp X .In inS := ⟨⟨_, op_inD (units65 hr), in_ok⟩, ne_in⟩
theorem c_notInS (hr : Room k X.A) : Cmp X .NotIn notInS := ⟨⟨_, op_notInD (units65 hr), notIn_ok⟩, ne_notIn⟩
theorem re_cp {o : CmpOp} {op : D → D → Res D} (C : Cmp X o op) (ha : RE X W .R a fa) (hb : RE X W .R b fb) (hm : behindInMarks o b = false := by first | exact nomark _ | rfl) : RE X W .S (.Compare a [o] [b] pos) (fun r => fa r >>= fun x => fb r >>= fun y => op x y) :=
  let ⟨_, h1, h2⟩ := C.ex
  re_cmp h1 h2 C.ne ha hb hm
theorem asB_er {d e : D} (h : asB d = .er e) : False := by unfold asB at h; split at h <;> cases h
/-- a truth as a test -/
theorem tB_of {t : TE} {f : Env → Res D} {G : GC} (σ : L2.St) (H : Hp) (Q : Bool → Hp → Prop) (i : ∀ R : VK, tE G W .S f σ H R → t σ H R) (h : tT G W (fun r => f r >>= asB) σ H Q) : tTest t σ H Q := by
  obtain ⟨H0, F0, fp, F, r, m, o⟩ := h
  refine i _ ⟨H0, F0, fp, F, r, m, o.bind fun F' H' d gr o2 v kv => ?_⟩
  cases e : asB d with
  | ok b =>
    rw [e] at o2
    unfold asB at e
    split at e <;> cases e
    cases kv
    exact ⟨b, rfl, o2 F' H' (Grow.refl gr.sub)⟩
  | er x => exact (asB_er e).elim
  | bad => rw [e] at o2; exact o2.elim
theorem rt_cp {o : CmpOp} {op : D → D → Res D} (C : Cmp X o op) (ha : RE X W .R a fa) (hb : RE X W .R b fb) (hm : behindInMarks o b = false := by first | exact nomark _ | rfl) : RT X W (.Compare a [o] [b] pos) (fun r => (fa r >>= fun x => fb r >>= fun y => op x y) >>= asB) :=
  let ⟨_, h1, h2⟩ := C.ex
  (pt_cmpR h1 ha hb hm).imp fun σ H Q h => tB_of σ H Q (fun R t => t_op h2 C.ne σ H R t) h
/-- an expression that is True or False as a test -/
theorem rt_val (ha : RE X W .S a fa) (he : ∀ whole, isTrue a X.env whole = (do let v ← whole; standAt a.pos; holding [v] (truthy v)) := by intro _; rfl) : RT X W a (fun r => fa r >>= asB) :=
  (pt_val ha he).imp fun σ H Q h => tB_of σ H Q (fun R t => t) h
theorem rt_not {f : Env → Res Bool} (ha : RT X W a f) : RT X W (.UnaryOp .Not a pos) (fun r => f r >>= fun t => .ok (!t)) :=
  (pt_not ha).imp fun σ H Q ⟨H0, F0, fp, F, r, m, o⟩ => ⟨H0, F0, fp, F, r, m, o.bind fun F' H' t gr o2 => o2 F' H' (Grow.refl gr.sub)⟩
abbrev RW (X : Cx) (W : Wi) (e : Expr) (f : Env → Res Bool) : Prop := PW X e (tT (gOf X) W f)
theorem rt_pw {f : Env → Res Bool} (h : RW X W a f) : RT X W a f := h.pt
theorem rw_and1 {f : Env → Res Bool} (ha : RT X W a f) : RW X W (.BoolOp .And [a] pos) f := pw_and1 ha
theorem rw_or1 {f : Env → Res Bool} (ha : RT X W a f) : RW X W (.BoolOp .Or [a] pos) f := pw_or1 ha
theorem rw_and {rest : List Expr} {f g : Env → Res Bool} (ha : RT X W a f) (hb : RW X W (.BoolOp .And (b :: rest) pos) g) : RW X W (.BoolOp .And (a :: b :: rest) pos) (fun r => f r >>= fun t => if t = true then g r else .ok false) :=
  (pw_and ha hb).imp fun σ H Q ⟨H0, F0, fp, F, r, m, o⟩ => ⟨H0, F0, fp, F, r, m, o.bind fun F' H' t gr o2 => by
    cases t with
    | true => exact ⟨H0, F0, fp, F', r, m.grow gr, o2⟩
    | false => exact o2 F' H' (Grow.refl gr.sub)⟩
theorem rw_or {rest : List Expr} {f g : Env → Res Bool} (ha : RT X W a f) (hb : RW X W (.BoolOp .Or (b :: rest) pos) g) : RW X W (.BoolOp .Or (a :: b :: rest) pos) (fun r => f r >>= fun t => if t = true then .ok true else g r) :=
  (pw_or ha hb).imp fun σ H Q ⟨H0, F0, fp, F, r, m, o⟩ => ⟨H0, F0, fp, F, r, m, o.bind fun F' H' t gr o2 => by
    cases t with
    | true => exact o2 F' H' (Grow.refl gr.sub)
    | false => exact ⟨H0, F0, fp, F', r, m.grow gr, o2⟩⟩
/-! and, or, not as values -/
theorem re_one {op : BoolOp} (h : RE X W .S a fa) : RE X W .S (.BoolOp op [a] pos) fa := pe_one h
theorem re_and {rest : List Expr} (ha : RE X W .S a fa) (hb : RE X W .S (.BoolOp .And (b :: rest) pos) fb) : RE X W .S (.BoolOp .And (a :: b :: rest) pos) (fun r => (fa r >>= asB) >>= fun t => if t = true then fb r else .ok (.bl false)) :=
  (pe_and ha hb).imp fun σ H Q ⟨H0, F0, fp, F, r, m, o⟩ => by
    have z := tB_of (t := tE (gOf X) W .S fa) (f := fa) σ H (fun t H1 => if t = true then tE (gOf X) W .S fb σ H1 Q else Q (.bl false) H1) (fun R t => t) ⟨H0, F0, fp, F, r, m, o.bind fun F' H' t gr o2 => by
      cases t with
      | true => rw [if_pos rfl] at o2 ⊢; exact ⟨H0, F0, fp, F', r, m.grow gr, o2.imp fun F2 H2 d g2 p v kv => p v kv⟩
      | false => exact o2 F' H' (Grow.refl gr.sub) _ (Rep.bl false)⟩
    exact z
theorem re_or {rest : List Expr} (ha : RE X W .S a fa) (hb : RE X W .S (.BoolOp .Or (b :: rest) pos) fb) : RE X W .S (.BoolOp .Or (a :: b :: rest) pos) (fun r => (fa r >>= asB) >>= fun t => if t = true then .ok (.bl true) else fb r) :=
  (pe_or ha hb).imp fun σ H Q ⟨H0, F0, fp, F, r, m, o⟩ => by
    have z := tB_of (t := tE (gOf X) W .S fa) (f := fa) σ H (fun t H1 => if t = true then Q (.bl true) H1 else tE (gOf X) W .S fb σ H1 Q) (fun R t => t) ⟨H0, F0, fp, F, r, m, o.bind fun F' H' t gr o2 => by
      cases t with
      | true => exact o2 F' H' (Grow.refl gr.sub) _ (Rep.bl true)
      | false => exact ⟨H0, F0, fp, F', r, m.grow gr, o2.imp fun F2 H2 d g2 p v kv => p v kv⟩⟩
    exact z
theorem re_not (ha : RE X W .S a fa) : RE X W .S (.UnaryOp .Not a pos) (fun r => (fa r >>= asB) >>= fun t => .ok (.bl (!t))) :=
  (pe_not ha).imp fun σ H Q ⟨H0, F0, fp, F, r, m, o⟩ => by
    have z := tB_of (t := tE (gOf X) W .S fa) (f := fa) σ H (fun t H1 => Q (.bl (!t)) H1) (fun R t => t) ⟨H0, F0, fp, F, r, m, o.bind fun F' H' t gr o2 => o2 F' H' (Grow.refl gr.sub) _ (Rep.bl _)⟩
    exact z
theorem re_if {f : Env → Res Bool} (hc : RT X W c f) (ha : RE X W .S a fa) (hb : RE X W .S b fb) : RE X W .S (.IfExp c a b pos) (fun r => f r >>= fun t => if t = true then fa r else fb r) :=
  (pe_ifExp hc ha hb).imp fun σ H Q ⟨H0, F0, fp, F, r, m, o⟩ => ⟨H0, F0, fp, F, r, m, o.bind fun F' H' t gr o2 => by
    cases t with
    | true => exact ⟨H0, F0, fp, F', r, m.grow gr, o2.imp fun F2 H2 d g2 p v kv => p v kv⟩
    | false => exact ⟨H0, F0, fp, F', r, m.grow gr, o2.imp fun F2 H2 d g2 p v kv => p v kv⟩⟩
@[simp] def negD : D → Res D
  | .int i => .ok (.int (-i))
  | _ => .bad
theorem re_neg (ha : RE X W .R a fa) : RE X W .S (.UnaryOp .USub a pos) (fun r => fa r >>= negD) :=
  (pe_un un_neg ha).imp fun σ H Q ⟨H0, F0, fp, F, r, m, o⟩ => ⟨H0, F0, fp, F, r, m, o.bind fun F' H' d gr o2 v kv => by
    cases d with
    | int i => exact ⟨i, RdD.int kv, o2 F' H' (Grow.refl gr.sub) _ (Rep.int _)⟩
    | _ => exact o2.elim⟩
end
end Mir

/-! Subscripts, displays, built-ins by name, lists changed. -/
namespace Mir
open PySem PySem.Spec PyProof.Rows L2

/-! ### subscripts -/
def ixS : D → D → Res D
  | .lst xs, .int i => match atI xs i with
    | some d => .ok d
    | none => .bad
  | .tup xs, .int i => match atI xs i with
    | some d => .ok d
    | none => .bad
  | .scr ns, .int i => match atI ns i with
    | some n => .ok (.int n)
    | none => .bad
  | .str z, .int i => if z.length ≤ lim then (match atI z.cps.toList i with
    | some c => .ok (.str ⟨#[c]⟩)
    | none => .bad) else .bad
  | _, _ => .bad
theorem atI_rep {G : GC} {F : Hp} {vs : List V} {ds : List D} {i : Int} {d : D} (r : RepAll G F vs ds) (h : atI ds i = some d) : ∃ v, atI vs i = some v ∧ Rep G F v d := by
  unfold atI at h ⊢
  rw [r.length]
  cases e : ixN ds.length i with
  | none => rw [e] at h; cases h
  | some j =>
    rw [e] at h
    exact r.get h
theorem atI_map {ns : List Int} {i n : Int} (h : atI ns i = some n) : atI (ns.map V.int) i = some (.int n) := by
  unfold atI at h ⊢
  rw [List.length_map]
  cases e : ixN ns.length i with
  | none => rw [e] at h; cases h
  | some j =>
    rw [e] at h
    show (ns.map V.int)[j]? = _
    rw [List.getElem?_map, show ns[j]? = some n from h]
    rfl
section
variable {X : Cx} {W : Wi} {k : Nat} {a b c e : Expr} {es : List Expr} {fa fb fc fe : Env → Res D} {p pos apos cpos : Pos}
theorem ix_ok : OpD (gOf X) (rIx X.K) .R .R .S ixS := fun F H x y a b d Q Ha Hb s ka kb e k => by
  have ka : RdD (gOf X) F H x a := ka
  have kb : RdD (gOf X) F H y b := kb
  unfold ixS at e
  split at e
  · split at e <;> cases e
    rename_i h
    obtain ⟨q, vs, rfl, h1, r1⟩ := ka.lst s
    obtain ⟨v, hv, rv⟩ := atI_rep r1 h
    exact .inl ⟨q, vs, _, v, rfl, kb.int, .of h1, hv, k _ F H (Grow.refl s) rv⟩
  · split at e <;> cases e
    rename_i h
    obtain ⟨q, vs, rfl, h1, r1⟩ := ka.tup s
    obtain ⟨v, hv, rv⟩ := atI_rep r1 h
    exact .inr (.inl ⟨q, vs, _, v, rfl, kb.int, h1, hv, k _ F H (Grow.refl s) rv⟩)
  · split at e <;> cases e
    rename_i h
    obtain ⟨q, rfl, h1⟩ := ka.scr s
    exact .inl ⟨q, _, _, _, rfl, kb.int, h1, atI_map h, k _ F H (Grow.refl s) (.int _)⟩
  · split at e
    · rename_i hl
      split at e <;> cases e
      rename_i h
      exact .inr (.inr ⟨_, _, _, ka.str, kb.int, Nat.le_trans hl lim_le, h, k _ F H (Grow.refl s) (.str _)⟩)
    · cases e
  · cases e
theorem ne_ix : NoEr2 ixS := fun a b e z => by
  unfold ixS at z
  split at z
  · split at z <;> cases z
  · split at z <;> cases z
  · split at z <;> cases z
  · split at z
    · split at z <;> cases z
    · cases z
  · cases z
theorem re_ixS (ha : RE X W .R a fa) (hb : RE X W .R b fb) (hs : PlainIx b := by intro _ _; rfl) : RE X W .S (.Subscript a b pos) (fun r => fa r >>= fun x => fb r >>= fun y => ixS x y) := (pe_ix ix_seq ha hb hs).imp (t_op ix_ok ne_ix)

/-! ### slices -/
def cutD (xs : List D) (lo hi : Option Int) : List D := (xs.drop (HT.sIx xs.length 0 lo)).take (HT.sIx xs.length xs.length hi - HT.sIx xs.length 0 lo)
@[simp] def asI : D → Res Int
  | .int i => .ok i
  | _ => .bad
def sliceD (d : D) (lo hi : Option Int) : Res D := match d with
  | .lst xs => .ok (.lst (cutD xs lo hi))
  | .tup xs => .ok (.tup (cutD xs lo hi))
  | .str z => if z.length ≤ lim then .ok (.str (cutS z lo hi)) else .bad
  | _ => .bad
def sliceLD (d : D) (lo hi : Option Int) : Res D := match d with
  | .lst xs => .ok (.lst (cutD xs lo hi))
  | _ => .bad
theorem RepAll.cut {G : GC} {F : Hp} {vs : List V} {ds : List D} (r : RepAll G F vs ds) (lo hi : Option Int) : RepAll G F (cutV vs lo hi) (cutD ds lo hi) := by
  unfold cutV cutD
  rw [r.length]
  exact (r.drop _).take _
def partD (o : Option (Env → Res D)) (r : Env) : Res (Option Int) := match o with
  | none => .ok none
  | some f => f r >>= asI >>= fun i => .ok (some i)
/-- a part of a slice -/
def tP (G : GC) (W : Wi) (f : Env → Res (Option Int)) : TO := fun σ H Q => ∃ H0 F0 fp F r, MS G W.J H0 F0 fp F σ H r ∧ Out G W σ F H (fun F' H' o => Q o H') (f r)
abbrev RP (X : Cx) (W : Wi) (e : Option Expr) (f : Env → Res (Option Int)) : Prop := PO X e (tP (gOf X) W f)
theorem PO.imp {X : Cx} {e : Option Expr} {t t' : TO} (h : PO X e t) (i : ∀ σ H Q, t' σ H Q → t σ H Q) : PO X e t' := ⟨fun pins s σ H Q I hw => h.run pins s σ H Q I (i σ H Q hw)⟩
theorem rp_none : RP X W none (fun _ => .ok none) := PO.imp po_none fun σ H Q ⟨H0, F0, fp, F, r, m, o⟩ => o F H (Grow.refl m.sub)
theorem rp_some (he : RE X W .R e fe) : RP X W (some e) (fun r => fe r >>= fun d => asI d >>= fun i => .ok (some i)) := PO.imp (po_some he) fun σ H Q ⟨H0, F0, fp, F, r, m, o⟩ => ⟨H0, F0, fp, F, r, m, o.bind fun F' H' d gr o2 v kv => by
  cases d with
  | int i => exact ⟨i, RdD.int kv, o2 F' H' (Grow.refl gr.sub)⟩
  | _ => exact o2.elim⟩
def rSlAll (K : PySem.W.Frag) : V → Option Int → Option Int → Hp → VK → Prop := fun x lo hi H Q => rSlL K x lo hi H Q ∨ (rSlA K x lo hi H Q ∨ ∃ z, x = .str z ∧ z.length ≤ sizeLine ∧ Q (.str (cutS z lo hi)) H)
theorem t_slice {f1 f2 : Env → Res (Option Int)} {Kk : Kd} {op : D → Option Int → Option Int → Res D} (ne : ∀ d lo hi e, op d lo hi ≠ .er e) {rr : V → Option Int → Option Int → Hp → VK → Prop}
    (ok : ∀ F H x a lo hi d (Q : VK), Same F H → RdD (gOf X) F H x a → op a lo hi = .ok d → (∀ v F' H', Grow F H F' H' → Kk.Rep (gOf X) H F' H' v d → Q v H') → rr x lo hi H Q)
    (σ : L2.St) (H : Hp) (Q : VK) (t : tE (gOf X) W Kk (fun r => fa r >>= fun d => f1 r >>= fun lo => f2 r >>= fun hi => op d lo hi) σ H Q) : tSl rr (tE (gOf X) W .R fa) (tP (gOf X) W f1) (tP (gOf X) W f2) σ H Q := by
  obtain ⟨H0, F0, fp, F, r, m, o⟩ := t
  refine ⟨H0, F0, fp, F, r, m, o.bind fun F1 H1 d g1 o1 v kv => ⟨H0, F0, fp, F1, r, m.grow g1, o1.bind fun F2 H2 lo g2 o2 => ⟨H0, F0, fp, F2, r, (m.grow g1).grow g2, o2.bind fun F3 H3 hi g3 o3 => ?_⟩⟩⟩
  cases e : op d lo hi with
  | ok d' =>
    rw [e] at o3
    exact ok F3 H3 v d lo hi d' Q g3.sub (RdD.grow (show RdD (gOf X) F1 H1 v d from kv) (g2.trans g3)) e fun v' F' H' g q => o3 F' H' g v' (q.later (g1.h.trans (g2.h.trans g3.h)))
  | er x => exact (ne _ _ _ _ e).elim
  | bad => rw [e] at o3; exact o3.elim
theorem re_slice {f1 f2 : Env → Res (Option Int)} {lo hi : Option Expr} {p2 : Pos} (ha : RE X W .R a fa) (hl : RP X W lo f1) (hh : RP X W hi f2) : RE X W .S (.Subscript a (.Slice lo hi none p2) pos) (fun r => fa r >>= fun d => f1 r >>= fun lo => f2 r >>= fun hi => sliceD d lo hi) :=
  (pe_slice (r := rSlAll X.K) (sl_list.or (sl_tupA.or sl_str)) ha hl hh).imp (t_slice (fun d lo hi e z => by unfold sliceD at z; split at z <;> (try split at z) <;> cases z) fun F H x a lo hi d Q s ka e k => by
    unfold sliceD at e
    split at e
    · cases e
      obtain ⟨q, vs, rfl, h1, r1⟩ := ka.lst s
      exact .inl ⟨q, vs, rfl, .of h1, fun t ht => k _ _ _ (Grow.mk1 s ht) (Rep.lst upd_same ((r1.cut lo hi).mono (Grow.mk1 s ht).f))⟩
    · cases e
      obtain ⟨q, vs, rfl, h1, r1⟩ := ka.tup s
      refine .inr (.inl ⟨q, vs, rfl, h1, fun w => ?_, fun _ t ht => k _ _ _ (Grow.mk1 s ht) (Rep.tup (.of upd_same) ((r1.cut lo hi).mono (Grow.mk1 s ht).f))⟩)
      rename_i ds
      have e : cutD ds lo hi = ds := by
        unfold cutD
        rw [r1.length] at w
        rw [w.1, w.2]
        simp
      rw [e] at k
      exact k _ F H (Grow.refl s) ka.tupS
    · split at e <;> cases e
      rename_i h
      exact .inr (.inr ⟨_, ka.str, Nat.le_trans h lim_le, k _ F H (Grow.refl s) (.str _)⟩)
    · cases e)
/-- a slice of a list, one's own -/
theorem re_sliceL {f1 f2 : Env → Res (Option Int)} {lo hi : Option Expr} {p2 : Pos} (ha : RE X W .R a fa) (hl : RP X W lo f1) (hh : RP X W hi f2) : RE X W (.O .flat) (.Subscript a (.Slice lo hi none p2) pos) (fun r => fa r >>= fun d => f1 r >>= fun lo => f2 r >>= fun hi => sliceLD d lo hi) :=
  (pe_slice sl_list ha hl hh).imp (t_slice (fun d lo hi e z => by unfold sliceLD at z; split at z <;> cases z) fun F H x a lo hi d Q s ka e k => by
    unfold sliceLD at e
    split at e <;> cases e
    obtain ⟨q, vs, rfl, h1, r1⟩ := ka.lst s
    exact ⟨q, vs, rfl, .of h1, fun t ht => k _ _ _ (Grow.own s ht) ⟨[t], Own.lst rfl upd_same (s.free ht) (OwnAll.of_rep (r1.cut lo hi)) (by simp), fun a ha => by rw [List.mem_singleton.mp ha]; exact ht⟩⟩)

/-! ### displays -/
theorem re_tup {x1} {f : Env → Res (List D)} (ha : RA X W es f) : RE X W .S (.Tuple es x1 pos) (fun r => f r >>= fun ds => if ds.length ≤ lim then .ok (.tup ds) else .bad) :=
  (pe_tup ha).imp fun σ H Q ⟨H0, F0, fp, F, r, m, o⟩ => ⟨H0, F0, fp, F, r, m, o.bind fun F' H' ds gr o2 vs rv => by
    split at o2
    · rename_i h
      exact ⟨Nat.le_trans (by rw [rv.length]; exact h) lim_le, fun t ht => o2 _ _ (Grow.mk1 gr.sub ht) _ (Rep.tup (.of upd_same) (rv.mono (Grow.mk1 gr.sub ht).f))⟩
    · exact o2.elim⟩
theorem re_lst {f : Env → Res (List D)} (ha : RA X W es f) : RE X W (.O .flat) (.List es pos) (fun r => f r >>= fun ds => if ds.length ≤ lim then .ok (.lst ds) else .bad) :=
  (pe_lst ha).imp fun σ H Q ⟨H0, F0, fp, F, r, m, o⟩ => ⟨H0, F0, fp, F, r, m, o.bind fun F' H' ds gr o2 vs rv => by
    split at o2
    · rename_i h
      exact ⟨Nat.le_trans (by rw [rv.length]; exact h) lim_le, fun t ht => o2 _ _ (Grow.own gr.sub ht) _ ⟨[t], Own.lst rfl upd_same (gr.sub.free ht) (OwnAll.of_rep rv) (by simp), fun a ha => by rw [List.mem_singleton.mp ha]; exact gr.h.free ht⟩⟩
    · exact o2.elim⟩
end
end Mir

/-! Built-ins by name; lists changed. -/
namespace Mir
open PySem PySem.Spec PyProof.Rows L2

inductive RdAll (G : GC) (F H : Hp) : List V → List D → Prop
  | nil : RdAll G F H [] []
  | cons {v : V} {d : D} {vs : List V} {ds : List D} : RdD G F H v d → RdAll G F H vs ds → RdAll G F H (v :: vs) (d :: ds)
def tAR (G : GC) (W : Wi) (f : Env → Res (List D)) : TA := fun σ H Q => ∃ H0 F0 fp F r, MS G W.J H0 F0 fp F σ H r ∧ Out G W σ F H (fun F' H' ds => ∀ vs, RdAll G F' H' vs ds → Q vs H') (f r)
/-- arguments to be read -/
abbrev RAR (X : Cx) (W : Wi) (es : List Expr) (f : Env → Res (List D)) : Prop := PA X es (tAR (gOf X) W f)
def CalD (G : GC) (rr : List V → Hp → VK → Prop) (k : Kd) (op : List D → Res D) : Prop := ∀ (F H : Hp) (vs : List V) (ds : List D) (d : D) (Q : VK), Same F H → RdAll G F H vs ds → op ds = .ok d → (∀ v F' H', Grow F H F' H' → k.Rep G H F' H' v d → Q v H') → rr vs H Q
def NoErL (op : List D → Res D) : Prop := ∀ ds e, op ds ≠ .er e
/-- a built-in by its name -/
structure BlM (X : Cx) (x : Str) (k : Kd) (op : List D → Res D) : Prop where
  mg : X.mg x = none
  ex : ∃ rr : List V → Hp → VK → Prop, CalD (gOf X) rr k op ∧ ((∃ id, bootBuiltins x = some (.builtin id) ∧ CallR X (.builtin id) rr) ∨ ∃ T, bootBuiltins x = some (.type T) ∧ CallR X (.type T) rr)
  ne : NoErL op
  n1 : x ≠ "__name__"
  n2 : (x == ("__debug__" : Str)) = false
section
variable {X : Cx} {W : Wi} {k : Kd} {e : Expr} {es : List Expr} {fe : Env → Res D} {p pos : Pos}
theorem rar_nil : RAR X W [] (fun _ => .ok []) := pa_nil.imp fun σ H Q ⟨H0, F0, fp, F, r, m, o⟩ => o F H (Grow.refl m.sub) [] .nil
theorem RdAll.grow {G : GC} {F H F' H' : Hp} (g : Grow F H F' H') : ∀ {vs : List V} {ds : List D}, RdAll G F H vs ds → RdAll G F' H' vs ds
  | _, _, .nil => .nil
  | _, _, .cons r t => .cons (r.grow g) (RdAll.grow g t)
theorem rar_cons {g : Env → Res (List D)} (he : RE X W .R e fe) (hr : RAR X W es g) (hs : starEach (e :: es) X.env = (false, eval e X.env) :: starEach es X.env := by rfl) :
    RAR X W (e :: es) (fun r => fe r >>= fun d => g r >>= fun ds => .ok (d :: ds)) :=
  (pa_cons he hr hs).imp fun σ H Q ⟨H0, F0, fp, F, r, m, o⟩ => ⟨H0, F0, fp, F, r, m, o.bind fun F1 H1 d g1 o1 v kv =>
    ⟨H0, F0, fp, F1, r, m.grow g1, o1.bind fun F2 H2 ds g2 o2 vs rv => o2 F2 H2 (Grow.refl g2.sub) (v :: vs) (.cons (RdD.grow kv g2) rv)⟩⟩
theorem t_bl {rr : List V → Hp → VK → Prop} {op : List D → Res D} (h : CalD (gOf X) rr k op) (ne : NoErL op) {fa : Env → Res (List D)} (σ : L2.St) (H : Hp) (Q : VK) (t : tE (gOf X) W k (fun r => fa r >>= op) σ H Q) : tCB rr (tAR (gOf X) W fa) σ H Q := by
  obtain ⟨H0, F0, fp, F, r, m, o⟩ := t
  refine ⟨H0, F0, fp, F, r, m, o.bind fun F' H' ds gr o2 vs rv => ?_⟩
  cases z : op ds with
  | ok d =>
    rw [z] at o2
    exact h F' H' vs ds d Q gr.sub rv z fun v F2 H2 g kv => o2 F2 H2 g v (kv.later gr.h)
  | er x => exact (ne _ _ z).elim
  | bad => rw [z] at o2; exact o2.elim
theorem re_blt {x : Str} {op : List D → Res D} {fa : Env → Res (List D)} (B : BlM X x k op) (ha : RAR X W (e :: es) fa) (hg : Gl X x := by rfl) (he : starEach (e :: es) X.env = (false, eval e X.env) :: starEach es X.env := by rfl) (hpl : (backTo pos (starEach es X.env)).any (·.1) = false := by rfl) :
    RE X W k (.Call (.Name x p) (e :: es) [] pos) (fun r => fa r >>= op) := by
  obtain ⟨rr, hc, ⟨id, hv, hr⟩ | ⟨T, hv, hr⟩⟩ := B.ex
  · exact (pe_callB hr hg B.mg hv ha B.n1 B.n2 he hpl).imp (t_bl hc B.ne)
  · exact (pe_callTy hr hg B.mg hv ha B.n1 B.n2 he hpl).imp (t_bl hc B.ne)

theorem BlM.b {x : Str} {id : String} {rr : List V → Hp → VK → Prop} {op : List D → Res D} (hm : X.mg x = none) (hv : bootBuiltins x = some (.builtin id)) (hr : CallR X (.builtin id) rr) (ne : NoErL op) (c : CalD (gOf X) rr k op) (n1 : x ≠ "__name__" := by decide) (n2 : (x == ("__debug__" : Str)) = false := by decide) : BlM X x k op :=
  ⟨hm, ⟨rr, c, .inl ⟨id, hv, hr⟩⟩, ne, n1, n2⟩
theorem BlM.t {x : Str} {T : String} {rr : List V → Hp → VK → Prop} {op : List D → Res D} (hm : X.mg x = none) (hv : bootBuiltins x = some (.type T)) (hr : CallR X (.type T) rr) (ne : NoErL op) (c : CalD (gOf X) rr k op) (n1 : x ≠ "__name__" := by decide) (n2 : (x == ("__debug__" : Str)) = false := by decide) : BlM X x k op :=
  ⟨hm, ⟨rr, c, .inr ⟨T, hv, hr⟩⟩, ne, n1, n2⟩

/-! ### len, tuple, list, int, str, min, max -/
@[simp] def one (f : D → Res D) : List D → Res D
  | [d] => f d
  | _ => .bad
@[simp] def two (f : D → D → Res D) : List D → Res D
  | [d, e] => f d e
  | _ => .bad
def noEr1 (f : D → Res D) : Prop := ∀ d e, f d ≠ .er e
theorem ne_one {f : D → Res D} (h : noEr1 f) : NoErL (one f) := fun ds e z => by
  unfold one at z
  split at z
  · exact h _ _ z
  · cases z
theorem ne_two {f : D → D → Res D} (h : NoEr2 f) : NoErL (two f) := fun ds e z => by
  unfold two at z
  split at z
  · exact h _ _ _ z
  · cases z
theorem cal_one {G : GC} {rr : List V → Hp → VK → Prop} {f : D → Res D} (h : ∀ (F H : Hp) (x : V) (a d : D) (Q : VK), Same F H → RdD G F H x a → f a = .ok d → (∀ v F' H', Grow F H F' H' → k.Rep G H F' H' v d → Q v H') → rr [x] H Q) : CalD G rr k (one f) := fun F H vs ds d Q s r e q => by
  unfold one at e
  split at e
  · cases r with
    | cons r1 rn =>
      cases rn
      exact h F H _ _ d Q s r1 e q
  · cases e
theorem cal_two {G : GC} {rr : List V → Hp → VK → Prop} {f : D → D → Res D} (h : ∀ (F H : Hp) (x y : V) (a b d : D) (Q : VK), Same F H → RdD G F H x a → RdD G F H y b → f a b = .ok d → (∀ v F' H', Grow F H F' H' → k.Rep G H F' H' v d → Q v H') → rr [x, y] H Q) : CalD G rr k (two f) := fun F H vs ds d Q s r e q => by
  unfold two at e
  split at e
  · cases r with
    | cons r1 rn =>
      cases rn with
      | cons r2 rn =>
        cases rn
        exact h F H _ _ _ _ d Q s r1 r2 e q
  · cases e
@[simp] def tupleD : D → Res D
  | .lst xs => .ok (.tup xs)
  | .tup xs => .ok (.tup xs)
  | _ => .bad
@[simp] def listD : D → Res D
  | .lst xs => .ok (.lst xs)
  | .tup xs => .ok (.lst xs)
  | _ => .bad
theorem b_tuple (hm : X.mg "tuple" = none) : BlM X "tuple" .S (one tupleD) := BlM.t hm boot_tuple (call_tuple_of) (ne_one fun d e z => by unfold tupleD at z; split at z <;> cases z) (cal_one fun F H x a d Q s ra e q => by
  unfold tupleD at e
  split at e <;> cases e
  · obtain ⟨p, vs, rfl, h1, r1⟩ := ra.lst s
    exact ⟨p, vs, rfl, .inl ⟨.of h1, fun t ht => q _ _ _ (Grow.mk1 s ht) (Rep.tup (.of upd_same) (r1.mono (Grow.mk1 s ht).f))⟩⟩
  · obtain ⟨p, vs, rfl, h1, r1⟩ := ra.tup s
    exact ⟨p, vs, rfl, .inr ⟨h1, q _ F H (Grow.refl s) ra.tupS⟩⟩)
theorem b_list (hm : X.mg "list" = none) : BlM X "list" (.O .flat) (one listD) := BlM.t hm boot_list (call_list_of) (ne_one fun d e z => by unfold listD at z; split at z <;> cases z) (cal_one fun F H x a d Q s ra e q => by
  unfold listD at e
  split at e <;> cases e
  · obtain ⟨p, vs, rfl, h1, r1⟩ := ra.lst s
    exact ⟨p, vs, rfl, .inl (.of h1), fun t ht => q _ _ _ (Grow.own s ht) ⟨[t], Own.lst rfl upd_same (s.free ht) (OwnAll.of_rep r1) (by simp), fun a ha => by rw [List.mem_singleton.mp ha]; exact ht⟩⟩
  · obtain ⟨p, vs, rfl, h1, r1⟩ := ra.tup s
    exact ⟨p, vs, rfl, .inr h1, fun t ht => q _ _ _ (Grow.own s ht) ⟨[t], Own.lst rfl upd_same (s.free ht) (OwnAll.of_rep r1) (by simp), fun a ha => by rw [List.mem_singleton.mp ha]; exact ht⟩⟩)
def intD : D → Res D
  | .int i => .ok (.int i)
  | .bl b => .ok (.int (if b = true then 1 else 0))
  | .str s => match PySem.intText? s with
    | some n => if s.length ≤ 640 then .ok (.int n) else .bad
    | none => .bad
  | _ => .bad
theorem ne_int : noEr1 intD := fun d e z => by
  unfold intD at z
  split at z
  · cases z
  · cases z
  · split at z
    · split at z <;> cases z
    · cases z
  · cases z
theorem b_int (hm : X.mg "int" = none) : BlM X "int" .S (one intD) := BlM.t hm boot_int (call_int1.or call_int_str) (ne_one ne_int) (cal_one fun F H x a d Q s ra e q => by
  unfold intD at e
  split at e
  · cases e
    exact .inl (.inl ⟨_, by rw [ra.int], q _ F H (Grow.refl s) (Rep.int _)⟩)
  · cases e
    exact .inl (.inr ⟨_, by rw [ra.bl], q _ F H (Grow.refl s) (Rep.int _)⟩)
  · split at e
    · rename_i n hn
      split at e <;> cases e
      rename_i hl
      exact .inr ⟨_, n, by rw [ra.str], hn, hl, q _ F H (Grow.refl s) (Rep.int _)⟩
    · cases e
  · cases e)
def strD : D → Res D
  | .int i => if bits i < 1920 then .ok (.str (toString i)) else .bad
  | _ => .bad
theorem b_str (hm : X.mg "str" = none) : BlM X "str" .S (one strD) := BlM.t hm boot_str (call_str_int) (ne_one (fun d e z => by unfold strD at z; split at z <;> (try split at z) <;> cases z)) (cal_one fun F H x a d Q s ra e q => by
  unfold strD at e
  split at e
  · split at e <;> cases e
    rename_i h
    exact ⟨_, by rw [ra.int], h, q _ F H (Grow.refl s) (Rep.str _)⟩
  · cases e)
def minD : D → D → Res D
  | .int i, .int j => .ok (.int (if j < i then j else i))
  | _, _ => .bad
def maxD : D → D → Res D
  | .int i, .int j => .ok (.int (if j > i then j else i))
  | _, _ => .bad
theorem b_min (hc : X.calm = true) (hm : X.mg "min" = none) : BlM X "min" .S (two minD) := BlM.b hm boot_min (call_min2 hc) (ne_two (fun a b e z => by unfold minD at z; split at z <;> cases z)) (cal_two fun F H x y a b d Q s ra rb e q => by
  unfold minD at e
  split at e <;> cases e
  exact ⟨_, _, by rw [ra.int, rb.int], q _ F H (Grow.refl s) (Rep.int _)⟩)
theorem b_max (hc : X.calm = true) (hm : X.mg "max" = none) : BlM X "max" .S (two maxD) := BlM.b hm boot_max (call_max2 hc) (ne_two (fun a b e z => by unfold maxD at z; split at z <;> cases z)) (cal_two fun F H x y a b d Q s ra rb e q => by
  unfold maxD at e
  split at e <;> cases e
  exact ⟨_, _, by rw [ra.int, rb.int], q _ F H (Grow.refl s) (Rep.int _)⟩)
/-! ### sum, all, any -/
def asInts : List D → Option (List Int)
  | [] => some []
  | .int i :: ds => (asInts ds).map (i :: ·)
  | _ :: _ => none
def asBls : List D → Option (List Bool)
  | [] => some []
  | .bl b :: ds => (asBls ds).map (b :: ·)
  | _ :: _ => none
theorem asInts_rep {G : GC} {F : Hp} : ∀ {vs : List V} {ds : List D} {ns : List Int}, RepAll G F vs ds → asInts ds = some ns → vs = ns.map V.int
  | _, _, _, .nil, e => by cases e; rfl
  | _, _, _, .cons (d := d) r t, e => by
    cases d with
    | int i =>
      rw [asInts, Option.map_eq_some_iff] at e
      obtain ⟨ms, e1, e2⟩ := e
      subst e2
      cases r
      rw [asInts_rep t e1]
      rfl
    | _ => cases e
theorem asBls_rep {G : GC} {F : Hp} : ∀ {vs : List V} {ds : List D} {ns : List Bool}, RepAll G F vs ds → asBls ds = some ns → vs = ns.map V.bl
  | _, _, _, .nil, e => by cases e; rfl
  | _, _, _, .cons (d := d) r t, e => by
    cases d with
    | bl i =>
      rw [asBls, Option.map_eq_some_iff] at e
      obtain ⟨ms, e1, e2⟩ := e
      subst e2
      cases r
      rw [asBls_rep t e1]
      rfl
    | _ => cases e
def sumD : D → Res D
  | .scr ns => .ok (.int ns.sum)
  | .lst ds => match asInts ds with
    | some ns => .ok (.int ns.sum)
    | none => .bad
  | _ => .bad
def allD : D → Res D
  | .lst ds => match asBls ds with
    | some bs => .ok (.bl (bs.all id))
    | none => .bad
  | _ => .bad
def anyD : D → Res D
  | .lst ds => match asBls ds with
    | some bs => .ok (.bl (bs.any id))
    | none => .bad
  | _ => .bad
theorem boot_sum' : bootBuiltins "sum" = some (.builtin "sum") := by decide +kernel
theorem boot_all' : bootBuiltins "all" = some (.builtin "all") := by decide +kernel
theorem boot_any' : bootBuiltins "any" = some (.builtin "any") := by decide +kernel
theorem b_sum (hc : X.calm = true) (hm : X.mg "sum" = none) : BlM X "sum" .S (one sumD) := BlM.b hm boot_sum' (cr_sum hc) (ne_one (fun d e z => by unfold sumD at z; split at z <;> (try split at z) <;> cases z)) (cal_one fun F H x a d Q s ra e q => by
  unfold sumD at e
  split at e
  · cases e
    obtain ⟨p, rfl, h1⟩ := ra.scr s
    exact ⟨p, _, rfl, h1, q _ F H (Grow.refl s) (Rep.int _)⟩
  · split at e <;> cases e
    rename_i ns h
    obtain ⟨p, vs, rfl, h1, r1⟩ := ra.lst s
    exact ⟨p, ns, rfl, by rw [← asInts_rep r1 h]; exact .of h1, q _ F H (Grow.refl s) (Rep.int _)⟩
  · cases e)
theorem b_all (hc : X.calm = true) (hm : X.mg "all" = none) : BlM X "all" .S (one allD) := BlM.b hm boot_all' (cr_all hc) (ne_one (fun d e z => by unfold allD at z; split at z <;> (try split at z) <;> cases z)) (cal_one fun F H x a d Q s ra e q => by
  unfold allD at e
  split at e
  · split at e <;> cases e
    rename_i bs h
    obtain ⟨p, vs, rfl, h1, r1⟩ := ra.lst s
    exact ⟨p, bs, rfl, by rw [← asBls_rep r1 h]; exact .of h1, q _ F H (Grow.refl s) (Rep.bl _)⟩
  · cases e)
theorem b_any (hc : X.calm = true) (hm : X.mg "any" = none) : BlM X "any" .S (one anyD) := BlM.b hm boot_any' (cr_any hc) (ne_one (fun d e z => by unfold anyD at z; split at z <;> (try split at z) <;> cases z)) (cal_one fun F H x a d Q s ra e q => by
  unfold anyD at e
  split at e
  · split at e <;> cases e
    rename_i bs h
    obtain ⟨p, vs, rfl, h1, r1⟩ := ra.lst s
    exact ⟨p, bs, rfl, by rw [← asBls_rep r1 h]; exact .of h1, q _ F H (Grow.refl s) (Rep.bl _)⟩
  · cases e)
end
end Mir

/-! Lists changed; names of the module; chains. -/
namespace Mir
open PySem PySem.Spec PyProof.Rows L2

section
variable {G : GC} {J : L2.St → Prop} {H0 F0 F H : Hp} {fp : Nat → List Addr} {σ : L2.St} {r : Env}
theorem MS.lst (m : MS G J H0 F0 fp F σ H r) {i : Nat} {ds : List D} (h : r[i]? = some (.ow .flat (.lst ds))) : ∃ a vs, σ[i]? = some (some (.ref a)) ∧ H a = some (.lst vs) ∧ RepAll G F vs ds ∧ fp i = [a] := by
  obtain ⟨⟨v, h1, h2⟩, _⟩ := m.ow i _ _ h
  generalize fp i = A at h2
  cases h2 with
  | lst _ e _ ra na =>
    obtain ⟨rfl, rr⟩ := ra.to_rep
    exact ⟨_, _, h1, e, rr, rfl⟩
/-- an owned list is changed -/
theorem MS.lstUpd (m : MS G J H0 F0 fp F σ H r) {i : Nat} {ds ds' : List D} {a : Addr} {vs' : List V} (h : r[i]? = some (.ow .flat (.lst ds))) (hv : σ[i]? = some (some (.ref a))) (hf : fp i = [a]) (rr : RepAll G F vs' ds') :
    ∃ fp', MS G J H0 F0 fp' F σ (upd H a (.lst vs')) (r.set i (.ow .flat (.lst ds'))) := by
  obtain ⟨⟨v, h1, h2⟩, _⟩ := m.ow i _ _ h
  have fa := (h2.there a (by rw [hf]; simp)).1
  exact m.write (A := [a]) h hv (by rw [hf]; simp) (Own.lst rfl upd_same fa (OwnAll.of_rep rr) (by simp)) fun b hb => .inl (by rw [hf]; exact hb)
end

/-- the list that the i-th name owns -/
def ownL (i : Nat) (r : Env) : Option (List D) := match r[i]? with
  | some (.ow .flat (.lst ds)) => some ds
  | _ => none
theorem ownL_some {i : Nat} {r : Env} {ds : List D} (h : ownL i r = some ds) : r[i]? = some (.ow .flat (.lst ds)) := by
  unfold ownL at h
  split at h
  · rename_i e; cases h; exact e
  · cases h
def appG (i : Nat) (f : Env → Res D) (r : Env) : Oc := match ownL i r with
  | some ds => lift (f r) r fun d => if ds.length < lim then .nx (r.set i (.ow .flat (.lst (ds ++ [d])))) else .bad
  | none => .bad
def extG (i : Nat) (f : Env → Res D) (r : Env) : Oc := match ownL i r with
  | some ds => lift (f r) r fun d => match d with
    | .lst es => if ds.length + es.length ≤ lim then .nx (r.set i (.ow .flat (.lst (ds ++ es)))) else .bad
    | _ => .bad
  | none => .bad
def revG (i : Nat) (r : Env) : Oc := match ownL i r with
  | some ds => .nx (r.set i (.ow .flat (.lst ds.reverse)))
  | none => .bad
def clrLG (i : Nat) (r : Env) : Oc := match ownL i r with
  | some _ => .nx (r.set i (.ow .flat (.lst [])))
  | none => .bad
section
variable {X : Cx} {W : Wi} {k : Kd} {e : Expr} {fe : Env → Res D} {pos apos cpos ps : Pos} {x : Str}
theorem rs_append (i : Nat) (he : RE X W .S e fe) (hN : X.N[i]? = some x := by rfl) (hv : Vis X.env.scope x := by first | exact Or.inl rfl | exact Or.inr (Or.inl rfl) | exact Or.inr (Or.inr rfl)) (hd : (x == ("__debug__" : Str)) = false := by decide)
    (hcd : (x == ("__classdict__" : Str)) = false := by decide) (hs : swapsWith (.Call (.Attribute (.Name x ps) "append" apos) [e] [] cpos) none pos.line X.env = pure false := by rfl)
    (hbase : attributeBase (.Name x ps) "append" X.env (eval (.Name x ps) X.env) = eval (.Name x ps) X.env := by rfl)
    (hfew : ((backTo cpos (starEach [e] X.env)).all (fun x => !x.1) && (backToKw cpos (keywordEach [] X.env)).all (fun x => x.1.isSome) && decide ([e].length + ([] : List Keyword).length + (if ([] : List Keyword).isEmpty then 0 else 1) < 30)) = true := by rfl)
    (hline : (apos.endLine == cpos.line) = true := by rfl) (hse : starEach [e] X.env = (false, eval e X.env) :: starEach [] X.env := by rfl) :
    RS X W k (.Expr (.Call (.Attribute (.Name x ps) "append" apos) [e] [] cpos) pos) (appG i fe) :=
  (ps_expr (pe_bm PySem.F.plainAttrs_list PySem.F.slot_list_append PySem.F.type_list_append mt_append (pe_var hN hv hd hcd) (pa_cons he pa_nil hse) hbase hfew hline hse (by rfl)) hs).imp fun D σ H ⟨H0, F0, fp, F, r, m, o⟩ => by
    unfold appG at o
    split at o
    · rename_i ds ho
      have hi := ownL_some ho
      obtain ⟨a, vs, h1, h2, h3, h4⟩ := m.lst hi
      refine ⟨.ref a, h1, Or.inl ⟨rfl, _, .of h2⟩, H0, F0, fp, F, r, m, o.lift m fun F' H' d gr o' v kv => ?_⟩
      split at o'
      · rename_i hl
        obtain ⟨fp', m'⟩ := (m.grow gr).lstUpd hi h1 h4 ((h3.mono gr.f).append (.cons kv .nil))
        exact ⟨a, vs, v, rfl, rfl, gr.h _ _ h2, Nat.lt_of_lt_of_le (by rw [h3.length]; exact hl) lim_le, o' fp' F' σ _ (Same.refl _) m'⟩
      · exact o'.elim
    · exact o.elim
theorem rs_extend (i : Nat) (he : RE X W .S e fe) (hN : X.N[i]? = some x := by rfl) (hv : Vis X.env.scope x := by first | exact Or.inl rfl | exact Or.inr (Or.inl rfl) | exact Or.inr (Or.inr rfl)) (hd : (x == ("__debug__" : Str)) = false := by decide)
    (hcd : (x == ("__classdict__" : Str)) = false := by decide) (hs : swapsWith (.Call (.Attribute (.Name x ps) "extend" apos) [e] [] cpos) none pos.line X.env = pure false := by rfl)
    (hbase : attributeBase (.Name x ps) "extend" X.env (eval (.Name x ps) X.env) = eval (.Name x ps) X.env := by rfl)
    (hfew : ((backTo cpos (starEach [e] X.env)).all (fun x => !x.1) && (backToKw cpos (keywordEach [] X.env)).all (fun x => x.1.isSome) && decide ([e].length + ([] : List Keyword).length + (if ([] : List Keyword).isEmpty then 0 else 1) < 30)) = true := by rfl)
    (hline : (apos.endLine == cpos.line) = true := by rfl) (hse : starEach [e] X.env = (false, eval e X.env) :: starEach [] X.env := by rfl) :
    RS X W k (.Expr (.Call (.Attribute (.Name x ps) "extend" apos) [e] [] cpos) pos) (extG i fe) :=
  (ps_expr (pe_bm PySem.F.plainAttrs_list PySem.F.slot_list_extend PySem.F.type_list_extend mt_extend (pe_var hN hv hd hcd) (pa_cons he pa_nil hse) hbase hfew hline hse (by rfl)) hs).imp fun D σ H ⟨H0, F0, fp, F, r, m, o⟩ => by
    unfold extG at o
    split at o
    · rename_i ds ho
      have hi := ownL_some ho
      obtain ⟨a, vs, h1, h2, h3, h4⟩ := m.lst hi
      refine ⟨.ref a, h1, Or.inl ⟨rfl, _, .of h2⟩, H0, F0, fp, F, r, m, o.lift m fun F' H' d gr o' v kv => ?_⟩
      split at o'
      · rename_i es
        split at o'
        · rename_i hl
          have kv' : Rep (gOf X) F' v (.lst es) := kv
          cases kv' with
          | @lst b ws _ hb rb =>
            obtain ⟨fp', m'⟩ := (m.grow gr).lstUpd hi h1 h4 ((h3.mono gr.f).append rb)
            exact ⟨a, b, vs, ws, rfl, rfl, gr.h _ _ h2, gr.sub _ _ hb, Nat.le_trans (by rw [h3.length, rb.length]; exact hl) lim_le, o' fp' F' σ _ (Same.refl _) m'⟩
        · exact o'.elim
      · exact o'.elim
    · exact o.elim
theorem rs_reverse (i : Nat) (hN : X.N[i]? = some x := by rfl) (hv : Vis X.env.scope x := by first | exact Or.inl rfl | exact Or.inr (Or.inl rfl) | exact Or.inr (Or.inr rfl)) (hd : (x == ("__debug__" : Str)) = false := by decide)
    (hcd : (x == ("__classdict__" : Str)) = false := by decide) (hs : swapsWith (.Call (.Attribute (.Name x ps) "reverse" apos) [] [] cpos) none pos.line X.env = pure false := by rfl)
    (hbase : attributeBase (.Name x ps) "reverse" X.env (eval (.Name x ps) X.env) = eval (.Name x ps) X.env := by rfl) (hline : (apos.endLine == cpos.line) = true := by rfl) :
    RS X W k (.Expr (.Call (.Attribute (.Name x ps) "reverse" apos) [] [] cpos) pos) (revG i) :=
  (ps_expr (pe_bm0 PySem.F.plainAttrs_list PySem.F.slot_list_reverse PySem.F.type_list_reverse mt_reverse (pe_var hN hv hd hcd) hbase hline) hs).imp fun D σ H ⟨H0, F0, fp, F, r, m, o⟩ => by
    unfold revG at o
    split at o
    · rename_i ds ho
      have hi := ownL_some ho
      obtain ⟨a, vs, h1, h2, h3, h4⟩ := m.lst hi
      obtain ⟨fp', m'⟩ := m.lstUpd hi h1 h4 h3.reverse
      exact ⟨.ref a, h1, Or.inl ⟨rfl, _, .of h2⟩, a, vs, rfl, rfl, h2, o fp' F σ _ (Same.refl _) m'⟩
    · exact o.elim
theorem rs_clearL (i : Nat) (hN : X.N[i]? = some x := by rfl) (hv : Vis X.env.scope x := by first | exact Or.inl rfl | exact Or.inr (Or.inl rfl) | exact Or.inr (Or.inr rfl)) (hd : (x == ("__debug__" : Str)) = false := by decide)
    (hcd : (x == ("__classdict__" : Str)) = false := by decide) (hs : swapsWith (.Call (.Attribute (.Name x ps) "clear" apos) [] [] cpos) none pos.line X.env = pure false := by rfl)
    (hbase : attributeBase (.Name x ps) "clear" X.env (eval (.Name x ps) X.env) = eval (.Name x ps) X.env := by rfl) (hline : (apos.endLine == cpos.line) = true := by rfl) :
    RS X W k (.Expr (.Call (.Attribute (.Name x ps) "clear" apos) [] [] cpos) pos) (clrLG i) :=
  (ps_expr (pe_bm0 PySem.F.plainAttrs_list PySem.F.slot_list_clear PySem.F.type_list_clear mt_clear (pe_var hN hv hd hcd) hbase hline) hs).imp fun D σ H ⟨H0, F0, fp, F, r, m, o⟩ => by
    unfold clrLG at o
    split at o
    · rename_i ds ho
      have hi := ownL_some ho
      obtain ⟨a, vs, h1, h2, h3, h4⟩ := m.lst hi
      obtain ⟨fp', m'⟩ := m.lstUpd hi h1 h4 RepAll.nil
      exact ⟨.ref a, h1, Or.inl ⟨rfl, _, .of h2⟩, a, vs, rfl, rfl, h2, o fp' F σ _ (Same.refl _) m'⟩
    · exact o.elim
/-- xs[i] = v, xs a list of one's own -/
def setLG (i : Nat) (fv fi : Env → Res D) (r : Env) : Oc := lift (fv r) r fun v => match ownL i r with
  | some ds => lift (fi r) r fun n => match n with
    | .int n => match ixN ds.length n with
      | some j => .nx (r.set i (.ow .flat (.lst (ds.set j v))))
      | none => .bad
    | _ => .bad
  | none => .bad
theorem rs_setItemL (i : Nat) {iv : Expr} {fi : Env → Res D} {p2 : Pos} (he : RE X W .S e fe) (hi : RE X W .R iv fi) (hN : X.N[i]? = some x := by rfl) (hv : Vis X.env.scope x := by first | exact Or.inl rfl | exact Or.inr (Or.inl rfl) | exact Or.inr (Or.inr rfl)) (hd : (x == ("__debug__" : Str)) = false := by decide)
    (hcd : (x == ("__classdict__" : Str)) = false := by decide) (ha : ∀ v, assign (.Subscript (.Name x ps) iv p2) X.env v = (do
      let ov ← holding [v] (eval (.Name x ps) X.env)
      let iv ← holding [v, ov] (eval iv X.env)
      standAt p2
      holding [v, ov, iv] (setItem ov iv v)
      release [v, ov, iv] []) := by intro _; rfl)
    (hs : swapsWithSole [.Subscript (.Name x ps) iv p2] e pos.line X.env = pure false := by rfl) (hw : swappedStores [.Subscript (.Name x ps) iv p2] e X.env = pure none := by rfl) (h1 : (assignEach [.Subscript (.Name x ps) iv p2] X.env).map (·.2) = [assign (.Subscript (.Name x ps) iv p2) X.env] := by rfl) :
    RS X W k (.Assign [.Subscript (.Name x ps) iv p2] e pos) (setLG i fe fi) :=
  (ps_asg he (pg_sub (pe_var hN hv hd hcd) hi set_list ha) hs hw h1).imp fun D σ H ⟨H0, F0, fp, F, r, m, o⟩ => ⟨H0, F0, fp, F, r, m, OutS.lift m o fun F' H' d gr o' v kv => by
    split at o'
    · rename_i ds ho
      have hi := ownL_some ho
      have m' := m.grow gr
      obtain ⟨a, vs, h1, h2, h3, h4⟩ := m'.lst hi
      refine ⟨.ref a, h1, H0, F0, fp, F', r, m', OutS.lift m' o' fun F2 H2 n g2 o2 u ku => ?_⟩
      split at o2
      · rename_i n
        split at o2
        · rename_i j hj
          obtain ⟨fp', m2⟩ := (m'.grow g2).lstUpd hi h1 h4 ((h3.mono g2.f).set (Mir.Rep.mono g2.f kv) j)
          exact ⟨a, vs, n, j, rfl, RdD.int ku, g2.h _ _ h2, by rw [h3.length]; exact hj, o2 fp' F2 σ _ (Same.refl _) m2⟩
        · exact o2.elim
      · exact o2.elim
    · exact o'.elim⟩
/-! ### names of the module -/
theorem re_gInt {i : Int} {t : Tok} (hm : X.mg x = some (.int i t)) (hg : Gl X x := by rfl) (hd : (x == ("__debug__" : Str)) = false := by decide) : RE X W .S (.Name x pos) (fun _ => .ok (.int i)) := re_cst (pe_glob (v := .int i) hg hm ⟨t, rfl⟩ hd) fun _ => .int i
theorem re_gStr {i : Str} {t : Tok} (hm : X.mg x = some (.str i t)) (hg : Gl X x := by rfl) (hd : (x == ("__debug__" : Str)) = false := by decide) : RE X W .S (.Name x pos) (fun _ => .ok (.str i)) := re_cst (pe_glob (v := .str i) hg hm ⟨t, rfl⟩ hd) fun _ => .str i
/-- a class of one's own -/
theorem re_cls {c : Nat} {C : Addr} (hm : X.mg x = some (.ref C)) (hx : x = cname c := by rfl) (hg : Gl X x := by rfl) (hd : (x == ("__debug__" : Str)) = false := by decide) : RE X W .S (.Name x pos) (fun _ => .ok (.cls c)) := by
  subst hx
  exact re_cst (pe_glob (v := .ref C) hg hm rfl hd) fun _ => .cls hm
/-- a built-in type as a value -/
theorem re_ty {T : String} (hm : X.mg x = none) (hv : bootBuiltins x = some (.type T)) (hg : Gl X x := by rfl) (hn : x ≠ "__name__" := by decide) (hd : (x == ("__debug__" : Str)) = false := by decide) : RE X W .S (.Name x pos) (fun _ => .ok (.ty T)) :=
  re_cst (pe_bltn (v := .ty T) hg hm hv rfl hn hd) fun _ => .ty T
/-! ### a < b < c -/
theorem rt_chain {o1 o2 : CmpOp} {p1 p2 : D → D → Res D} {a b c : Expr} {fa fb fc : Env → Res D} (C1 : Cmp X o1 p1) (C2 : Cmp X o2 p2) (ha : RE X W .R a fa) (hb : RE X W .R b fb) (hc : RE X W .R c fc) (hm : lastMarks [o1, o2] [b, c] = false := by with_unfolding_all rfl) :
    RT X W (.Compare a [o1, o2] [b, c] pos) (fun r => fa r >>= fun x => fb r >>= fun y => (p1 x y >>= asB) >>= fun t => if t = true then (fc r >>= fun z => p2 y z) >>= asB else .ok false) := by
  obtain ⟨rr1, h1, k1⟩ := C1.ex
  obtain ⟨rr2, h2, k2⟩ := C2.ex
  refine (pt_chain h1 h2 ha hb hc hm).imp fun σ H Q ⟨H0, F0, fp, F, r, m, o⟩ => ⟨H0, F0, fp, F, r, m, o.bind fun F1 H1 d1 g1 o1 v1 kv1 => ⟨H0, F0, fp, F1, r, m.grow g1, o1.bind fun F2 H2 d2 g2 o2 v2 kv2 => ?_⟩⟩
  cases e1 : p1 d1 d2 with
  | er x => exact (C1.ne _ _ _ e1).elim
  | bad => rw [e1] at o2; exact o2.elim
  | ok w =>
    rw [e1] at o2
    refine k1 F2 H2 v1 v2 d1 d2 w _ H H g2.sub (RdD.grow kv1 g2) kv2 e1 fun v' F' H' g3 kr => ?_
    have o3 := Out.grow o2 g3
    cases w with
    | bl t =>
      have kr' : Rep (gOf X) F' v' (.bl t) := kr
      cases kr'
      refine ⟨t, rfl, ?_⟩
      cases t with
      | false => exact ⟨false, rfl, o3 F' H' (Grow.refl g3.sub)⟩
      | true =>
        have m3 := ((m.grow g1).grow g2).grow g3
        refine ⟨H0, F0, fp, F', r, m3, (show Out _ _ _ _ _ _ ((fc r >>= fun z => p2 d2 z) >>= asB) from o3) |> fun o4 => ?_⟩
        have o5 : Out (gOf X) W σ F' H' (fun F2 H2 b => Q b H2) (fc r >>= fun z => p2 d2 z >>= asB) := by
          cases ef : fc r <;> (rw [ef] at o4; exact o4)
        refine o5.bind fun F5 H5 d5 g5 o6 v5 kv5 => ?_
        cases e2 : p2 d2 d5 with
        | er x => exact (C2.ne _ _ _ e2).elim
        | bad => rw [e2] at o6; exact o6.elim
        | ok w2 =>
          rw [e2] at o6
          refine k2 F5 H5 v2 v5 d2 d5 w2 _ H H g5.sub (RdD.grow (RdD.grow kv2 g3) g5) kv5 e2 fun v6 F6 H6 g6 kr6 => ?_
          have o7 := Out.grow o6 g6
          cases w2 with
          | bl t2 =>
            have kr7 : Rep (gOf X) F6 v6 (.bl t2) := kr6
            cases kr7
            exact ⟨t2, rfl, o7 F6 H6 (Grow.refl g6.sub)⟩
          | _ => exact o7.elim
    | _ => exact o3.elim
end
end Mir

/-! What a for walks; list comprehensions. -/
namespace Mir
open PySem PySem.Spec PyProof.Rows L2

theorem WalkD.of_walk {G : GC} {F B : Hp} {J : It} {ds : List D} {n : Nat} {g : Hp → Prop} {Y : Nat → Hp → V → Hp → Prop} (w : Walk J n g Y) (hn : n = ds.length) (hg : ∀ H, Same B H → g H)
    (hy : ∀ (i : Nat) F2 H2 x H3, i < ds.length → Same F F2 → Same F2 H2 → Same B H2 → Y i H2 x H3 → ∃ F3 d, Grow F2 H2 F3 H3 ∧ ds[i]? = some d ∧ Rep G F3 x d) : WalkD G F B J ds := by
  subst hn
  exact ⟨fun i H hi s => w.goes i H hi (hg H s), fun H s => w.stops H (hg H s), fun i F2 H2 x H3 hi s1 s2 s3 y => hy i F2 H2 x H3 hi s1 s2 s3 (w.yields i H2 x H3 hi (hg H2 s3) y)⟩
theorem WalkD.list {G : GC} {F B : Hp} {a : Addr} {vs : List V} {ds : List D} (h : B a = some (.lst vs)) (r : RepAll G F vs ds) : WalkD G F B (Itl G.K a) ds :=
  .of_walk walk_list r.length (fun H s => .of (s _ _ h)) fun i F2 H2 x H3 hi s1 s2 _ ⟨e1, e2⟩ => by
    subst e1
    obtain ⟨d, h1, h2⟩ := r.getV e2
    exact ⟨F2, d, Grow.refl s2, h1, h2.mono s1⟩
theorem WalkD.tup {G : GC} {F B : Hp} {a : Addr} {vs : List V} {ds : List D} (h : SqT G.K B a vs) (r : RepAll G F vs ds) : WalkD G F B (Itt G.K a) ds :=
  .of_walk walk_tup r.length (fun H s => Same.sqT s h) fun i F2 H2 x H3 hi s1 s2 _ ⟨e1, e2⟩ => by
    subst e1
    obtain ⟨d, h1, h2⟩ := r.getV e2
    exact ⟨F2, d, Grow.refl s2, h1, h2.mono s1⟩
theorem WalkD.scr {G : GC} {F B : Hp} {a : Addr} {ns : List Int} (h : SqL G.K B a (ns.map V.int)) : WalkD G F B (Itl G.K a) (ns.map D.int) :=
  .of_walk walk_list (by simp) (fun H s => s.seq h) fun i F2 H2 x H3 hi s1 s2 _ ⟨e1, e2⟩ => by
    subst e1
    rw [List.getElem?_map, Option.map_eq_some_iff] at e2
    obtain ⟨n, h1, h2⟩ := e2
    subst h2
    exact ⟨F2, .int n, Grow.refl s2, by rw [List.getElem?_map, h1]; rfl, .int n⟩
def signsOf (z : Str) : List D := z.cps.toList.map fun c => D.str ⟨#[c]⟩
theorem WalkD.str {G : GC} {F B : Hp} {z : Str} : WalkD G F B (Its z) (signsOf z) :=
  .of_walk walk_str (by simp [signsOf]) (fun _ _ => trivial) fun i F2 H2 x H3 hi s1 s2 _ ⟨e1, c, e2, e3⟩ => by
    subst e1 e3
    refine ⟨F2, .str ⟨#[c]⟩, Grow.refl s2, ?_, .str _⟩
    unfold signsOf
    rw [List.getElem?_map, Array.getElem?_toList, e2]
    rfl
def rangeL (lo : Int) (n : Nat) : List D := (List.range n).map fun i => D.int (lo + (i : Nat))
theorem WalkD.range {G : GC} {F B : Hp} {lo : Int} {n : Nat} : WalkD G F B (Itr lo n) (rangeL lo n) :=
  .of_walk walk_range (by simp [rangeL]) (fun _ _ => trivial) fun i F2 H2 x H3 hi s1 s2 _ ⟨e1, e2⟩ => by
    subst e1 e2
    refine ⟨F2, .int (lo + i), Grow.refl s2, ?_, .int _⟩
    have hi' : i < n := by simpa [rangeL] using hi
    unfold rangeL
    rw [List.getElem?_map, List.getElem?_range hi']
    rfl

@[simp] def itemsS : D → Res (List D)
  | .lst xs => .ok xs
  | .tup xs => .ok xs
  | .scr ns => .ok (ns.map D.int)
  | .str z => .ok (signsOf z)
  | _ => .bad
theorem itemsD_er {d e : D} (h : itemsS d = .er e) : False := by unfold itemsS at h; split at h <;> cases h
section
variable {X : Cx} {W : Wi} {e tg : Expr} {fe : Env → Res D} {p pos tpos : Pos}
theorem re_iterS (he : RE X W .S e fe) : RI X W true tg e (fun r => fe r >>= itemsS) := by
  refine ⟨fun pins s σ H R I ⟨H0, F0, fp, F, r, m, o⟩ => ?_⟩
  have o : Out (gOf X) W σ F H _ (fe r >>= itemsS) := o
  cases ef : fe r with
  | er x => exact (pi_list he).run pins s σ H R I ⟨H0, F0, fp, F, r, m, by rw [ef] at o ⊢; exact o⟩
  | bad => rw [ef] at o; exact o.elim
  | ok d =>
    rw [ef] at o
    cases d with
    | lst ds => exact (pi_list he).run pins s σ H R I ⟨H0, F0, fp, F, r, m, by
        rw [ef]
        intro F' H' gr v kv
        have kv' : Rep (gOf X) F' v (.lst ds) := kv
        cases kv' with
        | lst h1 r1 => exact ⟨_, rfl, ⟨_, .of (gr.sub _ _ h1)⟩, o F' H' gr _ (WalkD.list h1 r1)⟩⟩
    | tup ds => exact (pi_tup he).run pins s σ H R I ⟨H0, F0, fp, F, r, m, by
        rw [ef]
        intro F' H' gr v kv
        have kv' : Rep (gOf X) F' v (.tup ds) := kv
        cases kv' with
        | tup h1 r1 => exact ⟨_, rfl, ⟨_, Same.sqT gr.sub h1⟩, o F' H' gr _ (WalkD.tup h1 r1)⟩⟩
    | scr ns => exact (pi_list he).run pins s σ H R I ⟨H0, F0, fp, F, r, m, by
        rw [ef]
        intro F' H' gr v kv
        have kv' : Rep (gOf X) F' v (.scr ns) := kv
        cases kv' with
        | scr h1 => exact ⟨_, rfl, ⟨_, gr.sub.seq h1⟩, o F' H' gr _ (WalkD.scr h1)⟩⟩
    | str z => exact (pi_str he).run pins s σ H R I ⟨H0, F0, fp, F, r, m, by
        rw [ef]
        intro F' H' gr v kv
        have kv' : Rep (gOf X) F' v (.str z) := kv
        cases kv'
        exact ⟨z, rfl, o F' H' gr _ WalkD.str⟩⟩
    | _ => exact o.elim
theorem re_iterRS (he : RE X W .R e fe) : RI X W false tg e (fun r => fe r >>= itemsS) := by
  refine ⟨fun pins s σ H R I ⟨H0, F0, fp, F, r, m, o⟩ => ?_⟩
  have o : Out (gOf X) W σ F H _ (fe r >>= itemsS) := o
  cases ef : fe r with
  | er x => exact (pi_list he).run pins s σ H R I ⟨H0, F0, fp, F, r, m, by rw [ef] at o ⊢; exact o⟩
  | bad => rw [ef] at o; exact o.elim
  | ok d =>
    rw [ef] at o
    cases d with
    | lst ds => exact (pi_list he).run pins s σ H R I ⟨H0, F0, fp, F, r, m, by
        rw [ef]
        intro F' H' gr v kv
        obtain ⟨a, vs, rfl, h1, r1⟩ := RdD.lst gr.sub (show RdD (gOf X) F' H' v _ from kv)
        exact ⟨_, rfl, ⟨_, .of h1⟩, o F' H' gr _ (WalkD.list h1 r1)⟩⟩
    | tup ds => exact (pi_tup he).run pins s σ H R I ⟨H0, F0, fp, F, r, m, by
        rw [ef]
        intro F' H' gr v kv
        obtain ⟨a, vs, rfl, h1, r1⟩ := RdD.tup gr.sub (show RdD (gOf X) F' H' v _ from kv)
        exact ⟨_, rfl, ⟨_, h1⟩, o F' H' gr _ (WalkD.tup h1 r1)⟩⟩
    | scr ns => exact (pi_list he).run pins s σ H R I ⟨H0, F0, fp, F, r, m, by
        rw [ef]
        intro F' H' gr v kv
        obtain ⟨a, rfl, h1⟩ := RdD.scr gr.sub (show RdD (gOf X) F' H' v _ from kv)
        exact ⟨_, rfl, ⟨_, h1⟩, o F' H' gr _ (WalkD.scr h1)⟩⟩
    | str z => exact (pi_str he).run pins s σ H R I ⟨H0, F0, fp, F, r, m, by
        rw [ef]
        intro F' H' gr v kv
        rw [RdD.str (show RdD (gOf X) F' H' v _ from kv)]
        exact ⟨z, rfl, o F' H' gr _ WalkD.str⟩⟩
    | _ => exact o.elim

/-- range(n), range(m, n) in the sizes that are walked -/
def rng1 : List D → Res (List D)
  | [.int n] => if -1000000000 ≤ n ∧ n ≤ 1000000000 then .ok (rangeL 0 n.toNat) else .bad
  | _ => .bad
def rng2 : List D → Res (List D)
  | [.int m, .int n] => if (-1000000000 ≤ m ∧ m ≤ 1000000000) ∧ -1000000000 ≤ n ∧ n ≤ 1000000000 then .ok (rangeL m (n - m).toNat) else .bad
  | _ => .bad
theorem rng1_inv {ds : List D} : (∃ n, ds = [.int n] ∧ (-1000000000 ≤ n ∧ n ≤ 1000000000) ∧ rng1 ds = .ok (rangeL 0 n.toNat)) ∨ rng1 ds = .bad := by
  unfold rng1
  split
  · split
    · rename_i n h; exact .inl ⟨n, rfl, h, rfl⟩
    · exact .inr rfl
  · exact .inr rfl
theorem rng2_inv {ds : List D} : (∃ m n, ds = [.int m, .int n] ∧ ((-1000000000 ≤ m ∧ m ≤ 1000000000) ∧ -1000000000 ≤ n ∧ n ≤ 1000000000) ∧ rng2 ds = .ok (rangeL m (n - m).toNat)) ∨ rng2 ds = .bad := by
  unfold rng2
  split
  · split
    · rename_i m n h; exact .inl ⟨m, n, rfl, h, rfl⟩
    · exact .inr rfl
  · exact .inr rfl
theorem ri_range1 {b : Bool} {a : Expr} {fa : Env → Res (List D)} (hm : X.mg "range" = none) (ha : RAR X W [a] fa) (hg : Gl X "range" := by rfl) (hs : starEach [a] X.env = [(false, eval a X.env)] := by rfl) : RI X W b tg (.Call (.Name "range" p) [a] [] pos) (fun r => fa r >>= rng1) := by
  refine ⟨fun pins s σ H R I ⟨H0, F0, fp, F, r, m, o⟩ => (pi_range1 hg hm ha hs).run pins s σ H R I ⟨H0, F0, fp, F, r, m, o.bind fun F' H' ds gr o2 vs rv => ?_⟩⟩
  rcases rng1_inv (ds := ds) with ⟨n, rfl, hn, e⟩ | e
  · rw [e] at o2
    cases rv with
    | cons r1 rr =>
      cases rr
      exact ⟨n, by rw [RdD.int r1], by omega, by omega, o2 F' H' (Grow.refl gr.sub) _ WalkD.range⟩
  · rw [e] at o2; exact o2.elim
theorem ri_range2 {b : Bool} {a c : Expr} {fa : Env → Res (List D)} (hm : X.mg "range" = none) (ha : RAR X W [a, c] fa) (hg : Gl X "range" := by rfl) (hs : starEach [a, c] X.env = [(false, eval a X.env), (false, eval c X.env)] := by rfl) (hs2 : starEach [c] X.env = [(false, eval c X.env)] := by rfl) :
    RI X W b tg (.Call (.Name "range" p) [a, c] [] pos) (fun r => fa r >>= rng2) := by
  refine ⟨fun pins s σ H R I ⟨H0, F0, fp, F, r, m, o⟩ => (pi_range2 hg hm ha hs hs2).run pins s σ H R I ⟨H0, F0, fp, F, r, m, o.bind fun F' H' ds gr o2 vs rv => ?_⟩⟩
  rcases rng2_inv (ds := ds) with ⟨i, j, rfl, hn, e⟩ | e
  · rw [e] at o2
    cases rv with
    | cons r1 rr =>
      cases rr with
      | cons r2 rr =>
        cases rr
        exact ⟨i, j, by rw [RdD.int r1, RdD.int r2], by omega, o2 F' H' (Grow.refl gr.sub) _ WalkD.range⟩
  · rw [e] at o2; exact o2.elim

/-! ### comprehensions -/
/-- what a block raises is not looked after -/
def nE {α : Type} : Res α → Res α
  | .ok a => .ok a
  | _ => .bad
@[simp] theorem nE_ok {α : Type} (a : α) : nE (.ok a) = .ok a := rfl
theorem nE_some {α : Type} {x : Res α} {a : α} (h : nE x = .ok a) : x = .ok a := by
  cases x <;> first | exact h | cases h
def lcD (g : D → Env → Res Env) (t : Env → Res Bool) (f : Env → Res D) (r : Env) : List D → Res (List D)
  | [] => .ok []
  | d :: ds => nE (g d r) >>= fun r1 => nE (t r1) >>= fun b => if b = true then nE (f r1) >>= fun x => lcD g t f r ds >>= fun xs => .ok (x :: xs) else lcD g t f r ds
@[simp] def lstD (ds : List D) : Res D := if ds.length ≤ lim then .ok (.lst ds) else .bad
/-- the block's own names forgotten -/
def wipeR (r : Env) : List Nat → Env
  | [] => r
  | v :: vs => (wipeR r vs).set v .un
theorem MS.wipe {G : GC} {J J' : L2.St → Prop} {H0 F0 F H : Hp} {fp : Nat → List Addr} {σ : L2.St} {r : Env} (m : MS G J H0 F0 fp F σ H r) : ∀ (vs : List Nat), J' (L2.wipe σ vs) → MS G J' H0 F0 fp F (L2.wipe σ vs) H (wipeR r vs)
  | vs, j => by
    have len : ∀ vs : List Nat, (wipeR r vs).length = r.length := fun vs => by
      induction vs with
      | nil => rfl
      | cons v vs ih => rw [wipeR, List.length_set, ih]
    have some1 : ∀ (vs : List Nat) {i : Nat} {s : Slot}, (wipeR r vs)[i]? = some s → s ≠ .un → r[i]? = some s ∧ i ∉ vs := fun vs => by
      induction vs with
      | nil => exact fun h _ => ⟨h, by simp⟩
      | cons v vs ih =>
        intro i s h ne
        rcases get_set_slot h with ⟨_, x, _⟩ | ⟨n, h⟩
        · exact absurd x.symm ne
        · obtain ⟨h1, h2⟩ := ih h ne
          exact ⟨h1, by simp only [List.mem_cons, not_or]; exact ⟨Ne.symm n, h2⟩⟩
    have keep : ∀ (vs : List Nat) {i : Nat}, i ∉ vs → (L2.wipe σ vs)[i]? = σ[i]? := fun vs => by
      induction vs with
      | nil => exact fun _ => rfl
      | cons v vs ih =>
        intro i h
        simp only [List.mem_cons, not_or] at h
        unfold L2.wipe
        rw [List.getElem?_set_ne (Ne.symm h.1)]
        exact ih h.2
    exact {
      jo := j
      s0 := m.s0
      f0 := m.f0
      sub := m.sub
      new := m.new
      len := by rw [len, m.len, wipe_length]
      sh := fun i d h => by
        obtain ⟨h1, h2⟩ := some1 vs h (by simp)
        rw [keep vs h2]
        exact m.sh i d h1
      ow := fun i s d h => by
        obtain ⟨h1, h2⟩ := some1 vs h (by simp)
        rw [keep vs h2]
        exact m.ow i s d h1
      ap := fun i k s t d e ne h1 h2 => m.ap i k s t d e ne (some1 vs h1 (by simp)).1 (some1 vs h2 (by simp)).1 }
theorem MS.mapJ {G : GC} {J J' : L2.St → Prop} {H0 F0 F H : Hp} {fp : Nat → List Addr} {σ : L2.St} {r : Env} (m : MS G J H0 F0 fp F σ H r) (j : J' σ) : MS G J' H0 F0 fp F σ H r := ⟨j, m.s0, m.f0, m.sub, m.new, m.len, m.sh, m.ow, m.ap⟩
/-- what nobody owns is changed -/
theorem MS.updFree {G : GC} {J : L2.St → Prop} {H0 F0 F H : Hp} {fp : Nat → List Addr} {σ : L2.St} {r : Env} (m : MS G J H0 F0 fp F σ H r) {a : Addr} {o : HO} (h0 : H0 a = none) (hF : F a = none) (hf : ∀ (i : Nat) (s : Shape) (d : D), r[i]? = some (.ow s d) → a ∉ fp i) :
    MS G J H0 F0 fp F σ (upd H a o) r where
  jo := m.jo
  s0 := fun b u e => by rw [upd_ne (ne_of_none e h0)]; exact m.s0 b u e
  f0 := m.f0
  sub := fun b u e => by rw [upd_ne (ne_of_none e hF)]; exact m.sub b u e
  new := m.new
  len := m.len
  sh := m.sh
  ow := fun i s d e => let ⟨⟨v, h1, h2⟩, h3⟩ := m.ow i s d e; ⟨⟨v, h1, h2.keep (Keep.upd (hf i s d e))⟩, h3⟩
  ap := m.ap
theorem wipe_wipe : ∀ (vs : List Nat) (σ : L2.St), L2.wipe (L2.wipe σ vs) vs = L2.wipe σ vs := fun vs σ => by
  have at1 : ∀ (vs : List Nat) (σ : L2.St) (i : Nat), (L2.wipe σ vs)[i]? = if i ∈ vs then σ[i]?.map fun _ => none else σ[i]? := fun vs => by
    induction vs with
    | nil => intro σ i; simp [L2.wipe]
    | cons v vs ih =>
      intro σ i
      unfold L2.wipe
      by_cases h : v = i
      · subst h
        rw [if_pos List.mem_cons_self]
        by_cases hv : v < (L2.wipe σ vs).length
        · rw [List.getElem?_set_self hv]
          rw [wipe_length] at hv
          rw [List.getElem?_eq_getElem hv]
          rfl
        · rw [List.getElem?_eq_none (by simpa using hv)]
          rw [wipe_length] at hv
          rw [List.getElem?_eq_none (by simpa using hv)]
          rfl
      · rw [List.getElem?_set_ne h, ih]
        simp only [List.mem_cons, show (i = v) = False from eq_false (Ne.symm h), false_or]
  apply List.ext_getElem?
  intro i
  rw [at1, at1]
  by_cases h : i ∈ vs
  · rw [if_pos h, if_pos h]
    cases σ[i]? <;> rfl
  · rw [if_neg h]
theorem wipe_set {vs : List Nat} {i : Nat} (hi : i ∈ vs) (σ : L2.St) (v : Option V) : L2.wipe (σ.set i v) vs = L2.wipe σ vs := by
  induction vs generalizing i with
  | nil => cases hi
  | cons w vs ih =>
    unfold L2.wipe
    by_cases h : i ∈ vs
    · rw [ih h]
    · have e : i = w := by simpa [h] using hi
      subst e
      have z : ∀ (vs : List Nat) (σ : L2.St), i ∉ vs → L2.wipe (σ.set i v) vs = (L2.wipe σ vs).set i v := fun vs => by
        induction vs with
        | nil => exact fun _ _ => rfl
        | cons x vs ih =>
          intro σ h
          simp only [List.mem_cons, not_or] at h
          unfold L2.wipe
          rw [ih σ h.2, List.set_comm _ _ h.1]
      rw [z vs σ h, List.set_set]
abbrev W0 : Wi := ⟨fun _ _ _ _ => False, fun _ => True⟩
abbrev JB (vs : List Nat) (σ : L2.St) : L2.St → Prop := fun τ => L2.wipe τ vs = L2.wipe σ vs
theorem jb {i : Nat} {vs : List Nat} {σ0 : L2.St} (hi : i ∈ vs) : ∀ (σ : L2.St) (v : Option V), JB vs σ0 σ → JB vs σ0 (σ.set i v) := fun σ v h => (wipe_set hi σ v).trans h
theorem Out.nE {G : GC} {W W' : Wi} {σ τ : L2.St} {α : Type} {F H : Hp} {P : Hp → Hp → α → Prop} {x : Res α} {a : α} (e : nE x = .ok a) (h : ∀ F' H', Grow F H F' H' → P F' H' a) : Out G W σ F H P x := by
  rw [nE_some e]
  exact h

theorem t_lc {G : GC} {b : Bool} {fi : Env → Res (List D)} {g : D → Env → Res Env} {t : Env → Res Bool} {f : Env → Res D} {vs : List Nat} (σ : L2.St) (H : Hp) (Q : VK)
    (h : tE G W (.O .flat) (fun r => fi r >>= fun ds => lcD g t f (wipeR r vs) ds >>= lstD) σ H Q) : tLc (tI G W b fi) (tGd G (JB vs σ) g) (tT G W0 t) (tE G W0 .S f) vs σ H Q := by
  obtain ⟨H0, F0, fp, F, r, m, o⟩ := h
  refine ⟨H0, F0, fp, F, r, m, o.bind fun F1 H1 ds g1 o1 J w D hD => ?_⟩
  cases e : lcD g t f (wipeR r vs) ds with
  | er x =>
    exfalso
    have z : ∀ (ds : List Mir.D) (x : Mir.D), lcD g t f (wipeR r vs) ds ≠ .er x := fun ds => by
      induction ds with
      | nil => exact fun x h => nomatch h
      | cons d ds ih =>
        intro x h
        rw [lcD] at h
        cases e1 : nE (g d (wipeR r vs)) with
        | er y => cases hg : g d (wipeR r vs) <;> (rw [hg] at e1; cases e1)
        | bad => rw [e1] at h; cases h
        | ok r1 =>
          rw [e1] at h
          simp only [ok_bind] at h
          cases e2 : nE (t r1) with
          | er y => cases hg : t r1 <;> (rw [hg] at e2; cases e2)
          | bad => rw [e2] at h; cases h
          | ok bb =>
            rw [e2] at h
            simp only [ok_bind] at h
            cases bb with
            | false => exact ih x h
            | true =>
              rw [if_pos rfl] at h
              cases e3 : nE (f r1) with
              | er y => cases hg : f r1 <;> (rw [hg] at e3; cases e3)
              | bad => rw [e3] at h; cases h
              | ok y =>
                rw [e3] at h
                simp only [ok_bind] at h
                cases e4 : lcD g t f (wipeR r vs) ds with
                | er z => exact ih z e4
                | bad => rw [e4] at h; cases h
                | ok zs => rw [e4] at h; cases h
    exact z _ _ e
  | bad => rw [e] at o1; exact o1.elim
  | ok out =>
    rw [e] at o1
    have hl : out.length ≤ lim := by
      by_cases h : out.length ≤ lim
      · exact h
      · simp only [ok_bind] at o1
        unfold lstD at o1
        rw [if_neg h] at o1
        exact o1.elim
    have o2 : ∀ F' H', Grow F1 H1 F' H' → ∀ v, (Kd.O .flat).Rep G H F' H' v (.lst out) → Q v H' := by
      have o1' : Out G W σ F1 H1 _ (lstD out) := o1
      unfold lstD at o1'
      rw [if_pos hl] at o1'
      exact o1'
    clear o1
    have gD : Grow F1 H1 F1 (upd H1 D (.lst [])) := Grow.own g1.sub hD
    refine ⟨fun i mm H => mm = ds.length - i ∧ i ≤ ds.length ∧ ∃ F acc accD rest, Grow F1 H1 F H ∧ F D = none ∧ H D = some (.lst acc) ∧ RepAll G F acc accD ∧ lcD g t f (wipeR r vs) (ds.drop i) = .ok rest ∧ out = accD ++ rest,
      ⟨ds.length, by simp, Nat.zero_le _, F1, [], [], out, gD, g1.sub.free hD, upd_same, .nil, by rw [List.drop_zero]; exact e, by simp⟩, ?_⟩
    rintro i mm H2 ⟨rfl, hi, F2, acc, accD, rest, g2, nD, hD2, ra, el, eo⟩
    have sB : Same (if b = true then F1 else H1) H2 := by
      cases b with
      | true => rw [if_pos rfl]; exact g2.f.trans g2.sub
      | false => exact g2.h
    by_cases hlt : i < ds.length
    · refine .inr ⟨w.goes i H2 hlt sB, fun H' => i + 1 ≤ ds.length ∧ ∃ F acc accD rest, Grow F1 H1 F H' ∧ F D = none ∧ H' D = some (.lst acc) ∧ RepAll G F acc accD ∧ lcD g t f (wipeR r vs) (ds.drop (i + 1)) = .ok rest ∧ out = accD ++ rest,
        fun H' q => ⟨ds.length - (i + 1), by omega, rfl, q.1, q.2⟩, fun x H3 y => ?_⟩
      obtain ⟨F3, d, g3, ed, rx⟩ := w.yields i F2 H2 x H3 hlt g2.f g2.sub sB y
      have e1 : ds.drop i = d :: ds.drop (i + 1) := by
        rw [List.drop_eq_getElem_cons hlt]
        rw [List.getElem?_eq_getElem hlt] at ed
        rw [Option.some.inj ed]
      rw [e1, lcD] at el
      have nD3 : F3 D = none := by
        cases z : F3 D with
        | none => rfl
        | some u =>
          rcases g3.new D u z with q | q
          · rw [nD] at q; cases q
          · rw [hD2] at q; cases q
      cases eg : nE (g d (wipeR r vs)) with
      | er y => rw [eg] at el; cases el
      | bad => rw [eg] at el; cases el
      | ok r1 =>
        rw [eg] at el
        simp only [ok_bind] at el
        have m3 := ((m.grow g1).grow g2).grow g3
        refine ⟨H0, F0, fp, F3, wipeR r vs, d, m3.wipe vs (wipe_wipe vs σ), rx, r1, nE_some eg, fun fp4 σ4 m4 => ⟨m4.jo, ?_⟩⟩
        cases et : nE (t r1) with
        | er y => rw [et] at el; cases el
        | bad => rw [et] at el; cases el
        | ok bb =>
          rw [et] at el
          simp only [ok_bind] at el
          refine ⟨H0, F0, fp4, F3, r1, m4.mapJ trivial, Out.nE (W' := W0) (τ := σ) et fun F5 H5 g5 => ?_⟩
          have g25 := g2.trans (g3.trans g5)
          have D5 : H5 D = some (.lst acc) := g5.h _ _ (g3.h _ _ hD2)
          have nD5 : F5 D = none := by
            cases z : F5 D with
            | none => rfl
            | some u =>
              rcases g5.new D u z with q | q
              · rw [nD3] at q; cases q
              · rw [g3.h _ _ hD2] at q; cases q
          cases bb with
          | false => exact ⟨hlt, F5, acc, accD, rest, g25, nD5, D5, ra.mono (g3.f.trans g5.f), el, eo⟩
          | true =>
            rw [if_pos rfl] at el
            show tE G W0 .S f σ4 H5 _
            cases ex : nE (f r1) with
            | er y => rw [ex] at el; cases el
            | bad => rw [ex] at el; cases el
            | ok dx =>
              rw [ex] at el
              simp only [ok_bind] at el
              cases er : lcD g t f (wipeR r vs) (ds.drop (i + 1)) with
              | er y => rw [er] at el; cases el
              | bad => rw [er] at el; cases el
              | ok rest' =>
                rw [er] at el
                have er2 : rest = dx :: rest' := (Res.ok.inj el).symm
                subst er2
                refine ⟨H0, F0, fp4, F5, r1, (m4.mapJ trivial).grow g5, Out.nE (W' := W0) (τ := σ) ex fun F6 H6 g6 v kv => ⟨acc, g6.h _ _ D5, ?_, hlt, F6, acc ++ [v], accD ++ [dx], rest', ?_, ?_, upd_same, (ra.mono ((g3.f.trans g5.f).trans g6.f)).append (.cons kv .nil), rfl, by rw [eo]; simp⟩⟩
                · have hle : acc.length < out.length := by rw [eo, ra.length]; simp
                  exact Nat.lt_of_lt_of_le hle (Nat.le_trans hl lim_le)
                · have g26 := g25.trans g6
                  have nD6 : F6 D = none := by
                    cases z : F6 D with
                    | none => rfl
                    | some u =>
                      rcases g6.new D u z with q | q
                      · rw [nD5] at q; cases q
                      · rw [D5] at q; cases q
                  exact ⟨fun b u q => by rw [upd_ne (ne_of_none q hD)]; exact g26.h b u q, g26.f, fun b u q => by rw [upd_ne (ne_of_none q nD6)]; exact g26.sub b u q, g26.new⟩
                · cases z : F6 D with
                  | none => rfl
                  | some u =>
                    rcases g6.new D u z with q | q
                    · rw [nD5] at q; cases q
                    · rw [D5] at q; cases q
    · have ei : i = ds.length := by omega
      subst ei
      rw [List.drop_length] at el
      cases el
      rw [List.append_nil] at eo
      subst eo
      exact .inl ⟨w.stops H2 sB, o2 F2 H2 g2 _ ⟨[D], Own.lst rfl hD2 nD (OwnAll.of_rep ra) (by simp), fun a ha => by rw [List.mem_singleton.mp ha]; exact g1.h.free hD⟩⟩
abbrev RTs (X : Cx) (W : Wi) (es : List Expr) (f : Env → Res Bool) : Prop := PTs X es (tT (gOf X) W f)
theorem PTs.imp {es : List Expr} {t t' : TT} (h : PTs X es t) (i : ∀ σ H Q, t' σ H Q → t σ H Q) : PTs X es t' := ⟨fun pins s σ H Q I hw => h.run pins s σ H Q I (i σ H Q hw)⟩
theorem rts_nil : RTs X W [] (fun _ => .ok true) := PTs.imp pts_nil fun σ H Q ⟨H0, F0, fp, F, r, m, o⟩ => o F H (Grow.refl m.sub)
theorem rts_one {f : Env → Res Bool} (h : RT X W e f) : RTs X W [e] f := pts_one h
theorem re_lc {b : Bool} {elt iter : Expr} {ifs : List Expr} {scope : Scope} {fi : Env → Res (List D)} {g : D → Env → Res Env} {t : Env → Res Bool} {f : Env → Res D} (own : List (Str × Nat)) (hc : X.calm = true) (hN : X.N.Nodup) (hi : RI X W b tg iter fi) (ok : BlkOk X.N X.env.scope scope own)
    (hg : ∀ (s : Shared) (H : Hp) (C : Addr) (cl : List (Str × Addr)) (fp : List Addr) (σ : L2.St), RG (X.blk s H scope (compEnvC scope cl C X.env) fp) (JB (own.map (·.2)) σ) tg g)
    (ht : ∀ (s : Shared) (H : Hp) (C : Addr) (cl : List (Str × Addr)) (fp : List Addr), RTs (X.blk s H scope (compEnvC scope cl C X.env) fp) W0 ifs t)
    (he : ∀ (s : Shared) (H : Hp) (C : Addr) (cl : List (Str × Addr)) (fp : List Addr), RE (X.blk s H scope (compEnvC scope cl C X.env) fp) W0 .S elt f) (hs : ∀ x, foldedSetIterable iter X.env x = pure x := by intro _; rfl) :
    RE X W (.O .flat) (.ListComp elt [⟨tg, iter, ifs, 0⟩] scope pos) (fun r => fi r >>= fun ds => lcD g t f (wipeR r (own.map (·.2))) ds >>= lstD) :=
  ⟨fun pins s σ H Q I h => (pe_lc (g := tGd (gOf X) (JB (own.map (·.2)) σ) g) hc hN hi ok (fun s H C cl fp => hg s H C cl fp σ) ht he hs).run pins s σ H Q I (t_lc σ H Q h)⟩
/-- name = [..] on one line, the name a local -/
theorem rs_setLc {k : Kd} {b : Bool} {elt iter : Expr} {ifs : List Expr} {scope : Scope} {fi : Env → Res (List D)} {g : D → Env → Res Env} {t : Env → Res Bool} {f : Env → Res D} {y : Str} {py spos : Pos} (i : Nat) (own : List (Str × Nat)) (hc : X.calm = true) (hN : X.N.Nodup) (hi : RI X W b tg iter fi) (ok : BlkOk X.N X.env.scope scope own)
    (hg : ∀ (s : Shared) (H : Hp) (C : Addr) (cl : List (Str × Addr)) (fp : List Addr) (σ : L2.St), RG (X.blk s H scope (compEnvC scope cl C X.env) fp) (JB (own.map (·.2)) σ) tg g)
    (ht : ∀ (s : Shared) (H : Hp) (C : Addr) (cl : List (Str × Addr)) (fp : List Addr), RTs (X.blk s H scope (compEnvC scope cl C X.env) fp) W0 ifs t)
    (he : ∀ (s : Shared) (H : Hp) (C : Addr) (cl : List (Str × Addr)) (fp : List Addr), RE (X.blk s H scope (compEnvC scope cl C X.env) fp) W0 .S elt f)
    (hJ : ∀ σ v, W.J σ → W.J (σ.set i v) := by first | exact fun _ _ h => h | exact jset (by decide)) (hy : X.N[i]? = some y := by rfl) (hyl : X.env.scope.names.lookup y = some .local := by rfl) (hk : X.env.scope.kind = .function := by rfl)
    (ha : (scope.names.any fun (n, k) => n == y && (k == .local || k == .cell)) = false := by decide +kernel) (hl : (py.line == pos.line) = true := by rfl) (hs : ∀ x, foldedSetIterable iter X.env x = pure x := by intro _; rfl) :
    RS X W k (.Assign [.Name y py] (.ListComp elt [⟨tg, iter, ifs, 0⟩] scope pos) spos) (fun r => lift (fi r >>= fun ds => lcD g t f (wipeR r (own.map (·.2))) ds >>= lstD) r fun d => .nx (r.set i (.ow .flat d))) :=
  ⟨fun pins s σ H D I h => (ps_setLc (g := tGd (gOf X) (JB (own.map (·.2)) σ) g) hc hN hy hyl (sw_true hk hyl hl ha) hi ok (fun s H C cl fp => hg s H C cl fp σ) ht he hs).run pins s σ H D I (by
    obtain ⟨H0, F0, fp, F, r, m, o⟩ := h
    refine t_lc σ H _ ⟨H0, F0, fp, F, r, m, OutS.lift m o fun F' H' d gr o' v kv => ?_⟩
    obtain ⟨fp', m'⟩ := m.setNew gr i kv hJ
    exact o' fp' F' _ H' (Same.refl _) m')⟩
end
end Mir

/-! isinstance, len. -/
namespace Mir
open PySem PySem.Spec PyProof.Rows L2

inductive Tg where
  | t (n : String)
  | c (k : Nat)
  deriving DecidableEq
def tgOf : D → Tg
  | .non => .t "NoneType"
  | .bl _ => .t "bool"
  | .int _ => .t "int"
  | .str _ => .t "str"
  | .tup _ => .t "tuple"
  | .lst _ => .t "list"
  | .scr _ => .t "list"
  | .dic _ _ => .t "dict"
  | .obj c _ => .c c
  | .exc c _ => .c c
  | .cls _ => .t "type"
  | .ty _ => .t "type"
def bS : List String := ["NoneType", "bool", "int", "str", "tuple", "list", "dict"]
def bT : List String := ["int", "bool", "str", "tuple", "list", "dict", "ValueError"]
def clsTg : D → Option Tg
  | .cls c => some (.c c)
  | .ty n => some (.t n)
  | _ => none
def tgV (ca : Nat → Addr) : Tg → Value
  | .t n => .type n
  | .c k => .ref (ca k)
/-- the class b is over the class a -/
def overC (a b : Nat) : Bool := (a == b) || (b == 5 && decide (a < 2)) || (b == 10 && decide (10 < a))
/-- what isinstance says -/
def isaT : Tg → Tg → Bool
  | .t a, .t b => (a == b) || (a == "bool" && b == "int")
  | .t _, .c _ => false
  | .c a, .c b => overC a b
  | .c a, .t b => decide (10 ≤ a) && b == "ValueError"
structure ObjC (K : PySem.W.Frag) (C : Addr) : Prop where
  cl : Cls K C
  ha : PySem.W.findIn K (.ref C) "__class__" = some (some (.builtin "object.__class__"))
  hn : PySem.W.specialIn K (.builtin "object.__class__") "__get__" = some (some (.builtin "getset_descriptor.__get__"))
  ht : PySem.W.takesIn K (.builtin "object.__class__") = some true
  hm : PySem.W.mroIn K C (.type "object") = some true
structure ExcC (K : PySem.W.Frag) (C : Addr) : Prop where
  cl : (PySem.W.clsIn K C).isSome = true
  hg : PySem.W.findIn K (.ref C) "__getattribute__" = some (some (.builtin "BaseException.__getattribute__"))
  hk : PySem.W.findIn K (.ref C) "__getattr__" = some none
  hs : PySem.W.subIn K (.ref C) (.type "BaseException") = some true
  ha : PySem.W.findIn K (.ref C) "__class__" = some (some (.builtin "object.__class__"))
  hn : PySem.W.specialIn K (.builtin "object.__class__") "__get__" = some (some (.builtin "getset_descriptor.__get__"))
  ht : PySem.W.takesIn K (.builtin "object.__class__") = some true
  hm : PySem.W.mroIn K C (.type "object") = some true
/-- the classes cs may be asked for, the classes us may be asked about -/
structure IsM (K : PySem.W.Frag) (ca : Nat → Addr) (cs us : List Nat) : Prop where
  oo : ∀ c ∈ cs, ∀ u ∈ us, PySem.W.kitOne K (.ref (ca c)) (.ref (ca u)) = some (overC c u)
  ot : ∀ c ∈ cs, ∀ u ∈ bT, PySem.W.kitOne K (.ref (ca c)) (.type u) = some (isaT (.c c) (.t u))
  to : ∀ b ∈ bS, ∀ u ∈ us, PySem.W.kitOne K (.type b) (.ref (ca u)) = some false
  ob : ∀ c ∈ cs, c < 10 → ObjC K (ca c)
  ex : ∀ c ∈ cs, 10 ≤ c → ExcC K (ca c)
def okS (cs : List Nat) : Tg → Bool
  | .t n => bS.contains n
  | .c k => cs.contains k
def okD (cs : List Nat) (d : D) : Bool := okS cs (tgOf d) && (match d with
  | .obj c _ => decide (c < 10)
  | .exc c _ => decide (10 ≤ c)
  | _ => true)
def okT (us : List Nat) : Tg → Bool
  | .t n => bT.contains n
  | .c k => us.contains k
theorem bST : ∀ a ∈ bS, ∀ b ∈ bT, kitB a b = some (isaT (.t a) (.t b)) := by decide +kernel
theorem IsM.one {K : PySem.W.Frag} {ca : Nat → Addr} {cs us : List Nat} (M : IsM K ca cs us) {t u : Tg} (h1 : okS cs t = true) (h2 : okT us u = true) : PySem.W.kitOne K (tgV ca t) (tgV ca u) = some (isaT t u) := by
  cases t with
  | t a =>
    have ha : a ∈ bS := by simpa [okS] using h1
    cases u with
    | t b => exact kit_ty (bST a ha b (by simpa [okT] using h2))
    | c k => exact M.to a ha k (by simpa [okT] using h2)
  | c a =>
    have ha : a ∈ cs := by simpa [okS] using h1
    cases u with
    | t b => exact M.ot a ha b (by simpa [okT] using h2)
    | c k => exact M.oo a ha k (by simpa [okT] using h2)
theorem IsM.any {K : PySem.W.Frag} {ca : Nat → Addr} {cs us : List Nat} (M : IsM K ca cs us) {t : Tg} (h1 : okS cs t = true) : ∀ {l : List Tg}, l.all (okT us) = true → PySem.W.kitAny K (tgV ca t) (l.map (tgV ca)) = some (l.any (isaT t))
  | [], _ => rfl
  | u :: l, h => by
    rw [List.all_cons, Bool.and_eq_true] at h
    rw [List.map_cons, List.any_cons]
    refine kitAny_cons (M.one h1 h.1) (fun e => ?_) fun e => ?_
    · rw [e, Bool.false_or]; exact IsM.any M h1 h.2
    · rw [e, Bool.true_or]
def optAll : List D → Option (List Tg)
  | [] => some []
  | d :: ds => match clsTg d, optAll ds with
    | some t, some ts => some (t :: ts)
    | _, _ => none
/-- isinstance over data -/
def isD (cs us : List Nat) (d c : D) : Res D := if okD cs d = true then (match clsTg c with
    | some u => if okT us u = true then .ok (.bl (isaT (tgOf d) u)) else .bad
    | none => match c with
      | .tup es => match optAll es with
        | some l => if l.all (okT us) = true then .ok (.bl (l.any (isaT (tgOf d)))) else .bad
        | none => .bad
      | _ => .bad) else .bad
theorem ne_isD {cs us : List Nat} : NoEr2 (isD cs us) := fun a b e z => by
  unfold isD at z
  split at z
  · split at z
    · split at z <;> cases z
    · split at z
      · split at z
        · split at z <;> cases z
        · cases z
      · cases z
  · cases z
section
variable {X : Cx} {pins : List (Addr × Obj)} {σ : L2.St} {H F : Hp} {s : Shared}
theorem kit_rd {cs us : List Nat} {v : V} {u : Value} {d : D} (M : IsM X.K (gOf X).ca cs us) (I : L2.Inv X pins σ H s) (sF : Same F H) (h : RdD (gOf X) F H v d) (r : RelV v u) (hk : okD cs d = true) :
    ∃ P : Heap → Prop, PySem.W.KitX X.K u (tgV (gOf X).ca (tgOf d)) P ∧ P s.heap ∧ u ≠ .builtin "__main__.__loader__#opaque" := by
  cases d with
  | non => rw [RdD.non h] at r; exact kit_of I r (.base .non)
  | bl b => rw [RdD.bl h] at r; exact kit_of I r (.base (.bl b))
  | int i => rw [RdD.int h] at r; exact kit_of I r (.base (.int i))
  | str z => rw [RdD.str h] at r; exact kit_of I r (.base (.str z))
  | tup ds =>
    obtain ⟨a, vs, rfl, q, _⟩ := h.tup sF
    rcases q with (q | ⟨o, q⟩) | ⟨o, its, n, q, c, _⟩
    · exact kit_of I r (.base (.tup q))
    · exact kit_of I r (.fTuple q)
    · exact kit_of I r (.kTuple q c)
  | lst ds =>
    obtain ⟨a, vs, rfl, q, _⟩ := h.lst sF
    exact kit_of I r (.base (.lst q))
  | scr ns =>
    obtain ⟨a, rfl, q⟩ := h.scr sF
    rcases q with (q | ⟨o, q⟩) | ⟨o, its, n, q, c, _⟩
    · exact kit_of I r (.base (.lst q))
    · exact kit_of I r (.base (.frz q))
    · exact kit_of I r (.kList q c)
  | dic ks vs =>
    obtain ⟨a, o, xs, ws, rfl, q, _, dd, _⟩ := h.dic sF
    cases (show u = Value.ref a from r)
    obtain ⟨e, _⟩ := (show ObjOk X.prog X.w H s.heap a (.ext (isObj' a o)) from I.hok a _ q)
    exact ⟨_, PySem.W.kitx_dict, ⟨o, e, dd.ex.1⟩, fun z => nomatch z⟩
  | obj c vs =>
    unfold okD at hk
    rw [Bool.and_eq_true] at hk
    have hc : c ∈ cs := by simpa [okS, tgOf] using hk.1
    have O := M.ob c hc (of_decide_eq_true hk.2)
    obtain ⟨a, dx, fs, rfl, q⟩ := h.obj sF
    exact kit_of I r (.base (.ins q O.cl O.ha O.hn O.ht O.hm))
  | exc c vs =>
    unfold okD at hk
    rw [Bool.and_eq_true] at hk
    have hc : c ∈ cs := by simpa [okS, tgOf] using hk.1
    have O := M.ex c hc (of_decide_eq_true hk.2)
    rcases h with h | ⟨A, h⟩
    · have ins : ∀ {a : Addr} {d : Option Addr} {od : Option Obj}, (∃ oe us, s.heap.get? a = some oe ∧ oe.cls = .ref ((gOf X).ca c) ∧ oe.dict = d ∧ oe.data = .fields us) → (match d, od with | some dx, some o => s.heap.get? dx = some o | none, none => True | _, _ => False) → ∃ oe, PySem.W.InstAt s.heap a oe ((gOf X).ca c) od := fun {a d od} ⟨oe, us, h1, h2, h3, h4⟩ hd =>
        ⟨oe, h1, h2, by unfold PySem.W.notCls; rw [h4], by rw [h3]; exact hd⟩
      have fin : ∀ {a : Addr} {oe : Obj} {od : Option Obj}, PySem.W.InstAt s.heap a oe ((gOf X).ca c) od → u = .ref a → ∃ P : Heap → Prop, PySem.W.KitX X.K u (tgV (gOf X).ca (tgOf (.exc c vs))) P ∧ P s.heap ∧ u ≠ .builtin "__main__.__loader__#opaque" := fun {a oe od} J e => by
        subst e
        exact ⟨_, PySem.W.kitx_exc O.cl O.hg O.hk O.hs O.ha O.hn O.ht O.hm, J, fun z => nomatch z⟩
      cases h with
      | exc h1 _ =>
        obtain ⟨e, _⟩ := (show ObjOk X.prog X.w H s.heap _ (.ext (isExc _ ((gOf X).ca c) none)) from I.hok _ _ (sF _ _ h1))
        obtain ⟨oe, J⟩ := ins (od := none) e trivial
        exact fin J r
      | excF h1 h2 _ _ =>
        obtain ⟨e, _⟩ := (show ObjOk X.prog X.w H s.heap _ (.ext (isExc _ ((gOf X).ca c) (some _))) from I.hok _ _ (sF _ _ h1))
        obtain ⟨mA, ⟨od, _, _, e2, _⟩, _⟩ := (show ObjOk X.prog X.w H s.heap _ (.xd _) from I.hok _ _ (sF _ _ h2))
        obtain ⟨oe, J⟩ := ins (od := some od) e e2
        exact fin J r
    · cases h
  | cls c => cases hk
  | ty n => cases hk
theorem cls_val {F : Hp} {v : V} {d : D} {u : Value} {t : Tg} (h : Rep (gOf X) F v d) (e : clsTg d = some t) (r : RelV v u) : u = tgV (gOf X).ca t := by
  cases h with
  | cls hm =>
    cases e
    have r' : u = .ref _ := r
    rw [r']
    show Value.ref _ = .ref ((gOf X).ca _)
    rw [ca_of hm]
  | ty n =>
    cases e
    exact r
  | _ => cases e
theorem cls_vals {F : Hp} : ∀ {vs : List V} {ds : List D} {us : List Value} {l : List Tg}, RepAll (gOf X) F vs ds → optAll ds = some l → Vals vs us → us = l.map (tgV (gOf X).ca)
  | _, _, _, _, .nil, e, .nil => by cases e; rfl
  | _, _, _, _, .cons r t, e, .cons q k => by
    rw [optAll] at e
    split at e
    · rename_i a b h1 h2
      cases e
      rw [cls_val r h1 q, cls_vals t h2 k]
      rfl
    · cases e
theorem RdD.clsS {v : V} {d : D} {t : Tg} (h : RdD (gOf X) F H v d) (e : clsTg d = some t) : Rep (gOf X) F v d := by
  rcases h with h | ⟨A, h⟩
  · exact h
  · cases h <;> cases e
def rIs (X : Cx) (cs us : List Nat) : List V → Hp → VK → Prop := fun xs H Q => ∃ (F : Hp) (x y : V) (d c e : D), xs = [x, y] ∧ Same F H ∧ RdD (gOf X) F H x d ∧ RdD (gOf X) F H y c ∧ isD cs us d c = .ok e ∧ ∀ v, Rep (gOf X) F v e → Q v H
theorem call_is {cs us : List Nat} (M : IsM X.K (gOf X).ca cs us) : CallR X (.builtin "isinstance") (rIs X cs us) := by
  intro pins s σ H xs ws Q I r h
  obtain ⟨F, x, y, d, c, e, rfl, sF, hd, hc, he, q⟩ := h
  obtain ⟨u1, u2, rfl, r1, r2⟩ := vals2 r
  unfold isD at he
  split at he
  · rename_i hok
    obtain ⟨P, Z, p, hx⟩ := kit_rd M I sF hd r1 hok
    have hok : okS cs (tgOf d) = true := by
      unfold okD at hok
      rw [Bool.and_eq_true] at hok
      exact hok.1
    split at he
    · rename_i t ht
      split at he <;> cases he
      rename_i h2
      have e2 := cls_val (hc.clsS ht) ht r2
      subst e2
      exact PySem.W.kia_one Z I.kIn p (M.one hok h2) hx fun tk => ⟨.bl _, H, I.tok tk, rfl, q _ (.bl _)⟩
    · split at he
      · rename_i es
        split at he
        · rename_i l hl
          split at he <;> cases he
          rename_i h2
          obtain ⟨a, vs, rfl, q1, ra⟩ := hc.tup sF
          cases (show u2 = Value.ref a from r2)
          obtain ⟨its, rv, ⟨o, h1, h2', n, h3⟩, _⟩ := I.tuple q1
          have e3 := cls_vals ra hl rv
          subst e3
          obtain ⟨oc, od, dt, sl⟩ := o
          simp only at h2' h3
          subst h2' h3
          exact PySem.W.kia_tup Z I.kIn p h1 (M.any hok h2) hx fun tk => ⟨.bl _, H, I.tok tk, rfl, q _ (.bl _)⟩
        · cases he
      · cases he
  · cases he
theorem boot_isi : bootBuiltins "isinstance" = some (.builtin "isinstance") := by decide +kernel
theorem b_is {cs us : List Nat} (M : IsM X.K (gOf X).ca cs us) (hm : X.mg "isinstance" = none) : BlM X "isinstance" .S (two (isD cs us)) := BlM.b hm boot_isi (call_is M) (ne_two ne_isD) (cal_two fun F H x y a b d Q s ra rb e q => ⟨F, x, y, a, b, d, rfl, s, ra, rb, e, fun v rv => q v F H (Grow.refl s) rv⟩)

/-! ### len -/
def lenD : D → Res D
  | .lst ds => .ok (.int ds.length)
  | .tup ds => .ok (.int ds.length)
  | .scr ns => .ok (.int ns.length)
  | .str z => if z.length ≤ lim then .ok (.int z.length) else .bad
  | .dic ks _ => .ok (.int ks.length)
  | _ => .bad
mutual
theorem nested_of (I : L2.Inv X pins σ H s) (sF : Same F H) : ∀ {v : V} {d : D} {u : Value} {k : NestedKey}, Rep (gOf X) F v d → keyOf d = some k → RelV v u → NestedIs s.heap k u
  | _, _, _, _, .non, e, r => by
    simp only [keyOf, Option.some.injEq] at e
    subst e
    cases (show _ = Value.none from r)
    exact .none
  | _, _, _, _, .bl b, e, r => by
    simp only [keyOf, Option.some.injEq] at e
    subst e
    cases (show _ = Value.bool b from r)
    exact .bool rfl
  | _, _, _, _, .int i, e, r => by
    simp only [keyOf, Option.some.injEq] at e
    subst e
    obtain ⟨t, q⟩ := (show ∃ t, _ = Value.int i t from r)
    cases q
    exact .int i t
  | _, _, _, _, .str z, e, r => by
    simp only [keyOf, Option.some.injEq] at e
    subst e
    obtain ⟨t, q⟩ := (show ∃ t, _ = Value.str z t from r)
    cases q
    exact .text z t
  | _, _, _, _, .tup h ra, e, r => by
    simp only [keyOf, Option.map_eq_some_iff] at e
    obtain ⟨ks, e1, e2⟩ := e
    subst e2
    cases (show _ = Value.ref _ from r)
    obtain ⟨its, rv, ⟨o, h1, h2, n, h3⟩, _⟩ := I.tuple (Same.sqT sF h)
    exact .tup h1 h2 h3 (nested_all I sF ra e1 rv)
  | _, _, _, _, .lst _ _, e, _ => by simp [keyOf] at e
  | _, _, _, _, .scr _, e, _ => by simp [keyOf] at e
  | _, _, _, _, .dic _ _ _ _ _ _ _, e, _ => by simp [keyOf] at e
  | _, _, _, _, .obj _ _ _, e, _ => by simp [keyOf] at e
  | _, _, _, _, .exc _ _, e, _ => by simp [keyOf] at e
  | _, _, _, _, .excF _ _ _ _, e, _ => by simp [keyOf] at e
  | _, _, _, _, .cls _, e, _ => by simp [keyOf] at e
  | _, _, _, _, .ty _, e, _ => by simp [keyOf] at e
theorem nested_all (I : L2.Inv X pins σ H s) (sF : Same F H) : ∀ {vs : List V} {ds : List D} {us : List Value} {ks : List NestedKey}, RepAll (gOf X) F vs ds → keyOf.keysOf ds = some ks → Vals vs us → NestedAll s.heap ks us
  | _, _, _, _, .nil, e, rv => by
    simp only [keyOf.keysOf, Option.some.injEq] at e
    subst e
    cases rv
    exact .nil
  | _, _, _, _, .cons r t, e, rv => by
    rw [keyOf.keysOf] at e
    split at e
    · rename_i a b h1 h2
      cases e
      cases rv with
      | cons q k => exact .cons (nested_of I sF r h1 q) (nested_all I sF t h2 k)
    · cases e
end
/-- the entries' keys stand -/
theorem keys_is (I : L2.Inv X pins σ H s) (sF : Same F H) : ∀ {xs : List (NestedKey × Addr × Value)} {ks : List D}, RepAll (gOf X) F (xs.map fun x => V.ref x.2.1) ks → ks.map keyOf = xs.map (fun x => some x.1) → (∀ x ∈ xs, x.1.depth ≤ 8) → ∀ x ∈ xs, (nestedKind X.prog X.w).is s.heap x.1 x.2.1
  | [], _, _, _, _, _, h => nomatch h
  | y :: ys, _, .cons r t, e, d, x, h => by
    rw [List.map_cons, List.map_cons, List.cons.injEq] at e
    rcases List.mem_cons.mp h with z | z
    · subst z
      exact ⟨nested_of I sF r e.1 rfl, d x List.mem_cons_self⟩
    · exact keys_is I sF t e.2 (fun x hx => d x (List.mem_cons_of_mem _ hx)) x z
theorem dic_of (I : L2.Inv X pins σ H s) (sF : Same F H) {p : Addr} {o : Obj} {xs : List (NestedKey × Addr × Value)} {ks : List D} (hp : H p = some (.ext (isObj' p o))) (dd : DicO (gOf X) o xs) (h : RepAll (gOf X) F (xs.map fun x => V.ref x.2.1) ks) (e : ks.map keyOf = xs.map (fun x => some x.1)) :
    s.heap.DictOfH (nestedKind X.prog X.w) p xs := by
  obtain ⟨q, _⟩ := (show ObjOk X.prog X.w H s.heap p (.ext (isObj' p o)) from I.hok p _ hp)
  obtain ⟨ents, ep, h1, h2⟩ := dd.dat
  exact ⟨o, ents, ep, q, dd.ex, h1, h2, keys_is I sF h e dd.dp, dd.nd⟩
def rLenH (X : Cx) : List V → Hp → VK → Prop := fun xs H Q => ∃ (F : Hp) (p : Addr) (o : Obj) (es : List (NestedKey × Addr × Value)) (ks : List D), xs = [.ref p] ∧ H p = some (.ext (isObj' p o)) ∧ (p == sysModules) = false ∧ Same F H ∧ DicO (gOf X) o es ∧ RepAll (gOf X) F (es.map fun x => V.ref x.2.1) ks ∧ ks.map keyOf = es.map (fun x => some x.1) ∧ Q (.int ((es.length : Nat) : Int)) H
theorem call_lenH : CallR X (.builtin "len") (rLenH X) := by
  intro pins s σ H xs us Q I r h
  obtain ⟨F, p, o, es, ks, rfl, hp, hsys, sF, dd, hr, hk, q⟩ := h
  obtain ⟨u, rfl, rx⟩ := vals1 r
  cases (show u = Value.ref p from rx)
  have hl := dd.sz
  have h63 := line63
  exact call_len_dictH (knd := nestedKind X.prog X.w) hsys (dic_of I sF hp dd hr hk) (by omega) ⟨.int es.length, H, I.tok _, ⟨_, rfl⟩, q⟩
theorem boot_len' : bootBuiltins "len" = some (.builtin "len") := by decide +kernel
theorem b_len (hm : X.mg "len" = none) : BlM X "len" .S (one lenD) := BlM.b hm boot_len' ((call_len_seq.or call_len_str).or call_lenH) (ne_one fun d e z => by unfold lenD at z; split at z <;> (try split at z) <;> cases z) (cal_one fun F H x a d Q s ra e q => by
  unfold lenD at e
  split at e
  · cases e
    obtain ⟨p, vs, rfl, h1, r1⟩ := ra.lst s
    exact .inl (.inl ⟨p, vs, rfl, .inl (.of h1), by rw [r1.length]; exact q _ F H (Grow.refl s) (Rep.int _)⟩)
  · cases e
    obtain ⟨p, vs, rfl, h1, r1⟩ := ra.tup s
    exact .inl (.inl ⟨p, vs, rfl, .inr h1, by rw [r1.length]; exact q _ F H (Grow.refl s) (Rep.int _)⟩)
  · cases e
    obtain ⟨p, rfl, h1⟩ := ra.scr s
    exact .inl (.inl ⟨p, _, rfl, .inl h1, by rw [List.length_map]; exact q _ F H (Grow.refl s) (Rep.int _)⟩)
  · split at e <;> cases e
    rename_i h
    exact .inl (.inr ⟨_, by rw [ra.str], Nat.le_trans h lim_le, q _ F H (Grow.refl s) (Rep.int _)⟩)
  · cases e
    obtain ⟨p, o, xs, ws, rfl, h1, z1, z2, z3, z4, z5, z6⟩ := ra.dic s
    rename_i ks vs
    have hl : xs.length = ks.length := by have := congrArg List.length z5; simpa using this.symm
    exact .inr ⟨F, p, o, xs, ks, rfl, h1, z1, s, z2, z4, z5, by rw [hl]; exact q _ F H (Grow.refl s) (Rep.int _)⟩
  · cases e)
end
end Mir

/-! Errors as values; try. -/
namespace Mir
open PySem PySem.Spec PyProof.Rows L2

section
variable {X : Cx} {pins : List (Addr × Obj)} {σ : L2.St} {H : Hp} {s sI : Shared} {a : Addr}
theorem isExc_ok {P : Program} {w : World} {H : Hp} {h : Heap} {a C : Addr} {d : Option Addr} {oe : Obj} {vs : Array Value} (e : h.get? a = some oe) (z : Zc (.ref C) d oe) (hd : oe.data = .fields vs) : ObjOk P w H h a (.ext (isExc a C d)) :=
  ⟨⟨oe, vs, e, z.1, z.2, hd⟩, ⟨oe, e⟩, fun _ _ ⟨o, v, q, r⟩ k => ⟨o, v, k o q, r⟩⟩
/-- an error that was made, as a value -/
theorem pe_of_mk {e : Expr} {t : L2.St → Hp → XK → Prop} (h : PMk X e t) : PE X e (fun σ H Q => t σ H fun cls d H' => ∃ C, cls = .ref C ∧ ∀ a, H' a = none → Q (.ref a) (upd H' a (.ext (isExc a C d)))) :=
  ⟨fun pins s σ H Q I hw => wpAny_mono (h pins s σ H _ I hw) (fun u s' hu => by
    obtain ⟨a, oe, vs, sI, H', cls, d, rfl, J, k, hne, he, hz, hd, _, na, os, ag, _, C, rfl, q⟩ := hu
    have J2 := J.call (ch := []) (h' := s'.heap) (g' := s'.gens) (t' := s'.toks) (d' := s'.drawn) (H' := upd H' a (.ext (isExc a C d))) (Un.laidN k hne na) (J.hok.laidN k na (isExc_ok he hz hd)) ag (fun _ z => nomatch z)
    have es : ({ sI with heap := s'.heap, gens := s'.gens, drawn := s'.drawn, toks := s'.toks } : Shared) = s' := by
      obtain ⟨a1, a2, a3, a4, a5⟩ := s'
      simp only at os
      subst os
      rfl
    rw [es] at J2
    exact ⟨.ref a, _, J2, rfl, q a na⟩) fun _ _ z => z⟩
end
section
variable {X : Cx} {W : Wi} {k : Kd} {C : Addr} {c : Nat} {x : Str} {p pos pos2 : Pos} {e o : Expr} {es : List Expr}
theorem re_exc0 (M : ExM0 X.K X.mg C c) (hx : x = cname c := by rfl) (hg : Gl X x := by rfl) (hdb : (x == ("__debug__" : Str)) = false := by decide) : RE X W .S (.Call (.Name x p) [] [] pos) (fun _ => .ok (.exc c [])) :=
  (pe_of_mk (pmk_own0 M hx hg hdb)).imp fun σ H Q ⟨H0, F0, fp, F, r, m, o⟩ => ⟨C, rfl, fun a na => o _ _ (Grow.mk1 m.sub na) _ (Rep.exc (by rw [ca_of (G := gOf X) M.gC]; exact upd_same) M.no)⟩
theorem re_excA (M : ExMA X.prog X.w X.K X.mg X.base C c) (hr : Room 2 X.A) {fa : Env → Res (List D)} (ha : RA X W (e :: es) fa) (hx : x = cname c := by rfl) (hg : Gl X x := by rfl) (hdb : (x == ("__debug__" : Str)) = false := by decide)
    (he : starEach (e :: es) X.env = (false, eval e X.env) :: starEach es X.env := by rfl) (hpl : (backTo pos (starEach es X.env)).any (·.1) = false := by rfl) :
    RE X W .S (.Call (.Name x p) (e :: es) [] pos) (fun r => fa r >>= fun ds => if ds.length = (cflds c).length ∧ ds.length ≤ 1000 then .ok (.exc c ds.reverse) else .bad) := by
  subst hx
  obtain ⟨f, fd, ps, F1, iC, tI, hb⟩ := M.ex
  refine (pe_of_mk (pmk_oex M.T iC tI F1 hr hb .nil (passL (X := X)) hg M.gC ha hdb he hpl)).imp fun σ H Q ⟨H0, F0, fp, F, r, m, o⟩ => ⟨H0, F0, fp, F, r, m, o.bind fun F' H' ds gr o' vs rv => ?_⟩
  split at o'
  · rename_i hl
    have hlen := rv.length
    refine ⟨by omega, fun a na => ⟨a, vs, by simp, by omega, upd_same, fun dx ndx ne => ⟨rfl, dx, _, upd_same, by rw [upd_ne ne, upd_same], ?_, C, rfl, fun a2 na2 => ?_⟩⟩⟩
    · rw [upd_ne ne] at ndx
      exact ndx
    · rw [upd_ne ne] at ndx
      have eH : upd (del (upd (upd (upd H' a (exo a C none)) dx (exd dx ((cflds c).zip vs.reverse))) a (exo a C (some dx))) a) dx (.xd ((cflds c).zip vs.reverse)) = upd H' dx (.xd ((cflds c).zip vs.reverse)) := by
        funext b
        by_cases hb : b = dx
        · rw [hb, upd_same, upd_same]
        · rw [upd_ne hb, upd_ne hb]
          by_cases ha : b = a
          · rw [ha, del_same, na]
          · rw [del_ne ha, upd_ne ha, upd_ne hb, upd_ne ha]
      rw [eH] at na2 ⊢
      have g1 : Grow F' H' (upd F' dx (.xd ((cflds c).zip vs.reverse))) (upd H' dx (.xd ((cflds c).zip vs.reverse))) := Grow.mk1 gr.sub ndx
      have g2 := Grow.mk1 (o := .ext (isExc a2 C (some dx))) g1.sub na2
      have nd2 : dx ≠ a2 := fun z => by
        rw [z, upd_same] at na2
        cases na2
      refine o' _ _ (g1.trans g2) _ (Rep.excF (dx := dx) (ws := vs.reverse) (by rw [ca_of (G := gOf X) M.gC]; exact upd_same) (by rw [upd_ne nd2, upd_same]) (by rw [List.length_reverse]; omega) ((rv.mono (g1.trans g2).f).reverse))
  · exact o'.elim
/-- an error's attribute f, by classes: its place -/
structure FldX (K : PySem.W.Frag) (ca : Nat → Addr) (f : Str) (p : Nat → Option Nat) : Prop where
  h : ∀ c i, p c = some i → (cflds c)[i]? = some f ∧ (cflds c).Nodup ∧ XfC K (ca c) ∧ PySem.W.findIn K (.ref (ca c)) f = some none
def fldE (p : Nat → Option Nat) (d : D) : Res D := match d with
  | .exc c vs => match p c with
    | some i => match vs[i]? with
      | some d => .ok d
      | none => .bad
    | none => .bad
  | _ => .bad
theorem fldE_er {p : Nat → Option Nat} {d e : D} (h : fldE p d = .er e) : False := by
  unfold fldE at h
  split at h
  · split at h
    · split at h <;> cases h
    · cases h
  · cases h
theorem fldE_ok {p : Nat → Option Nat} {d e : D} (h : fldE p d = .ok e) : ∃ c vs i, d = .exc c vs ∧ p c = some i ∧ vs[i]? = some e := by
  unfold fldE at h
  split at h
  · rename_i c vs
    split at h
    · rename_i i hp
      split at h
      · rename_i d' hv
        cases h
        exact ⟨c, vs, i, rfl, hp, hv⟩
      · cases h
    · cases h
  · cases h
theorem re_exf {f : Str} {pt : Nat → Option Nat} {fo : Env → Res D} (M : FldX X.K (gOf X).ca f pt) (ho : RE X W .S o fo) (hb : attributeBase o f X.env (eval o X.env) = eval o X.env := by rfl) : RE X W .S (.Attribute o f pos) (fun r => fo r >>= fldE pt) := by
  refine ⟨fun pins s σ H Q I ⟨H0, F0, fp, F, r, m, oo⟩ => ?_⟩
  have hw : tE (gOf X) W .S fo σ H (fun v H' => ∃ F' w a dx c ws, Same F' H' ∧ v = .ref a ∧ F' a = some (.ext (isExc a ((gOf X).ca c) (some dx))) ∧ F' dx = some (.xd ((cflds c).zip ws)) ∧ ((cflds c).zip ws).lookup f = some w ∧ XfC X.K ((gOf X).ca c) ∧ PySem.W.findIn X.K (.ref ((gOf X).ca c)) f = some none ∧ Q w H') := by
    refine ⟨H0, F0, fp, F, r, m, oo.bind fun F' H' d gr o2 v kv => ?_⟩
    cases ef : fldE pt d with
    | er x => exact (fldE_er ef).elim
    | bad => rw [ef] at o2; exact o2.elim
    | ok d' =>
      obtain ⟨c, vs, i, rfl, hp, hv⟩ := fldE_ok ef
      rw [ef] at o2
      obtain ⟨h1, h2, h3, h4⟩ := M.h c i hp
      have kv' : Rep (gOf X) F' v (.exc c vs) := kv
      cases kv' with
      | exc _ z => rw [z] at h1; cases h1
      | @excF a dx _ ws _ e1 e2 hl ra =>
        obtain ⟨w, hw, rw'⟩ := ra.get hv
        exact ⟨F', w, a, dx, c, ws, gr.sub, rfl, e1, e2, lookup_zip h2 h1 hw, h3, h4, o2 F' H' (Grow.refl gr.sub) w rw'⟩
  refine attr_of hb (thn (ho.run pins s σ H _ I hw) fun u s1 ⟨x, H1, I1, rx, F', w, a, dx, c, ws, sF, ex, e1, e2, l, T, hno, q⟩ => ?_)
  subst ex
  obtain rfl : u = Value.ref a := rx
  obtain ⟨⟨oe, vs, ha, hc, hdd, hd⟩, _⟩ := (show ObjOk X.prog X.w H1 s1.heap a (.ext (isExc a ((gOf X).ca c) (some dx))) from I1.hok a _ (sF _ _ e1))
  obtain ⟨mA, hns, hr⟩ := (show ObjOk X.prog X.w H1 s1.heap dx (.xd ((cflds c).zip ws)) from I1.hok dx _ (sF _ _ e2))
  obtain ⟨od, ho2, hl⟩ := lookIn_ns hns
  obtain ⟨u, hu, ru⟩ := RelO.some_of (v := w) (o := mA f) (by rw [← l]; exact hr f)
  have J : PySem.W.InstAt s1.heap a oe ((gOf X).ca c) (some od) := ⟨ha, hc, by unfold PySem.W.notCls; rw [hd] <;> rfl, by rw [hdd]; exact ho2⟩
  exact HandSPX.exc_get I1.kIn J T.ga T.gg T.exC (PySem.W.findObj_own T.hdC hno rfl (by rw [hl, hu])) (handed_of ru) ⟨w, H1, I1.tok _, ru, q⟩
end

/-! ### try -/
section
variable {X : Cx} {pins : List (Addr × Obj)} {σ : L2.St} {H : Hp} {s sI : Shared} {a : Addr}
/-- a suite's context, the error tracked -/
theorem Inv.suit (I : L2.Inv X pins σ H s) {o : HO} {oe : Obj} {vs : Array Value} (hx : X.ex = []) (J : L2.Inv X pins σ H sI) (nI : sI.heap.get? a = none) (ha : s.heap.get? a = some oe) (hd : oe.data = .fields vs) (na : H a = none) (nL : a ≠ X.env.locals) (new : ObjOk X.prog X.w (upd H a o) s.heap a o) :
    L2.Inv (X.suite a (X.pn ++ pins)) [] σ (upd H a o) s where
  ok := I.ok.suite _ _
  os := I.os
  bare := I.bare
  base := {
    keep := I.base.keep
    slot := I.base.slot
    free := fun b u e n hb => by
      rw [upd_ne ?_]
      · exact I.base.free b u e n hb
      · rintro rfl
        obtain ⟨o', e'⟩ := J.base.there b u e (by show b ∉ X.ex; rw [hx]; simp)
        rw [nI] at e'
        cases e'
    there := I.base.there
    tups := fun b xs e => by rw [upd_ne (ne_of_none (I.base.tups b xs e) na)]; exact I.base.tups b xs e
    frzs := fun b u xs e => by rw [upd_ne (ne_of_none (I.base.frzs b u xs e) na)]; exact I.base.frzs b u xs e
    tbls := fun b ps e => by
      obtain ⟨more, q⟩ := I.base.tbls b ps e
      exact ⟨more, by rw [upd_ne (ne_of_none q na)]; exact q⟩ }
  loc := I.loc
  cell := I.cell
  free := by rw [upd_ne (Ne.symm nL)]; exact I.free
  freeC := fun x c e => by
    rw [upd_ne ?_]
    · exact I.freeC x c e
    · rintro rfl
      obtain ⟨v, o', q1, q2⟩ := I.cell x c e
      rw [ha] at q1
      cases q1
      rw [hd] at q2
      cases q2
  pin := fun p hp => by
    have hp' : p ∈ X.pn ++ pins := by rw [List.append_nil] at hp; exact hp
    obtain ⟨q1, q2, q3⟩ := I.pin p hp'
    refine ⟨q1, ?_, q3⟩
    rw [upd_ne ?_]
    · exact q2
    · rintro rfl
      have z := (J.pin p hp').1
      rw [nI] at z
      cases z
  hok := I.hok.laidN (fun _ _ z => z) na new
  len := I.len
theorem Inv.unsuit {pn' : List (Addr × Obj)} {H' : Hp} (I : L2.Inv (X.suite a (X.pn ++ pins)) pn' σ H' s) (ok : X.Ok) : L2.Inv X pins σ H' s :=
  ⟨ok, I.os, I.bare, I.base, I.loc, I.cell, I.free, I.freeC, fun p hp => I.pin p (List.mem_append_left _ hp), I.hok, I.len⟩
end
/-- an except clause: its class, its name's slot -/
structure Cl where
  c : Value
  i : Option Nat
  t : TS
def clEnds (D : Ends) : Option Nat → Ends
  | none => D
  | some i => { nx := fun σ' H' => D.nx (σ'.set i none) H', rt := D.rt, bk := fun σ' H' => D.bk (σ'.set i none) H', ct := fun σ' H' => D.ct (σ'.set i none) H' }
def clSt (σ : L2.St) (a : Addr) : Option Nat → L2.St
  | none => σ
  | some i => σ.set i (some (.ref a))
def wTry (K : PySem.W.Frag) (Wout : WX) (D : Ends) : List Cl → WX
  | [] => Wout
  | q :: r => fun cls d σ H => ∃ b, PySem.W.exmOne K cls q.c = some b ∧ (b = true → ∃ C, cls = .ref C ∧ ∀ a, H a = none → q.t (clEnds D q.i) (clSt σ a q.i) (upd H a (.ext (isExc a C d)))) ∧ (b = false → wTry K Wout D r cls d σ H)
inductive ClsOk (X : Cx) : List ExceptHandler → List Cl → Prop
  | nil : ClsOk X [] []
  | one {x : Str} {q : Cl} {b₀ : Stmt} {suite : List Stmt} {np pos' : Pos} {hds : List ExceptHandler} {l : List Cl} (hc : Names X x q.c) (hi : q.i = none)
      (hsu : ∀ (a : Addr) (pn : List (Addr × Obj)), PSs (X.suite a pn) (b₀ :: suite) q.t) (r : ClsOk X hds l) : ClsOk X (.ExceptHandler (some (.Name x np)) none (b₀ :: suite) pos' :: hds) (q :: l)
  | as {x n : Str} {i : Nat} {q : Cl} {b₀ : Stmt} {suite : List Stmt} {np pos' : Pos} {hds : List ExceptHandler} {l : List Cl} (hc : Names X x q.c) (hi : q.i = some i) (hn : X.N[i]? = some n) (hln : X.env.kindOf n = some .local)
      (hsu : ∀ (a : Addr) (pn : List (Addr × Obj)), PSs (X.suite a pn) (b₀ :: suite) q.t) (r : ClsOk X hds l) : ClsOk X (.ExceptHandler (some (.Name x np)) (some n) (b₀ :: suite) pos' :: hds) (q :: l)
section
variable {X : Cx} {body : List Stmt} {h₀ : ExceptHandler} {hds : List ExceptHandler} {l : List Cl} {pos : Pos} {tb : WX → TS} {Wout : WX}
theorem ps_try (hs : X.stack = X.env :: X.outer) (hf : X.env.frame = some X.env.locals) (hx : X.ex = []) (hN : X.N.Nodup) (tk : Takes X Wout)
    (hb : ∀ (W : WX) (pn : List (Addr × Obj)) (xe : Value → Shared → Prop), Takes (X.tr pn xe) W → PassesOwn (model X.prog X.w) X.A X.env xe → PSs (X.tr pn xe) body (tb W))
    (hh : ClsOk X (h₀ :: hds) l) : PS X (.Try body (h₀ :: hds) [] [] pos) (fun D σ H => tb (wTry X.K Wout D l) D σ H) := by
  refine ⟨fun pins s σ H D I h => ?_⟩
  have ok := I.ok
  have hfr : X.A.frames = some (X.env :: X.outer) := by rw [ok.frames, hs]
  refine wpAny_Try_except ?_
  refine wpAny_mono ((hb (wTry X.K Wout D l) (X.pn ++ pins) (fun e s₁ => wpAny (model X.prog X.w) X.A (noteFrame e X.env) (fun _ s₂ => wpAny (model X.prog X.w) X.A (setFlight e none) (fun _ s₃ =>
    wpAny (model X.prog X.w) X.A (handleBy e X.env (h₀ :: hds)) (SP X pins D) X.xe s₃) X.xe s₂) X.xe s₁) (fun u s' xx => ?_) PassesOwn.looking).run [] s σ H D (I.toTry _) h) (fun f s1 hsp => ?_) (fun e s1 he => he)
  · obtain ⟨a, B, sI, pins', σ', H', cls, d, rfl, J', nb, up, sky, na, os, ag, w⟩ := xx
    have J : L2.Inv X pins σ' H' sI := J'.ofTry ok
    have sky' : Sky B (X.env :: X.outer) a (Zc cls d) X.env.locals s'.heap := by rw [← hs]; exact sky
    show wpAny (model X.prog X.w) X.A (noteFrame (.ref a) X.env) _ _ _
    refine Sky.land Zc.steady hfr hf sky' fun h3 fl3 up3 => ?_
    have J3 : L2.Inv X pins σ' H' { s' with heap := h3 } := J.landed nb fl3.1 (up.trans up3) os ag
    obtain ⟨oe3, vs3, he3, hz3, hd3⟩ := fl3.there
    have notFr : ∀ {h : Heap} {o : Obj} {vs : Array Value}, h.FunFrames B (X.env :: X.outer) → h.get? a = some o → o.data = .fields vs → a ∉ frs (X.env :: X.outer) := fun {h o vs} ff e dd hm => by
      obtain ⟨_, o', e', hnf⟩ := ff.mem hm
      rw [e] at e'; cases e'
      exact hnf _ dd
    have nfr := notFr fl3.2.2.1 he3 hd3
    have nL : a ≠ X.env.locals := fun z => nfr (List.mem_filterMap.mpr ⟨X.env, List.mem_cons_self, by rw [hf, z]⟩)
    have nF : a ∉ X.fs := fun hm => by
      obtain ⟨e, he, q⟩ := List.mem_filterMap.mp hm
      exact nfr (List.mem_filterMap.mpr ⟨e, List.mem_cons_of_mem _ he, q⟩)
    have nI : sI.heap.get? a = none := by
      cases q : sI.heap.get? a with
      | none => rfl
      | some o =>
        have z := nb a o q (by rw [hs]; exact nfr)
        have z2 : B.get? a = none := fl3.2.1
        rw [z2] at z
        cases z
    have S3 := J3.suite he3 hd3 na nL nF
    have go : ∀ {hds' : List ExceptHandler} {l' : List Cl}, ClsOk X hds' l' → wTry X.K Wout D l' cls d σ' H' →
        wpAny (model X.prog X.w) X.A (handleBy (.ref a) X.env hds') (SP X pins D) X.xe { s' with heap := h3 } := by
      intro hds' l' hk
      have test0 : ∀ {x : Str} {c : Value} {np : Pos}, Names X x c → ∀ {Q : Value → Shared → Prop} {E : Value → Shared → Prop}, Q c { s' with heap := h3 } → wpAny (model X.prog X.w) (X.A.mark (some (.ref a))) (eval (.Name x np) X.env) Q E { s' with heap := h3 } := fun {x c np} hc {Q E} q => by
        obtain ⟨hg, hdbg, hm | ⟨hm, hv, hnn⟩⟩ := hc
        · exact ld_glob (X := X.suite a ((a, oe3) :: (X.pn ++ pins))) S3 hg hm q hdbg
        · exact ld_blt (X := X.suite a ((a, oe3) :: (X.pn ++ pins))) S3 hg hm hv q hnn hdbg
      have LT : PySem.W.Looks (model X.prog X.w) h3 (typeOf (.ref a)) cls := fun A Q E s k q => wpAny_typeOf_ref (k _ _ he3) (by rw [hz3.1]; exact q)
      induction hk with
      | nil =>
        intro w
        refine wpAny_handleBy_nil ?_
        obtain ⟨k1, k2, k3, oe, vs, T, oT, ts', he, hz, hd, h1, hr⟩ := id fl3
        unfold PySem.passOn
        refine wpAny_bind (wpAny_field he hd h1 ?_)
        rw [if_neg (show ¬ ((Value.ref T == Value.none) = true) from by simp)]
        have fin : wpAny (model X.prog X.w) X.A (setFlight (.ref a) X.env.frame) (fun _ s4 => wpAny (model X.prog X.w) X.A (throw (.ref a) : Sem Flow) (SP X pins D) X.xe s4) X.xe { s' with heap := h3 } := by
          rw [hf]
          refine HandSPX.setFlight_upZ fl3 fun h4 hh4 up4 => wpAny_throw (tk _ _ ?_)
          exact ⟨a, B, sI, pins, σ', H', cls, d, rfl, J, nb, (up.trans up3).trans up4, .inr (.inr (by rw [hs]; exact hh4)), na, os, ag, w⟩
        first
          | exact wpAny_bind (wpAny_pure (wpAny_bind fin))
          | exact wpAny_bind fin
      | @one x q b₀ suite np pos' hds2 l2 hc hi hsu r ih =>
        intro w
        obtain ⟨b, hb1, hyes, hno⟩ := w
        refine wpAny_handleBy_cons (codeAny_handlers_test ?_) (by intro q; cases q)
        have LM := PySem.W.exm_one (M := model X.prog X.w) (J3.kIn) LT hb1
        refine test0 hc (LM.here ?_)
        cases b with
        | true =>
          obtain ⟨C, rfl, hy⟩ := hyes rfl
          refine codeAny_handlers_suite ?_
          refine HandSPX.lands_againZ fl3 fun h4 fl4 up4 => ?_
          have J4 : L2.Inv X pins σ' H' { s' with heap := h4 } := J.landed nb fl4.1 ((up.trans up3).trans up4) os ag
          obtain ⟨oe4, vs4, he4, hz4, hd4⟩ := fl4.there
          have S4 := Mir.Inv.suit (o := .ext (isExc a C d)) J4 hx J nI he4 hd4 na nL (isExc_ok he4 hz4 hd4)
          have hy' := hy a na
          rw [hi] at hy'
          refine wpAny_mono ((hsu a (X.pn ++ pins)).run [] _ _ _ _ S4 hy') (fun f s6 hsp => ?_) (fun _ _ z => False.elim z)
          cases f with
          | next =>
            obtain ⟨σ6, H6, S6, q6⟩ := hsp
            exact ⟨_, _, Inv.unsuit S6 ok, q6⟩
          | brk =>
            obtain ⟨σ6, H6, S6, q6⟩ := hsp
            exact ⟨_, _, Inv.unsuit S6 ok, q6⟩
          | cont =>
            obtain ⟨σ6, H6, S6, q6⟩ := hsp
            exact ⟨_, _, Inv.unsuit S6 ok, q6⟩
          | ret u =>
            obtain ⟨v6, σ6, H6, S6, r6, q6⟩ := hsp
            exact ⟨_, _, _, Inv.unsuit S6 ok, r6, q6⟩
        | false =>
          show wpAny _ X.A (handleBy (.ref a) X.env hds2) _ _ _
          exact ih (hno rfl)
      | @as x n i q b₀ suite np pos' hds2 l2 hc hi hn hln hsu r ih =>
        intro w
        obtain ⟨b, hb1, hyes, hno⟩ := w
        refine wpAny_handleBy_cons (codeAny_handlers_test ?_) (by intro q; cases q)
        have LM := PySem.W.exm_one (M := model X.prog X.w) (J3.kIn) LT hb1
        refine test0 hc (LM.here ?_)
        cases b with
        | true =>
          obtain ⟨C, rfl, hy⟩ := hyes rfl
          refine codeAny_handlers_suite_as ?_
          refine HandSPX.lands_againZ fl3 fun h4 fl4 up4 => ?_
          have J4 : L2.Inv X pins σ' H' { s' with heap := h4 } := J.landed nb fl4.1 ((up.trans up3).trans up4) os ag
          obtain ⟨oe4, vs4, he4, hz4, hd4⟩ := fl4.there
          have S4 := Mir.Inv.suit (o := .ext (isExc a C d)) J4 hx J nI he4 hd4 na nL (isExc_ok he4 hz4 hd4)
          have hloc : Loc X.env.scope n := .inl hln
          have hy' := hy a na
          rw [hi] at hy'
          refine store_ok (X := X.suite a (X.pn ++ pins)) (v := .ref a) S4 hN hn hloc rfl (fun s5 S5 => ?_) (.inr hln)
          refine wpAny_mono ((hsu a (X.pn ++ pins)).run [] s5 _ _ _ S5 hy') (fun f s6 hsp => ?_) (fun _ _ z => False.elim z)
          have end_ : ∀ {σ6 : L2.St} {H6 : Hp} {Q : Shared → Prop}, L2.Inv (X.suite a (X.pn ++ pins)) [] σ6 H6 s6 → (∀ s7, L2.Inv X pins (σ6.set i none) H6 s7 → Q s7) →
              wpAny (model X.prog X.w) X.A (do bindName X.env n .none; unbindBehindTheSuite X.env n pos') (fun _ s7 => Q s7) X.xe s6 := fun {σ6 H6 Q} S6 hq => gone_ok (Inv.unsuit S6 ok) hN hn hln hq
          cases f with
          | next =>
            obtain ⟨σ6, H6, S6, q6⟩ := hsp
            exact end_ S6 fun s7 J7 => ⟨_, _, J7, q6⟩
          | brk =>
            obtain ⟨σ6, H6, S6, q6⟩ := hsp
            exact end_ S6 fun s7 J7 => ⟨_, _, J7, q6⟩
          | cont =>
            obtain ⟨σ6, H6, S6, q6⟩ := hsp
            exact end_ S6 fun s7 J7 => ⟨_, _, J7, q6⟩
          | ret u =>
            obtain ⟨v6, σ6, H6, S6, r6, q6⟩ := hsp
            exact end_ S6 fun s7 J7 => ⟨_, _, _, J7, r6, q6⟩
        | false =>
          show wpAny _ X.A (handleBy (.ref a) X.env hds2) _ _ _
          exact ih (hno rfl)
    exact go hh w
  · cases f with
    | next =>
      obtain ⟨σ', H', J', q⟩ := hsp
      exact wpAny_execs_nil ⟨σ', H', J'.ofTry ok, q⟩
    | brk =>
      obtain ⟨σ', H', J', q⟩ := hsp
      exact ⟨σ', H', J'.ofTry ok, q⟩
    | cont =>
      obtain ⟨σ', H', J', q⟩ := hsp
      exact ⟨σ', H', J'.ofTry ok, q⟩
    | ret u =>
      obtain ⟨v, σ', H', J', r, q⟩ := hsp
      exact ⟨v, σ', H', J'.ofTry ok, r, q⟩
end

theorem MS.unset {G : GC} {J : L2.St → Prop} {H0 F0 F H : Hp} {fp : Nat → List Addr} {σ : L2.St} {r : Env} (m : MS G J H0 F0 fp F σ H r) (i : Nat) (hJ : ∀ σ v, J σ → J (σ.set i v)) : MS G J H0 F0 fp F (σ.set i none) H (r.set i .un) where
  jo := hJ _ _ m.jo
  s0 := m.s0
  f0 := m.f0
  sub := m.sub
  new := m.new
  len := by simpa using m.len
  sh := fun j e h => by
    rcases get_set_slot h with ⟨_, x, _⟩ | ⟨ne, h⟩
    · cases x
    · rw [List.getElem?_set_ne ne]
      exact m.sh j e h
  ow := fun j s e h => by
    rcases get_set_slot h with ⟨_, x, _⟩ | ⟨ne, h⟩
    · cases x
    · rw [List.getElem?_set_ne ne]
      exact m.ow j s e h
  ap := fun j k s t d e n h1 h2 => by
    rcases get_set_slot h1 with ⟨_, x, _⟩ | ⟨_, h1⟩
    · cases x
    · rcases get_set_slot h2 with ⟨_, x, _⟩ | ⟨_, h2⟩
      · cases x
      · exact m.ap j k s t d e n h1 h2
/-- an except clause over data: the class, the name's slot, the suite -/
structure ClD where
  u : Nat
  i : Option Nat
  g : Env → Oc
def bindI (d : D) (r : Env) : Option Nat → Env
  | none => r
  | some i => r.set i (.sh d)
def clrI (i : Option Nat) (r : Env) : Env := match i with
  | none => r
  | some i => r.set i .un
def closeI (i : Option Nat) : Oc → Oc
  | .nx r => .nx (clrI i r)
  | .bk r => .bk (clrI i r)
  | .ct r => .ct (clrI i r)
  | .rt d => .rt d
  | _ => .bad
def catchD (cs us : List Nat) (e : D) (r : Env) : List ClD → Oc
  | [] => .er e r
  | q :: l => match e with
    | .exc c vs => if cs.contains c = true ∧ us.contains q.u = true then (if overC c q.u = true then closeI q.i (q.g (bindI (.exc c vs) r q.i)) else catchD cs us e r l) else .bad
    | _ => .bad
def tryD (cs us : List Nat) (gb : Env → Oc) (l : List ClD) (r : Env) : Oc := match gb r with
  | .er e r' => catchD cs us e r' l
  | o => o
/-- errors of cs may come where classes of us are named -/
structure CtM (K : PySem.W.Frag) (ca : Nat → Addr) (cs us : List Nat) : Prop where
  h : ∀ c ∈ cs, ∀ u ∈ us, PySem.W.exmOne K (.ref (ca c)) (.ref (ca u)) = some (overC c u)
abbrev WF (J : L2.St → Prop) : Wi := ⟨fun _ _ _ _ => False, J⟩
abbrev toCl (G : GC) (J : L2.St → Prop) (k : Kd) (q : ClD) : Cl := ⟨.ref (G.ca q.u), q.i, tS G (WF J) k q.g⟩
theorem catch_ok {G : GC} {W : Wi} {k : Kd} {cs us : List Nat} {H0 F0 F H : Hp} {fp : Nat → List Addr} {σ : L2.St} {r : Env} {DE : Ends} {e : D} {cls : Value} {dd : Option Addr} (M : CtM G.K G.ca cs us) (m : MS G W.J H0 F0 fp F σ H r) (ex : ExcIs G F cls dd e) :
    ∀ (l : List ClD), (∀ q ∈ l, ∀ i, q.i = some i → ∀ σ v, W.J σ → W.J (σ.set i v)) → OutS G W k H0 F0 F DE (catchD cs us e r l) → wTry G.K W.w DE (l.map (toCl G W.J k)) cls dd σ H
  | [], _, o => o fp F σ H cls dd (Same.refl _) m ex
  | q :: l, hJ, o => by
    obtain ⟨c, ws, vs, rfl, rfl, ra, hx⟩ := ex
    rw [catchD] at o
    split at o
    · rename_i hc
      obtain ⟨h1, h2⟩ := hc
      have hm := M.h c (by simpa using h1) q.u (by simpa using h2)
      refine ⟨overC c q.u, hm, fun hb => ?_, fun hb => ?_⟩
      · rw [if_pos hb] at o
        refine ⟨_, rfl, fun a na => ?_⟩
        have gr : Grow F H (upd F a (.ext (isExc a (G.ca c) dd))) (upd H a (.ext (isExc a (G.ca c) dd))) := Grow.mk1 m.sub na
        have m1 := m.grow gr
        have rv : Rep G (upd F a (.ext (isExc a (G.ca c) dd))) (.ref a) (.exc c vs) := by
          rcases hx with ⟨rfl, z, rfl⟩ | ⟨dx, rfl, e2, hl⟩
          · cases ra
            exact .exc upd_same z
          · exact .excF upd_same (gr.f _ _ e2) hl (ra.mono gr.f)
        have o' : OutS G W k H0 F0 (upd F a (.ext (isExc a (G.ca c) dd))) DE (closeI q.i (q.g (bindI (.exc c vs) r q.i))) := OutS.same o gr.f
        have m2 : MS G W.J H0 F0 fp (upd F a (.ext (isExc a (G.ca c) dd))) (clSt σ a q.i) (upd H a (.ext (isExc a (G.ca c) dd))) (bindI (.exc c vs) r q.i) := by
          cases hi : q.i with
          | none => exact m1
          | some i => exact m1.setS i rv (hJ q List.mem_cons_self i hi)
        refine ⟨H0, F0, fp, _, _, m2, ?_⟩
        have clr : ∀ {fp2 F2 σ2 H2 r2}, MS G W.J H0 F0 fp2 F2 σ2 H2 r2 → ∀ i, q.i = some i → MS G W.J H0 F0 fp2 F2 (σ2.set i none) H2 (r2.set i .un) := fun m3 i hi => m3.unset i (hJ q List.mem_cons_self i hi)
        cases hg : q.g (bindI (.exc c vs) r q.i) with
        | nx r2 =>
          rw [hg] at o'
          intro fp2 F2 σ2 H2 s2 m3
          show (clEnds DE q.i).nx σ2 H2
          cases hi : q.i with
          | none => rw [hi] at o'; exact o' fp2 F2 σ2 H2 s2 m3
          | some i => rw [hi] at o'; exact o' fp2 F2 _ H2 s2 (clr m3 i hi)
        | bk r2 =>
          rw [hg] at o'
          intro fp2 F2 σ2 H2 s2 m3
          show (clEnds DE q.i).bk σ2 H2
          cases hi : q.i with
          | none => rw [hi] at o'; exact o' fp2 F2 σ2 H2 s2 m3
          | some i => rw [hi] at o'; exact o' fp2 F2 _ H2 s2 (clr m3 i hi)
        | ct r2 =>
          rw [hg] at o'
          intro fp2 F2 σ2 H2 s2 m3
          show (clEnds DE q.i).ct σ2 H2
          cases hi : q.i with
          | none => rw [hi] at o'; exact o' fp2 F2 σ2 H2 s2 m3
          | some i => rw [hi] at o'; exact o' fp2 F2 _ H2 s2 (clr m3 i hi)
        | rt d =>
          rw [hg] at o'
          intro F2 H2 v s2 g2 kv
          show (clEnds DE q.i).rt v H2
          cases hi : q.i with
          | none => rw [hi] at o'; exact o' F2 H2 v s2 g2 kv
          | some i => rw [hi] at o'; exact o' F2 H2 v s2 g2 kv
        | er x r2 => rw [hg] at o'; exact o'.elim
        | bad => rw [hg] at o'; exact o'.elim
      · rw [if_neg (by rw [hb]; exact Bool.false_ne_true)] at o
        exact catch_ok M m ⟨c, ws, vs, rfl, rfl, ra, hx⟩ l (fun q hq => hJ q (List.mem_cons_of_mem _ hq)) o
    · exact o.elim
inductive ClsD (X : Cx) (J : L2.St → Prop) (k : Kd) : List ExceptHandler → List ClD → Prop
  | nil : ClsD X J k [] []
  | one {x : Str} {q : ClD} {b₀ : Stmt} {suite : List Stmt} {np pos' : Pos} {hds : List ExceptHandler} {l : List ClD} (hc : Names X x (.ref ((gOf X).ca q.u))) (hi : q.i = none)
      (hsu : ∀ (a : Addr) (pn : List (Addr × Obj)), RSs (X.suite a pn) (WF J) k (b₀ :: suite) q.g) (r : ClsD X J k hds l) : ClsD X J k (.ExceptHandler (some (.Name x np)) none (b₀ :: suite) pos' :: hds) (q :: l)
  | as {x n : Str} {i : Nat} {q : ClD} {b₀ : Stmt} {suite : List Stmt} {np pos' : Pos} {hds : List ExceptHandler} {l : List ClD} (hc : Names X x (.ref ((gOf X).ca q.u))) (hi : q.i = some i) (hn : X.N[i]? = some n) (hln : X.env.kindOf n = some .local) (hJ : ∀ σ v, J σ → J (σ.set i v))
      (hsu : ∀ (a : Addr) (pn : List (Addr × Obj)), RSs (X.suite a pn) (WF J) k (b₀ :: suite) q.g) (r : ClsD X J k hds l) : ClsD X J k (.ExceptHandler (some (.Name x np)) (some n) (b₀ :: suite) pos' :: hds) (q :: l)
theorem ClsD.ok {X : Cx} {J : L2.St → Prop} {k : Kd} : ∀ {hds : List ExceptHandler} {l : List ClD}, ClsD X J k hds l → ClsOk X hds (l.map (toCl (gOf X) J k))
  | _, _, .nil => .nil
  | _, _, .one hc hi hsu r => .one (q := toCl (gOf X) J k _) hc hi hsu (ClsD.ok r)
  | _, _, .as hc hi hn hln _ hsu r => .as (q := toCl (gOf X) J k _) hc hi hn hln hsu (ClsD.ok r)
theorem ClsD.hJ {X : Cx} {J : L2.St → Prop} {k : Kd} : ∀ {hds : List ExceptHandler} {l : List ClD}, ClsD X J k hds l → ∀ q ∈ l, ∀ i, q.i = some i → ∀ σ v, J σ → J (σ.set i v)
  | _, _, .nil, _, h => nomatch h
  | _, _, .one _ hi _ r, q, h => (List.mem_cons.mp h).elim (fun e i z => by subst e; rw [hi] at z; cases z) fun h => ClsD.hJ r q h
  | _, _, .as _ hi _ _ hj _ r, q, h => (List.mem_cons.mp h).elim (fun e i z => by subst e; rw [hi] at z; cases z; exact hj) fun h => ClsD.hJ r q h
theorem rs_try {X : Cx} {W : Wi} {k : Kd} {cs us : List Nat} {body : List Stmt} {h₀ : ExceptHandler} {hds : List ExceptHandler} {l : List ClD} {pos : Pos} {gb : Env → Oc} (M : CtM X.K (gOf X).ca cs us) (hN : X.N.Nodup) (tk : Takes X W.w)
    (hb : ∀ (W' : WX) (pn : List (Addr × Obj)) (xe : Value → Shared → Prop), Takes (X.tr pn xe) W' → PassesOwn (model X.prog X.w) X.A X.env xe → RSs (X.tr pn xe) ⟨W', W.J⟩ k body gb)
    (hh : ClsD X W.J k (h₀ :: hds) l) (hs : X.stack = X.env :: X.outer := by rfl) (hf : X.env.frame = some X.env.locals := by rfl) (hx : X.ex = [] := by rfl) : RS X W k (.Try body (h₀ :: hds) [] [] pos) (tryD cs us gb l) :=
  (ps_try (tb := fun W' => tS (gOf X) ⟨W', W.J⟩ k gb) hs hf hx hN tk hb hh.ok).imp fun D σ H ⟨H0, F0, fp, F, r, m, o⟩ => ⟨H0, F0, fp, F, r, m, by
    unfold tryD at o
    cases e : gb r with
    | er x r' =>
      rw [e] at o
      exact fun fp' F' σ' H' cls dd s m' ex => catch_ok (W := W) M m' ex l hh.hJ (OutS.same (show OutS (gOf X) W k H0 F0 F D (catchD cs us x r' l) from o) s)
    | nx r' => rw [e] at o; exact o
    | bk r' => rw [e] at o; exact o
    | ct r' => rw [e] at o; exact o
    | rt d => rw [e] at o; exact o
    | bad => rw [e] at o; exact o⟩
theorem names_own {X : Cx} {u : Nat} {C : Addr} {x : Str} (hm : X.mg (cname u) = some (.ref C)) (hx : x = cname u := by rfl) (hg : Gl X x := by rfl) (hd : (x == ("__debug__" : Str)) = false := by decide) : Names X x (.ref ((gOf X).ca u)) := by
  subst hx
  exact ⟨hg, hd, .inl (by rw [ca_of (G := gOf X) hm]; exact hm)⟩
end Mir

/-! enumerate. -/
namespace Mir
open PySem PySem.Spec PyProof.Rows L2

def enumL (ds : List D) : List D := ds.zipIdx.map fun p => .tup [.int (p.2 : Nat), p.1]
def enumD : List D → Res (List D)
  | [.lst ds] => .ok (enumL ds)
  | [.scr ns] => .ok (enumL (ns.map D.int))
  | _ => .bad
theorem enumL_get {ds : List D} {i : Nat} {d : D} (h : ds[i]? = some d) : (enumL ds)[i]? = some (.tup [.int (i : Nat), d]) := by
  unfold enumL
  rw [List.getElem?_map, List.getElem?_zipIdx, h]
  simp
theorem enumL_len (ds : List D) : (enumL ds).length = ds.length := by simp [enumL]
theorem WalkD.pairs {G : GC} {F B : Hp} {J : It} {n : Nat} {g : Hp → Prop} {xs ys : Nat → Option V} {ds es : List D} (w : Walk J n g (YPair xs ys)) (hn : n = ds.length) (he : es.length = ds.length) (hg : ∀ H, Same B H → g H)
    (hx : ∀ i x, i < n → xs i = some x → ∃ d, ds[i]? = some d ∧ Rep G F x d) (hy : ∀ i y, i < n → ys i = some y → ∃ d, es[i]? = some d ∧ Rep G F y d) : WalkD G F B J ((ds.zip es).map fun p => .tup [p.1, p.2]) :=
  .of_walk w (by simp [hn, he]) hg fun i F2 H2 v H3 hi s1 s2 _ ⟨T, x, y, e1, e2, e3, e4, e5⟩ => by
    subst e1 e3
    have hi' : i < n := by rw [hn]; simp only [List.length_map, List.length_zip] at hi; omega
    obtain ⟨d, h1, h2⟩ := hx i x hi' e4
    obtain ⟨e, h3, h4⟩ := hy i y hi' e5
    refine ⟨_, .tup [d, e], Grow.mk1 s2 e2, ?_, Rep.tup (.of upd_same) (.cons ((h2.mono s1).mono (Grow.mk1 s2 e2).f) (.cons ((h4.mono s1).mono (Grow.mk1 s2 e2).f) .nil))⟩
    have hz : (ds.zip es)[i]? = some (d, e) := List.getElem?_zip_eq_some.mpr ⟨h1, h3⟩
    rw [List.getElem?_map, hz]
    rfl
theorem enumL_zip (ds : List D) : enumL ds = (((List.range ds.length).map fun i => D.int (i : Nat)).zip ds).map fun p => .tup [p.1, p.2] := by
  apply List.ext_getElem?
  intro i
  cases h : ds[i]? with
  | none =>
    have hl : ds.length ≤ i := List.getElem?_eq_none_iff.mp h
    rw [List.getElem?_eq_none (by rw [enumL_len]; exact hl), List.getElem?_eq_none (by simp; exact hl)]
  | some d =>
    have hl : i < ds.length := (List.getElem?_eq_some_iff.mp h).1
    rw [enumL_get h]
    have hz : (((List.range ds.length).map fun i => D.int (i : Nat)).zip ds)[i]? = some (.int (i : Nat), d) := List.getElem?_zip_eq_some.mpr ⟨by rw [List.getElem?_map, List.getElem?_range hl]; rfl, h⟩
    rw [List.getElem?_map, hz]
    rfl
theorem WalkD.enum {G : GC} {F B : Hp} {a : Addr} {vs : List V} {ds : List D} (h : SqL G.K B a vs) (r : RepAll G F vs ds) : WalkD G F B (Ite G.K a) (enumL ds) := by
  rw [enumL_zip]
  refine WalkD.pairs walk_enum (by simp [r.length]) (by simp) (fun H s => s.seq h) (fun i x hi e => ?_) fun i y _ e => r.getV e
  cases e
  rw [r.length] at hi
  exact ⟨.int (i : Nat), by rw [List.getElem?_map, List.getElem?_range hi]; rfl, .int _⟩
section
variable {X : Cx} {W : Wi} {e : Expr} {p pos tpos : Pos} {elts : List Expr} {kk : Nat}
theorem enumD_inv (ds : List D) : (∃ xs, ds = [.lst xs] ∧ enumD ds = .ok (enumL xs)) ∨ (∃ ns, ds = [.scr ns] ∧ enumD ds = .ok (enumL (ns.map D.int))) ∨ enumD ds = .bad := by
  unfold enumD
  split
  · exact .inl ⟨_, rfl, rfl⟩
  · exact .inr (.inl ⟨_, rfl, rfl⟩)
  · exact .inr (.inr rfl)
theorem ints_rep {G : GC} {F : Hp} : ∀ ns : List Int, RepAll G F (ns.map V.int) (ns.map D.int)
  | [] => .nil
  | n :: ns => .cons (.int n) (ints_rep ns)
/-- enumerate(list): b false: one's own list, too -/
theorem ri_enumR {fa : Env → Res (List D)} (hm : X.mg "enumerate" = none) (ha : RAR X W [e] fa) (hg : Gl X "enumerate" := by rfl) (hs : starEach [e] X.env = [(false, eval e X.env)] := by rfl) :
    RI X W false (.Tuple elts kk tpos) (.Call (.Name "enumerate" p) [e] [] pos) (fun r => fa r >>= enumD) := by
  refine ⟨fun pins s σ H R I ⟨H0, F0, fp, F, r, m, o⟩ => (pi_enum hg hm ha hs).run pins s σ H R I ⟨H0, F0, fp, F, r, m, o.bind fun F' H' ds gr o2 vs rv => ?_⟩⟩
  rcases enumD_inv ds with ⟨xs, rfl, e⟩ | ⟨ns, rfl, e⟩ | e
  · rw [e] at o2
    cases rv with
    | cons r1 rr =>
      cases rr
      obtain ⟨a, us, rfl, h1, ra⟩ := r1.lst gr.sub
      exact ⟨a, us, rfl, .of h1, o2 F' H' (Grow.refl gr.sub) _ (WalkD.enum (.of h1) ra)⟩
  · rw [e] at o2
    cases rv with
    | cons r1 rr =>
      cases rr
      obtain ⟨a, rfl, h1⟩ := r1.scr gr.sub
      exact ⟨a, _, rfl, h1, o2 F' H' (Grow.refl gr.sub) _ (WalkD.enum h1 (ints_rep ns))⟩
  · rw [e] at o2; exact o2.elim
theorem ri_enum {fa : Env → Res (List D)} (hm : X.mg "enumerate" = none) (ha : RA X W [e] fa) (hg : Gl X "enumerate" := by rfl) (hs : starEach [e] X.env = [(false, eval e X.env)] := by rfl) :
    RI X W true (.Tuple elts kk tpos) (.Call (.Name "enumerate" p) [e] [] pos) (fun r => fa r >>= enumD) := by
  refine ⟨fun pins s σ H R I ⟨H0, F0, fp, F, r, m, o⟩ => (pi_enum hg hm ha hs).run pins s σ H R I ⟨H0, F0, fp, F, r, m, o.bind fun F' H' ds gr o2 vs rv => ?_⟩⟩
  rcases enumD_inv ds with ⟨xs, rfl, e⟩ | ⟨ns, rfl, e⟩ | e
  · rw [e] at o2
    cases rv with
    | cons r1 rr =>
      cases rr
      cases r1 with
      | lst h1 ra => exact ⟨_, _, rfl, .of (gr.sub _ _ h1), o2 F' H' (Grow.refl gr.sub) _ (WalkD.enum (.of h1) ra)⟩
  · rw [e] at o2
    cases rv with
    | cons r1 rr =>
      cases rr
      cases r1 with
      | scr h1 => exact ⟨_, _, rfl, gr.sub.seq h1, o2 F' H' (Grow.refl gr.sub) _ (WalkD.enum h1 (ints_rep ns))⟩
  · rw [e] at o2; exact o2.elim
end
end Mir

/-! Named parts for printed texts; facts of the written part. -/
namespace Mir
open PySem PySem.Spec PyProof.Rows L2

/-! ### targets by name -/
def nameG (i : Nat) (d : D) (r : Env) : Res Env := .ok (r.set i (.sh d))
def nilG : List D → Env → Res Env := fun ds r => match ds with
  | [] => .ok r
  | _ => .bad
def consG (g : D → Env → Res Env) (gs : List D → Env → Res Env) : List D → Env → Res Env := fun ds r => match ds with
  | d :: ds => g d r >>= fun r' => gs ds r'
  | [] => .bad
def tupG (n : Nat) (gs : List D → Env → Res Env) : D → Env → Res Env := fun d r => match d with
  | .tup ds => if ds.length = n then gs ds r else .bad
  | _ => .bad
@[simp] theorem nameG_eq (i : Nat) (d : D) (r : Env) : nameG i d r = .ok (r.set i (.sh d)) := rfl
@[simp] theorem nilG_nil (r : Env) : nilG [] r = .ok r := rfl
@[simp] theorem consG_cons (g : D → Env → Res Env) (gs : List D → Env → Res Env) (d : D) (ds : List D) (r : Env) : consG g gs (d :: ds) r = (g d r >>= fun r' => gs ds r') := rfl
@[simp] theorem tupG_tup (n : Nat) (gs : List D → Env → Res Env) (ds : List D) (r : Env) : tupG n gs (.tup ds) r = if ds.length = n then gs ds r else .bad := rfl
section
variable {X : Cx} {J : L2.St → Prop}
theorem gN (i : Nat) {x : Str} {pos : Pos} (hN : X.N.Nodup) (hJ : ∀ σ v, J σ → J (σ.set i v) := by first | exact fun _ _ h => h | exact jset (by decide) | exact jb (by decide)) (hi : X.N[i]? = some x := by rfl) (hx : Loc X.env.scope x := by first | exact Or.inl rfl | exact Or.inr rfl) (hf : X.fn x = true ∨ X.env.scope.names.lookup x = some .local := by first | exact .inl rfl | exact .inr rfl) :
    RG X J (.Name x pos) (nameG i) := rg_name i hN hJ hi hx hf
theorem gs0 : RGs X J [] nilG := rgs_nil
theorem gsc {e : Expr} {es : List Expr} {g : D → Env → Res Env} {gs : List D → Env → Res Env} (h1 : RG X J e g) (h2 : RGs X J es gs) (hs : (assignEach (e :: es) X.env).map (·.2) = assign e X.env :: (assignEach es X.env).map (·.2) := by rfl) : RGs X J (e :: es) (consG g gs) := rgs_cons h1 h2 hs
theorem gT {es : List Expr} {kk : Nat} {pos : Pos} {gs : List D → Env → Res Env} (n : Nat) (hc : X.calm = true) (h : RGs X J es gs) (hn : (assignEach es X.env).length = n := by rfl) (hst : (assignEach es X.env).findIdx? (·.1) = none := by rfl) :
    RG X J (.Tuple es kk pos) (tupG n gs) := rg_tup hc h hn hst
end

/-! ### attributes -/
/-- the attribute f's place in the classes cs -/
def plOf (cs : List Nat) (f : Str) (c : Nat) : Option Nat := if cs.contains c = true then (cflds c).idxOf? f else none
theorem plOf_some {cs : List Nat} {f : Str} {c i : Nat} (h : plOf cs f c = some i) : c ∈ cs ∧ (cflds c)[i]? = some f := by
  unfold plOf at h
  split at h
  · rename_i hc
    refine ⟨by simpa using hc, ?_⟩
    rw [List.idxOf?_eq_some_iff] at h
    obtain ⟨h1, h2, _⟩ := h
    rw [List.getElem?_eq_getElem h1]
    exact congrArg some h2
  · cases h
theorem cflds_nd (c : Nat) : (cflds c).Nodup := by
  unfold cflds
  split <;> decide +kernel
theorem fldM_of {K : PySem.W.Frag} {ca : Nat → Addr} {f : Str} {cs : List Nat} (h : ∀ c ∈ cs, Cls K (ca c) ∧ NoAttr K (ca c) f) : FldM K ca f (plOf cs f) :=
  ⟨fun c i e => let ⟨h1, h2⟩ := plOf_some e; ⟨h2, cflds_nd c, (h c h1).1, (h c h1).2⟩⟩
theorem fldX_of {K : PySem.W.Frag} {ca : Nat → Addr} {f : Str} {cs : List Nat} (h : ∀ c ∈ cs, XfC K (ca c) ∧ PySem.W.findIn K (.ref (ca c)) f = some none) : FldX K ca f (plOf cs f) :=
  ⟨fun c i e => let ⟨h1, h2⟩ := plOf_some e; ⟨h2, cflds_nd c, (h c h1).1, (h c h1).2⟩⟩

/-! ### facts of the written part, by one look -/
def objB (K : PySem.W.Frag) (C : Addr) : Bool := PySem.W.plainGet K C Str.empty && (PySem.W.hasDictIn K C && (PySem.W.plainOver K C && (decide (PySem.W.findIn K (.ref C) "__setattr__" = some (some (.builtin "object.__setattr__"))) && (decide (PySem.W.findIn K (.ref C) "__class__" = some (some (.builtin "object.__class__"))) &&
  (decide (PySem.W.specialIn K (.builtin "object.__class__") "__get__" = some (some (.builtin "getset_descriptor.__get__"))) && (decide (PySem.W.takesIn K (.builtin "object.__class__") = some true) && decide (PySem.W.mroIn K C (.type "object") = some true)))))))
theorem objB_ok {K : PySem.W.Frag} {C : Addr} (h : objB K C = true) : ObjC K C := by
  unfold objB at h
  simp only [Bool.and_eq_true, decide_eq_true_eq] at h
  obtain ⟨h1, h2, h3, h4, h5, h6, h7, h8⟩ := h
  exact ⟨⟨h1, h2, h3, h4⟩, h5, h6, h7, h8⟩
def excB (K : PySem.W.Frag) (C : Addr) : Bool := (PySem.W.clsIn K C).isSome && (decide (PySem.W.findIn K (.ref C) "__getattribute__" = some (some (.builtin "BaseException.__getattribute__"))) && (decide (PySem.W.findIn K (.ref C) "__getattr__" = some none) && (decide (PySem.W.subIn K (.ref C) (.type "BaseException") = some true) && (decide (PySem.W.findIn K (.ref C) "__class__" = some (some (.builtin "object.__class__"))) &&
  (decide (PySem.W.specialIn K (.builtin "object.__class__") "__get__" = some (some (.builtin "getset_descriptor.__get__"))) && (decide (PySem.W.takesIn K (.builtin "object.__class__") = some true) && decide (PySem.W.mroIn K C (.type "object") = some true)))))))
theorem excB_ok {K : PySem.W.Frag} {C : Addr} (h : excB K C = true) : ExcC K C := by
  unfold excB at h
  simp only [Bool.and_eq_true, decide_eq_true_eq] at h
  obtain ⟨h1, h2, h3, h4, h5, h6, h7, h8⟩ := h
  exact ⟨h1, h2, h3, h4, h5, h6, h7, h8⟩
def isTab1 (K : PySem.W.Frag) (us : List (Nat × Addr)) (p : Nat × Addr) : Bool := (us.all fun q => decide (PySem.W.kitOne K (.ref p.2) (.ref q.2) = some (overC p.1 q.1))) && ((bT.all fun u => decide (PySem.W.kitOne K (.ref p.2) (.type u) = some (isaT (.c p.1) (.t u)))) && (if p.1 < 10 then objB K p.2 else excB K p.2))
def isTab2 (K : PySem.W.Frag) (q : Nat × Addr) : Bool := bS.all fun b => decide (PySem.W.kitOne K (.type b) (.ref q.2) = some false)
def isTab (K : PySem.W.Frag) (l us : List (Nat × Addr)) : Bool := l.all (isTab1 K us) && us.all (isTab2 K)
theorem isM_of {K : PySem.W.Frag} {ca : Nat → Addr} {l us : List (Nat × Addr)} (hl : ∀ p ∈ l, ca p.1 = p.2) (hu : ∀ p ∈ us, ca p.1 = p.2) (h : isTab K l us = true) : IsM K ca (l.map (·.1)) (us.map (·.1)) := by
  unfold isTab at h
  simp only [Bool.and_eq_true, List.all_eq_true] at h
  obtain ⟨h1, h2⟩ := h
  have one : ∀ p ∈ l, (∀ q ∈ us, PySem.W.kitOne K (.ref p.2) (.ref q.2) = some (overC p.1 q.1)) ∧ (∀ u ∈ bT, PySem.W.kitOne K (.ref p.2) (.type u) = some (isaT (.c p.1) (.t u))) ∧ (if p.1 < 10 then objB K p.2 else excB K p.2) = true := fun p hp => by
    have z := h1 p hp
    unfold isTab1 at z
    simp only [Bool.and_eq_true, List.all_eq_true, decide_eq_true_eq] at z
    exact z
  have two : ∀ q ∈ us, ∀ b ∈ bS, PySem.W.kitOne K (.type b) (.ref q.2) = some false := fun q hq b hb => by
    have z := h2 q hq
    unfold isTab2 at z
    simp only [List.all_eq_true, decide_eq_true_eq] at z
    exact z b hb
  refine ⟨fun c hc u hu' => ?_, fun c hc u hu' => ?_, fun b hb u hu' => ?_, fun c hc h10 => ?_, fun c hc h10 => ?_⟩
  · obtain ⟨p, hp, rfl⟩ := List.mem_map.mp hc
    obtain ⟨q, hq, rfl⟩ := List.mem_map.mp hu'
    rw [hl p hp, hu q hq]
    exact (one p hp).1 q hq
  · obtain ⟨p, hp, rfl⟩ := List.mem_map.mp hc
    rw [hl p hp]
    exact (one p hp).2.1 u hu'
  · obtain ⟨q, hq, rfl⟩ := List.mem_map.mp hu'
    rw [hu q hq]
    exact two q hq b hb
  · obtain ⟨p, hp, rfl⟩ := List.mem_map.mp hc
    rw [hl p hp]
    have z := (one p hp).2.2
    rw [if_pos h10] at z
    exact objB_ok z
  · obtain ⟨p, hp, rfl⟩ := List.mem_map.mp hc
    rw [hl p hp]
    have z := (one p hp).2.2
    rw [if_neg (by omega)] at z
    exact excB_ok z
def ctB (K : PySem.W.Frag) (l us : List (Nat × Addr)) : Bool := l.all fun p => us.all fun q => decide (PySem.W.exmOne K (.ref p.2) (.ref q.2) = some (overC p.1 q.1))
theorem ctM_of {K : PySem.W.Frag} {ca : Nat → Addr} {l us : List (Nat × Addr)} (hl : ∀ p ∈ l, ca p.1 = p.2) (hu : ∀ p ∈ us, ca p.1 = p.2) (h : ctB K l us = true) : CtM K ca (l.map (·.1)) (us.map (·.1)) := by
  unfold ctB at h
  simp only [List.all_eq_true, decide_eq_true_eq] at h
  refine ⟨fun c hc u hu' => ?_⟩
  obtain ⟨p, hp, rfl⟩ := List.mem_map.mp hc
  obtain ⟨q, hq, rfl⟩ := List.mem_map.mp hu'
  rw [hl p hp, hu q hq]
  exact h p hp q hq
/-- an attribute of objects -/
def flB (K : PySem.W.Frag) (f : Str) (l : List (Nat × Addr)) : Bool := l.all fun p => objB K p.2 && decide (PySem.W.findIn K (.ref p.2) f = some none)
theorem fldM_by {K : PySem.W.Frag} {ca : Nat → Addr} {f : Str} {l : List (Nat × Addr)} (hl : ∀ p ∈ l, ca p.1 = p.2) (h : flB K f l = true) : FldM K ca f (plOf (l.map (·.1)) f) := fldM_of fun c hc => by
  obtain ⟨p, hp, rfl⟩ := List.mem_map.mp hc
  rw [hl p hp]
  unfold flB at h
  simp only [List.all_eq_true, Bool.and_eq_true, decide_eq_true_eq] at h
  exact ⟨(objB_ok (h p hp).1).cl, (h p hp).2⟩
theorem clM_by {K : PySem.W.Frag} {ca : Nat → Addr} {f : Str} {l : List (Nat × Addr)} {c : Nat} (hl : ∀ p ∈ l, ca p.1 = p.2) (h : flB K f l = true) (hc : c ∈ l.map (·.1)) : ClM K ca f c := by
  obtain ⟨p, hp, rfl⟩ := List.mem_map.mp hc
  unfold flB at h
  simp only [List.all_eq_true, Bool.and_eq_true, decide_eq_true_eq] at h
  have z := h p hp
  refine ⟨?_, ?_, cflds_nd _⟩
  · rw [hl p hp]; exact (objB_ok z.1).cl
  · rw [hl p hp]; exact z.2
def xlB (K : PySem.W.Frag) (f : Str) (l : List (Nat × Addr)) : Bool := l.all fun p => xfB K p.2 && decide (PySem.W.findIn K (.ref p.2) f = some none)
theorem fldX_by {K : PySem.W.Frag} {ca : Nat → Addr} {f : Str} {l : List (Nat × Addr)} (hl : ∀ p ∈ l, ca p.1 = p.2) (h : xlB K f l = true) : FldX K ca f (plOf (l.map (·.1)) f) := fldX_of fun c hc => by
  obtain ⟨p, hp, rfl⟩ := List.mem_map.mp hc
  rw [hl p hp]
  unfold xlB at h
  simp only [List.all_eq_true, Bool.and_eq_true, decide_eq_true_eq] at h
  exact ⟨xfB_ok (h p hp).1, (h p hp).2⟩
/-- an error class without an __init__ of its own -/
def e0B (K : PySem.W.Frag) (C : Addr) : Bool := PySem.W.excIn K C veT "ValueError.__new__" && (PySem.W.keepIn K (.ref C) && (decide (PySem.W.subIn K (.ref C) (.type "BaseException") = some true) && decide (PySem.W.typeIn K (.ref C) = some (.type "type"))))
theorem exM0_by {K : PySem.W.Frag} {mg : Str → Option Value} {C : Addr} {c : Nat} (hm : mg (cname c) = some (.ref C)) (h : e0B K C = true) (no : cflds c = [] := by rfl) : ExM0 K mg C c := by
  unfold e0B at h
  simp only [Bool.and_eq_true, decide_eq_true_eq] at h
  obtain ⟨h1, h2, h3, h4⟩ := h
  exact ⟨hm, h1, h2, h3, h4, no⟩
/-- .. with one -/
def oexB (K : PySem.W.Frag) (C : Addr) : Bool := decide (PySem.W.findIn K (.ref C) "__setattr__" = some (some (.builtin "object.__setattr__"))) && (decide (PySem.W.subIn K (.ref C) (.type "BaseException") = some true) && (decide (PySem.W.typeIn K (.ref C) = some (.type "type")) && PySem.W.keepIn K (.ref C)))
theorem oexC_by {K : PySem.W.Frag} {C : Addr} {nm q : Str} {N : Addr} {bs bm : List Value} {sn : List Str} {sub : List Value} {ab : Bool} {col : Option Bool} {dd : Option Addr} {k0 k1 k2 k3 k5 : Option Value}
    (hC : K.lookup C = some (excClassObj nm q C N bs bm true sn sub ab col dd k0 k1 k2 k3 k5 "ValueError.__new__")) (hb : PySem.HandSPX.refsVE bm = true) (h : oexB K C = true) : OexC K C := by
  unfold oexB at h
  simp only [Bool.and_eq_true, decide_eq_true_eq] at h
  obtain ⟨h1, h2, h3, h4⟩ := h
  exact ⟨⟨nm, q, N, bs, bm, sn, sub, ab, col, dd, k0, k1, k2, k3, k5, hC, hb⟩, h1, h2, h3, h4⟩
theorem cg_by {P : Program} {w : World} {K : PySem.W.Frag} {mg : Str → Option Value} {c : Nat} {C : Addr} (h : mg (cname c) = some (.ref C)) : mg (cname c) = some (.ref ((⟨P, w, K, mg⟩ : GC).ca c)) := by
  rw [ca_of (G := ⟨P, w, K, mg⟩) h]
  exact h

/-! ### the law's end -/
theorem walk_mir {l : PySem.W.OpenLaw} {k : Nat} {q : Program} {loose : List Str} {XP : (Str → Option Value) → Heap → Prop} {YP : World → Heap → Prop} {d : DefRec} {K : Params → PySem.W.Frag} {x : Str} {g : List D → Res D}
    (hn : l.most = some 63) (hdf : d.params.defaults = []) (hr : Room k callerA) (hY : ∀ (w : World) (h : Heap), YP w h → (K w.params).In h) (hg : ∀ ns : List Int, ns.length ≤ 63 → g [.scr ns] = .ok (.bl true))
    (F : ∀ (w : World) (mg : Str → Option Value) (fa : Addr) (h : Heap), (K w.params).In h → h.Ns mainGlobals mg → mg d.name = some (.ref fa) →
      ∃ fd : FuncData, (∀ (s : Shared) (u : Value), BindsTo s fd ⟨[u], []⟩ [(x, u)]) ∧ ∀ base : Heap, (K w.params).In base → base.Ns mainGlobals mg → FnOk l.prog w (K w.params) mg base (L2.CX l.prog w) k fa fd [x] (spM ⟨l.prog, w, K w.params, mg⟩ .S g)) :
    PySem.W.WalkO q loose XP YP l.row.toRowW d [] (fun f vs => PySem.call f vs) := by
  refine Att.attach_call hn hdf fun w s₀ s₁ mg mb fa o pm cd doc a vs ns G Y ho hd hcd hmg hobj hints hlen hg' => ?_
  have KX := hY w _ Y
  obtain ⟨fd, hb, hF⟩ := F w mg fa _ KX G.T.g hmg
  refine law_call KX G.T.g G.T.b G.T.builtins G.T.nolimit hg' hobj hints (Nat.le_trans hlen (by rw [sizeLine_eq]; decide)) hr hF hb (fun H hO hS => ?_) fun H e s' c => ?_
  · refine ⟨H, [.scr ns], Same.refl _, .cons (.scr hS) .nil, ?_⟩
    rw [hg ns hlen]
    intro F' H' _ v kv
    cases (show Rep _ F' v (.bl true) from kv)
    rfl
  · obtain ⟨a, B, H', cls, d, rfl, fl, hok, ub, na, os, ag, hE⟩ := c
    exact hE
end Mir

/-! What the printed texts name. -/
namespace Mir
open PySem PySem.Spec PyProof.Rows L2

@[simp] def tupD (ds : List D) : Res D := if ds.length ≤ lim then .ok (.tup ds) else .bad
def excD (c : Nat) (ds : List D) : Res D := if ds.length = (cflds c).length ∧ ds.length ≤ 1000 then .ok (.exc c ds.reverse) else .bad
def raiseD (c : Nat) (ds : List D) (r : Env) : Oc := if ds.length = (cflds c).length ∧ ds.length ≤ 1000 then .er (.exc c ds.reverse) r else .bad
theorem boot_ty_int : bootBuiltins "int" = some (.type "int") := by decide +kernel
theorem boot_ty_bool : bootBuiltins "bool" = some (.type "bool") := by decide +kernel
theorem boot_ty_str : bootBuiltins "str" = some (.type "str") := by decide +kernel
theorem boot_ty_tuple : bootBuiltins "tuple" = some (.type "tuple") := by decide +kernel
theorem boot_ty_list : bootBuiltins "list" = some (.type "list") := by decide +kernel
theorem boot_ty_dict : bootBuiltins "dict" = some (.type "dict") := by decide +kernel
theorem boot_ty_ValueError : bootBuiltins "ValueError" = some (.type "ValueError") := by decide +kernel
/-- a name's own value is shared behind a statement -/
def shareAt (i : Nat) : Oc → Oc
  | .nx r => .nx (freeze i r)
  | o => o
theorem rs_shareLc {X : Cx} {W : Wi} {k : Kd} (i : Nat) {s : Stmt} {g : Env → Oc} (h : RS X W k s g) : RS X W k s (fun r => shareAt i (g r)) :=
  h.imp fun D σ H ⟨H0, F0, fp, F, r, m, o⟩ => ⟨H0, F0, fp, F, r, m, by
    have o : OutS (gOf X) W k H0 F0 F D (shareAt i (g r)) := o
    show OutS (gOf X) W k H0 F0 F D (g r)
    cases e : g r with
    | nx r' =>
      rw [e] at o
      intro fp' F' σ' H' s' m'
      obtain ⟨F2, s2, m2⟩ := m'.freeze i
      exact o fp' F2 σ' H' (s'.trans s2) m2
    | rt d => rw [e] at o; exact o
    | bk r' => rw [e] at o; exact o
    | ct r' => rw [e] at o; exact o
    | er x r' => rw [e] at o; exact o
    | bad => rw [e] at o; exact o⟩
theorem re_gI {X : Cx} {W : Wi} {x : Str} {pos : Pos} {i : Int} (hm : ∃ t, X.mg x = some (.int i t)) (hg : Gl X x := by rfl) (hd : (x == ("__debug__" : Str)) = false := by decide) : RE X W .S (.Name x pos) (fun _ => .ok (.int i)) :=
  let ⟨_, h⟩ := hm
  re_gInt h hg hd
theorem re_gS {X : Cx} {W : Wi} {x : Str} {pos : Pos} {i : Str} (hm : ∃ t, X.mg x = some (.str i t)) (hg : Gl X x := by rfl) (hd : (x == ("__debug__" : Str)) = false := by decide) : RE X W .S (.Name x pos) (fun _ => .ok (.str i)) :=
  let ⟨_, h⟩ := hm
  re_gStr h hg hd
/-- how many turns of a while are looked after -/
@[irreducible] def turns : Nat := 1000000
theorem turns_eq : turns = 1000000 := by unfold turns; rfl
/-- a while of at most so many turns -/
def loopD (c : Env → Res Bool) (b : Env → Oc) (r : Env) : Oc := whileD c b turns r
theorem rs_loop {X : Cx} {W : Wi} {k : Kd} {c : Expr} {body : List Stmt} {pos : Pos} {f : Env → Res Bool} {gb : Env → Oc} (hp : PassesOwn (model X.prog X.w) X.A X.env X.xe) (hc : RT X W c f) (hb : RSs X W k body gb) : RS X W k (.While c body [] pos) (loopD f gb) := rs_while hp hc hb fun _ => turns
end Mir

/-! Laws of the operators, for the plain part. -/
namespace Mir
open PySem PySem.Spec PyProof.Rows L2

/-! ### equality of data -/
def okQ : Nat → D → Bool
  | _, .non => true
  | _, .bl _ => true
  | _, .int _ => true
  | _, .str s => PyData.strOk s
  | n + 1, .tup xs => xs.all (okQ n)
  | n + 1, .lst xs => xs.all (okQ n)
  | _, _ => false
mutual
def eqQ : D → D → Bool
  | .non, .non => true
  | .bl a, .bl b => a == b
  | .bl a, .int j => (if a = true then 1 else 0) == j
  | .int i, .bl b => i == (if b = true then 1 else 0)
  | .int i, .int j => i == j
  | .str x, .str y => x == y
  | .lst xs, .lst ys => eqQs xs ys
  | .tup xs, .tup ys => eqQs xs ys
  | _, _ => false
def eqQs : List D → List D → Bool
  | [], [] => true
  | x :: xs, y :: ys => eqQ x y && eqQs xs ys
  | _, _ => false
end
theorem toPy_ok : ∀ (n : Nat) (d : D), okQ n d = true → ∃ p, toPy d = some p ∧ p.canLay0 = true ∧ p.depth ≤ n := by
  have all : ∀ (n : Nat), (∀ d, okQ n d = true → ∃ p, toPy d = some p ∧ p.canLay0 = true ∧ p.depth ≤ n) → ∀ xs : List D, xs.all (okQ n) = true → ∃ ps, toPy.toPys xs = some ps ∧ PyData.canLayAll0 ps = true ∧ PyData.depthAll ps ≤ n := fun n h xs => by
    induction xs with
    | nil => exact fun _ => ⟨[], by rw [toPy.toPys], by rw [PyData.canLayAll0], by rw [PyData.depthAll]; omega⟩
    | cons x xs ih =>
      intro hx
      rw [List.all_cons, Bool.and_eq_true] at hx
      obtain ⟨p, h1, h2, h3⟩ := h x hx.1
      obtain ⟨ps, h4, h5, h6⟩ := ih hx.2
      exact ⟨p :: ps, by rw [toPy.toPys, h1, h4], by rw [PyData.canLayAll0, h2, h5]; rfl, by rw [PyData.depthAll]; omega⟩
  intro n
  induction n with
  | zero =>
    intro d h
    cases d with
    | non => exact ⟨.none, by rw [toPy], by rw [PyData.canLay0], by rw [PyData.depth]; omega⟩
    | bl b => exact ⟨.bool b, by rw [toPy], by rw [PyData.canLay0], by rw [PyData.depth]; omega⟩
    | int i => exact ⟨.int i, by rw [toPy], by rw [PyData.canLay0], by rw [PyData.depth]; omega⟩
    | str s => exact ⟨.str s, by rw [toPy], by rw [PyData.canLay0]; simpa [okQ] using h, by rw [PyData.depth]; omega⟩
    | _ => simp [okQ] at h
  | succ n ih =>
    intro d h
    cases d with
    | non => exact ⟨.none, by rw [toPy], by rw [PyData.canLay0], by rw [PyData.depth]; omega⟩
    | bl b => exact ⟨.bool b, by rw [toPy], by rw [PyData.canLay0], by rw [PyData.depth]; omega⟩
    | int i => exact ⟨.int i, by rw [toPy], by rw [PyData.canLay0], by rw [PyData.depth]; omega⟩
    | str s => exact ⟨.str s, by rw [toPy], by rw [PyData.canLay0]; simpa [okQ] using h, by rw [PyData.depth]; omega⟩
    | tup xs =>
      obtain ⟨ps, h1, h2, h3⟩ := all n ih xs (by simpa [okQ] using h)
      exact ⟨.tuple ps, by rw [toPy, h1]; rfl, by rw [PyData.canLay0, h2], by rw [PyData.depth]; omega⟩
    | lst xs =>
      obtain ⟨ps, h1, h2, h3⟩ := all n ih xs (by simpa [okQ] using h)
      exact ⟨.list ps, by rw [toPy, h1]; rfl, by rw [PyData.canLay0, h2], by rw [PyData.depth]; omega⟩
    | _ => simp [okQ] at h
theorem eqv_eqQ : ∀ (n : Nat) (a b : D) (p q : PyData), okQ n a = true → toPy a = some p → toPy b = some q → PyData.eqv p q = eqQ a b := by
  have all : ∀ (n : Nat), (∀ (a b : D) (p q : PyData), okQ n a = true → toPy a = some p → toPy b = some q → PyData.eqv p q = eqQ a b) → ∀ (xs ys : List D) (ps qs : List PyData), xs.all (okQ n) = true → toPy.toPys xs = some ps → toPy.toPys ys = some qs → PyData.eqvAll ps qs = eqQs xs ys := fun n h xs => by
    induction xs with
    | nil =>
      intro ys ps qs _ h1 h2
      rw [toPy.toPys] at h1
      cases h1
      cases ys with
      | nil => rw [toPy.toPys] at h2; cases h2; simp [PyData.eqvAll, eqQs]
      | cons y ys =>
        rw [toPy.toPys] at h2
        split at h2
        · cases h2; simp [PyData.eqvAll, eqQs]
        · cases h2
    | cons x xs ih =>
      intro ys ps qs h0 h1 h2
      rw [List.all_cons, Bool.and_eq_true] at h0
      rw [toPy.toPys] at h1
      split at h1
      · rename_i p ps' e1 e2
        cases h1
        cases ys with
        | nil => rw [toPy.toPys] at h2; cases h2; simp [PyData.eqvAll, eqQs]
        | cons y ys =>
          rw [toPy.toPys] at h2
          split at h2
          · rename_i q qs' e3 e4
            cases h2
            rw [PyData.eqvAll, eqQs, h x y p q h0.1 e1 e3, ih ys ps' qs' h0.2 e2 e4]
          · cases h2
      · cases h1
  intro n
  induction n with
  | zero =>
    intro a b p q h0 h1 h2
    cases a <;> first | (simp [okQ] at h0; done) | skip
    all_goals (simp only [toPy, Option.some.injEq] at h1; subst h1)
    all_goals cases b
    all_goals first
      | (simp only [toPy, Option.some.injEq] at h2; subst h2; simp [PyData.eqv, eqQ]; done)
      | (simp only [toPy, Option.map_eq_some_iff] at h2; obtain ⟨qs, _, h2⟩ := h2; subst h2; simp [PyData.eqv, eqQ]; done)
      | (simp [toPy] at h2; done)
  | succ n ih =>
    intro a b p q h0 h1 h2
    cases a <;> first | (simp [okQ] at h0; done) | skip
    all_goals first
      | (simp only [toPy, Option.some.injEq] at h1; subst h1)
      | (simp only [toPy, Option.map_eq_some_iff] at h1; obtain ⟨ps, e1, h1⟩ := h1; subst h1)
    all_goals cases b
    all_goals first
      | (simp only [toPy, Option.some.injEq] at h2; subst h2; simp [PyData.eqv, eqQ]; done)
      | (simp only [toPy, Option.map_eq_some_iff] at h2; obtain ⟨qs, e2, h2⟩ := h2; subst h2; first | (simp [PyData.eqv, eqQ]; done) | (rw [PyData.eqv, eqQ]; exact all n ih _ _ _ _ (by simpa [okQ] using h0) e1 e2))
      | (simp [toPy] at h2; done)
theorem eqS_ok {a b : D} (ha : okQ 64 a = true) (hb : okQ 64 b = true) : eqS a b = .ok (.bl (eqQ a b)) := by
  obtain ⟨p, h1, h2, h3⟩ := toPy_ok 64 a ha
  obtain ⟨q, h4, h5, h6⟩ := toPy_ok 64 b hb
  unfold eqS
  rw [h1, h4]
  have s1 : SeqAt.shaped p = true := by unfold SeqAt.shaped; rw [h2]; simpa using h3
  have s2 : SeqAt.shaped q = true := by unfold SeqAt.shaped; rw [h5]; simpa using h6
  simp only [s1, s2, and_self, if_true, eqv_eqQ 64 a b p q ha h1 h4]
theorem neS_ok {a b : D} (ha : okQ 64 a = true) (hb : okQ 64 b = true) : neS a b = .ok (.bl (!eqQ a b)) := by
  obtain ⟨p, h1, h2, h3⟩ := toPy_ok 64 a ha
  obtain ⟨q, h4, h5, h6⟩ := toPy_ok 64 b hb
  unfold neS
  rw [h1, h4]
  have s1 : SeqAt.shaped p = true := by unfold SeqAt.shaped; rw [h2]; simpa using h3
  have s2 : SeqAt.shaped q = true := by unfold SeqAt.shaped; rw [h5]; simpa using h6
  simp only [s1, s2, and_self, if_true, eqv_eqQ 64 a b p q ha h1 h4]
theorem eqQ_refl : ∀ (n : Nat) (a : D), okQ n a = true → eqQ a a = true := by
  have all : ∀ n, (∀ a, okQ n a = true → eqQ a a = true) → ∀ xs : List D, xs.all (okQ n) = true → eqQs xs xs = true := fun n h xs => by
    induction xs with
    | nil => intro _; rw [eqQs]
    | cons x xs ih =>
      intro h0
      rw [List.all_cons, Bool.and_eq_true] at h0
      rw [eqQs, h x h0.1, ih h0.2]
      rfl
  intro n
  induction n with
  | zero =>
    intro a h
    cases a <;> first | (simp [okQ] at h; done) | simp [eqQ]
  | succ n ih =>
    intro a h
    cases a <;> first | (simp [okQ] at h; done) | (simp [eqQ]; done) | (rw [eqQ]; exact all n ih _ (by simpa [okQ] using h))
theorem eqQs_refl {n : Nat} {xs : List D} (h : xs.all (okQ n) = true) : eqQs xs xs = true := by
  have z : okQ (n + 1) (.tup xs) = true := by simpa [okQ] using h
  simpa [eqQ] using eqQ_refl (n + 1) _ z
/-- a tuple, a list of whole numbers -/
abbrev tuI (xs : List Int) : D := .tup (xs.map .int)
abbrev liI (xs : List Int) : D := .lst (xs.map .int)
theorem okQ_ints (n : Nat) (xs : List Int) : (xs.map D.int).all (okQ n) = true := by
  rw [List.all_eq_true]
  intro x hx
  obtain ⟨i, _, rfl⟩ := List.mem_map.mp hx
  cases n <;> rfl
@[simp] theorem okQ_int (n : Nat) (i : Int) : okQ n (.int i) = true := by cases n <;> rfl
@[simp] theorem okQ_bl (n : Nat) (i : Bool) : okQ n (.bl i) = true := by cases n <;> rfl
@[simp] theorem okQ_non (n : Nat) : okQ n .non = true := by cases n <;> rfl
@[simp] theorem okQ_str (n : Nat) (s : Str) : okQ n (.str s) = PyData.strOk s := by cases n <;> rfl
@[simp] theorem okQ_tI (n : Nat) (xs : List Int) : okQ (n + 1) (tuI xs) = true := okQ_ints n xs
theorem eqQs_ints : ∀ xs ys : List Int, eqQs (xs.map D.int) (ys.map D.int) = decide (xs = ys)
  | [], [] => by simp [eqQs]
  | [], _ :: _ => by simp [eqQs]
  | _ :: _, [] => by simp [eqQs]
  | x :: xs, y :: ys => by
    rw [List.map_cons, List.map_cons, eqQs, eqQs_ints xs ys, eqQ]
    by_cases h : x = y <;> by_cases h2 : xs = ys <;> simp [h, h2]
@[simp] theorem eqS_int (i j : Int) : eqS (.int i) (.int j) = .ok (.bl (decide (i = j))) := by
  rw [eqS_ok (by simp) (by simp), eqQ]
  by_cases h : i = j <;> simp [h]
@[simp] theorem neS_int (i j : Int) : neS (.int i) (.int j) = .ok (.bl (!decide (i = j))) := by
  rw [neS_ok (by simp) (by simp), eqQ]
  by_cases h : i = j <;> simp [h]

/-! ### numbers -/
@[simp] theorem addD_int (i j : Int) : addD (.int i) (.int j) = .ok (.int (i + j)) := rfl
@[simp] theorem subD_int (i j : Int) : subD (.int i) (.int j) = .ok (.int (i - j)) := rfl
theorem modD_ok {i j : Int} (h : 0 < j) : modD (.int i) (.int j) = .ok (.int (i % j)) := if_pos h
theorem bits_le {i : Int} (h : i.natAbs < 2 ^ 250) : bits i < 250 := by
  unfold bits
  by_cases h0 : i.natAbs = 0
  · rw [h0]; decide
  · exact (Nat.log2_lt h0).mpr h
theorem mulD_ok {i j : Int} (h1 : bits i < 250) (h2 : bits j < 250) : mulD (.int i) (.int j) = .ok (.int (i * j)) := by
  show (if bits i + bits j < 1000000 ∨ CMul i j then _ else _) = _
  rw [if_pos (.inl (by omega))]
theorem mulD_small {i j : Int} (h : CMul i j) : mulD (.int i) (.int j) = .ok (.int (i * j)) := by
  show (if bits i + bits j < 1000000 ∨ CMul i j then _ else _) = _
  rw [if_pos (.inr h)]
theorem divD_ok {i j : Int} (h : 0 < j) (h2 : bits j < 250) : divD (.int i) (.int j) = .ok (.int (i / j)) := if_pos ⟨h, by omega⟩
@[simp] theorem gtD_int (i j : Int) : gtD (.int i) (.int j) = .ok (.bl (decide (j < i))) := rfl
@[simp] theorem ltD_int (i j : Int) : ltD (.int i) (.int j) = .ok (.bl (decide (i < j))) := rfl
@[simp] theorem leD_int (i j : Int) : leD (.int i) (.int j) = .ok (.bl (decide (i ≤ j))) := rfl
@[simp] theorem geD_int (i j : Int) : geD (.int i) (.int j) = .ok (.bl (decide (j ≤ i))) := rfl
@[simp] theorem asB_bl (b : Bool) : asB (.bl b) = .ok b := rfl
@[simp] theorem getS0 (d : D) (r : Env) : getS 0 (.sh d :: r) = .ok d := rfl
@[simp] theorem getR0 (d : D) (r : Env) : getR 0 (.sh d :: r) = .ok d := rfl
@[simp] theorem getR0o (d : D) (r : Env) : getR 0 (.ow .flat d :: r) = .ok d := rfl
@[simp] theorem getS_succ (i : Nat) (x : Slot) (r : Env) : getS (i + 1) (x :: r) = getS i r := by simp [getS]
@[simp] theorem getR_succ (i : Nat) (x : Slot) (r : Env) : getR (i + 1) (x :: r) = getR i r := by simp [getR]
@[simp] theorem lenD_lst (xs : List D) : lenD (.lst xs) = .ok (.int xs.length) := rfl
@[simp] theorem lenD_tup (xs : List D) : lenD (.tup xs) = .ok (.int xs.length) := rfl
@[simp] theorem lenD_scr (xs : List Int) : lenD (.scr xs) = .ok (.int xs.length) := rfl
@[simp] theorem sumD_scr (xs : List Int) : sumD (.scr xs) = .ok (.int xs.sum) := rfl
@[simp] theorem seq_ite (c : Prop) [Decidable c] (a b : Oc) (g : Env → Oc) : (if c then a else b).seq g = if c then a.seq g else b.seq g := by split <;> rfl
/-- a number of at most sixty figures -/
theorem bits_60 {i : Int} (h1 : -(10 ^ 60) ≤ i) (h2 : i ≤ 10 ^ 60) : bits i < 250 := bits_le (Nat.lt_of_le_of_lt (show i.natAbs ≤ 10 ^ 60 by omega) (by decide))

/-! ### defs, loops, comprehensions -/
theorem runD_rt {p n : Nat} {g : Env → Oc} {ds : List D} {d : D} (h : ds.length = p) (e : g (startD n ds) = .rt d) : runD p n g ds = .ok d := by
  unfold runD
  rw [if_pos h, e]
theorem runD_nx {p n : Nat} {g : Env → Oc} {ds : List D} {r : Env} (h : ds.length = p) (e : g (startD n ds) = .nx r) : runD p n g ds = .ok .non := by
  unfold runD
  rw [if_pos h, e]
theorem runD_er {p n : Nat} {g : Env → Oc} {ds : List D} {r : Env} {d : D} (h : ds.length = p) (e : g (startD n ds) = .er d r) : runD p n g ds = .er d := by
  unfold runD
  rw [if_pos h, e]
theorem lcD_map {g : D → Env → Res Env} {t : Env → Res Bool} {f : Env → Res D} {r : Env} (F : D → D) : ∀ {ds : List D}, (∀ d ∈ ds, ∃ r1, g d r = .ok r1 ∧ t r1 = .ok true ∧ f r1 = .ok (F d)) → lcD g t f r ds = .ok (ds.map F)
  | [], _ => rfl
  | d :: ds, h => by
    obtain ⟨r1, h1, h2, h3⟩ := h d List.mem_cons_self
    rw [lcD, h1]
    simp only [nE_ok, ok_bind, h2, if_true, h3, lcD_map F fun d hd => h d (List.mem_cons_of_mem _ hd)]
    rfl
theorem lcD_filter {g : D → Env → Res Env} {t : Env → Res Bool} {f : Env → Res D} {r : Env} (b : D → Bool) (F : D → D) : ∀ {ds : List D}, (∀ d ∈ ds, ∃ r1, g d r = .ok r1 ∧ t r1 = .ok (b d) ∧ (b d = true → f r1 = .ok (F d))) → lcD g t f r ds = .ok ((ds.filter b).map F)
  | [], _ => rfl
  | d :: ds, h => by
    obtain ⟨r1, h1, h2, h3⟩ := h d List.mem_cons_self
    rw [lcD, h1]
    simp only [nE_ok, ok_bind, h2, lcD_filter b F fun d hd => h d (List.mem_cons_of_mem _ hd)]
    cases hb : b d with
    | false => simp [hb]
    | true => simp [hb, h3 hb]
theorem forD_ix {f : D → Env → Oc} {ds : List D} (P : Nat → Env → Prop) (h : ∀ i d, ds[i]? = some d → ∀ r, P i r → ∃ r', f d r = .nx r' ∧ P (i + 1) r') {r : Env} (h0 : P 0 r) : ∃ r', forD f ds r = .nx r' ∧ P ds.length r' := by
  have go : ∀ (ds : List D) (k : Nat) (r : Env), (∀ i d, ds[i]? = some d → ∀ r, P (k + i) r → ∃ r', f d r = .nx r' ∧ P (k + i + 1) r') → P k r → ∃ r', forD f ds r = .nx r' ∧ P (k + ds.length) r' := fun ds => by
    induction ds with
    | nil => exact fun k r _ h0 => ⟨r, rfl, h0⟩
    | cons d ds ih =>
      intro k r h h0
      obtain ⟨r1, h1, h2⟩ := h 0 d rfl r h0
      obtain ⟨r2, h3, h4⟩ := ih (k + 1) r1 (fun i e he r hr => by
        have z := h (i + 1) e (by simpa using he) r (by rw [show k + (i + 1) = k + 1 + i by omega]; exact hr)
        rw [show k + (i + 1) + 1 = k + 1 + i + 1 by omega] at z
        exact z) h2
      refine ⟨r2, ?_, by rw [List.length_cons, show k + (ds.length + 1) = k + 1 + ds.length by omega]; exact h4⟩
      rw [forD_cons, h1]
      exact h3
  obtain ⟨r', h1, h2⟩ := go ds 0 r (fun i d hd r hr => by
    rw [Nat.zero_add] at hr ⊢
    exact h i d hd r hr) h0
  exact ⟨r', h1, by rw [Nat.zero_add] at h2; exact h2⟩
/-- each turn goes on, P stays -/
theorem forD_all {f : D → Env → Oc} {ds : List D} (P : Env → Prop) (h : ∀ d ∈ ds, ∀ r, P r → ∃ r', f d r = .nx r' ∧ P r') {r : Env} (h0 : P r) : ∃ r', forD f ds r = .nx r' ∧ P r' :=
  forD_ix (fun _ => P) (fun i d hd r hr => h d (List.mem_of_getElem? hd) r hr) h0
@[simp] theorem rangeL_zero (lo : Int) : rangeL lo 0 = [] := rfl
theorem mem_rangeL {lo : Int} {n : Nat} {d : D} (h : d ∈ rangeL lo n) : ∃ i : Nat, i < n ∧ d = .int (lo + i) := by
  unfold rangeL at h
  obtain ⟨i, h1, h2⟩ := List.mem_map.mp h
  exact ⟨i, List.mem_range.mp h1, h2.symm⟩
theorem rng1_ok {n : Int} (h0 : -1000000000 ≤ n) (h1 : n ≤ 1000000000) : rng1 [.int n] = .ok (rangeL 0 n.toNat) := if_pos ⟨h0, h1⟩
theorem rng2_ok {m n : Int} (h0 : -1000000000 ≤ m) (h1 : m ≤ 1000000000) (h2 : -1000000000 ≤ n) (h3 : n ≤ 1000000000) : rng2 [.int m, .int n] = .ok (rangeL m (n - m).toNat) := if_pos ⟨⟨h0, h1⟩, h2, h3⟩
@[simp] theorem rangeL_len (lo : Int) (n : Nat) : (rangeL lo n).length = n := by simp [rangeL]
theorem rangeL_map (lo : Int) (n : Nat) (F : D → D) (G : Int → Int) (h : ∀ i : Int, F (.int i) = .int (G i)) : (rangeL lo n).map F = ((List.range n).map fun i => G (lo + (i : Nat))).map .int := by
  unfold rangeL
  rw [List.map_map, List.map_map]
  exact List.map_congr_left fun i _ => h _
end Mir

/-! zip of two or three things, each a list or a tuple; enumerate of a tuple. (printed by mkzip.py) -/
namespace Mir
open PySem PySem.Spec PyProof.Rows L2

def SIt (h : Heap) (k : Bool) (it l : Addr) (i : Nat) : Prop := match k with
  | true => h.IsListIter it l i
  | false => h.IsTupleIter it l i
def SSrc (h : Heap) (k : Bool) (l : Addr) (items : Array Value) : Prop := match k with
  | true => h.IsList l items
  | false => h.IsTuple l items
def clsI : Bool → String
  | true => "list_iterator"
  | false => "tuple_iterator"
theorem SIt.at {h h' : Heap} {k : Bool} {it l : Addr} {i : Nat} (x : SIt h k it l i) (f : ∀ o, h.get? it = some o → h'.get? it = some o) : SIt h' k it l i := by
  cases k with
  | true => exact Heap.IsListIter.at (show h.IsListIter it l i from x) f
  | false => exact Heap.IsTupleIter.at (show h.IsTupleIter it l i from x) f
theorem SIt.ob {h : Heap} {k : Bool} {it l : Addr} {i : Nat} (x : SIt h k it l i) : ∃ o, h.get? it = some o ∧ ∀ v, o.data ≠ .cell v := by
  cases k with
  | true =>
    obtain ⟨o, e, _, d⟩ := (show h.IsListIter it l i from x)
    exact ⟨o, e, fun v q => by rw [d] at q; cases q⟩
  | false =>
    obtain ⟨o, e, _, d⟩ := (show h.IsTupleIter it l i from x)
    exact ⟨o, e, fun v q => by rw [d] at q; cases q⟩
theorem SIt.lt {h : Heap} {k : Bool} {it l : Addr} {i : Nat} (x : SIt h k it l i) : it < h.objs.size := let ⟨_, e, _⟩ := x.ob; Heap.lt_size e
theorem SSrc.at {h h' : Heap} {k : Bool} {l : Addr} {xs : Array Value} (x : SSrc h k l xs) (f : ∀ o, h.get? l = some o → h'.get? l = some o) : SSrc h' k l xs := by
  cases k with
  | true => exact Heap.IsList.at (show h.IsList l xs from x) f
  | false =>
    obtain ⟨o, e, r⟩ := (show h.IsTuple l xs from x)
    exact ⟨o, f o e, r⟩
theorem SSrc.lt {h : Heap} {k : Bool} {l : Addr} {xs : Array Value} (x : SSrc h k l xs) : l < h.objs.size := by
  cases k with
  | true =>
    obtain ⟨o, e, _⟩ := (show h.IsList l xs from x)
    exact Heap.lt_size e
  | false =>
    obtain ⟨o, e, _⟩ := (show h.IsTuple l xs from x)
    exact Heap.lt_size e
abbrev IsT (h : Heap) (T : Addr) (vs : Array Value) : Prop := h.get? T = some { cls := .type "tuple", data := .seq vs }
section
variable {prog : Program} {w : World} {A : Around} {E : Value → Shared → Prop} {s : Shared}
theorem nextS_item {k : Bool} {it l : Addr} {i : Nat} {items : Array Value} {x : Value} {Q : Value → Shared → Prop} (hit : SIt s.heap k it l i) (hl : SSrc s.heap k l items) (hx : items[i]? = some x)
    (hQ : ∀ h', SIt h' k it l (i + 1) → Heap.SameBut it s.heap h' → Q x { s with heap := h' }) : wpAny (model prog w) A (Builtin.SmallTypes.nextOf (.ref it)) Q E s := by
  cases k with
  | true => exact wpAny_nextOf_list_item hit hl hx hQ
  | false => exact RZ.nextOf_tuple_item hit hl hx hQ
theorem nextS_end {k : Bool} {it l : Addr} {i : Nat} {items : Array Value} {Q : Value → Shared → Prop} (hh : A.handled = none) (hit : SIt s.heap k it l i) (hl : SSrc s.heap k l items) (hx : items[i]? = none)
    (hE : ∀ h' e, Heap.ExtBut it s.heap h' → (∃ o, h'.get? e = some o ∧ o.cls = .type "StopIteration") → E (.ref e) { s with heap := h' }) : wpAny (model prog w) A (Builtin.SmallTypes.nextOf (.ref it)) Q E s := by
  cases k with
  | true => exact wpAny_nextOf_list_end hh hit hl hx hE
  | false => exact RZ.nextOf_tuple_end hh hit hl hx hE
theorem updT {T : Addr} {vs : Array Value} {x : Value} {k : Nat} {Q : Unit → Shared → Prop} (hT : IsT s.heap T vs) (hs : vs.size ≤ 3) (h : ∀ h', IsT h' T (vs.setIfInBounds k x) → Heap.SameBut T s.heap h' → Q () { s with heap := h' }) :
    wpAny (model prog w) A (updateSeq T (·.setIfInBounds k x)) Q E s := by
  have hl : vs.size ≤ sizeLine := Nat.le_trans hs (by rw [sizeLine_eq]; decide)
  refine wpAny_updateSeq hT rfl (hz := hl) (_hz' := by simpa using Nat.le_succ_of_le hl) (h _ ?_ (Heap.SameBut.update ..))
  show Heap.get? _ _ = _
  rw [Heap.get?_update_self _ hT rfl]
  simp [Obj.mapSeq]
theorem iterS {k : Bool} {l : Addr} {items : Array Value} {Q : Value → Shared → Prop} (hl : SSrc s.heap k l items) (h : Q (.ref s.heap.objs.size) { s with heap := s.heap.push { cls := .type (clsI k), data := .fields #[.ref l, .int 0 0] } }) :
    wpAny (model prog w) A (pyIter (.ref l)) Q E s := by
  cases k with
  | true => exact wpAny_pyIter_list hl h
  | false => exact wpAny_pyIter_tuple hl h
end

structure ZA2 (z TI TO i1 i2 l1 l2 : Addr) : Prop where
  TIz : TI ≠ z
  TOz : TO ≠ z
  TITO : TI ≠ TO
  i1z : i1 ≠ z
  TIi1 : TI ≠ i1
  TOi1 : TO ≠ i1
  l1z : l1 ≠ z
  l1TO : l1 ≠ TO
  l1i1 : l1 ≠ i1
  l1i2 : l1 ≠ i2
  i1i2 : i1 ≠ i2
  i2z : i2 ≠ z
  TIi2 : TI ≠ i2
  TOi2 : TO ≠ i2
  l2z : l2 ≠ z
  l2TO : l2 ≠ TO
  l2i1 : l2 ≠ i1
  l2i2 : l2 ≠ i2
section
variable {prog : Program} {w : World} {A : Around} {E : Value → Shared → Prop} {s : Shared}
theorem zip2_item {z TI TO i1 i2 l1 l2 : Addr} {k1 k2 : Bool} {p : Nat} {xs1 xs2 : Array Value} {x1 x2 o1 o2 : Value} {Q : Value → Shared → Prop} (D : ZA2 z TI TO i1 i2 l1 l2) (hz : IsZip s.heap z TI TO .none) (hTI : IsT s.heap TI #[.ref i1, .ref i2]) (hTO : IsT s.heap TO #[o1, o2]) (h1 : SIt s.heap k1 i1 l1 p) (hl1 : SSrc s.heap k1 l1 xs1) (h2 : SIt s.heap k2 i2 l2 p) (hl2 : SSrc s.heap k2 l2 xs2) (hx1 : xs1[p]? = some x1) (hx2 : xs2[p]? = some x2)
    (hQ : ∀ h', IsZip h' z TI TO (rawInt s.heap.objs.size) → IsT h' TO #[x1, x2] → SIt h' k1 i1 l1 (p + 1) → SIt h' k2 i2 l2 (p + 1) → IsT h' s.heap.objs.size #[x1, x2] → h'.objs.size = s.heap.objs.size + 1 → (∀ c o, c ≠ z → c ≠ TO → c ≠ i1 → c ≠ i2 → s.heap.get? c = some o → h'.get? c = some o) → Q (.ref s.heap.objs.size) { s with heap := h' }) :
    wpAny (model prog w) A (Builtin.«zip.__next__» ⟨[.ref z], []⟩) (fun fin s' => ∃ v, fin = .done (.ret v) ∧ Q v s') E s := by
  show wpAny _ _ (field (.ref z) 2 >>= _) _ _ _
  refine wpAny_bind (wpAny_field hz rfl (x := .bool false) rfl ?_)
  show wpAny _ _ (field (.ref z) 3 >>= _) _ _ _
  refine wpAny_bind (wpAny_field hz rfl (x := .ref TI) rfl ?_)
  refine wpAny_bind (wpAny_seqItems hTI rfl ?_)
  show wpAny _ _ (Builtin.SmallTypes.ownedTupleIsFree (.ref z) >>= _) _ _ _
  refine wpAny_bind ?_
  unfold Builtin.SmallTypes.ownedTupleIsFree
  refine wpAny_bind (wpAny_field hz rfl (x := .none) rfl (wpAny_pure ?_))
  simp only [if_true]
  refine wpAny_bind (wpAny_rule ?_)
  refine wpAny_bind (wpAny_field hz rfl (x := .ref TO) rfl ?_)
  refine wpAny_bind (wpAny_setField_rec hz (by simp) fun g0 zz0 s0 => ?_)
  replace zz0 : IsZip g0 z TI TO .ellipsis := zz0
  have K0 : ∀ c o, c ≠ z → s.heap.get? c = some o → g0.get? c = some o := fun c o c1 e => s0.extBut _ _ c1 e
  have T0 : IsT g0 TO #[o1, o2] := K0 _ _ D.TOz hTO
  have Z0 : g0.objs.size = s.heap.objs.size := s0.1
  refine wpAny_bind ?_
  simp only [List.zipIdx_cons, List.zipIdx_nil, List.forIn_cons, List.forIn_nil]
  refine wpAny_bind (wpAny_bind (wpAny_onRaise ?_))
  show wpAny _ _ (Builtin.SmallTypes.nextOf (.ref i1) >>= _) _ _ _
  have I1 : SIt g0 k1 i1 l1 p := h1.at fun o e => K0 _ o (D.i1z) e
  have L1 : SSrc g0 k1 l1 xs1 := hl1.at fun o e => K0 _ o (D.l1z) e
  refine wpAny_bind (nextS_item I1 L1 hx1 fun a1 n1 sa1 => wpAny_pure ?_)
  have Ta1 : IsT a1 TO #[o1, o2] := sa1.extBut _ _ (D.TOi1) T0
  refine wpAny_bind (wpAny_seqItems Ta1 rfl ?_)
  refine wpAny_bind (updT Ta1 (by simp) fun g1 T1 st1 => ?_)
  replace T1 : IsT g1 TO #[x1, o2] := T1
  have K1 : ∀ c o, c ≠ z → c ≠ TO → c ≠ i1 → s.heap.get? c = some o → g1.get? c = some o := fun c o c0 c1 c2 e => st1.extBut _ _ c1 (sa1.extBut _ _ c2 (K0 c o c0 e))
  have zz1 : IsZip g1 z TI TO .ellipsis := st1.extBut _ _ (D.TOz.symm) (sa1.extBut _ _ (D.i1z.symm) zz0)
  have Z1 : g1.objs.size = s.heap.objs.size := by rw [st1.1, sa1.1, Z0]
  have N1_1 : SIt g1 k1 i1 l1 (p + 1) := n1.at fun o e => st1.extBut _ _ (D.TOi1.symm) e
  refine wpAny_bind (wpAny_letGo (wpAny_pure ?_))
  refine wpAny_bind (wpAny_bind (wpAny_onRaise ?_))
  show wpAny _ _ (Builtin.SmallTypes.nextOf (.ref i2) >>= _) _ _ _
  have I2 : SIt g1 k2 i2 l2 p := h2.at fun o e => K1 _ o (D.i2z) (D.TOi2.symm) (D.i1i2.symm) e
  have L2 : SSrc g1 k2 l2 xs2 := hl2.at fun o e => K1 _ o (D.l2z) (D.l2TO) (D.l2i1) e
  refine wpAny_bind (nextS_item I2 L2 hx2 fun a2 n2 sa2 => wpAny_pure ?_)
  have Ta2 : IsT a2 TO #[x1, o2] := sa2.extBut _ _ (D.TOi2) T1
  refine wpAny_bind (wpAny_seqItems Ta2 rfl ?_)
  refine wpAny_bind (updT Ta2 (by simp) fun g2 T2 st2 => ?_)
  replace T2 : IsT g2 TO #[x1, x2] := T2
  have K2 : ∀ c o, c ≠ z → c ≠ TO → c ≠ i1 → c ≠ i2 → s.heap.get? c = some o → g2.get? c = some o := fun c o c0 c1 c2 c3 e => st2.extBut _ _ c1 (sa2.extBut _ _ c3 (K1 c o c0 c1 c2 e))
  have zz2 : IsZip g2 z TI TO .ellipsis := st2.extBut _ _ (D.TOz.symm) (sa2.extBut _ _ (D.i2z.symm) zz1)
  have Z2 : g2.objs.size = s.heap.objs.size := by rw [st2.1, sa2.1, Z1]
  have N2_2 : SIt g2 k2 i2 l2 (p + 1) := n2.at fun o e => st2.extBut _ _ (D.TOi2.symm) e
  have N1_2 : SIt g2 k1 i1 l1 (p + 1) := N1_1.at fun o e => st2.extBut _ _ (D.TOi1.symm) (sa2.extBut _ _ (D.i1i2) e)
  refine wpAny_bind (wpAny_letGo (wpAny_pure (wpAny_pure ?_)))
  refine wpAny_bind (wpAny_seqItems T2 rfl ?_)
  refine wpAny_bind (wpAny_newTuple ?_)
  show wpAny _ _ (Builtin.SmallTypes.ownedTupleHandOut (.ref z) (.ref g2.objs.size) >>= _) _ _ _
  refine wpAny_bind ?_
  unfold Builtin.SmallTypes.ownedTupleHandOut
  have hzl : z < g2.objs.size := Heap.lt_size zz2
  have zp : IsZip (g2.push { cls := .type "tuple", data := .seq #[x1, x2] }) z TI TO .ellipsis := Heap.get?_push_of_some _ zz2
  refine wpAny_bind (wpAny_setField_rec zp (by simp) fun e7 z7 s7 => ?_)
  replace z7 : IsZip e7 z TI TO (rawInt g2.objs.size) := z7
  refine wpAny_setField_rec z7 (by simp) fun e8 z8 s8 => ?_
  replace z8 : IsZip e8 z TI TO (rawInt g2.objs.size) := z8
  have up : ∀ c o, c ≠ z → g2.get? c = some o → e8.get? c = some o := fun c o c1 e => s8.extBut _ _ c1 (s7.extBut _ _ c1 (Heap.get?_push_of_some _ e))
  have t8 : IsT e8 g2.objs.size #[x1, x2] := s8.extBut _ _ (Nat.ne_of_gt hzl) (s7.extBut _ _ (Nat.ne_of_gt hzl) (Heap.get?_push_size _ rfl))
  have y8 : e8.objs.size = g2.objs.size + 1 := by rw [s8.1, s7.1, Heap.size_push]
  rw [Z2] at z8 t8 y8
  refine wpAny_pure ⟨_, rfl, ?_⟩
  show Q (.ref g2.objs.size) _
  rw [Z2]
  exact hQ e8 z8 (up _ _ D.TOz T2) (N1_2.at fun o e => up _ o D.i1z e) (N2_2.at fun o e => up _ o D.i2z e) t8 y8 fun c o c0 c1 c2 c3 e => up c o c0 (K2 c o c0 c1 c2 c3 e)
theorem zip2_end {z TI TO i1 i2 l1 l2 : Addr} {k1 k2 : Bool} {p : Nat} {xs1 xs2 : Array Value} {o1 o2 : Value} {Q : Fin → Shared → Prop} (hh : A.handled = none) (D : ZA2 z TI TO i1 i2 l1 l2) (hz : IsZip s.heap z TI TO .none) (hTI : IsT s.heap TI #[.ref i1, .ref i2]) (hTO : IsT s.heap TO #[o1, o2]) (h1 : SIt s.heap k1 i1 l1 p) (hl1 : SSrc s.heap k1 l1 xs1) (h2 : SIt s.heap k2 i2 l2 p) (hl2 : SSrc s.heap k2 l2 xs2) (hend : xs1[p]? = none ∨ xs2[p]? = none)
    (hE : ∀ h' e, (∀ c o, c ≠ z → c ≠ TO → c ≠ i1 → c ≠ i2 → s.heap.get? c = some o → h'.get? c = some o) → (∃ o, h'.get? e = some o ∧ o.cls = .type "StopIteration") → E (.ref e) { s with heap := h' }) :
    wpAny (model prog w) A (Builtin.«zip.__next__» ⟨[.ref z], []⟩) Q E s := by
  show wpAny _ _ (field (.ref z) 2 >>= _) _ _ _
  refine wpAny_bind (wpAny_field hz rfl (x := .bool false) rfl ?_)
  show wpAny _ _ (field (.ref z) 3 >>= _) _ _ _
  refine wpAny_bind (wpAny_field hz rfl (x := .ref TI) rfl ?_)
  refine wpAny_bind (wpAny_seqItems hTI rfl ?_)
  show wpAny _ _ (Builtin.SmallTypes.ownedTupleIsFree (.ref z) >>= _) _ _ _
  refine wpAny_bind ?_
  unfold Builtin.SmallTypes.ownedTupleIsFree
  refine wpAny_bind (wpAny_field hz rfl (x := .none) rfl (wpAny_pure ?_))
  simp only [if_true]
  refine wpAny_bind (wpAny_rule ?_)
  refine wpAny_bind (wpAny_field hz rfl (x := .ref TO) rfl ?_)
  refine wpAny_bind (wpAny_setField_rec hz (by simp) fun g0 zz0 s0 => ?_)
  replace zz0 : IsZip g0 z TI TO .ellipsis := zz0
  have K0 : ∀ c o, c ≠ z → s.heap.get? c = some o → g0.get? c = some o := fun c o c1 e => s0.extBut _ _ c1 e
  have T0 : IsT g0 TO #[o1, o2] := K0 _ _ D.TOz hTO
  have Z0 : g0.objs.size = s.heap.objs.size := s0.1
  refine wpAny_bind ?_
  simp only [List.zipIdx_cons, List.zipIdx_nil, List.forIn_cons, List.forIn_nil]
  refine wpAny_bind (wpAny_bind (wpAny_onRaise ?_))
  show wpAny _ _ (Builtin.SmallTypes.nextOf (.ref i1) >>= _) _ _ _
  have I1 : SIt g0 k1 i1 l1 p := h1.at fun o e => K0 _ o (D.i1z) e
  have L1 : SSrc g0 k1 l1 xs1 := hl1.at fun o e => K0 _ o (D.l1z) e
  cases hx1 : xs1[p]? with
  | none =>
    refine wpAny_bind (nextS_end hh I1 L1 hx1 fun ae e xe he => ?_)
    obtain ⟨oe, hoe, hce⟩ := he
    have ze : IsZip ae z TI TO .ellipsis := xe _ _ (D.i1z.symm) zz0
    have hez : e ≠ z := fun q => by subst q; rw [ze] at hoe; cases hoe; simp at hce
    refine wpAny_setField_rec ze (by simp) fun be _ sb => hE be e (fun c o c0 c1 c2 c3 q => sb.extBut _ _ c0 (xe _ _ c2 (K0 c o c0 q))) ⟨oe, sb.extBut _ _ hez hoe, hce⟩
  | some x1 =>
    refine wpAny_bind (nextS_item I1 L1 hx1 fun a1 n1 sa1 => wpAny_pure ?_)
    have Ta1 : IsT a1 TO #[o1, o2] := sa1.extBut _ _ (D.TOi1) T0
    refine wpAny_bind (wpAny_seqItems Ta1 rfl ?_)
    refine wpAny_bind (updT Ta1 (by simp) fun g1 T1 st1 => ?_)
    replace T1 : IsT g1 TO #[x1, o2] := T1
    have K1 : ∀ c o, c ≠ z → c ≠ TO → c ≠ i1 → s.heap.get? c = some o → g1.get? c = some o := fun c o c0 c1 c2 e => st1.extBut _ _ c1 (sa1.extBut _ _ c2 (K0 c o c0 e))
    have zz1 : IsZip g1 z TI TO .ellipsis := st1.extBut _ _ (D.TOz.symm) (sa1.extBut _ _ (D.i1z.symm) zz0)
    have Z1 : g1.objs.size = s.heap.objs.size := by rw [st1.1, sa1.1, Z0]
    have N1_1 : SIt g1 k1 i1 l1 (p + 1) := n1.at fun o e => st1.extBut _ _ (D.TOi1.symm) e
    refine wpAny_bind (wpAny_letGo (wpAny_pure ?_))
    refine wpAny_bind (wpAny_bind (wpAny_onRaise ?_))
    show wpAny _ _ (Builtin.SmallTypes.nextOf (.ref i2) >>= _) _ _ _
    have I2 : SIt g1 k2 i2 l2 p := h2.at fun o e => K1 _ o (D.i2z) (D.TOi2.symm) (D.i1i2.symm) e
    have L2 : SSrc g1 k2 l2 xs2 := hl2.at fun o e => K1 _ o (D.l2z) (D.l2TO) (D.l2i1) e
    cases hx2 : xs2[p]? with
    | none =>
      refine wpAny_bind (nextS_end hh I2 L2 hx2 fun ae e xe he => ?_)
      obtain ⟨oe, hoe, hce⟩ := he
      have ze : IsZip ae z TI TO .ellipsis := xe _ _ (D.i2z.symm) zz1
      have hez : e ≠ z := fun q => by subst q; rw [ze] at hoe; cases hoe; simp at hce
      refine wpAny_setField_rec ze (by simp) fun be _ sb => hE be e (fun c o c0 c1 c2 c3 q => sb.extBut _ _ c0 (xe _ _ c3 (K1 c o c0 c1 c2 q))) ⟨oe, sb.extBut _ _ hez hoe, hce⟩
    | some x2 =>
      rcases hend with q | q
      · rw [hx1] at q; cases q
      · rw [hx2] at q; cases q
theorem pyNext_zip2 {z TI TO i1 i2 l1 l2 : Addr} {k1 k2 : Bool} {p : Nat} {xs1 xs2 : Array Value} {x1 x2 o1 o2 : Value} {Q : Option Value → Shared → Prop} (D : ZA2 z TI TO i1 i2 l1 l2) (hz : IsZip s.heap z TI TO .none) (hTI : IsT s.heap TI #[.ref i1, .ref i2]) (hTO : IsT s.heap TO #[o1, o2]) (h1 : SIt s.heap k1 i1 l1 p) (hl1 : SSrc s.heap k1 l1 xs1) (h2 : SIt s.heap k2 i2 l2 p) (hl2 : SSrc s.heap k2 l2 xs2) (hx1 : xs1[p]? = some x1) (hx2 : xs2[p]? = some x2)
    (hQ : ∀ h', IsZip h' z TI TO (rawInt s.heap.objs.size) → IsT h' TO #[x1, x2] → SIt h' k1 i1 l1 (p + 1) → SIt h' k2 i2 l2 (p + 1) → IsT h' s.heap.objs.size #[x1, x2] → h'.objs.size = s.heap.objs.size + 1 → (∀ c o, c ≠ z → c ≠ TO → c ≠ i1 → c ≠ i2 → s.heap.get? c = some o → h'.get? c = some o) → Q (some (.ref s.heap.objs.size)) { s with heap := h' }) :
    wpAny (model prog w) A (pyNext (.ref z)) Q E s := by
  have hT : s.TypeIs (.ref z) "zip" := ⟨_, hz, rfl⟩
  unfold pyNext
  exact wpAny_bind (wpAny_attempt (wpAny_callSpecial?_slot (name := Str.ofString "__next__") hT F.slot_zip_next (wpAny_call_entry F.slot_zip_next hT F.entry_zip_next (zip2_item D hz hTI hTO h1 hl1 h2 hl2 hx1 hx2 fun h' a0 a1 a2 a3 a4 a5 a6 => wpAny_pure (hQ h' a0 a1 a2 a3 a4 a5 a6)) (F.args_zip_next_1 _))))
theorem pyNext_zip2_end {z TI TO i1 i2 l1 l2 : Addr} {k1 k2 : Bool} {p : Nat} {xs1 xs2 : Array Value} {o1 o2 : Value} {Q : Option Value → Shared → Prop} (hh : A.handled = none) (D : ZA2 z TI TO i1 i2 l1 l2) (hz : IsZip s.heap z TI TO .none) (hTI : IsT s.heap TI #[.ref i1, .ref i2]) (hTO : IsT s.heap TO #[o1, o2]) (h1 : SIt s.heap k1 i1 l1 p) (hl1 : SSrc s.heap k1 l1 xs1) (h2 : SIt s.heap k2 i2 l2 p) (hl2 : SSrc s.heap k2 l2 xs2) (hend : xs1[p]? = none ∨ xs2[p]? = none)
    (hQ : ∀ h', (∀ c o, c ≠ z → c ≠ TO → c ≠ i1 → c ≠ i2 → s.heap.get? c = some o → h'.get? c = some o) → Q none { s with heap := h' }) : wpAny (model prog w) A (pyNext (.ref z)) Q E s := by
  have hT : s.TypeIs (.ref z) "zip" := ⟨_, hz, rfl⟩
  unfold pyNext
  refine wpAny_bind (wpAny_attempt (wpAny_callSpecial?_slot (name := Str.ofString "__next__") hT F.slot_zip_next (wpAny_call_entry F.slot_zip_next hT F.entry_zip_next (zip2_end hh D hz hTI hTO h1 hl1 h2 hl2 hend fun h' e hk he => ?_) (F.args_zip_next_1 _))))
  obtain ⟨o, ho, hc⟩ := he
  refine wpAny_bind (wpAny_isInstance (T := "StopIteration") (b := true) ⟨o, ho, hc⟩ isSubtype_stop ?_)
  exact wpAny_pure (hQ _ hk)
end
abbrev zH2_1 (h : Heap) (k1 : Bool) (l1 : Addr) : Heap := h.push { cls := .type (clsI k1), data := .fields #[.ref l1, .int 0 0] }
abbrev zH2_2 (h : Heap) (k1 k2 : Bool) (l1 l2 : Addr) : Heap := (zH2_1 h k1 l1).push { cls := .type (clsI k2), data := .fields #[.ref l2, .int 0 0] }
abbrev zH2_T (h : Heap) (k1 k2 : Bool) (l1 l2 : Addr) : Heap := (zH2_2 h k1 k2 l1 l2).push { cls := .type "tuple", data := .seq #[.ref h.objs.size, .ref (zH2_1 h k1 l1).objs.size] }
abbrev zH2_O (h : Heap) (k1 k2 : Bool) (l1 l2 : Addr) : Heap := (zH2_T h k1 k2 l1 l2).push { cls := .type "tuple", data := .seq #[.none, .none] }
abbrev zH2_Z (h : Heap) (k1 k2 : Bool) (l1 l2 : Addr) : Heap := (zH2_O h k1 k2 l1 l2).push { cls := .type "zip", data := .fields #[.none, .bool false, .bool false, .ref (zH2_2 h k1 k2 l1 l2).objs.size, .ref (zH2_T h k1 k2 l1 l2).objs.size] }
theorem meets_zip2 (k1 k2 : Bool) (l1 l2 : Addr) (xs1 xs2 : Array Value) :
    Meets (Builtin.«zip.__new__» ⟨[.type "zip", .ref l1, .ref l2], []⟩) (fun _ R s => (SSrc s.heap k1 l1 xs1 ∧ SSrc s.heap k2 l2 xs2) ∧ R (.ok (.ret (.ref (zH2_O s.heap k1 k2 l1 l2).objs.size))) { s with heap := zH2_Z s.heap k1 k2 l1 l2 }) :=
  .of_wp fun prog w A R s h => by
    obtain ⟨hp, g, d, tk, os⟩ := s; obtain ⟨⟨hl1, hl2⟩, h⟩ := h
    have hsub := sub_zip
    have M1 : SSrc (Shared.heap ⟨hp, g, d, tk, os⟩) k1 l1 xs1 := hl1
    have M2 : SSrc (Shared.heap ⟨(hp.push { cls := .type (clsI k1), data := .fields #[.ref l1, .int 0 0] }), g, d, tk, os⟩) k2 l2 xs2 := hl2.at fun o e => Heap.get?_push_of_some _ (e)
    wp_walk using iterS M1, iterS M2
    exact ⟨_, rfl, h⟩
theorem tc_zip2 (a1 a2 : Value) : checkTypeCall "zip" ⟨[a1, a2], []⟩ = pure () := by kernel_rfl
theorem nc_zip2 (a1 a2 : Value) : checkBuiltinCall "zip.__new__" ⟨[.type "zip", a1, a2], []⟩ = pure () := by kernel_rfl
theorem ai_zip2 (b a1 a2 : Value) : argsOk "object.__init__" ⟨[b, a1, a2], []⟩ := by
  unfold argsOk; rw [signature?_of (id := "object.__init__") (n := ['_', '_', 't', 'i', 'n', 'i', '_', '_']) (o := ['t', 'c', 'e', 'j', 'b', 'o']) (by kernel_rfl) F.owner_object]; kernel_rfl
section
variable {prog : Program} {w : World} {A : Around} {E : Value → Shared → Prop} {s : Shared}
theorem call_zip2 {k1 k2 : Bool} {l1 l2 : Addr} {xs1 xs2 : Array Value} {Q : Value → Shared → Prop} (hl1 : SSrc s.heap k1 l1 xs1) (hl2 : SSrc s.heap k2 l2 xs2)
    (h : ∀ h', IsZip h' (s.heap.objs.size + 4) (s.heap.objs.size + 2) (s.heap.objs.size + 3) .none → IsT h' (s.heap.objs.size + 2) #[.ref s.heap.objs.size, .ref (s.heap.objs.size + 1)] → IsT h' (s.heap.objs.size + 3) #[.none, .none] → SIt h' k1 s.heap.objs.size l1 0 → SIt h' k2 (s.heap.objs.size + 1) l2 0 → (∀ c o, s.heap.get? c = some o → h'.get? c = some o) → Q (.ref (s.heap.objs.size + 4)) { s with heap := h' }) :
    wpAny (model prog w) A (call (.type "zip") [.ref l1, .ref l2]) Q E s := by
  refine callType_new F.called_zip (by decide) (tc_zip2 _ _ ) (nc_zip2 _ _ ) (fun obj => ai_zip2 obj _ _ ) F.entry_zip_new (meets_zip2 k1 k2 l1 l2 xs1 xs2) ⟨⟨hl1, hl2⟩, ?_⟩
  have y1 : (zH2_1 s.heap k1 l1).objs.size = s.heap.objs.size + 1 := Heap.size_push ..
  have y2 : (zH2_2 s.heap k1 k2 l1 l2).objs.size = s.heap.objs.size + 2 := by rw [Heap.size_push, y1]
  have y3 : (zH2_T s.heap k1 k2 l1 l2).objs.size = s.heap.objs.size + 3 := by rw [Heap.size_push, y2]
  have y4 : (zH2_O s.heap k1 k2 l1 l2).objs.size = s.heap.objs.size + 4 := by rw [Heap.size_push, y3]
  have q0 : (zH2_Z s.heap k1 k2 l1 l2).get? s.heap.objs.size = some _ := Heap.get?_push_of_some _ (Heap.get?_push_of_some _ (Heap.get?_push_of_some _ (Heap.get?_push_of_some _ (Heap.get?_push_size _ rfl))))
  have q1 : (zH2_Z s.heap k1 k2 l1 l2).get? (zH2_1 s.heap k1 l1).objs.size = some _ := Heap.get?_push_of_some _ (Heap.get?_push_of_some _ (Heap.get?_push_of_some _ (Heap.get?_push_size _ rfl)))
  have q2 : (zH2_Z s.heap k1 k2 l1 l2).get? (zH2_2 s.heap k1 k2 l1 l2).objs.size = some _ := Heap.get?_push_of_some _ (Heap.get?_push_of_some _ (Heap.get?_push_size _ rfl))
  have q3 : (zH2_Z s.heap k1 k2 l1 l2).get? (zH2_T s.heap k1 k2 l1 l2).objs.size = some _ := Heap.get?_push_of_some _ (Heap.get?_push_size _ rfl)
  have q4 : (zH2_Z s.heap k1 k2 l1 l2).get? (zH2_O s.heap k1 k2 l1 l2).objs.size = some _ := Heap.get?_push_size _ rfl
  show _ ∧ _
  rw [y1] at q1
  rw [y1, y2] at q2
  rw [y3] at q3
  rw [y2, y3, y4] at q4
  rw [y4]
  exact ⟨⟨_, q4, rfl⟩, h _ q4 q2 q3 (show SIt _ k1 _ l1 0 by cases k1 <;> exact ⟨_, q0, rfl, rfl⟩) (show SIt _ k2 _ l2 0 by cases k2 <;> exact ⟨_, q1, rfl, rfl⟩) fun c o x => Heap.get?_push_of_some _ (Heap.get?_push_of_some _ (Heap.get?_push_of_some _ (Heap.get?_push_of_some _ (Heap.get?_push_of_some _ (x)))))⟩
theorem za2 {I l1 l2 : Nat} (e1 : l1 < I) (e2 : l2 < I) : ZA2 (I + 4) (I + 2) (I + 3) I (I + 1) l1 l2 := by
  constructor <;> (refine Nat.ne_iff_lt_or_gt.mpr ?_; omega)
end
/-- what stands at a: a list or a tuple -/
def SqS (K : PySem.W.Frag) (H : Hp) (k : Bool) (a : Addr) (xs : List V) : Prop := match k with
  | true => SqL K H a xs
  | false => SqT K H a xs
theorem SqS.keep {K : PySem.W.Frag} {H H' : Hp} {k : Bool} {a : Addr} {xs : List V} (e : Same H H') (h : SqS K H k a xs) : SqS K H' k a xs := by
  cases k with
  | true => exact e.seq (show SqL K H a xs from h)
  | false => exact Same.sqT e (show SqT K H a xs from h)
section
variable {X : Cx} {pins : List (Addr × Obj)} {σ : L2.St} {H : Hp} {s : Shared}
theorem Inv.srcS (I : L2.Inv X pins σ H s) {k : Bool} {a : Addr} {xs : List V} (h : SqS X.K H k a xs) : ∃ its : List Value, Vals xs its ∧ SSrc s.heap k a its.toArray := by
  cases k with
  | true =>
    obtain ⟨its, rv, p, _⟩ := I.list (show SqL X.K H a xs from h)
    exact ⟨its, rv, p.isList⟩
  | false =>
    obtain ⟨its, rv, p, _⟩ := I.tuple (show SqT X.K H a xs from h)
    exact ⟨its, rv, p⟩
end
/-- the items of things that stand, turn by turn, in new tuples -/
def ItZ2 (K : PySem.W.Frag) (k1 k2 : Bool) (l1 l2 : Addr) (ys1 ys2 : List V) : It :=
  ⟨fun i H => (SqS K H k1 l1 ys1 ∧ SqS K H k2 l2 ys2) ∧ i < ys1.length ∧ i < ys2.length, fun i H v H' => ∃ (T : Addr) (x1 x2 : V), v = .ref T ∧ H T = none ∧ H' = upd H T (.tup [x1, x2]) ∧ ys1[i]? = some x1 ∧ ys2[i]? = some x2, fun i H => (SqS K H k1 l1 ys1 ∧ SqS K H k2 l2 ys2) ∧ (ys1.length ≤ i ∨ ys2.length ≤ i)⟩
theorem turn_z2 {P : Program} {w : World} {K : PySem.W.Frag} {elts : List Expr} {kk : Nat} {tpos : Pos} {z TI TO i1 i2 l1 l2 : Addr} {k1 k2 : Bool} {ys1 ys2 : List V} (D : ZA2 z TI TO i1 i2 l1 l2) :
    Turn P w K (.Tuple elts kk tpos) (ItZ2 K k1 k2 l1 l2 ys1 ys2) [z, TI, TO, i1, i2] z (fun i h => IsZip h z TI TO .none ∧ IsT h TI #[.ref i1, .ref i2] ∧ (∃ o1 o2 : Value, IsT h TO #[o1, o2]) ∧ SIt h k1 i1 l1 i ∧ SIt h k2 i2 l2 i) where
  mem := by simp
  obj := fun i h ⟨hz, hTI, ⟨o1, o2, hTO⟩, h1, h2⟩ c hc => by
    have e' : c = z ∨ c = TI ∨ c = TO ∨ c = i1 ∨ c = i2 := by simpa using hc
    rcases e' with q | q | q | q | q
    · rw [q]; exact ⟨_, hz, fun v q => nomatch q⟩
    · rw [q]; exact ⟨_, hTI, fun v q => nomatch q⟩
    · rw [q]; exact ⟨_, hTO, fun v q => nomatch q⟩
    · rw [q]; exact h1.ob
    · rw [q]; exact h2.ob
  keep := fun i h h' ⟨hz, hTI, ⟨o1, o2, hTO⟩, h1, h2⟩ k => ⟨k z (by simp) _ hz, k TI (by simp) _ hTI, ⟨o1, o2, k TO (by simp) _ hTO⟩, h1.at fun o q => k i1 (by simp) o q, h2.at fun o q => k i2 (by simp) o q⟩
  item := by
    intro X hP hw hK hc i pins s σ H E I hf st hg
    subst hP hw hK
    obtain ⟨hz, hTI, ⟨o1, o2, hTO⟩, h1, h2⟩ := st
    obtain ⟨⟨q1, q2⟩, b1, b2⟩ := hg
    obtain ⟨its1, rv1, p1⟩ := Inv.srcS I q1
    have hx1 : ys1[i]? = some (ys1[i]'b1) := List.getElem?_eq_getElem b1
    generalize ys1[i]'b1 = x1 at hx1
    obtain ⟨u1, hu1, ru1⟩ := rv1.get hx1
    obtain ⟨its2, rv2, p2⟩ := Inv.srcS I q2
    have hx2 : ys2[i]? = some (ys2[i]'b2) := List.getElem?_eq_getElem b2
    generalize ys2[i]'b2 = x2 at hx2
    obtain ⟨u2, hu2, ru2⟩ := rv2.get hx2
    have hzl : z < s.heap.objs.size := Heap.lt_size hz
    refine pyNext_zip2 D hz hTI hTO h1 p1 h2 p2 (by simpa using hu1) (by simpa using hu2) fun h' z' TO' n1 n2 hT hsz hk => ?_
    refine ⟨_, rfl, wpAny_letOwnedTupleGo_zip (s := { s with heap := h' }) z' fun hq z2 sb => ?_⟩
    have hT2 : IsT hq s.heap.objs.size #[u1, u2] := (sb.2 _ (Nat.ne_of_gt hzl)).trans hT
    have new : ObjOk X.prog X.w (upd H s.heap.objs.size (.tup [x1, x2])) hq s.heap.objs.size (.tup [x1, x2]) :=
      ⟨by show 2 ≤ sizeLine; decide, [u1, u2], .cons ru1 (.cons ru2 (.nil)), ⟨_, hT2, rfl, _, rfl⟩⟩
    have I1 : L2.Inv X pins σ (upd H s.heap.objs.size (.tup [x1, x2])) { s with heap := hq } :=
      I.turnedNew (t' := s.toks) (ch := [z, TI, TO, i1, i2]) (fun c o hb q => (sb.2 c (fun q' => hb (by simp [q']))).trans (hk c o (fun q' => hb (by simp [q'])) (fun q' => hb (by simp [q'])) (fun q' => hb (by simp [q'])) (fun q' => hb (by simp [q'])) q)) hf (Nat.le_refl _) new
    refine ⟨.ref s.heap.objs.size, _, I1, rfl, ⟨_, x1, x2, rfl, I.hok.fresh (Nat.le_refl _), rfl, hx1, hx2⟩, ⟨z2, ?_, ⟨u1, u2, ?_⟩, ?_, ?_⟩, fun c hcm => ?_⟩
    · exact (sb.2 _ D.TIz).trans (hk _ _ D.TIz D.TITO D.TIi1 D.TIi2 hTI)
    · exact (sb.2 _ D.TOz).trans TO'
    · exact n1.at fun o q => (sb.2 _ D.i1z).trans q
    · exact n2.at fun o q => (sb.2 _ D.i2z).trans q
    · have hlt : c < s.heap.objs.size := by
        have e' : c = z ∨ c = TI ∨ c = TO ∨ c = i1 ∨ c = i2 := by simpa using hcm
        rcases e' with q | q | q | q | q
        · rw [q]; exact hzl
        · rw [q]; exact Heap.lt_size hTI
        · rw [q]; exact Heap.lt_size hTO
        · rw [q]; exact h1.lt
        · rw [q]; exact h2.lt
      rw [upd_ne (Nat.ne_of_lt hlt)]
      exact (hf c hcm).1
  done := by
    intro X hP hw hK hc i pins s σ H E I hf st hg
    subst hP hw hK
    obtain ⟨hz, hTI, ⟨o1, o2, hTO⟩, h1, h2⟩ := st
    obtain ⟨⟨q1, q2⟩, hend⟩ := hg
    obtain ⟨its1, rv1, p1⟩ := Inv.srcS I q1
    have e1 := rv1.length
    obtain ⟨its2, rv2, p2⟩ := Inv.srcS I q2
    have e2 := rv2.length
    have he : its1.toArray[i]? = none ∨ its2.toArray[i]? = none := by
      rcases hend with q | q
      · exact .inl (by simp; omega)
      · exact .inr (by simp; omega)
    exact pyNext_zip2_end (I.ok.hd hc) D hz hTI hTO h1 p1 h2 p2 he fun h' hk => ⟨rfl, I.turnedL (t' := s.toks) (ch := [z, TI, TO, i1, i2]) (fun c o hb q => hk c o (fun q' => hb (by simp [q'])) (fun q' => hb (by simp [q'])) (fun q' => hb (by simp [q'])) (fun q' => hb (by simp [q'])) q) hf⟩
  self := fun A i s Q E st h => wpAny_pyIter_zip st.1 h
def iZ2 (K : PySem.W.Frag) (ta : TA) : TI := fun σ H R => ta σ H fun vs H1 => ∃ (k1 k2 : Bool) (l1 l2 : Addr) (ys1 ys2 : List V), vs = [.ref l1, .ref l2] ∧ (SqS K H1 k1 l1 ys1 ∧ SqS K H1 k2 l2 ys2) ∧ R (ItZ2 K k1 k2 l1 l2 ys1 ys2) H1
theorem pi_z2 {X : Cx} {e1 e2 : Expr} {ta : TA} {p pos tpos : Pos} {elts : List Expr} {kk : Nat} (hg : Gl X "zip") (hm : X.mg "zip" = none) (ha : PA X [e1, e2] ta)
    (hs : starEach [e1, e2] X.env = (false, eval e1 X.env) :: starEach [e2] X.env := by rfl) (hpl : (backTo pos (starEach [e2] X.env)).any (·.1) = false := by rfl) :
    PI X (.Tuple elts kk tpos) (.Call (.Name "zip" p) [e1, e2] [] pos) (iZ2 X.K ta) := by
  refine ⟨fun pins s σ H R I h => ?_⟩
  refine Call_ (ld_blt I hg hm PyProof.Rows.boot_zip (PyProof.Rows.callWith_type1 (thn (ha.run pos pins s σ H _ I h) fun us s1 ⟨vs, H1, I1, r1, q1⟩ => ?_) hs hpl))
  obtain ⟨k1, k2, l1, l2, ys1, ys2, ex, ⟨q1, q2⟩, q⟩ := q1
  subst ex
  cases r1 with
  | cons r1v rr =>
    cases rr with
    | cons r2v rr =>
      cases rr
      cases r1v
      cases r2v
      obtain ⟨its1, rv1, p1⟩ := Inv.srcS I1 q1
      obtain ⟨its2, rv2, p2⟩ := Inv.srcS I1 q2
      have fresh : ∀ c, c ∈ ([s1.heap.objs.size + 4, s1.heap.objs.size + 2, s1.heap.objs.size + 3, s1.heap.objs.size, s1.heap.objs.size + 1] : List Addr) → FpOk X pins H1 c := fun c hcm => by
        have e' : c = s1.heap.objs.size + 4 ∨ c = s1.heap.objs.size + 2 ∨ c = s1.heap.objs.size + 3 ∨ c = s1.heap.objs.size ∨ c = s1.heap.objs.size + 1 := by simpa using hcm
        have hle : s1.heap.objs.size ≤ c := by rcases e' with z | z | z | z | z <;> (rw [z]; first | exact Nat.le_refl _ | exact Nat.le_add_right _ _)
        exact I1.fpOk hle (I1.hok.fresh hle)
      refine call_zip2 p1 p2 fun h' hz hTI hTO n1 n2 hk => wpAny_pyIter_zip hz ?_
      have I2 : L2.Inv X pins σ H1 { s1 with heap := h' } := I1.kept (t' := s1.toks) hk
      exact ⟨s1.heap.objs.size + 4, [s1.heap.objs.size + 4, s1.heap.objs.size + 2, s1.heap.objs.size + 3, s1.heap.objs.size, s1.heap.objs.size + 1], _, _, H1, rfl, I2, turn_z2 (za2 p1.lt p2.lt), ⟨hz, hTI, ⟨_, _, hTO⟩, n1, n2⟩, fresh, q⟩
/-- a datum's items, by their places -/
def seqQ : D → Option (List D)
  | .lst xs => some xs
  | .tup xs => some xs
  | .scr ns => some (ns.map D.int)
  | _ => none
theorem seqQ_rep {G : GC} {F H : Hp} {v : V} {d : D} {ds : List D} (s : Same F H) (r : Rep G F v d) (e : seqQ d = some ds) : ∃ k a ys, v = .ref a ∧ SqS G.K H k a ys ∧ RepAll G F ys ds := by
  cases r with
  | tup h ra => cases e; exact ⟨false, _, _, rfl, Same.sqT s h, ra⟩
  | lst h ra => cases e; exact ⟨true, _, _, rfl, .of (s _ _ h), ra⟩
  | scr h => cases e; exact ⟨true, _, _, rfl, s.seq h, ints_rep _⟩
  | _ => cases e
def zipL2 (xs ys : List D) : List D := (xs.zip ys).map fun p => .tup [p.1, p.2]
def zipL3 (xs ys zs : List D) : List D := (xs.zip (ys.zip zs)).map fun p => .tup [p.1, p.2.1, p.2.2]
def zip2D : List D → Res (List D)
  | [a, b] => match seqQ a, seqQ b with
    | some xs, some ys => .ok (zipL2 xs ys)
    | _, _ => .bad
  | _ => .bad
def zip3D : List D → Res (List D)
  | [a, b, c] => match seqQ a, seqQ b, seqQ c with
    | some xs, some ys, some zs => .ok (zipL3 xs ys zs)
    | _, _, _ => .bad
  | _ => .bad
theorem zip2D_inv (ds : List D) : (∃ a b xs ys, ds = [a, b] ∧ seqQ a = some xs ∧ seqQ b = some ys ∧ zip2D ds = .ok (zipL2 xs ys)) ∨ zip2D ds = .bad := by
  unfold zip2D
  split
  · rename_i a b
    split
    · rename_i xs ys h1 h2; exact .inl ⟨a, b, xs, ys, rfl, h1, h2, rfl⟩
    · exact .inr rfl
  · exact .inr rfl
theorem zip3D_inv (ds : List D) : (∃ a b c xs ys zs, ds = [a, b, c] ∧ seqQ a = some xs ∧ seqQ b = some ys ∧ seqQ c = some zs ∧ zip3D ds = .ok (zipL3 xs ys zs)) ∨ zip3D ds = .bad := by
  unfold zip3D
  split
  · rename_i a b c
    split
    · rename_i xs ys zs h1 h2 h3; exact .inl ⟨a, b, c, xs, ys, zs, rfl, h1, h2, h3, rfl⟩
    · exact .inr rfl
  · exact .inr rfl
theorem WalkD.zip2 {G : GC} {F : Hp} {k1 k2 : Bool} {l1 l2 : Addr} {ys1 ys2 : List V} {d1 d2 : List D} (hs : SqS G.K F k1 l1 ys1 ∧ SqS G.K F k2 l2 ys2) (r1 : RepAll G F ys1 d1) (r2 : RepAll G F ys2 d2) : WalkD G F F (ItZ2 G.K k1 k2 l1 l2 ys1 ys2) (zipL2 d1 d2) where
  goes := fun i H hi s => by
    obtain ⟨q1, q2⟩ := hs
    have w1 := r1.length
    have w2 := r2.length
    simp only [zipL2, List.length_map, List.length_zip] at hi
    exact ⟨⟨q1.keep s, q2.keep s⟩, by omega, by omega⟩
  stops := fun H s => by
    obtain ⟨q1, q2⟩ := hs
    have w1 := r1.length
    have w2 := r2.length
    refine ⟨⟨q1.keep s, q2.keep s⟩, ?_⟩
    simp only [zipL2, List.length_map, List.length_zip]
    omega
  yields := fun i F2 H2 v H3 hi s1 s2 _ ⟨T, x1, x2, e1, e2, e3, g1, g2⟩ => by
    subst e1 e3
    obtain ⟨c1, t1, m1⟩ := r1.getV g1
    obtain ⟨c2, t2, m2⟩ := r2.getV g2
    refine ⟨_, .tup [c1, c2], Grow.mk1 s2 e2, ?_, Rep.tup (.of upd_same) (.cons ((m1.mono s1).mono (Grow.mk1 s2 e2).f) (.cons ((m2.mono s1).mono (Grow.mk1 s2 e2).f) (.nil)))⟩
    unfold zipL2
    have hz : (d1.zip d2)[i]? = some (c1, c2) := List.getElem?_zip_eq_some.mpr ⟨t1, t2⟩
    rw [List.getElem?_map, hz]
    rfl
theorem ri_zip2 {X : Cx} {W : Wi} {e1 e2 : Expr} {p pos tpos : Pos} {elts : List Expr} {kk : Nat} {fa : Env → Res (List D)} (hm : X.mg "zip" = none) (ha : RA X W [e1, e2] fa) (hg : Gl X "zip" := by rfl)
    (hs : starEach [e1, e2] X.env = (false, eval e1 X.env) :: starEach [e2] X.env := by rfl) (hpl : (backTo pos (starEach [e2] X.env)).any (·.1) = false := by rfl) :
    RI X W true (.Tuple elts kk tpos) (.Call (.Name "zip" p) [e1, e2] [] pos) (fun r => fa r >>= zip2D) := by
  refine ⟨fun pins s σ H R I ⟨H0, F0, fp, F, r, m, o⟩ => (pi_z2 hg hm ha hs hpl).run pins s σ H R I ⟨H0, F0, fp, F, r, m, o.bind fun F' H' ds gr o2 vs rv => ?_⟩⟩
  rcases zip2D_inv ds with ⟨a, b, xs, ys, rfl, w1, w2, e⟩ | e
  · rw [e] at o2
    cases rv with
    | cons v1 rr =>
      cases rr with
      | cons v2 rr =>
        cases rr
        obtain ⟨k1, l1, ys1, rfl, q1, r1⟩ := seqQ_rep (Same.refl F') v1 w1
        obtain ⟨k2, l2, ys2, rfl, q2, r2⟩ := seqQ_rep (Same.refl F') v2 w2
        refine ⟨k1, k2, l1, l2, ys1, ys2, rfl, ⟨q1.keep gr.sub, q2.keep gr.sub⟩, o2 F' H' (Grow.refl gr.sub) _ (WalkD.zip2 ⟨q1, q2⟩ r1 r2)⟩
  · rw [e] at o2; exact o2.elim
structure ZA3 (z TI TO i1 i2 i3 l1 l2 l3 : Addr) : Prop where
  TIz : TI ≠ z
  TOz : TO ≠ z
  TITO : TI ≠ TO
  i1z : i1 ≠ z
  TIi1 : TI ≠ i1
  TOi1 : TO ≠ i1
  l1z : l1 ≠ z
  l1TO : l1 ≠ TO
  l1i1 : l1 ≠ i1
  l1i2 : l1 ≠ i2
  i1i2 : i1 ≠ i2
  l1i3 : l1 ≠ i3
  i1i3 : i1 ≠ i3
  i2z : i2 ≠ z
  TIi2 : TI ≠ i2
  TOi2 : TO ≠ i2
  l2z : l2 ≠ z
  l2TO : l2 ≠ TO
  l2i1 : l2 ≠ i1
  l2i2 : l2 ≠ i2
  l2i3 : l2 ≠ i3
  i2i3 : i2 ≠ i3
  i3z : i3 ≠ z
  TIi3 : TI ≠ i3
  TOi3 : TO ≠ i3
  l3z : l3 ≠ z
  l3TO : l3 ≠ TO
  l3i1 : l3 ≠ i1
  l3i2 : l3 ≠ i2
  l3i3 : l3 ≠ i3
section
variable {prog : Program} {w : World} {A : Around} {E : Value → Shared → Prop} {s : Shared}
theorem zip3_item {z TI TO i1 i2 i3 l1 l2 l3 : Addr} {k1 k2 k3 : Bool} {p : Nat} {xs1 xs2 xs3 : Array Value} {x1 x2 x3 o1 o2 o3 : Value} {Q : Value → Shared → Prop} (D : ZA3 z TI TO i1 i2 i3 l1 l2 l3) (hz : IsZip s.heap z TI TO .none) (hTI : IsT s.heap TI #[.ref i1, .ref i2, .ref i3]) (hTO : IsT s.heap TO #[o1, o2, o3]) (h1 : SIt s.heap k1 i1 l1 p) (hl1 : SSrc s.heap k1 l1 xs1) (h2 : SIt s.heap k2 i2 l2 p) (hl2 : SSrc s.heap k2 l2 xs2) (h3 : SIt s.heap k3 i3 l3 p) (hl3 : SSrc s.heap k3 l3 xs3) (hx1 : xs1[p]? = some x1) (hx2 : xs2[p]? = some x2) (hx3 : xs3[p]? = some x3)
    (hQ : ∀ h', IsZip h' z TI TO (rawInt s.heap.objs.size) → IsT h' TO #[x1, x2, x3] → SIt h' k1 i1 l1 (p + 1) → SIt h' k2 i2 l2 (p + 1) → SIt h' k3 i3 l3 (p + 1) → IsT h' s.heap.objs.size #[x1, x2, x3] → h'.objs.size = s.heap.objs.size + 1 → (∀ c o, c ≠ z → c ≠ TO → c ≠ i1 → c ≠ i2 → c ≠ i3 → s.heap.get? c = some o → h'.get? c = some o) → Q (.ref s.heap.objs.size) { s with heap := h' }) :
    wpAny (model prog w) A (Builtin.«zip.__next__» ⟨[.ref z], []⟩) (fun fin s' => ∃ v, fin = .done (.ret v) ∧ Q v s') E s := by
  show wpAny _ _ (field (.ref z) 2 >>= _) _ _ _
  refine wpAny_bind (wpAny_field hz rfl (x := .bool false) rfl ?_)
  show wpAny _ _ (field (.ref z) 3 >>= _) _ _ _
  refine wpAny_bind (wpAny_field hz rfl (x := .ref TI) rfl ?_)
  refine wpAny_bind (wpAny_seqItems hTI rfl ?_)
  show wpAny _ _ (Builtin.SmallTypes.ownedTupleIsFree (.ref z) >>= _) _ _ _
  refine wpAny_bind ?_
  unfold Builtin.SmallTypes.ownedTupleIsFree
  refine wpAny_bind (wpAny_field hz rfl (x := .none) rfl (wpAny_pure ?_))
  simp only [if_true]
  refine wpAny_bind (wpAny_rule ?_)
  refine wpAny_bind (wpAny_field hz rfl (x := .ref TO) rfl ?_)
  refine wpAny_bind (wpAny_setField_rec hz (by simp) fun g0 zz0 s0 => ?_)
  replace zz0 : IsZip g0 z TI TO .ellipsis := zz0
  have K0 : ∀ c o, c ≠ z → s.heap.get? c = some o → g0.get? c = some o := fun c o c1 e => s0.extBut _ _ c1 e
  have T0 : IsT g0 TO #[o1, o2, o3] := K0 _ _ D.TOz hTO
  have Z0 : g0.objs.size = s.heap.objs.size := s0.1
  refine wpAny_bind ?_
  simp only [List.zipIdx_cons, List.zipIdx_nil, List.forIn_cons, List.forIn_nil]
  refine wpAny_bind (wpAny_bind (wpAny_onRaise ?_))
  show wpAny _ _ (Builtin.SmallTypes.nextOf (.ref i1) >>= _) _ _ _
  have I1 : SIt g0 k1 i1 l1 p := h1.at fun o e => K0 _ o (D.i1z) e
  have L1 : SSrc g0 k1 l1 xs1 := hl1.at fun o e => K0 _ o (D.l1z) e
  refine wpAny_bind (nextS_item I1 L1 hx1 fun a1 n1 sa1 => wpAny_pure ?_)
  have Ta1 : IsT a1 TO #[o1, o2, o3] := sa1.extBut _ _ (D.TOi1) T0
  refine wpAny_bind (wpAny_seqItems Ta1 rfl ?_)
  refine wpAny_bind (updT Ta1 (by simp) fun g1 T1 st1 => ?_)
  replace T1 : IsT g1 TO #[x1, o2, o3] := T1
  have K1 : ∀ c o, c ≠ z → c ≠ TO → c ≠ i1 → s.heap.get? c = some o → g1.get? c = some o := fun c o c0 c1 c2 e => st1.extBut _ _ c1 (sa1.extBut _ _ c2 (K0 c o c0 e))
  have zz1 : IsZip g1 z TI TO .ellipsis := st1.extBut _ _ (D.TOz.symm) (sa1.extBut _ _ (D.i1z.symm) zz0)
  have Z1 : g1.objs.size = s.heap.objs.size := by rw [st1.1, sa1.1, Z0]
  have N1_1 : SIt g1 k1 i1 l1 (p + 1) := n1.at fun o e => st1.extBut _ _ (D.TOi1.symm) e
  refine wpAny_bind (wpAny_letGo (wpAny_pure ?_))
  refine wpAny_bind (wpAny_bind (wpAny_onRaise ?_))
  show wpAny _ _ (Builtin.SmallTypes.nextOf (.ref i2) >>= _) _ _ _
  have I2 : SIt g1 k2 i2 l2 p := h2.at fun o e => K1 _ o (D.i2z) (D.TOi2.symm) (D.i1i2.symm) e
  have L2 : SSrc g1 k2 l2 xs2 := hl2.at fun o e => K1 _ o (D.l2z) (D.l2TO) (D.l2i1) e
  refine wpAny_bind (nextS_item I2 L2 hx2 fun a2 n2 sa2 => wpAny_pure ?_)
  have Ta2 : IsT a2 TO #[x1, o2, o3] := sa2.extBut _ _ (D.TOi2) T1
  refine wpAny_bind (wpAny_seqItems Ta2 rfl ?_)
  refine wpAny_bind (updT Ta2 (by simp) fun g2 T2 st2 => ?_)
  replace T2 : IsT g2 TO #[x1, x2, o3] := T2
  have K2 : ∀ c o, c ≠ z → c ≠ TO → c ≠ i1 → c ≠ i2 → s.heap.get? c = some o → g2.get? c = some o := fun c o c0 c1 c2 c3 e => st2.extBut _ _ c1 (sa2.extBut _ _ c3 (K1 c o c0 c1 c2 e))
  have zz2 : IsZip g2 z TI TO .ellipsis := st2.extBut _ _ (D.TOz.symm) (sa2.extBut _ _ (D.i2z.symm) zz1)
  have Z2 : g2.objs.size = s.heap.objs.size := by rw [st2.1, sa2.1, Z1]
  have N2_2 : SIt g2 k2 i2 l2 (p + 1) := n2.at fun o e => st2.extBut _ _ (D.TOi2.symm) e
  have N1_2 : SIt g2 k1 i1 l1 (p + 1) := N1_1.at fun o e => st2.extBut _ _ (D.TOi1.symm) (sa2.extBut _ _ (D.i1i2) e)
  refine wpAny_bind (wpAny_letGo (wpAny_pure ?_))
  refine wpAny_bind (wpAny_bind (wpAny_onRaise ?_))
  show wpAny _ _ (Builtin.SmallTypes.nextOf (.ref i3) >>= _) _ _ _
  have I3 : SIt g2 k3 i3 l3 p := h3.at fun o e => K2 _ o (D.i3z) (D.TOi3.symm) (D.i1i3.symm) (D.i2i3.symm) e
  have L3 : SSrc g2 k3 l3 xs3 := hl3.at fun o e => K2 _ o (D.l3z) (D.l3TO) (D.l3i1) (D.l3i2) e
  refine wpAny_bind (nextS_item I3 L3 hx3 fun a3 n3 sa3 => wpAny_pure ?_)
  have Ta3 : IsT a3 TO #[x1, x2, o3] := sa3.extBut _ _ (D.TOi3) T2
  refine wpAny_bind (wpAny_seqItems Ta3 rfl ?_)
  refine wpAny_bind (updT Ta3 (by simp) fun g3 T3 st3 => ?_)
  replace T3 : IsT g3 TO #[x1, x2, x3] := T3
  have K3 : ∀ c o, c ≠ z → c ≠ TO → c ≠ i1 → c ≠ i2 → c ≠ i3 → s.heap.get? c = some o → g3.get? c = some o := fun c o c0 c1 c2 c3 c4 e => st3.extBut _ _ c1 (sa3.extBut _ _ c4 (K2 c o c0 c1 c2 c3 e))
  have zz3 : IsZip g3 z TI TO .ellipsis := st3.extBut _ _ (D.TOz.symm) (sa3.extBut _ _ (D.i3z.symm) zz2)
  have Z3 : g3.objs.size = s.heap.objs.size := by rw [st3.1, sa3.1, Z2]
  have N3_3 : SIt g3 k3 i3 l3 (p + 1) := n3.at fun o e => st3.extBut _ _ (D.TOi3.symm) e
  have N1_3 : SIt g3 k1 i1 l1 (p + 1) := N1_2.at fun o e => st3.extBut _ _ (D.TOi1.symm) (sa3.extBut _ _ (D.i1i3) e)
  have N2_3 : SIt g3 k2 i2 l2 (p + 1) := N2_2.at fun o e => st3.extBut _ _ (D.TOi2.symm) (sa3.extBut _ _ (D.i2i3) e)
  refine wpAny_bind (wpAny_letGo (wpAny_pure (wpAny_pure ?_)))
  refine wpAny_bind (wpAny_seqItems T3 rfl ?_)
  refine wpAny_bind (wpAny_newTuple ?_)
  show wpAny _ _ (Builtin.SmallTypes.ownedTupleHandOut (.ref z) (.ref g3.objs.size) >>= _) _ _ _
  refine wpAny_bind ?_
  unfold Builtin.SmallTypes.ownedTupleHandOut
  have hzl : z < g3.objs.size := Heap.lt_size zz3
  have zp : IsZip (g3.push { cls := .type "tuple", data := .seq #[x1, x2, x3] }) z TI TO .ellipsis := Heap.get?_push_of_some _ zz3
  refine wpAny_bind (wpAny_setField_rec zp (by simp) fun e7 z7 s7 => ?_)
  replace z7 : IsZip e7 z TI TO (rawInt g3.objs.size) := z7
  refine wpAny_setField_rec z7 (by simp) fun e8 z8 s8 => ?_
  replace z8 : IsZip e8 z TI TO (rawInt g3.objs.size) := z8
  have up : ∀ c o, c ≠ z → g3.get? c = some o → e8.get? c = some o := fun c o c1 e => s8.extBut _ _ c1 (s7.extBut _ _ c1 (Heap.get?_push_of_some _ e))
  have t8 : IsT e8 g3.objs.size #[x1, x2, x3] := s8.extBut _ _ (Nat.ne_of_gt hzl) (s7.extBut _ _ (Nat.ne_of_gt hzl) (Heap.get?_push_size _ rfl))
  have y8 : e8.objs.size = g3.objs.size + 1 := by rw [s8.1, s7.1, Heap.size_push]
  rw [Z3] at z8 t8 y8
  refine wpAny_pure ⟨_, rfl, ?_⟩
  show Q (.ref g3.objs.size) _
  rw [Z3]
  exact hQ e8 z8 (up _ _ D.TOz T3) (N1_3.at fun o e => up _ o D.i1z e) (N2_3.at fun o e => up _ o D.i2z e) (N3_3.at fun o e => up _ o D.i3z e) t8 y8 fun c o c0 c1 c2 c3 c4 e => up c o c0 (K3 c o c0 c1 c2 c3 c4 e)
theorem zip3_end {z TI TO i1 i2 i3 l1 l2 l3 : Addr} {k1 k2 k3 : Bool} {p : Nat} {xs1 xs2 xs3 : Array Value} {o1 o2 o3 : Value} {Q : Fin → Shared → Prop} (hh : A.handled = none) (D : ZA3 z TI TO i1 i2 i3 l1 l2 l3) (hz : IsZip s.heap z TI TO .none) (hTI : IsT s.heap TI #[.ref i1, .ref i2, .ref i3]) (hTO : IsT s.heap TO #[o1, o2, o3]) (h1 : SIt s.heap k1 i1 l1 p) (hl1 : SSrc s.heap k1 l1 xs1) (h2 : SIt s.heap k2 i2 l2 p) (hl2 : SSrc s.heap k2 l2 xs2) (h3 : SIt s.heap k3 i3 l3 p) (hl3 : SSrc s.heap k3 l3 xs3) (hend : xs1[p]? = none ∨ xs2[p]? = none ∨ xs3[p]? = none)
    (hE : ∀ h' e, (∀ c o, c ≠ z → c ≠ TO → c ≠ i1 → c ≠ i2 → c ≠ i3 → s.heap.get? c = some o → h'.get? c = some o) → (∃ o, h'.get? e = some o ∧ o.cls = .type "StopIteration") → E (.ref e) { s with heap := h' }) :
    wpAny (model prog w) A (Builtin.«zip.__next__» ⟨[.ref z], []⟩) Q E s := by
  show wpAny _ _ (field (.ref z) 2 >>= _) _ _ _
  refine wpAny_bind (wpAny_field hz rfl (x := .bool false) rfl ?_)
  show wpAny _ _ (field (.ref z) 3 >>= _) _ _ _
  refine wpAny_bind (wpAny_field hz rfl (x := .ref TI) rfl ?_)
  refine wpAny_bind (wpAny_seqItems hTI rfl ?_)
  show wpAny _ _ (Builtin.SmallTypes.ownedTupleIsFree (.ref z) >>= _) _ _ _
  refine wpAny_bind ?_
  unfold Builtin.SmallTypes.ownedTupleIsFree
  refine wpAny_bind (wpAny_field hz rfl (x := .none) rfl (wpAny_pure ?_))
  simp only [if_true]
  refine wpAny_bind (wpAny_rule ?_)
  refine wpAny_bind (wpAny_field hz rfl (x := .ref TO) rfl ?_)
  refine wpAny_bind (wpAny_setField_rec hz (by simp) fun g0 zz0 s0 => ?_)
  replace zz0 : IsZip g0 z TI TO .ellipsis := zz0
  have K0 : ∀ c o, c ≠ z → s.heap.get? c = some o → g0.get? c = some o := fun c o c1 e => s0.extBut _ _ c1 e
  have T0 : IsT g0 TO #[o1, o2, o3] := K0 _ _ D.TOz hTO
  have Z0 : g0.objs.size = s.heap.objs.size := s0.1
  refine wpAny_bind ?_
  simp only [List.zipIdx_cons, List.zipIdx_nil, List.forIn_cons, List.forIn_nil]
  refine wpAny_bind (wpAny_bind (wpAny_onRaise ?_))
  show wpAny _ _ (Builtin.SmallTypes.nextOf (.ref i1) >>= _) _ _ _
  have I1 : SIt g0 k1 i1 l1 p := h1.at fun o e => K0 _ o (D.i1z) e
  have L1 : SSrc g0 k1 l1 xs1 := hl1.at fun o e => K0 _ o (D.l1z) e
  cases hx1 : xs1[p]? with
  | none =>
    refine wpAny_bind (nextS_end hh I1 L1 hx1 fun ae e xe he => ?_)
    obtain ⟨oe, hoe, hce⟩ := he
    have ze : IsZip ae z TI TO .ellipsis := xe _ _ (D.i1z.symm) zz0
    have hez : e ≠ z := fun q => by subst q; rw [ze] at hoe; cases hoe; simp at hce
    refine wpAny_setField_rec ze (by simp) fun be _ sb => hE be e (fun c o c0 c1 c2 c3 c4 q => sb.extBut _ _ c0 (xe _ _ c2 (K0 c o c0 q))) ⟨oe, sb.extBut _ _ hez hoe, hce⟩
  | some x1 =>
    refine wpAny_bind (nextS_item I1 L1 hx1 fun a1 n1 sa1 => wpAny_pure ?_)
    have Ta1 : IsT a1 TO #[o1, o2, o3] := sa1.extBut _ _ (D.TOi1) T0
    refine wpAny_bind (wpAny_seqItems Ta1 rfl ?_)
    refine wpAny_bind (updT Ta1 (by simp) fun g1 T1 st1 => ?_)
    replace T1 : IsT g1 TO #[x1, o2, o3] := T1
    have K1 : ∀ c o, c ≠ z → c ≠ TO → c ≠ i1 → s.heap.get? c = some o → g1.get? c = some o := fun c o c0 c1 c2 e => st1.extBut _ _ c1 (sa1.extBut _ _ c2 (K0 c o c0 e))
    have zz1 : IsZip g1 z TI TO .ellipsis := st1.extBut _ _ (D.TOz.symm) (sa1.extBut _ _ (D.i1z.symm) zz0)
    have Z1 : g1.objs.size = s.heap.objs.size := by rw [st1.1, sa1.1, Z0]
    have N1_1 : SIt g1 k1 i1 l1 (p + 1) := n1.at fun o e => st1.extBut _ _ (D.TOi1.symm) e
    refine wpAny_bind (wpAny_letGo (wpAny_pure ?_))
    refine wpAny_bind (wpAny_bind (wpAny_onRaise ?_))
    show wpAny _ _ (Builtin.SmallTypes.nextOf (.ref i2) >>= _) _ _ _
    have I2 : SIt g1 k2 i2 l2 p := h2.at fun o e => K1 _ o (D.i2z) (D.TOi2.symm) (D.i1i2.symm) e
    have L2 : SSrc g1 k2 l2 xs2 := hl2.at fun o e => K1 _ o (D.l2z) (D.l2TO) (D.l2i1) e
    cases hx2 : xs2[p]? with
    | none =>
      refine wpAny_bind (nextS_end hh I2 L2 hx2 fun ae e xe he => ?_)
      obtain ⟨oe, hoe, hce⟩ := he
      have ze : IsZip ae z TI TO .ellipsis := xe _ _ (D.i2z.symm) zz1
      have hez : e ≠ z := fun q => by subst q; rw [ze] at hoe; cases hoe; simp at hce
      refine wpAny_setField_rec ze (by simp) fun be _ sb => hE be e (fun c o c0 c1 c2 c3 c4 q => sb.extBut _ _ c0 (xe _ _ c3 (K1 c o c0 c1 c2 q))) ⟨oe, sb.extBut _ _ hez hoe, hce⟩
    | some x2 =>
      refine wpAny_bind (nextS_item I2 L2 hx2 fun a2 n2 sa2 => wpAny_pure ?_)
      have Ta2 : IsT a2 TO #[x1, o2, o3] := sa2.extBut _ _ (D.TOi2) T1
      refine wpAny_bind (wpAny_seqItems Ta2 rfl ?_)
      refine wpAny_bind (updT Ta2 (by simp) fun g2 T2 st2 => ?_)
      replace T2 : IsT g2 TO #[x1, x2, o3] := T2
      have K2 : ∀ c o, c ≠ z → c ≠ TO → c ≠ i1 → c ≠ i2 → s.heap.get? c = some o → g2.get? c = some o := fun c o c0 c1 c2 c3 e => st2.extBut _ _ c1 (sa2.extBut _ _ c3 (K1 c o c0 c1 c2 e))
      have zz2 : IsZip g2 z TI TO .ellipsis := st2.extBut _ _ (D.TOz.symm) (sa2.extBut _ _ (D.i2z.symm) zz1)
      have Z2 : g2.objs.size = s.heap.objs.size := by rw [st2.1, sa2.1, Z1]
      have N2_2 : SIt g2 k2 i2 l2 (p + 1) := n2.at fun o e => st2.extBut _ _ (D.TOi2.symm) e
      have N1_2 : SIt g2 k1 i1 l1 (p + 1) := N1_1.at fun o e => st2.extBut _ _ (D.TOi1.symm) (sa2.extBut _ _ (D.i1i2) e)
      refine wpAny_bind (wpAny_letGo (wpAny_pure ?_))
      refine wpAny_bind (wpAny_bind (wpAny_onRaise ?_))
      show wpAny _ _ (Builtin.SmallTypes.nextOf (.ref i3) >>= _) _ _ _
      have I3 : SIt g2 k3 i3 l3 p := h3.at fun o e => K2 _ o (D.i3z) (D.TOi3.symm) (D.i1i3.symm) (D.i2i3.symm) e
      have L3 : SSrc g2 k3 l3 xs3 := hl3.at fun o e => K2 _ o (D.l3z) (D.l3TO) (D.l3i1) (D.l3i2) e
      cases hx3 : xs3[p]? with
      | none =>
        refine wpAny_bind (nextS_end hh I3 L3 hx3 fun ae e xe he => ?_)
        obtain ⟨oe, hoe, hce⟩ := he
        have ze : IsZip ae z TI TO .ellipsis := xe _ _ (D.i3z.symm) zz2
        have hez : e ≠ z := fun q => by subst q; rw [ze] at hoe; cases hoe; simp at hce
        refine wpAny_setField_rec ze (by simp) fun be _ sb => hE be e (fun c o c0 c1 c2 c3 c4 q => sb.extBut _ _ c0 (xe _ _ c4 (K2 c o c0 c1 c2 c3 q))) ⟨oe, sb.extBut _ _ hez hoe, hce⟩
      | some x3 =>
        rcases hend with q | q | q
        · rw [hx1] at q; cases q
        · rw [hx2] at q; cases q
        · rw [hx3] at q; cases q
theorem pyNext_zip3 {z TI TO i1 i2 i3 l1 l2 l3 : Addr} {k1 k2 k3 : Bool} {p : Nat} {xs1 xs2 xs3 : Array Value} {x1 x2 x3 o1 o2 o3 : Value} {Q : Option Value → Shared → Prop} (D : ZA3 z TI TO i1 i2 i3 l1 l2 l3) (hz : IsZip s.heap z TI TO .none) (hTI : IsT s.heap TI #[.ref i1, .ref i2, .ref i3]) (hTO : IsT s.heap TO #[o1, o2, o3]) (h1 : SIt s.heap k1 i1 l1 p) (hl1 : SSrc s.heap k1 l1 xs1) (h2 : SIt s.heap k2 i2 l2 p) (hl2 : SSrc s.heap k2 l2 xs2) (h3 : SIt s.heap k3 i3 l3 p) (hl3 : SSrc s.heap k3 l3 xs3) (hx1 : xs1[p]? = some x1) (hx2 : xs2[p]? = some x2) (hx3 : xs3[p]? = some x3)
    (hQ : ∀ h', IsZip h' z TI TO (rawInt s.heap.objs.size) → IsT h' TO #[x1, x2, x3] → SIt h' k1 i1 l1 (p + 1) → SIt h' k2 i2 l2 (p + 1) → SIt h' k3 i3 l3 (p + 1) → IsT h' s.heap.objs.size #[x1, x2, x3] → h'.objs.size = s.heap.objs.size + 1 → (∀ c o, c ≠ z → c ≠ TO → c ≠ i1 → c ≠ i2 → c ≠ i3 → s.heap.get? c = some o → h'.get? c = some o) → Q (some (.ref s.heap.objs.size)) { s with heap := h' }) :
    wpAny (model prog w) A (pyNext (.ref z)) Q E s := by
  have hT : s.TypeIs (.ref z) "zip" := ⟨_, hz, rfl⟩
  unfold pyNext
  exact wpAny_bind (wpAny_attempt (wpAny_callSpecial?_slot (name := Str.ofString "__next__") hT F.slot_zip_next (wpAny_call_entry F.slot_zip_next hT F.entry_zip_next (zip3_item D hz hTI hTO h1 hl1 h2 hl2 h3 hl3 hx1 hx2 hx3 fun h' a0 a1 a2 a3 a4 a5 a6 a7 => wpAny_pure (hQ h' a0 a1 a2 a3 a4 a5 a6 a7)) (F.args_zip_next_1 _))))
theorem pyNext_zip3_end {z TI TO i1 i2 i3 l1 l2 l3 : Addr} {k1 k2 k3 : Bool} {p : Nat} {xs1 xs2 xs3 : Array Value} {o1 o2 o3 : Value} {Q : Option Value → Shared → Prop} (hh : A.handled = none) (D : ZA3 z TI TO i1 i2 i3 l1 l2 l3) (hz : IsZip s.heap z TI TO .none) (hTI : IsT s.heap TI #[.ref i1, .ref i2, .ref i3]) (hTO : IsT s.heap TO #[o1, o2, o3]) (h1 : SIt s.heap k1 i1 l1 p) (hl1 : SSrc s.heap k1 l1 xs1) (h2 : SIt s.heap k2 i2 l2 p) (hl2 : SSrc s.heap k2 l2 xs2) (h3 : SIt s.heap k3 i3 l3 p) (hl3 : SSrc s.heap k3 l3 xs3) (hend : xs1[p]? = none ∨ xs2[p]? = none ∨ xs3[p]? = none)
    (hQ : ∀ h', (∀ c o, c ≠ z → c ≠ TO → c ≠ i1 → c ≠ i2 → c ≠ i3 → s.heap.get? c = some o → h'.get? c = some o) → Q none { s with heap := h' }) : wpAny (model prog w) A (pyNext (.ref z)) Q E s := by
  have hT : s.TypeIs (.ref z) "zip" := ⟨_, hz, rfl⟩
  unfold pyNext
  refine wpAny_bind (wpAny_attempt (wpAny_callSpecial?_slot (name := Str.ofString "__next__") hT F.slot_zip_next (wpAny_call_entry F.slot_zip_next hT F.entry_zip_next (zip3_end hh D hz hTI hTO h1 hl1 h2 hl2 h3 hl3 hend fun h' e hk he => ?_) (F.args_zip_next_1 _))))
  obtain ⟨o, ho, hc⟩ := he
  refine wpAny_bind (wpAny_isInstance (T := "StopIteration") (b := true) ⟨o, ho, hc⟩ isSubtype_stop ?_)
  exact wpAny_pure (hQ _ hk)
end
abbrev zH3_1 (h : Heap) (k1 : Bool) (l1 : Addr) : Heap := h.push { cls := .type (clsI k1), data := .fields #[.ref l1, .int 0 0] }
abbrev zH3_2 (h : Heap) (k1 k2 : Bool) (l1 l2 : Addr) : Heap := (zH3_1 h k1 l1).push { cls := .type (clsI k2), data := .fields #[.ref l2, .int 0 0] }
abbrev zH3_3 (h : Heap) (k1 k2 k3 : Bool) (l1 l2 l3 : Addr) : Heap := (zH3_2 h k1 k2 l1 l2).push { cls := .type (clsI k3), data := .fields #[.ref l3, .int 0 0] }
abbrev zH3_T (h : Heap) (k1 k2 k3 : Bool) (l1 l2 l3 : Addr) : Heap := (zH3_3 h k1 k2 k3 l1 l2 l3).push { cls := .type "tuple", data := .seq #[.ref h.objs.size, .ref (zH3_1 h k1 l1).objs.size, .ref (zH3_2 h k1 k2 l1 l2).objs.size] }
abbrev zH3_O (h : Heap) (k1 k2 k3 : Bool) (l1 l2 l3 : Addr) : Heap := (zH3_T h k1 k2 k3 l1 l2 l3).push { cls := .type "tuple", data := .seq #[.none, .none, .none] }
abbrev zH3_Z (h : Heap) (k1 k2 k3 : Bool) (l1 l2 l3 : Addr) : Heap := (zH3_O h k1 k2 k3 l1 l2 l3).push { cls := .type "zip", data := .fields #[.none, .bool false, .bool false, .ref (zH3_3 h k1 k2 k3 l1 l2 l3).objs.size, .ref (zH3_T h k1 k2 k3 l1 l2 l3).objs.size] }
theorem meets_zip3 (k1 k2 k3 : Bool) (l1 l2 l3 : Addr) (xs1 xs2 xs3 : Array Value) :
    Meets (Builtin.«zip.__new__» ⟨[.type "zip", .ref l1, .ref l2, .ref l3], []⟩) (fun _ R s => (SSrc s.heap k1 l1 xs1 ∧ SSrc s.heap k2 l2 xs2 ∧ SSrc s.heap k3 l3 xs3) ∧ R (.ok (.ret (.ref (zH3_O s.heap k1 k2 k3 l1 l2 l3).objs.size))) { s with heap := zH3_Z s.heap k1 k2 k3 l1 l2 l3 }) :=
  .of_wp fun prog w A R s h => by
    obtain ⟨hp, g, d, tk, os⟩ := s; obtain ⟨⟨hl1, hl2, hl3⟩, h⟩ := h
    have hsub := sub_zip
    have M1 : SSrc (Shared.heap ⟨hp, g, d, tk, os⟩) k1 l1 xs1 := hl1
    have M2 : SSrc (Shared.heap ⟨(hp.push { cls := .type (clsI k1), data := .fields #[.ref l1, .int 0 0] }), g, d, tk, os⟩) k2 l2 xs2 := hl2.at fun o e => Heap.get?_push_of_some _ (e)
    have M3 : SSrc (Shared.heap ⟨((hp.push { cls := .type (clsI k1), data := .fields #[.ref l1, .int 0 0] }).push { cls := .type (clsI k2), data := .fields #[.ref l2, .int 0 0] }), g, d, tk, os⟩) k3 l3 xs3 := hl3.at fun o e => Heap.get?_push_of_some _ (Heap.get?_push_of_some _ (e))
    wp_walk using iterS M1, iterS M2, iterS M3
    exact ⟨_, rfl, h⟩
theorem tc_zip3 (a1 a2 a3 : Value) : checkTypeCall "zip" ⟨[a1, a2, a3], []⟩ = pure () := by kernel_rfl
theorem nc_zip3 (a1 a2 a3 : Value) : checkBuiltinCall "zip.__new__" ⟨[.type "zip", a1, a2, a3], []⟩ = pure () := by kernel_rfl
theorem ai_zip3 (b a1 a2 a3 : Value) : argsOk "object.__init__" ⟨[b, a1, a2, a3], []⟩ := by
  unfold argsOk; rw [signature?_of (id := "object.__init__") (n := ['_', '_', 't', 'i', 'n', 'i', '_', '_']) (o := ['t', 'c', 'e', 'j', 'b', 'o']) (by kernel_rfl) F.owner_object]; kernel_rfl
section
variable {prog : Program} {w : World} {A : Around} {E : Value → Shared → Prop} {s : Shared}
theorem call_zip3 {k1 k2 k3 : Bool} {l1 l2 l3 : Addr} {xs1 xs2 xs3 : Array Value} {Q : Value → Shared → Prop} (hl1 : SSrc s.heap k1 l1 xs1) (hl2 : SSrc s.heap k2 l2 xs2) (hl3 : SSrc s.heap k3 l3 xs3)
    (h : ∀ h', IsZip h' (s.heap.objs.size + 5) (s.heap.objs.size + 3) (s.heap.objs.size + 4) .none → IsT h' (s.heap.objs.size + 3) #[.ref s.heap.objs.size, .ref (s.heap.objs.size + 1), .ref (s.heap.objs.size + 2)] → IsT h' (s.heap.objs.size + 4) #[.none, .none, .none] → SIt h' k1 s.heap.objs.size l1 0 → SIt h' k2 (s.heap.objs.size + 1) l2 0 → SIt h' k3 (s.heap.objs.size + 2) l3 0 → (∀ c o, s.heap.get? c = some o → h'.get? c = some o) → Q (.ref (s.heap.objs.size + 5)) { s with heap := h' }) :
    wpAny (model prog w) A (call (.type "zip") [.ref l1, .ref l2, .ref l3]) Q E s := by
  refine callType_new F.called_zip (by decide) (tc_zip3 _ _ _ ) (nc_zip3 _ _ _ ) (fun obj => ai_zip3 obj _ _ _ ) F.entry_zip_new (meets_zip3 k1 k2 k3 l1 l2 l3 xs1 xs2 xs3) ⟨⟨hl1, hl2, hl3⟩, ?_⟩
  have y1 : (zH3_1 s.heap k1 l1).objs.size = s.heap.objs.size + 1 := Heap.size_push ..
  have y2 : (zH3_2 s.heap k1 k2 l1 l2).objs.size = s.heap.objs.size + 2 := by rw [Heap.size_push, y1]
  have y3 : (zH3_3 s.heap k1 k2 k3 l1 l2 l3).objs.size = s.heap.objs.size + 3 := by rw [Heap.size_push, y2]
  have y4 : (zH3_T s.heap k1 k2 k3 l1 l2 l3).objs.size = s.heap.objs.size + 4 := by rw [Heap.size_push, y3]
  have y5 : (zH3_O s.heap k1 k2 k3 l1 l2 l3).objs.size = s.heap.objs.size + 5 := by rw [Heap.size_push, y4]
  have q0 : (zH3_Z s.heap k1 k2 k3 l1 l2 l3).get? s.heap.objs.size = some _ := Heap.get?_push_of_some _ (Heap.get?_push_of_some _ (Heap.get?_push_of_some _ (Heap.get?_push_of_some _ (Heap.get?_push_of_some _ (Heap.get?_push_size _ rfl)))))
  have q1 : (zH3_Z s.heap k1 k2 k3 l1 l2 l3).get? (zH3_1 s.heap k1 l1).objs.size = some _ := Heap.get?_push_of_some _ (Heap.get?_push_of_some _ (Heap.get?_push_of_some _ (Heap.get?_push_of_some _ (Heap.get?_push_size _ rfl))))
  have q2 : (zH3_Z s.heap k1 k2 k3 l1 l2 l3).get? (zH3_2 s.heap k1 k2 l1 l2).objs.size = some _ := Heap.get?_push_of_some _ (Heap.get?_push_of_some _ (Heap.get?_push_of_some _ (Heap.get?_push_size _ rfl)))
  have q3 : (zH3_Z s.heap k1 k2 k3 l1 l2 l3).get? (zH3_3 s.heap k1 k2 k3 l1 l2 l3).objs.size = some _ := Heap.get?_push_of_some _ (Heap.get?_push_of_some _ (Heap.get?_push_size _ rfl))
  have q4 : (zH3_Z s.heap k1 k2 k3 l1 l2 l3).get? (zH3_T s.heap k1 k2 k3 l1 l2 l3).objs.size = some _ := Heap.get?_push_of_some _ (Heap.get?_push_size _ rfl)
  have q5 : (zH3_Z s.heap k1 k2 k3 l1 l2 l3).get? (zH3_O s.heap k1 k2 k3 l1 l2 l3).objs.size = some _ := Heap.get?_push_size _ rfl
  show _ ∧ _
  rw [y1] at q1
  rw [y2] at q2
  rw [y1, y2, y3] at q3
  rw [y4] at q4
  rw [y3, y4, y5] at q5
  rw [y5]
  exact ⟨⟨_, q5, rfl⟩, h _ q5 q3 q4 (show SIt _ k1 _ l1 0 by cases k1 <;> exact ⟨_, q0, rfl, rfl⟩) (show SIt _ k2 _ l2 0 by cases k2 <;> exact ⟨_, q1, rfl, rfl⟩) (show SIt _ k3 _ l3 0 by cases k3 <;> exact ⟨_, q2, rfl, rfl⟩) fun c o x => Heap.get?_push_of_some _ (Heap.get?_push_of_some _ (Heap.get?_push_of_some _ (Heap.get?_push_of_some _ (Heap.get?_push_of_some _ (Heap.get?_push_of_some _ (x))))))⟩
theorem za3 {I l1 l2 l3 : Nat} (e1 : l1 < I) (e2 : l2 < I) (e3 : l3 < I) : ZA3 (I + 5) (I + 3) (I + 4) I (I + 1) (I + 2) l1 l2 l3 := by
  constructor <;> (refine Nat.ne_iff_lt_or_gt.mpr ?_; omega)
end
/-- the items of things that stand, turn by turn, in new tuples -/
def ItZ3 (K : PySem.W.Frag) (k1 k2 k3 : Bool) (l1 l2 l3 : Addr) (ys1 ys2 ys3 : List V) : It :=
  ⟨fun i H => (SqS K H k1 l1 ys1 ∧ SqS K H k2 l2 ys2 ∧ SqS K H k3 l3 ys3) ∧ i < ys1.length ∧ i < ys2.length ∧ i < ys3.length, fun i H v H' => ∃ (T : Addr) (x1 x2 x3 : V), v = .ref T ∧ H T = none ∧ H' = upd H T (.tup [x1, x2, x3]) ∧ ys1[i]? = some x1 ∧ ys2[i]? = some x2 ∧ ys3[i]? = some x3, fun i H => (SqS K H k1 l1 ys1 ∧ SqS K H k2 l2 ys2 ∧ SqS K H k3 l3 ys3) ∧ (ys1.length ≤ i ∨ ys2.length ≤ i ∨ ys3.length ≤ i)⟩
theorem turn_z3 {P : Program} {w : World} {K : PySem.W.Frag} {elts : List Expr} {kk : Nat} {tpos : Pos} {z TI TO i1 i2 i3 l1 l2 l3 : Addr} {k1 k2 k3 : Bool} {ys1 ys2 ys3 : List V} (D : ZA3 z TI TO i1 i2 i3 l1 l2 l3) :
    Turn P w K (.Tuple elts kk tpos) (ItZ3 K k1 k2 k3 l1 l2 l3 ys1 ys2 ys3) [z, TI, TO, i1, i2, i3] z (fun i h => IsZip h z TI TO .none ∧ IsT h TI #[.ref i1, .ref i2, .ref i3] ∧ (∃ o1 o2 o3 : Value, IsT h TO #[o1, o2, o3]) ∧ SIt h k1 i1 l1 i ∧ SIt h k2 i2 l2 i ∧ SIt h k3 i3 l3 i) where
  mem := by simp
  obj := fun i h ⟨hz, hTI, ⟨o1, o2, o3, hTO⟩, h1, h2, h3⟩ c hc => by
    have e' : c = z ∨ c = TI ∨ c = TO ∨ c = i1 ∨ c = i2 ∨ c = i3 := by simpa using hc
    rcases e' with q | q | q | q | q | q
    · rw [q]; exact ⟨_, hz, fun v q => nomatch q⟩
    · rw [q]; exact ⟨_, hTI, fun v q => nomatch q⟩
    · rw [q]; exact ⟨_, hTO, fun v q => nomatch q⟩
    · rw [q]; exact h1.ob
    · rw [q]; exact h2.ob
    · rw [q]; exact h3.ob
  keep := fun i h h' ⟨hz, hTI, ⟨o1, o2, o3, hTO⟩, h1, h2, h3⟩ k => ⟨k z (by simp) _ hz, k TI (by simp) _ hTI, ⟨o1, o2, o3, k TO (by simp) _ hTO⟩, h1.at fun o q => k i1 (by simp) o q, h2.at fun o q => k i2 (by simp) o q, h3.at fun o q => k i3 (by simp) o q⟩
  item := by
    intro X hP hw hK hc i pins s σ H E I hf st hg
    subst hP hw hK
    obtain ⟨hz, hTI, ⟨o1, o2, o3, hTO⟩, h1, h2, h3⟩ := st
    obtain ⟨⟨q1, q2, q3⟩, b1, b2, b3⟩ := hg
    obtain ⟨its1, rv1, p1⟩ := Inv.srcS I q1
    have hx1 : ys1[i]? = some (ys1[i]'b1) := List.getElem?_eq_getElem b1
    generalize ys1[i]'b1 = x1 at hx1
    obtain ⟨u1, hu1, ru1⟩ := rv1.get hx1
    obtain ⟨its2, rv2, p2⟩ := Inv.srcS I q2
    have hx2 : ys2[i]? = some (ys2[i]'b2) := List.getElem?_eq_getElem b2
    generalize ys2[i]'b2 = x2 at hx2
    obtain ⟨u2, hu2, ru2⟩ := rv2.get hx2
    obtain ⟨its3, rv3, p3⟩ := Inv.srcS I q3
    have hx3 : ys3[i]? = some (ys3[i]'b3) := List.getElem?_eq_getElem b3
    generalize ys3[i]'b3 = x3 at hx3
    obtain ⟨u3, hu3, ru3⟩ := rv3.get hx3
    have hzl : z < s.heap.objs.size := Heap.lt_size hz
    refine pyNext_zip3 D hz hTI hTO h1 p1 h2 p2 h3 p3 (by simpa using hu1) (by simpa using hu2) (by simpa using hu3) fun h' z' TO' n1 n2 n3 hT hsz hk => ?_
    refine ⟨_, rfl, wpAny_letOwnedTupleGo_zip (s := { s with heap := h' }) z' fun hq z2 sb => ?_⟩
    have hT2 : IsT hq s.heap.objs.size #[u1, u2, u3] := (sb.2 _ (Nat.ne_of_gt hzl)).trans hT
    have new : ObjOk X.prog X.w (upd H s.heap.objs.size (.tup [x1, x2, x3])) hq s.heap.objs.size (.tup [x1, x2, x3]) :=
      ⟨by show 3 ≤ sizeLine; decide, [u1, u2, u3], .cons ru1 (.cons ru2 (.cons ru3 (.nil))), ⟨_, hT2, rfl, _, rfl⟩⟩
    have I1 : L2.Inv X pins σ (upd H s.heap.objs.size (.tup [x1, x2, x3])) { s with heap := hq } :=
      I.turnedNew (t' := s.toks) (ch := [z, TI, TO, i1, i2, i3]) (fun c o hb q => (sb.2 c (fun q' => hb (by simp [q']))).trans (hk c o (fun q' => hb (by simp [q'])) (fun q' => hb (by simp [q'])) (fun q' => hb (by simp [q'])) (fun q' => hb (by simp [q'])) (fun q' => hb (by simp [q'])) q)) hf (Nat.le_refl _) new
    refine ⟨.ref s.heap.objs.size, _, I1, rfl, ⟨_, x1, x2, x3, rfl, I.hok.fresh (Nat.le_refl _), rfl, hx1, hx2, hx3⟩, ⟨z2, ?_, ⟨u1, u2, u3, ?_⟩, ?_, ?_, ?_⟩, fun c hcm => ?_⟩
    · exact (sb.2 _ D.TIz).trans (hk _ _ D.TIz D.TITO D.TIi1 D.TIi2 D.TIi3 hTI)
    · exact (sb.2 _ D.TOz).trans TO'
    · exact n1.at fun o q => (sb.2 _ D.i1z).trans q
    · exact n2.at fun o q => (sb.2 _ D.i2z).trans q
    · exact n3.at fun o q => (sb.2 _ D.i3z).trans q
    · have hlt : c < s.heap.objs.size := by
        have e' : c = z ∨ c = TI ∨ c = TO ∨ c = i1 ∨ c = i2 ∨ c = i3 := by simpa using hcm
        rcases e' with q | q | q | q | q | q
        · rw [q]; exact hzl
        · rw [q]; exact Heap.lt_size hTI
        · rw [q]; exact Heap.lt_size hTO
        · rw [q]; exact h1.lt
        · rw [q]; exact h2.lt
        · rw [q]; exact h3.lt
      rw [upd_ne (Nat.ne_of_lt hlt)]
      exact (hf c hcm).1
  done := by
    intro X hP hw hK hc i pins s σ H E I hf st hg
    subst hP hw hK
    obtain ⟨hz, hTI, ⟨o1, o2, o3, hTO⟩, h1, h2, h3⟩ := st
    obtain ⟨⟨q1, q2, q3⟩, hend⟩ := hg
    obtain ⟨its1, rv1, p1⟩ := Inv.srcS I q1
    have e1 := rv1.length
    obtain ⟨its2, rv2, p2⟩ := Inv.srcS I q2
    have e2 := rv2.length
    obtain ⟨its3, rv3, p3⟩ := Inv.srcS I q3
    have e3 := rv3.length
    have he : its1.toArray[i]? = none ∨ its2.toArray[i]? = none ∨ its3.toArray[i]? = none := by
      rcases hend with q | q | q
      · exact .inl (by simp; omega)
      · exact .inr (.inl (by simp; omega))
      · exact .inr (.inr (by simp; omega))
    exact pyNext_zip3_end (I.ok.hd hc) D hz hTI hTO h1 p1 h2 p2 h3 p3 he fun h' hk => ⟨rfl, I.turnedL (t' := s.toks) (ch := [z, TI, TO, i1, i2, i3]) (fun c o hb q => hk c o (fun q' => hb (by simp [q'])) (fun q' => hb (by simp [q'])) (fun q' => hb (by simp [q'])) (fun q' => hb (by simp [q'])) (fun q' => hb (by simp [q'])) q) hf⟩
  self := fun A i s Q E st h => wpAny_pyIter_zip st.1 h
def iZ3 (K : PySem.W.Frag) (ta : TA) : TI := fun σ H R => ta σ H fun vs H1 => ∃ (k1 k2 k3 : Bool) (l1 l2 l3 : Addr) (ys1 ys2 ys3 : List V), vs = [.ref l1, .ref l2, .ref l3] ∧ (SqS K H1 k1 l1 ys1 ∧ SqS K H1 k2 l2 ys2 ∧ SqS K H1 k3 l3 ys3) ∧ R (ItZ3 K k1 k2 k3 l1 l2 l3 ys1 ys2 ys3) H1
theorem pi_z3 {X : Cx} {e1 e2 e3 : Expr} {ta : TA} {p pos tpos : Pos} {elts : List Expr} {kk : Nat} (hg : Gl X "zip") (hm : X.mg "zip" = none) (ha : PA X [e1, e2, e3] ta)
    (hs : starEach [e1, e2, e3] X.env = (false, eval e1 X.env) :: starEach [e2, e3] X.env := by rfl) (hpl : (backTo pos (starEach [e2, e3] X.env)).any (·.1) = false := by rfl) :
    PI X (.Tuple elts kk tpos) (.Call (.Name "zip" p) [e1, e2, e3] [] pos) (iZ3 X.K ta) := by
  refine ⟨fun pins s σ H R I h => ?_⟩
  refine Call_ (ld_blt I hg hm PyProof.Rows.boot_zip (PyProof.Rows.callWith_type1 (thn (ha.run pos pins s σ H _ I h) fun us s1 ⟨vs, H1, I1, r1, q1⟩ => ?_) hs hpl))
  obtain ⟨k1, k2, k3, l1, l2, l3, ys1, ys2, ys3, ex, ⟨q1, q2, q3⟩, q⟩ := q1
  subst ex
  cases r1 with
  | cons r1v rr =>
    cases rr with
    | cons r2v rr =>
      cases rr with
      | cons r3v rr =>
        cases rr
        cases r1v
        cases r2v
        cases r3v
        obtain ⟨its1, rv1, p1⟩ := Inv.srcS I1 q1
        obtain ⟨its2, rv2, p2⟩ := Inv.srcS I1 q2
        obtain ⟨its3, rv3, p3⟩ := Inv.srcS I1 q3
        have fresh : ∀ c, c ∈ ([s1.heap.objs.size + 5, s1.heap.objs.size + 3, s1.heap.objs.size + 4, s1.heap.objs.size, s1.heap.objs.size + 1, s1.heap.objs.size + 2] : List Addr) → FpOk X pins H1 c := fun c hcm => by
          have e' : c = s1.heap.objs.size + 5 ∨ c = s1.heap.objs.size + 3 ∨ c = s1.heap.objs.size + 4 ∨ c = s1.heap.objs.size ∨ c = s1.heap.objs.size + 1 ∨ c = s1.heap.objs.size + 2 := by simpa using hcm
          have hle : s1.heap.objs.size ≤ c := by rcases e' with z | z | z | z | z | z <;> (rw [z]; first | exact Nat.le_refl _ | exact Nat.le_add_right _ _)
          exact I1.fpOk hle (I1.hok.fresh hle)
        refine call_zip3 p1 p2 p3 fun h' hz hTI hTO n1 n2 n3 hk => wpAny_pyIter_zip hz ?_
        have I2 : L2.Inv X pins σ H1 { s1 with heap := h' } := I1.kept (t' := s1.toks) hk
        exact ⟨s1.heap.objs.size + 5, [s1.heap.objs.size + 5, s1.heap.objs.size + 3, s1.heap.objs.size + 4, s1.heap.objs.size, s1.heap.objs.size + 1, s1.heap.objs.size + 2], _, _, H1, rfl, I2, turn_z3 (za3 p1.lt p2.lt p3.lt), ⟨hz, hTI, ⟨_, _, _, hTO⟩, n1, n2, n3⟩, fresh, q⟩
theorem WalkD.zip3 {G : GC} {F : Hp} {k1 k2 k3 : Bool} {l1 l2 l3 : Addr} {ys1 ys2 ys3 : List V} {d1 d2 d3 : List D} (hs : SqS G.K F k1 l1 ys1 ∧ SqS G.K F k2 l2 ys2 ∧ SqS G.K F k3 l3 ys3) (r1 : RepAll G F ys1 d1) (r2 : RepAll G F ys2 d2) (r3 : RepAll G F ys3 d3) : WalkD G F F (ItZ3 G.K k1 k2 k3 l1 l2 l3 ys1 ys2 ys3) (zipL3 d1 d2 d3) where
  goes := fun i H hi s => by
    obtain ⟨q1, q2, q3⟩ := hs
    have w1 := r1.length
    have w2 := r2.length
    have w3 := r3.length
    simp only [zipL3, List.length_map, List.length_zip] at hi
    exact ⟨⟨q1.keep s, q2.keep s, q3.keep s⟩, by omega, by omega, by omega⟩
  stops := fun H s => by
    obtain ⟨q1, q2, q3⟩ := hs
    have w1 := r1.length
    have w2 := r2.length
    have w3 := r3.length
    refine ⟨⟨q1.keep s, q2.keep s, q3.keep s⟩, ?_⟩
    simp only [zipL3, List.length_map, List.length_zip]
    omega
  yields := fun i F2 H2 v H3 hi s1 s2 _ ⟨T, x1, x2, x3, e1, e2, e3, g1, g2, g3⟩ => by
    subst e1 e3
    obtain ⟨c1, t1, m1⟩ := r1.getV g1
    obtain ⟨c2, t2, m2⟩ := r2.getV g2
    obtain ⟨c3, t3, m3⟩ := r3.getV g3
    refine ⟨_, .tup [c1, c2, c3], Grow.mk1 s2 e2, ?_, Rep.tup (.of upd_same) (.cons ((m1.mono s1).mono (Grow.mk1 s2 e2).f) (.cons ((m2.mono s1).mono (Grow.mk1 s2 e2).f) (.cons ((m3.mono s1).mono (Grow.mk1 s2 e2).f) (.nil))))⟩
    unfold zipL3
    have hz : (d1.zip (d2.zip d3))[i]? = some (c1, c2, c3) := List.getElem?_zip_eq_some.mpr ⟨t1, List.getElem?_zip_eq_some.mpr ⟨t2, t3⟩⟩
    rw [List.getElem?_map, hz]
    rfl
theorem ri_zip3 {X : Cx} {W : Wi} {e1 e2 e3 : Expr} {p pos tpos : Pos} {elts : List Expr} {kk : Nat} {fa : Env → Res (List D)} (hm : X.mg "zip" = none) (ha : RA X W [e1, e2, e3] fa) (hg : Gl X "zip" := by rfl)
    (hs : starEach [e1, e2, e3] X.env = (false, eval e1 X.env) :: starEach [e2, e3] X.env := by rfl) (hpl : (backTo pos (starEach [e2, e3] X.env)).any (·.1) = false := by rfl) :
    RI X W true (.Tuple elts kk tpos) (.Call (.Name "zip" p) [e1, e2, e3] [] pos) (fun r => fa r >>= zip3D) := by
  refine ⟨fun pins s σ H R I ⟨H0, F0, fp, F, r, m, o⟩ => (pi_z3 hg hm ha hs hpl).run pins s σ H R I ⟨H0, F0, fp, F, r, m, o.bind fun F' H' ds gr o2 vs rv => ?_⟩⟩
  rcases zip3D_inv ds with ⟨a, b, c, xs, ys, zs, rfl, w1, w2, w3, e⟩ | e
  · rw [e] at o2
    cases rv with
    | cons v1 rr =>
      cases rr with
      | cons v2 rr =>
        cases rr with
        | cons v3 rr =>
          cases rr
          obtain ⟨k1, l1, ys1, rfl, q1, r1⟩ := seqQ_rep (Same.refl F') v1 w1
          obtain ⟨k2, l2, ys2, rfl, q2, r2⟩ := seqQ_rep (Same.refl F') v2 w2
          obtain ⟨k3, l3, ys3, rfl, q3, r3⟩ := seqQ_rep (Same.refl F') v3 w3
          refine ⟨k1, k2, k3, l1, l2, l3, ys1, ys2, ys3, rfl, ⟨q1.keep gr.sub, q2.keep gr.sub, q3.keep gr.sub⟩, o2 F' H' (Grow.refl gr.sub) _ (WalkD.zip3 ⟨q1, q2, q3⟩ r1 r2 r3)⟩
  · rw [e] at o2; exact o2.elim
end Mir

/-! any, all over whole numbers and truths, in lists and tuples. -/
namespace Mir
open PySem PySem.Spec PyProof.Rows L2

def trD : D → Option Bool
  | .bl b => some b
  | .int i => some (i != 0)
  | _ => none
def trsD : List D → Option (List Bool)
  | [] => some []
  | d :: ds => match trD d, trsD ds with
    | some b, some bs => some (b :: bs)
    | _, _ => none
def trV : V → Bool → Prop := fun x b => x = .bl b ∨ ∃ i : Int, x = .int i ∧ b = (i != 0)
theorem trs_rep {G : GC} {F : Hp} : ∀ {vs : List V} {ds : List D} {bs : List Bool}, RepAll G F vs ds → trsD ds = some bs → Paired trV vs bs
  | _, _, _, .nil, e => by cases e; exact .nil
  | _, _, _, .cons (d := d) r t, e => by
    rw [trsD] at e
    split at e
    · rename_i b bs h1 h2
      cases e
      refine .cons ?_ (trs_rep t h2)
      cases d with
      | bl c => cases h1; cases r; exact .inl rfl
      | int i => cases h1; cases r; exact .inr ⟨i, rfl, rfl⟩
      | _ => cases h1
    · cases e
theorem paired_at {vs : List V} {bs : List Bool} {its : List Value} (p : Paired trV vs bs) (r : Vals vs its) : ∀ {i : Nat} {v : Value}, its[i]? = some v → ∃ x b, RelV x v ∧ trV x b ∧ bs[i]? = some b := by
  induction p generalizing its with
  | nil => cases r; intro i v h; simp at h
  | cons a l ih =>
    cases r with
    | cons q k =>
      intro i v h
      cases i with
      | zero =>
        simp at h
        subst h
        exact ⟨_, _, q, a, rfl⟩
      | succ i =>
        obtain ⟨x, b, h1, h2, h3⟩ := ih k (by simpa using h)
        exact ⟨x, b, h1, h2, by simpa using h3⟩
theorem truth_trs {prog : Program} {w : World} {A : Around} {vs : List V} {bs : List Bool} {its : List Value} (p : Paired trV vs bs) (r : Vals vs its) : TruthOf prog w A (fun i v => its.toArray[i]? = some v) (fun i => bs.getD i false) := fun i v s Q E hv hq => by
  obtain ⟨x, b, h1, h2, h3⟩ := paired_at p r (show its[i]? = some v by simpa using hv)
  have hg : bs.getD i false = b := by rw [List.getD_eq_getElem?_getD, h3] <;> rfl
  have hq' : Q (bs.getD i false) s := hq
  rw [hg] at hq'
  rcases h2 with rfl | ⟨j, rfl, rfl⟩
  · cases (show v = Value.bool b from h1)
    exact wpAny_truthy_bool hq'
  · obtain ⟨t, e⟩ := (show ∃ t, v = Value.int j t from h1)
    subst e
    exact PySem.P.truthy_int hq'
def rAnyT (K : PySem.W.Frag) : List V → Hp → VK → Prop := fun vs H Q => ∃ (k : Bool) (a : Addr) (xs : List V) (bs : List Bool), vs = [V.ref a] ∧ SqS K H k a xs ∧ Paired trV xs bs ∧ Q (.bl (bs.any id)) H
def rAllT (K : PySem.W.Frag) : List V → Hp → VK → Prop := fun vs H Q => ∃ (k : Bool) (a : Addr) (xs : List V) (bs : List Bool), vs = [V.ref a] ∧ SqS K H k a xs ∧ Paired trV xs bs ∧ Q (.bl (bs.all id)) H
theorem all_range' : ∀ bs : List Bool, (List.range bs.length).all (fun i => bs.getD i false) = bs.all id
  | [] => rfl
  | b :: bs => by
    rw [List.length_cons, List.range_succ_eq_map, List.all_cons, List.all_map, List.all_cons]
    have z := all_range' bs
    rw [← z]
    rfl
section
variable {X : Cx}
theorem walks_S {P : Program} {w : World} {A : Around} (hh : A.handled = none) (I ax : Addr) (hne : ax ≠ I) (k : Bool) (items : Array Value) : Walks P w A I [I, ax] [I] items.size (fun i v => items[i]? = some v) (fun i h => SIt h k I ax i ∧ SSrc h k ax items) := by
  cases k with
  | true => exact Walks.list hh I ax hne items
  | false => exact Walks.tuple hh I ax hne items
theorem cr_anyT (hc : X.calm = true) : CallR X (.builtin "any") (rAnyT X.K) := by
  intro pins s σ H vs us Q I r h
  obtain ⟨k, a, xs, bs, rfl, hs, pr, q⟩ := h
  obtain ⟨its, rv, hl⟩ := Inv.srcS I hs
  rw [Vals.ref1 r]
  have hlt := hl.lt
  have hlen : its.length = bs.length := by have h1 := rv.length; have h2 := Paired.length pr; omega
  refine call_any_walk (iterS hl ⟨_, _, _, _, _, _, _, rfl, walks_S (A := X.A.in1) (I.ok.hd hc) _ a (Nat.ne_of_lt hlt) k its.toArray, ⟨?_, hl.at fun o e => Heap.get?_push_of_some _ e⟩, truth_trs pr rv, fun h' tk hk => ?_⟩)
  · cases k <;> exact ⟨_, Heap.get?_push_size _ rfl, rfl, rfl⟩
  · refine ⟨.bl _, H, I.kept fun b o eo => hk b o (fun hmem => ?_) (Heap.get?_push_of_some _ eo), ?_, q⟩
    · rcases List.mem_cons.mp hmem with e1 | hmem
      · exact absurd (e1 ▸ Heap.lt_size eo) (Nat.lt_irrefl _)
      · cases hmem
    · show Value.bool _ = Value.bool _
      rw [← L2.any_range, List.size_toArray, hlen]
theorem cr_allT (hc : X.calm = true) : CallR X (.builtin "all") (rAllT X.K) := by
  intro pins s σ H vs us Q I r h
  obtain ⟨k, a, xs, bs, rfl, hs, pr, q⟩ := h
  obtain ⟨its, rv, hl⟩ := Inv.srcS I hs
  rw [Vals.ref1 r]
  have hlt := hl.lt
  have hlen : its.length = bs.length := by have h1 := rv.length; have h2 := Paired.length pr; omega
  refine call_all_walk (iterS hl ⟨_, _, _, _, _, _, _, rfl, walks_S (A := X.A.in1) (I.ok.hd hc) _ a (Nat.ne_of_lt hlt) k its.toArray, ⟨?_, hl.at fun o e => Heap.get?_push_of_some _ e⟩, truth_trs pr rv, fun h' tk hk => ?_⟩)
  · cases k <;> exact ⟨_, Heap.get?_push_size _ rfl, rfl, rfl⟩
  · refine ⟨.bl _, H, I.kept fun b o eo => hk b o (fun hmem => ?_) (Heap.get?_push_of_some _ eo), ?_, q⟩
    · rcases List.mem_cons.mp hmem with e1 | hmem
      · exact absurd (e1 ▸ Heap.lt_size eo) (Nat.lt_irrefl _)
      · cases hmem
    · show Value.bool _ = Value.bool _
      rw [← all_range', List.size_toArray, hlen]
def anyT : D → Res D
  | .lst ds => match trsD ds with
    | some bs => .ok (.bl (bs.any id))
    | none => .bad
  | .tup ds => match trsD ds with
    | some bs => .ok (.bl (bs.any id))
    | none => .bad
  | _ => .bad
def allT : D → Res D
  | .lst ds => match trsD ds with
    | some bs => .ok (.bl (bs.all id))
    | none => .bad
  | .tup ds => match trsD ds with
    | some bs => .ok (.bl (bs.all id))
    | none => .bad
  | _ => .bad
theorem b_anyT (hc : X.calm = true) (hm : X.mg "any" = none) : BlM X "any" .S (one anyT) := BlM.b hm boot_any' (cr_anyT hc) (ne_one (fun d e z => by unfold anyT at z; split at z <;> (try split at z) <;> cases z)) (cal_one fun F H x a d Q s ra e q => by
  unfold anyT at e
  split at e
  · split at e <;> cases e
    rename_i bs h
    obtain ⟨p, vs, rfl, h1, r1⟩ := ra.lst s
    exact ⟨true, p, vs, bs, rfl, .of h1, trs_rep r1 h, q _ F H (Grow.refl s) (Rep.bl _)⟩
  · split at e <;> cases e
    rename_i bs h
    obtain ⟨p, vs, rfl, h1, r1⟩ := ra.tup s
    exact ⟨false, p, vs, bs, rfl, h1, trs_rep r1 h, q _ F H (Grow.refl s) (Rep.bl _)⟩
  · cases e)
theorem b_allT (hc : X.calm = true) (hm : X.mg "all" = none) : BlM X "all" .S (one allT) := BlM.b hm boot_all' (cr_allT hc) (ne_one (fun d e z => by unfold allT at z; split at z <;> (try split at z) <;> cases z)) (cal_one fun F H x a d Q s ra e q => by
  unfold allT at e
  split at e
  · split at e <;> cases e
    rename_i bs h
    obtain ⟨p, vs, rfl, h1, r1⟩ := ra.lst s
    exact ⟨true, p, vs, bs, rfl, .of h1, trs_rep r1 h, q _ F H (Grow.refl s) (Rep.bl _)⟩
  · split at e <;> cases e
    rename_i bs h
    obtain ⟨p, vs, rfl, h1, r1⟩ := ra.tup s
    exact ⟨false, p, vs, bs, rfl, h1, trs_rep r1 h, q _ F H (Grow.refl s) (Rep.bl _)⟩
  · cases e)
end
end Mir

/-! A def gives away what its name owns. -/
namespace Mir
open PySem PySem.Spec PyProof.Rows L2

/-- the list that the i-th name owns, given away -/
def giveG (i : Nat) (r : Env) : Oc := match r[i]? with
  | some (.ow .flat d) => .rt d
  | _ => .bad
theorem rs_retO (i : Nat) {X : Cx} {W : Wi} {x : Str} {pos p2 : Pos} (hN : X.N[i]? = some x := by rfl) (hv : Vis X.env.scope x := by first | exact Or.inl rfl | exact Or.inr (Or.inl rfl) | exact Or.inr (Or.inr rfl)) (hd : (x == ("__debug__" : Str)) = false := by decide)
    (hcd : (x == ("__classdict__" : Str)) = false := by decide) : RS X W (.O .flat) (.Return (some (.Name x pos)) p2) (giveG i) :=
  (ps_ret (pe_var hN hv hd hcd)).imp fun D σ H ⟨H0, F0, fp, F, r, m, o⟩ => by
    unfold giveG at o
    split at o
    · rename_i d h
      obtain ⟨⟨v, h1, h2⟩, h3⟩ := m.ow i _ _ h
      exact ⟨v, h1, o F H v (Same.refl _) m.g0 ⟨fp i, h2, h3⟩⟩
    · exact o.elim
theorem MS.forget {G : GC} {J : L2.St → Prop} {H0 F0 F H : Hp} {fp : Nat → List Addr} {σ : L2.St} {r : Env} (m : MS G J H0 F0 fp F σ H r) (j : Nat) : MS G J H0 F0 fp F σ H (r.set j .un) where
  jo := m.jo
  s0 := m.s0
  f0 := m.f0
  sub := m.sub
  new := m.new
  len := by simpa using m.len
  sh := fun k e h => by
    rcases get_set_slot h with ⟨_, x, _⟩ | ⟨_, h⟩
    · cases x
    · exact m.sh k e h
  ow := fun k s e h => by
    rcases get_set_slot h with ⟨_, x, _⟩ | ⟨_, h⟩
    · cases x
    · exact m.ow k s e h
  ap := fun k l s t d e n h1 h2 => by
    rcases get_set_slot h1 with ⟨_, x, _⟩ | ⟨_, h1⟩
    · cases x
    · rcases get_set_slot h2 with ⟨_, x, _⟩ | ⟨_, h2⟩
      · cases x
      · exact m.ap k l s t d e n h1 h2
/-- the i-th name takes what the j-th owns -/
def moveG (i j : Nat) (r : Env) : Oc := match r[j]? with
  | some (.ow .flat d) => .nx ((r.set j .un).set i (.ow .flat d))
  | _ => .bad
theorem rs_move (i j : Nat) {X : Cx} {W : Wi} {k : Kd} {x y : Str} {pos pos' pos2 : Pos} (hN : X.N.Nodup) (hJ : ∀ σ v, W.J σ → W.J (σ.set i v) := by first | exact fun _ _ h => h | exact jset (by decide)) (hi : X.N[i]? = some x := by rfl) (hx : Loc X.env.scope x := by first | exact Or.inl rfl | exact Or.inr rfl)
    (hj : X.N[j]? = some y := by rfl) (hv : Vis X.env.scope y := by first | exact Or.inl rfl | exact Or.inr (Or.inl rfl) | exact Or.inr (Or.inr rfl)) (hd : (y == ("__debug__" : Str)) = false := by decide) (hcd : (y == ("__classdict__" : Str)) = false := by decide)
    (hs : swapsWith (.Name y pos2) (some (.Name x pos')) pos.line X.env = pure false := by rfl) (hf : X.fn x = true ∨ X.env.scope.names.lookup x = some .local := by first | exact .inl rfl | exact .inr rfl) :
    RS X W k (.Assign [.Name x pos'] (.Name y pos2) pos) (moveG i j) :=
  (ps_set hN hi hx (pe_var hj hv hd hcd) hs hf).imp fun D σ H ⟨H0, F0, fp, F, r, m, o⟩ => by
    unfold moveG at o
    split at o
    · rename_i d h
      obtain ⟨⟨v, h1, h2⟩, h3⟩ := m.ow j _ _ h
      refine ⟨v, h1, o _ F _ H (Same.refl _) ((m.forget j).setO i h2 h3 (fun l t e ne hl a ha hb => ?_) hJ)⟩
      rcases get_set_slot hl with ⟨_, z, _⟩ | ⟨n, hl⟩
      · cases z
      · exact m.ap j l .flat t d e n h hl a ha hb
    · exact o.elim
end Mir

/-! Dicts whose keys are tuples. -/
namespace Mir
open PySem PySem.Spec PyProof.Rows L2

/-! ### tables of keys and values -/
def getK : List D → List D → NestedKey → Option D
  | k :: ks, v :: vs, q => if keyOf k = some q then some v else getK ks vs q
  | _, _, _ => none
def hasK (ks : List D) (q : NestedKey) : Bool := ks.any fun k => decide (keyOf k = some q)
def repK : List D → List D → NestedKey → D → List D
  | k :: ks, v :: vs, q, x => (if keyOf k = some q then x else v) :: repK ks vs q x
  | _, _, _, _ => []
/-- in its place, or at the end -/
def setK (ks vs : List D) (kd : D) (q : NestedKey) (x : D) : List D × List D := if hasK ks q = true then (ks, repK ks vs q x) else (ks ++ [kd], vs ++ [x])
def delK : List D → List D → NestedKey → List D × List D
  | k :: ks, v :: vs, q => if keyOf k = some q then delK ks vs q else (k :: (delK ks vs q).1, v :: (delK ks vs q).2)
  | _, _, _ => ([], [])
/-- a tuple as a key -/
def keyT (d : D) : Option NestedKey := match d with
  | .tup xs => match keyOf (.tup xs) with
    | some q => if q.depth ≤ 8 then some q else none
    | none => none
  | _ => none
theorem keyT_some {d : D} {q : NestedKey} (h : keyT d = some q) : (∃ xs, d = .tup xs) ∧ keyOf d = some q ∧ q.depth ≤ 8 := by
  unfold keyT at h
  split at h
  · split at h
    · rename_i e
      split at h
      · rename_i hd
        cases h
        exact ⟨⟨_, rfl⟩, e, hd⟩
      · cases h
    · cases h
  · cases h

section
variable {G : GC} {F H : Hp}
abbrev EN := NestedKey × Addr × Value
theorem getK_at {q : NestedKey} : ∀ {xs : List EN} {ws : List V} {ks vs : List D}, Vals ws (xs.map (·.2.2)) → ks.map keyOf = xs.map (fun x => some x.1) → RepAll G F ws vs →
    (getK ks vs q = none ∧ atKey xs q = none) ∨ ∃ d e v, getK ks vs q = some d ∧ atKey xs q = some e ∧ RelV v e.2 ∧ Rep G F v d
  | [], _, ks, _, wv, ke, vr => by
    cases ks with
    | nil => exact .inl ⟨by unfold getK; rfl, rfl⟩
    | cons k ks => cases ke
  | x :: xs, _, ks, _, wv, ke, vr => by
    cases ks with
    | nil => cases ke
    | cons k ks =>
      rw [List.map_cons, List.map_cons, List.cons.injEq] at ke
      cases wv with
      | cons r1 rt =>
        cases vr with
        | cons p1 pt =>
          by_cases h : x.1 = q
          · refine .inr ⟨_, x.2, _, ?_, ?_, r1, p1⟩
            · rw [getK, if_pos (by rw [ke.1, h])]
            · simp [atKey, List.find?_cons, h]
          · have e1 : ∀ v vs', getK (k :: ks) (v :: vs') q = getK ks vs' q := fun v vs' => by rw [getK, if_neg (by rw [ke.1]; intro z; exact h (Option.some.inj z))]
            have e2 : atKey (x :: xs) q = atKey xs q := by simp [atKey, List.find?_cons, h]
            rw [e1, e2]
            exact getK_at rt ke.2 pt
theorem hasK_at {q : NestedKey} : ∀ {xs : List EN} {ks : List D}, ks.map keyOf = xs.map (fun x => some x.1) → hasK ks q = (atKey xs q).isSome
  | [], ks, ke => by
    cases ks with
    | nil => rfl
    | cons k ks => cases ke
  | x :: xs, ks, ke => by
    cases ks with
    | nil => cases ke
    | cons k ks =>
      rw [List.map_cons, List.map_cons, List.cons.injEq] at ke
      have ih := hasK_at (q := q) ke.2
      unfold hasK at ih ⊢
      rw [List.any_cons, ih, ke.1]
      by_cases h : x.1 = q
      · simp [atKey, List.find?_cons, h]
      · have z : ¬ (some x.1 = some q) := fun z => h (Option.some.inj z)
        simp [atKey, List.find?_cons, h, z]
/-- a table in the heap -/
structure DR (G : GC) (F : Hp) (xs : List EN) (ws : List V) (ks vs : List D) : Prop where
  wv : Vals ws (xs.map (·.2.2))
  kr : RepAll G F (xs.map fun x => V.ref x.2.1) ks
  ke : ks.map keyOf = xs.map (fun x => some x.1)
  vr : RepAll G F ws vs
theorem DR.mono {F' : Hp} {xs : List EN} {ws : List V} {ks vs : List D} (h : DR G F xs ws ks vs) (s : Same F F') : DR G F' xs ws ks vs := ⟨h.wv, h.kr.mono s, h.ke, h.vr.mono s⟩
theorem DR.len {xs : List EN} {ws : List V} {ks vs : List D} (h : DR G F xs ws ks vs) : xs.length = ks.length := by have := congrArg List.length h.ke; simpa using this.symm
theorem DR.nil : DR G F [] [] [] [] := ⟨.nil, .nil, rfl, .nil⟩
theorem DR.tail {x : EN} {xs : List EN} {w : V} {ws : List V} {k v : D} {ks vs : List D} (h : DR G F (x :: xs) (w :: ws) (k :: ks) (v :: vs)) : DR G F xs ws ks vs ∧ RelV w x.2.2 ∧ Rep G F (.ref x.2.1) k ∧ keyOf k = some x.1 ∧ Rep G F w v := by
  obtain ⟨h1, h2, h3, h4⟩ := h
  rw [List.map_cons, List.map_cons, List.cons.injEq] at h3
  cases h1 with
  | cons a b =>
    cases h2 with
    | cons c d =>
      cases h4 with
      | cons e f => exact ⟨⟨b, d, h3.2, f⟩, a, c, h3.1, e⟩
theorem DR.cons {x : EN} {xs : List EN} {w : V} {ws : List V} {k v : D} {ks vs : List D} (h : DR G F xs ws ks vs) (a : RelV w x.2.2) (b : Rep G F (.ref x.2.1) k) (c : keyOf k = some x.1) (d : Rep G F w v) : DR G F (x :: xs) (w :: ws) (k :: ks) (v :: vs) :=
  ⟨.cons a h.wv, .cons b h.kr, by rw [List.map_cons, List.map_cons, c, h.ke], .cons d h.vr⟩
theorem DR.shape {xs : List EN} {ws : List V} {ks vs : List D} (h : DR G F xs ws ks vs) : (xs = [] ∧ ws = [] ∧ ks = [] ∧ vs = []) ∨ ∃ x xs' w ws' k ks' v vs', xs = x :: xs' ∧ ws = w :: ws' ∧ ks = k :: ks' ∧ vs = v :: vs' := by
  obtain ⟨h1, h2, h3, h4⟩ := h
  cases xs with
  | nil => cases h1; cases h2; cases h4; exact .inl ⟨rfl, rfl, rfl, rfl⟩
  | cons x xs =>
    cases h1
    cases h2
    cases h4
    exact .inr ⟨_, _, _, _, _, _, _, _, rfl, rfl, rfl, rfl⟩
theorem DR.snoc {x : EN} {w : V} {k v : D} (a : RelV w x.2.2) (b : Rep G F (.ref x.2.1) k) (c : keyOf k = some x.1) (d : Rep G F w v) : ∀ {xs : List EN} {ws : List V} {ks vs : List D}, DR G F xs ws ks vs → DR G F (xs ++ [x]) (ws ++ [w]) (ks ++ [k]) (vs ++ [v])
  | xs, ws, ks, vs, h => by
    rcases h.shape with ⟨rfl, rfl, rfl, rfl⟩ | ⟨x', xs', w', ws', k', ks', v', vs', rfl, rfl, rfl, rfl⟩
    · exact DR.nil.cons a b c d
    · obtain ⟨t, e1, e2, e3, e4⟩ := h.tail
      exact (DR.snoc a b c d t).cons e1 e2 e3 e4
theorem DR.rep {q : NestedKey} {u : Value} {w : V} {d : D} (a : RelV w u) (b : Rep G F w d) : ∀ {xs : List EN} {ws : List V} {ks vs : List D}, DR G F xs ws ks vs → ∃ ws', DR G F (xs.map (putAt q u)) ws' ks (repK ks vs q d)
  | xs, ws, ks, vs, h => by
    rcases h.shape with ⟨rfl, rfl, rfl, rfl⟩ | ⟨x', xs', w', ws', k', ks', v', vs', rfl, rfl, rfl, rfl⟩
    · exact ⟨[], by rw [repK]; exact DR.nil; all_goals simp⟩
    · obtain ⟨t, e1, e2, e3, e4⟩ := h.tail
      obtain ⟨ws2, t2⟩ := DR.rep (q := q) a b t
      rw [repK, List.map_cons]
      by_cases hq : x'.1 = q
      · rw [if_pos (by rw [e3, hq])]
        have e : putAt q u x' = (x'.1, x'.2.1, u) := if_pos hq
        rw [e]
        exact ⟨w :: ws2, t2.cons a e2 e3 b⟩
      · rw [if_neg (by rw [e3]; intro z; exact hq (Option.some.inj z))]
        have e : putAt q u x' = x' := if_neg hq
        rw [e]
        exact ⟨w' :: ws2, t2.cons e1 e2 e3 e4⟩
theorem DR.set {q : NestedKey} {u : Value} {w : V} {b : Addr} {kd d : D} {xs : List EN} {ws : List V} {ks vs : List D} (h : DR G F xs ws ks vs) (a : RelV w u) (rb : Rep G F (.ref b) kd) (hk : keyOf kd = some q) (rw' : Rep G F w d) :
    ∃ ws', DR G F (storedH xs q b u) ws' (setK ks vs kd q d).1 (setK ks vs kd q d).2 := by
  unfold storedH setK
  rw [hasK_at h.ke]
  by_cases e : (atKey xs q).isSome = true
  · rw [if_pos e, if_pos e]
    exact DR.rep a rw' h
  · rw [if_neg e, if_neg e]
    exact ⟨_, DR.snoc (x := (q, b, u)) a rb hk rw' h⟩
theorem DR.del {q : NestedKey} : ∀ {xs : List EN} {ws : List V} {ks vs : List D}, DR G F xs ws ks vs → ∃ ws', DR G F (withoutH xs q) ws' (delK ks vs q).1 (delK ks vs q).2
  | xs, ws, ks, vs, h => by
    rcases h.shape with ⟨rfl, rfl, rfl, rfl⟩ | ⟨x', xs', w', ws', k', ks', v', vs', rfl, rfl, rfl, rfl⟩
    · exact ⟨[], by rw [delK]; exact DR.nil; all_goals simp⟩
    · obtain ⟨t, e1, e2, e3, e4⟩ := h.tail
      obtain ⟨ws2, t2⟩ := DR.del (q := q) t
      rw [delK]
      by_cases hq : x'.1 = q
      · rw [if_pos (by rw [e3, hq])]
        have e : withoutH (x' :: xs') q = withoutH xs' q := by simp [withoutH, List.filter_cons, hq]
        rw [e]
        exact ⟨ws2, t2⟩
      · rw [if_neg (by rw [e3]; intro z; exact hq (Option.some.inj z))]
        have e : withoutH (x' :: xs') q = x' :: withoutH xs' q := by simp [withoutH, List.filter_cons, hq]
        rw [e]
        exact ⟨w' :: ws2, t2.cons e1 e2 e3 e4⟩
theorem RdD.dr {v : V} {ks vs : List D} (s : Same F H) (h : RdD G F H v (.dic ks vs)) : ∃ a o xs ws, v = .ref a ∧ H a = some (.ext (isObj' a o)) ∧ (a == sysModules) = false ∧ DicO G o xs ∧ DR G F xs ws ks vs := by
  obtain ⟨a, o, xs, ws, rfl, h1, h2, h3, h4, h5, h6, h7⟩ := h.dic s
  exact ⟨a, o, xs, ws, rfl, h1, h2, h3, h4, h5, h6, h7⟩
theorem Rep.dr {a : Addr} {o : Obj} {xs : List EN} {ws : List V} {ks vs : List D} (e : F a = some (.ext (isObj' a o))) (n : (a == sysModules) = false) (d : DicO G o xs) (r : DR G F xs ws ks vs) : Rep G F (.ref a) (.dic ks vs) := .dic e n d r.wv r.kr r.ke r.vr
theorem Own.dr {a : Addr} {o : Obj} {xs : List EN} {ws : List V} {ks vs : List D} (e : H a = some (.ext (isObj' a o))) (f : F a = none) (n : (a == sysModules) = false) (d : DicO G o xs) (r : DR G F xs ws ks vs) : Own G F H .flat (.ref a) (.dic ks vs) [a] :=
  .dic rfl e f n d r.wv r.kr r.ke (OwnAll.of_rep r.vr) (by simp)
end

section
variable {X : Cx} {pins : List (Addr × Obj)} {σ : L2.St} {H F : Hp} {s : Shared} {k : Nat}
theorem room8 (hr : Room k X.A) : (nestedKind X.prog X.w).room X.A.in1 := by
  have := hr.un
  show X.A.units + 1 + 8 < cLine
  omega
theorem dr_of (I : L2.Inv X pins σ H s) (sF : Same F H) {p : Addr} {o : Obj} {xs : List EN} {ws : List V} {ks vs : List D} (hp : H p = some (.ext (isObj' p o))) (dd : DicO (gOf X) o xs) (h : DR (gOf X) F xs ws ks vs) : s.heap.DictOfH (nestedKind X.prog X.w) p xs :=
  dic_of I sF hp dd h.kr h.ke
theorem key_is (I : L2.Inv X pins σ H s) (sF : Same F H) {b : Addr} {kd : D} {q : NestedKey} (r : Rep (gOf X) F (.ref b) kd) (h : keyT kd = some q) : (nestedKind X.prog X.w).is s.heap q b :=
  ⟨nested_of I sF r (keyT_some h).2.1 rfl, (keyT_some h).2.2⟩
/-- what stands behind a change -/
theorem dicO_of {p : Addr} {h' : Heap} {xs : List EN} (h : h'.DictOfH (nestedKind X.prog X.w) p xs) (hz : xs.length ≤ sizeLine) : ∃ o, h'.get? p = some o ∧ DicO (gOf X) o xs := by
  obtain ⟨o, es, ep, h1, h2, h3, h4, h5, h6⟩ := h
  exact ⟨o, h1, h2, ⟨es, ep, h3, h4⟩, h6, fun x hx => (h5 x hx).2, hz⟩
theorem ext_ok {p : Addr} {o : Obj} {h' : Heap} {P : Program} {w : World} {H' : Hp} (e : h'.get? p = some o) : ObjOk P w H' h' p (.ext (isObj' p o)) := ⟨e, ⟨o, e⟩, fun _ _ q k => k _ q⟩

/-! ### {} -/
theorem dicO_nil {o : Obj} (h : o = { cls := .type "dict", data := .dict #[] }) {G : GC} : DicO G o [] := by
  subst h
  exact ⟨⟨rfl, rfl, rfl⟩, ⟨#[], 0, rfl, rfl⟩, List.nodup_nil, (fun _ z => nomatch z), Nat.zero_le _⟩
theorem re_dic0 {W : Wi} {pos : Pos} : RE X W (.O .flat) (.Dict [] [] pos) (fun _ => .ok (.dic [] [])) := ⟨fun pins s σ H Q I ⟨H0, F0, fp, F, r, m, o⟩ => by
  have hn : (s.heap.objs.size == sysModules) = false := beq_eq_false_iff_ne.mpr (Ne.symm (Nat.ne_of_lt I.big))
  have hf := I.hok.fresh (Nat.le_refl _)
  refine wpAny_Dict_empty ⟨.ref s.heap.objs.size, _, I.laid (a := s.heap.objs.size) (o := .ext (isObj' s.heap.objs.size { cls := .type "dict", data := .dict #[] })) (t' := s.toks) (fun _ _ q => Heap.get?_push_of_some _ q) (Nat.le_refl _) (ext_ok (Heap.get?_push_size _ rfl)), rfl, ?_⟩
  exact o F _ (Grow.own m.sub hf) _ ⟨[_], Own.dr upd_same (m.sub.free hf) hn (dicO_nil rfl) DR.nil, fun a ha => by rw [List.mem_singleton.mp ha]; exact hf⟩⟩
end

/-! ### d[k], k in d -/
def ixD (a i : D) : Res D := match a with
  | .dic ks vs => match keyT i with
    | some q => match getK ks vs q with
      | some d => .ok d
      | none => .bad
    | none => .bad
  | a => ixS a i
def inD (x xs : D) : Res D := match xs with
  | .dic ks _ => match keyT x with
    | some q => .ok (.bl (hasK ks q))
    | none => .bad
  | xs => inS x xs
def notInD (x xs : D) : Res D := match xs with
  | .dic ks _ => match keyT x with
    | some q => .ok (.bl (!hasK ks q))
    | none => .bad
  | xs => notInS x xs
theorem ne_ixD : NoEr2 ixD := fun a b e z => by
  unfold ixD at z
  split at z
  · split at z
    · split at z <;> cases z
    · cases z
  · exact ne_ix _ _ _ z
theorem ne_inD : NoEr2 inD := fun a b e z => by
  unfold inD at z
  split at z
  · split at z <;> cases z
  · exact ne_in _ _ _ z
theorem ne_notInD : NoEr2 notInD := fun a b e z => by
  unfold notInD at z
  split at z
  · split at z <;> cases z
  · exact ne_notIn _ _ _ z
section
variable {X : Cx} {W : Wi} {k : Nat} {a b c e : Expr} {fa fb fe : Env → Res D} {pos : Pos}
/-- a dict and a key -/
def rDK (X : Cx) (P : List EN → NestedKey → Hp → Prop) : V → V → Hp → Prop := fun x y H => ∃ (F : Hp) (p b : Addr) (o : Obj) (xs : List EN) (ws : List V) (ks vs : List D) (kd : D) (q : NestedKey), x = .ref p ∧ y = .ref b ∧ Same F H ∧ H p = some (.ext (isObj' p o)) ∧ (p == sysModules) = false ∧
  DicO (gOf X) o xs ∧ DR (gOf X) F xs ws ks vs ∧ Rep (gOf X) F (.ref b) kd ∧ keyT kd = some q ∧ P xs q H
theorem ix_dic (hr : Room k X.A) : IxR X (fun x y H Q => rDK X (fun xs q H => ∃ e v, atKey xs q = some e ∧ RelV v e.2 ∧ Q v H) x y H) := by
  intro value slice pins s σ H x y u1 u2 Q I r1 r2 h hs
  obtain ⟨F, p, b, o, xs, ws, ks, vs, kd, q, rfl, rfl, sF, hp, hn, dd, dr, rk, hk, e, v, he, rv, hq⟩ := h
  cases r1
  cases r2
  exact tail_any (dr_of I sF hp dd dr).typeIs slot_dict_getitem.lookup (wpAny_getItem_heap (room8 hr) (key_is I sF rk hk) (dr_of I sF hp dd dr) he ⟨v, H, I.tok _, rv, hq⟩) hs
theorem op_inDic (hr : Room k X.A) : OpR X (compareOp .In) (fun y x H Q => rDK X (fun xs q H => Q (.bl (atKey xs q).isSome) H) x y H) := by
  intro pins s σ H y x u2 u1 Q I r2 r1 h
  obtain ⟨F, p, b, o, xs, ws, ks, vs, kd, q, rfl, rfl, sF, hp, hn, dd, dr, rk, hk, hq⟩ := h
  cases r1
  cases r2
  exact wpAny_in_heap (room8 hr) (key_is I sF rk hk) hn (dr_of I sF hp dd dr) ⟨.bl _, H, I.tok _, rfl, hq⟩
theorem op_notInDic (hr : Room k X.A) : OpR X (compareOp .NotIn) (fun y x H Q => rDK X (fun xs q H => Q (.bl (!(atKey xs q).isSome)) H) x y H) := by
  intro pins s σ H y x u2 u1 Q I r2 r1 h
  obtain ⟨F, p, b, o, xs, ws, ks, vs, kd, q, rfl, rfl, sF, hp, hn, dd, dr, rk, hk, hq⟩ := h
  cases r1
  cases r2
  exact wpAny_notIn_heap (room8 hr) (key_is I sF rk hk) hn (dr_of I sF hp dd dr) ⟨.bl _, H, I.tok _, rfl, hq⟩
theorem key_ref {G : GC} {F H : Hp} {y : V} {kd : D} {q : NestedKey} (h : RdD G F H y kd) (hk : keyT kd = some q) : ∃ b, y = .ref b ∧ Rep G F (.ref b) kd := by
  obtain ⟨⟨xs, rfl⟩, _⟩ := keyT_some hk
  have z := h.tupS
  cases z with
  | tup h1 h2 => exact ⟨_, rfl, .tup h1 h2⟩
theorem ixD_ok : OpD (gOf X) (fun x y H Q => rIx X.K x y H Q ∨ rDK X (fun xs q H => ∃ e v, atKey xs q = some e ∧ RelV v e.2 ∧ Q v H) x y H) .R .R .S ixD := fun F H x y a b d Q Ha Hb s ka kb e k => by
  unfold ixD at e
  split at e
  · rename_i ks vs
    split at e
    · rename_i q hq
      split at e <;> cases e
      rename_i hg
      obtain ⟨p, o, xs, ws, rfl, h1, h2, h3, h4⟩ := RdD.dr s (show RdD (gOf X) F H x _ from ka)
      obtain ⟨b', rfl, rb⟩ := key_ref (show RdD (gOf X) F H y _ from kb) hq
      rcases getK_at (q := q) h4.wv h4.ke h4.vr with ⟨z, _⟩ | ⟨d', e', v, z1, z2, z3, z4⟩
      · rw [hg] at z; cases z
      · rw [hg] at z1
        cases z1
        exact .inr ⟨F, p, b', o, xs, ws, ks, vs, _, q, rfl, rfl, s, h1, h2, h3, h4, rb, hq, e', v, z2, z3, k v F H (Grow.refl s) z4⟩
    · cases e
  · exact .inl (ix_ok F H x y _ b d Q Ha Hb s ka kb e k)
theorem re_ix (hr : Room k X.A) (ha : RE X W .R a fa) (hb : RE X W .R b fb) (hs : PlainIx b := by intro _ _; rfl) : RE X W .S (.Subscript a b pos) (fun r => fa r >>= fun x => fb r >>= fun y => ixD x y) := (pe_ix (ix_seq.or (ix_dic hr)) ha hb hs).imp (t_op ixD_ok ne_ixD)
theorem inD_ok : OpD (gOf X) (fun y x H Q => rInD X.K y x H Q ∨ rDK X (fun xs q H => Q (.bl (atKey xs q).isSome) H) x y H) .R .R .S inD := fun F H y x b a d Q Ha Hb s kb ka e k => by
  unfold inD at e
  split at e
  · rename_i ks vs
    split at e <;> cases e
    rename_i q hq
    obtain ⟨p, o, xs, ws, rfl, h1, h2, h3, h4⟩ := RdD.dr s (show RdD (gOf X) F H x _ from ka)
    obtain ⟨b', rfl, rb⟩ := key_ref (show RdD (gOf X) F H y _ from kb) hq
    exact .inr ⟨F, p, b', o, xs, ws, ks, vs, _, q, rfl, rfl, s, h1, h2, h3, h4, rb, hq, by show Q _ H; rw [← hasK_at h4.ke]; exact k _ F H (Grow.refl s) (Rep.bl _)⟩
  · exact .inl (in_ok F H y x b _ d Q Ha Hb s kb ka e k)
theorem notInD_ok : OpD (gOf X) (fun y x H Q => rNotInD X.K y x H Q ∨ rDK X (fun xs q H => Q (.bl (!(atKey xs q).isSome)) H) x y H) .R .R .S notInD := fun F H y x b a d Q Ha Hb s kb ka e k => by
  unfold notInD at e
  split at e
  · rename_i ks vs
    split at e <;> cases e
    rename_i q hq
    obtain ⟨p, o, xs, ws, rfl, h1, h2, h3, h4⟩ := RdD.dr s (show RdD (gOf X) F H x _ from ka)
    obtain ⟨b', rfl, rb⟩ := key_ref (show RdD (gOf X) F H y _ from kb) hq
    exact .inr ⟨F, p, b', o, xs, ws, ks, vs, _, q, rfl, rfl, s, h1, h2, h3, h4, rb, hq, by show Q _ H; rw [← hasK_at h4.ke]; exact k _ F H (Grow.refl s) (Rep.bl _)⟩
  · exact .inl (notIn_ok F H y x b _ d Q Ha Hb s kb ka e k)
theorem c_in (hr : Room k X.A) : Cmp X .In inD := ⟨⟨_, (op_inD (units65 hr)).or (op_inDic hr), inD_ok⟩, ne_inD⟩
theorem c_notIn (hr : Room k X.A) : Cmp X .NotIn notInD := ⟨⟨_, (op_notInD (units65 hr)).or (op_notInDic hr), notInD_ok⟩, ne_notInD⟩
end

/-! ### d[k] = v -/
/-- the thing that the i-th name owns -/
def ownF (i : Nat) (r : Env) : Option D := match r[i]? with
  | some (.ow .flat d) => some d
  | _ => none
theorem ownF_some {i : Nat} {r : Env} {d : D} (h : ownF i r = some d) : r[i]? = some (.ow .flat d) := by
  unfold ownF at h
  split at h
  · rename_i e; cases h; exact e
  · cases h
/-- what stands behind d[i] = v -/
def setD (d i v : D) : Res D := match d with
  | .dic ks vs => match keyT i with
    | some q => if ks.length < lim then .ok (.dic (setK ks vs i q v).1 (setK ks vs i q v).2) else .bad
    | none => .bad
  | .lst ds => match i with
    | .int n => match ixN ds.length n with
      | some j => .ok (.lst (ds.set j v))
      | none => .bad
    | _ => .bad
  | _ => .bad
def setG (i : Nat) (fv fi : Env → Res D) (r : Env) : Oc := lift (fv r) r fun v => match ownF i r with
  | some d => lift (fi r) r fun n => match setD d n v with
    | .ok d' => .nx (r.set i (.ow .flat d'))
    | _ => .bad
  | none => .bad
section
variable {G : GC} {J : L2.St → Prop} {H0 F0 F H : Hp} {fp : Nat → List Addr} {σ : L2.St} {r : Env}
theorem MS.dic (m : MS G J H0 F0 fp F σ H r) {i : Nat} {ks vs : List D} (h : r[i]? = some (.ow .flat (.dic ks vs))) : ∃ a o xs ws, σ[i]? = some (some (.ref a)) ∧ H a = some (.ext (isObj' a o)) ∧ (a == sysModules) = false ∧ DicO G o xs ∧ DR G F xs ws ks vs ∧ fp i = [a] := by
  obtain ⟨⟨v, h1, h2⟩, _⟩ := m.ow i _ _ h
  generalize fp i = A at h2
  cases h2 with
  | dic _ e _ z1 z2 z3 z4 z5 ra na =>
    obtain ⟨rfl, rr⟩ := ra.to_rep
    exact ⟨_, _, _, _, h1, e, z1, z2, ⟨z3, z4, z5, rr⟩, rfl⟩
theorem MS.dicUpd (m : MS G J H0 F0 fp F σ H r) {i : Nat} {d : D} {a : Addr} {o : Obj} {xs : List EN} {ws : List V} {ks vs : List D} (h : r[i]? = some (.ow .flat d)) (hv : σ[i]? = some (some (.ref a))) (hf : fp i = [a]) (hn : (a == sysModules) = false) (dd : DicO G o xs) (dr : DR G F xs ws ks vs) :
    ∃ fp', MS G J H0 F0 fp' F σ (upd H a (.ext (isObj' a o))) (r.set i (.ow .flat (.dic ks vs))) := by
  obtain ⟨⟨v, h1, h2⟩, _⟩ := m.ow i _ _ h
  have fa := (h2.there a (by rw [hf]; simp)).1
  exact m.write (A := [a]) h hv (by rw [hf]; simp) (Own.dr upd_same fa hn dd dr) fun b hb => .inl (by rw [hf]; exact hb)
end
section
variable {X : Cx} {W : Wi} {k : Nat} {kk : Kd} {e iv : Expr} {fe fi : Env → Res D} {pos ps p2 apos cpos : Pos} {x : Str}
def rSetDic (X : Cx) : TSet := fun ov i v H Q => rDK X (fun xs q H => xs.length ≤ lim ∧ ∀ p b o' u, ov = .ref p → i = .ref b → RelV v u → DicO (gOf X) o' (storedH xs q b u) → Q (upd H p (.ext (isObj' p o')))) ov i H
theorem storedH_len (xs : List EN) (q : NestedKey) (b : Addr) (u : Value) : (storedH xs q b u).length ≤ xs.length + 1 := by
  unfold storedH
  split
  · simp
  · simp
theorem set_dic (hr : Room k X.A) : PSet X (rSetDic X) := by
  intro pins s σ H ov i v uo ui u Q I ro ri rv h
  obtain ⟨F, p, b, o, xs, ws, ks, vs, kd, q, rfl, rfl, sF, hp, hn, dd, dr, rk, hk, hl, hq⟩ := h
  cases ro
  cases ri
  refine wpAny_setItem_heap (hsz := dd.sz) (room8 hr) (key_is I sF rk hk) (dr_of I sF hp dd dr) fun h' hm' hs => ?_
  have hz : (storedH xs q b u).length ≤ sizeLine := by
    have h1 := storedH_len xs q b u
    have h2 : lim + 1 ≤ sizeLine := by rw [sizeLine_eq]; decide
    omega
  obtain ⟨o', e1, e2⟩ := dicO_of hm' hz
  exact ⟨_, d_write I (by rw [hp]; exact True.intro) hs ⟨o', e1⟩ (ext_ok e1), hq p b o' u rfl rfl rv e2⟩
theorem PSet.or {t t' : TSet} (h : PSet X t) (h' : PSet X t') : PSet X (fun o i v H Q => t o i v H Q ∨ t' o i v H Q) := by
  intro pins s σ H ov i v uo ui u Q I ro ri rv q
  rcases q with q | q
  · exact h pins s σ H ov i v uo ui u Q I ro ri rv q
  · exact h' pins s σ H ov i v uo ui u Q I ro ri rv q
theorem rs_setItem (i : Nat) (hr : Room k X.A) (he : RE X W .S e fe) (hi : RE X W .R iv fi) (hN : X.N[i]? = some x := by rfl) (hv : Vis X.env.scope x := by first | exact Or.inl rfl | exact Or.inr (Or.inl rfl) | exact Or.inr (Or.inr rfl)) (hd : (x == ("__debug__" : Str)) = false := by decide)
    (hcd : (x == ("__classdict__" : Str)) = false := by decide) (ha : ∀ v, assign (.Subscript (.Name x ps) iv p2) X.env v = (do
      let ov ← holding [v] (eval (.Name x ps) X.env)
      let iv ← holding [v, ov] (eval iv X.env)
      standAt p2
      holding [v, ov, iv] (setItem ov iv v)
      release [v, ov, iv] []) := by intro _; rfl)
    (hs : swapsWithSole [.Subscript (.Name x ps) iv p2] e pos.line X.env = pure false := by rfl) (hw : swappedStores [.Subscript (.Name x ps) iv p2] e X.env = pure none := by rfl) (h1 : (assignEach [.Subscript (.Name x ps) iv p2] X.env).map (·.2) = [assign (.Subscript (.Name x ps) iv p2) X.env] := by rfl) :
    RS X W kk (.Assign [.Subscript (.Name x ps) iv p2] e pos) (setG i fe fi) :=
  (ps_asg he (pg_sub (pe_var hN hv hd hcd) hi (PSet.or set_list (set_dic hr)) ha) hs hw h1).imp fun D σ H ⟨H0, F0, fp, F, r, m, o⟩ => ⟨H0, F0, fp, F, r, m, OutS.lift m o fun F' H' d gr o' v kv => by
    split at o'
    · rename_i dd ho
      have hi := ownF_some ho
      have m' := m.grow gr
      cases dd with
      | lst ds =>
        obtain ⟨a, vs, h1, h2, h3, h4⟩ := m'.lst hi
        refine ⟨.ref a, h1, H0, F0, fp, F', r, m', OutS.lift m' o' fun F2 H2 n g2 o2 u ku => ?_⟩
        cases n with
        | int n =>
          unfold setD at o2
          simp only at o2
          split at o2
          · rename_i z hz
            split at hz
            · rename_i j hj
              cases hz
              obtain ⟨fp', m2⟩ := (m'.grow g2).lstUpd hi h1 h4 ((h3.mono g2.f).set (Mir.Rep.mono g2.f kv) j)
              exact .inl ⟨a, vs, n, j, rfl, RdD.int ku, g2.h _ _ h2, by rw [h3.length]; exact hj, o2 fp' F2 σ _ (Same.refl _) m2⟩
            · cases hz
          · exact o2.elim
        | _ => exact o2.elim
      | dic ks vs =>
        obtain ⟨a, ob, xs, ws, h1, h2, h3, h4, h5, h6⟩ := m'.dic hi
        refine ⟨.ref a, h1, H0, F0, fp, F', r, m', OutS.lift m' o' fun F2 H2 n g2 o2 u ku => ?_⟩
        unfold setD at o2
        simp only at o2
        split at o2
        · rename_i z hz
          split at hz
          · rename_i q hq
            split at hz <;> cases hz
            rename_i hl
            obtain ⟨b, rfl, rb⟩ := key_ref (show RdD (gOf X) F2 H2 u _ from ku) hq
            have h5' := h5.mono g2.f
            refine .inr ⟨F2, a, b, ob, xs, ws, ks, vs, n, q, rfl, rfl, g2.sub, g2.h _ _ h2, h3, h4, h5', rb, hq, by rw [h5.len]; exact Nat.le_of_lt hl, fun p b' ob' uu ep eb ru dd' => ?_⟩
            cases ep
            cases eb
            obtain ⟨ws', dr'⟩ := h5'.set ru rb (keyT_some hq).2.1 (Mir.Rep.mono g2.f kv)
            obtain ⟨fp', m2⟩ := (m'.grow g2).dicUpd hi h1 h6 h3 dd' dr'
            exact o2 fp' F2 σ _ (Same.refl _) m2
          · cases hz
        · exact o2.elim
      | _ =>
        obtain ⟨⟨v', h1, _⟩, _⟩ := m'.ow i _ _ hi
        refine ⟨v', h1, H0, F0, fp, F', r, m', OutS.lift m' o' fun F2 H2 n g2 o2 u ku => ?_⟩
        exact o2.elim
    · exact o'.elim⟩
end
end Mir

/-! Dicts with tuple keys: ==, copies, what is walked, keys taken out. -/
namespace Mir
open PySem PySem.Spec PyProof.Rows L2

/-! ### == -/
section
variable {prog : Program} {w : World} {K : Type} [DecidableEq K] {knd : HeapKind prog w K} {A : Around} {E : Value → Shared → Prop} {s : Shared}
def EqT (prog : Program) (w : World) (A : Around) (s : Shared) (y x : Value) (b : Bool) : Prop := ∀ (E : Value → Shared → Prop) (Q : Bool → Shared → Prop), Q b s → wpAny (model prog w) A (eqBool y x) Q E s
inductive HitsH (prog : Program) (w : World) (A : Around) (s : Shared) (ys : List (K × Addr × Value)) : List (K × Addr × Value) → Bool → Prop
  | nil : HitsH prog w A s ys [] true
  | miss {x : K × Addr × Value} {r : List (K × Addr × Value)} : atKey ys x.1 = none → HitsH prog w A s ys (x :: r) false
  | hit {x : K × Addr × Value} {e : Addr × Value} {r : List (K × Addr × Value)} {b : Bool} : atKey ys x.1 = some e → EqT prog w A s x.2.2 e.2 true → HitsH prog w A s ys r b → HitsH prog w A s ys (x :: r) b
  | not {x : K × Addr × Value} {e : Addr × Value} {r : List (K × Addr × Value)} : atKey ys x.1 = some e → EqT prog w A s x.2.2 e.2 false → HitsH prog w A s ys (x :: r) false
theorem atKey_of {xs : List (K × Addr × Value)} (hn : (xs.map (·.1)).Nodup) {j : Nat} {k : K} {p : Addr × Value} (h : xs[j]? = some (k, p)) : atKey xs k = some p := by
  induction xs generalizing j with
  | nil => simp at h
  | cons x xs ih =>
    rw [List.map_cons, List.nodup_cons] at hn
    cases j with
    | zero =>
      simp at h
      subst h
      simp [atKey, List.find?_cons]
    | succ j =>
      have h' : xs[j]? = some (k, p) := by simpa using h
      have ne : x.1 ≠ k := fun e => hn.1 (by rw [e]; exact List.mem_map.mpr ⟨(k, p), List.mem_of_getElem? h', rfl⟩)
      have := ih hn.2 h'
      simpa [atKey, List.find?_cons, ne] using this
theorem atKey_no {xs : List (K × Addr × Value)} {k : K} (h : ∀ (j : Nat) (p : Addr × Value), xs[j]? ≠ some (k, p)) : atKey xs k = none := by
  induction xs with
  | nil => rfl
  | cons x xs ih =>
    have ne : x.1 ≠ k := fun e => h 0 x.2 (by simp [← e])
    have := ih fun j p z => h (j + 1) p (by simpa using z)
    simpa [atKey, List.find?_cons, ne] using this
theorem samePairsH {nm : String} {a b : Addr} {xs ys : List (K × Addr × Value)} {r : Bool} {Q : Bool → Shared → Prop} (hu : knd.room A) (ha : (a == sysModules) = false) (hb : (b == sysModules) = false)
    (da : s.heap.DictOfH knd a xs) (db : s.heap.DictOfH knd b ys) (hits : xs.length = ys.length → HitsH prog w A s ys xs r) (h : Q (xs.length == ys.length && r) s) :
    wpAny (model prog w) A (Builtin.Dict.samePairs nm a b) Q E s := by
  obtain ⟨oa, es, ep, hoa, _, hda, hea, hia, hna⟩ := da
  obtain ⟨ob, fs, eq, hob, _, hdb, heb, hib, hnb⟩ := db
  have hla := size_of_entries hea
  have hlb := size_of_entries heb
  rw [← hla, ← hlb] at h hits
  unfold Builtin.Dict.samePairs Builtin.Dict.showsAll
  rw [if_neg (show ¬ (a == sysModules) = true by rw [ha]; decide), if_neg (show ¬ (b == sysModules) = true by rw [hb]; decide)]
  refine wpAny_bind (wpAny_pure (wpAny_bind (wpAny_pure (wpAny_bind (wpAny_dictEntries hoa hda ?_)))))
  dsimp only
  refine wpAny_bind (wpAny_dictEntries hob hdb ?_)
  by_cases hsz : es.size = fs.size
  case neg =>
    rw [if_pos (by simpa using hsz)]
    rw [beq_eq_false_iff_ne.mpr hsz, Bool.false_and] at h
    exact wpAny_bind (wpAny_rule (wpAny_pure h))
  case pos =>
    have h' : Q r s := by simpa [hsz] using h
    have hh := hits hsz
    rw [if_neg (by rw [hsz]; simp)]
    refine wpAny_bind (wpAny_dictEpoch hoa hda (wpAny_bind ?_))
    rw [Std.Legacy.Range.forIn_eq_forIn_range']; simp only [Std.Legacy.Range.size, Nat.sub_zero, Nat.add_sub_cancel, Nat.div_one]
    refine wpAny_forIn_list _ (fun rest q t => t = s ∧ q = (none, ()) ∧ ∃ i, rest = List.range' i (es.size - i) ∧ i ≤ es.size ∧ HitsH prog w A s ys (xs.drop i) r) _ ?_ ?_ _ _ ⟨rfl, rfl, 0, by simp, Nat.zero_le _, hh⟩
    · rintro j rest q t ⟨rfl, rfl, i, hr, hi, hp⟩
      have hlt : i < es.size := by
        rcases Nat.lt_or_ge i es.size with z | z
        · exact z
        · rw [Nat.sub_eq_zero_of_le z] at hr; simp at hr
      obtain ⟨rfl, hrest⟩ : j = i ∧ rest = List.range' (i + 1) (es.size - (i + 1)) := by
        rw [show es.size - i = (es.size - (i + 1)) + 1 by omega, List.range'_succ] at hr
        injection hr with h1 h2
        exact ⟨h1, h2⟩
      have hlx : j < xs.length := by rw [← hla]; exact hlt
      have hej : es[j]? = some (entryOfKey knd xs[j]) := by rw [entry_at hea j, List.getElem?_eq_getElem hlx]; rfl
      have hmem : xs[j] ∈ xs := List.getElem_mem hlx
      refine wpAny_bind (wpAny_dictEntries hoa hda ?_)
      rw [hej]
      rw [List.drop_eq_getElem_cons hlx] at hp
      generalize hx : xs[j] = x at hp hmem
      show wpAny _ _ (holding [Value.ref x.2.1, x.2.2] _ >>= _) _ _ _
      refine wpAny_bind (wpAny_holding (wpAny_bind (wpAny_dictFind_heap hu (hia x hmem) hob hdb heb hib hnb (fun no => ?_) fun jj p hp' => ?_)))
      · have hn := atKey_no no
        have er : r = false := by
          cases hp with
          | miss => rfl
          | hit z => rw [hn] at z; cases z
          | not z => rfl
        rw [er] at h'
        refine wpAny_pure ?_
        show wpAny _ _ (if (!false) = true then _ else _) _ _ _
        rw [if_pos (by decide)]
        exact wpAny_pure (wpAny_pure h')
      · have hs := atKey_of hnb hp'
        have hf : fs[jj]? = some (entryOfKey knd (x.1, p)) := by rw [entry_at heb jj, hp']; rfl
        refine wpAny_bind (wpAny_dictEntries hob hdb ?_)
        rw [hf]
        cases hp with
        | miss z => rw [hs] at z; cases z
        | not z hq =>
          rw [hs] at z
          cases z
          refine wpAny_holding (hq _ _ ?_)
          show wpAny _ _ (if (!false) = true then _ else _) _ _ _
          rw [if_pos (by decide)]
          exact wpAny_pure (wpAny_pure h')
        | hit z hq ht =>
          rw [hs] at z
          cases z
          refine wpAny_holding (hq _ _ ?_)
          show wpAny _ _ (if (!true) = true then _ else _) _ _ _
          rw [if_neg (by decide)]
          refine wpAny_bind (wpAny_dictEpoch hoa hda ?_)
          rw [if_neg (by simp)]
          exact wpAny_pure ⟨rfl, rfl, j + 1, hrest, hlt, ht⟩
    · rintro q t ⟨rfl, rfl, i, hr, hi, hp⟩
      have hin : i = es.size := by
        rcases Nat.lt_or_ge i es.size with z | z
        · rw [show es.size - i = (es.size - (i + 1)) + 1 by omega, List.range'_succ] at hr; exact nomatch hr
        · exact Nat.le_antisymm hi z
      refine wpAny_pure ?_
      rw [hin, hla, List.drop_length] at hp
      cases hp
      exact h'
theorem cmpH {op : CmpOp} {b : Bool} {a c : Addr} {xs ys : List (K × Addr × Value)} {r : Bool} {Q : Value → Shared → Prop} (ho : (op = .Eq ∧ b = true) ∨ (op = .NotEq ∧ b = false)) (hu : knd.room A.in1) (hv : A.units < cLine) (ha : (a == sysModules) = false) (hc : (c == sysModules) = false)
    (da : s.heap.DictOfH knd a xs) (dc : s.heap.DictOfH knd c ys) (hits : xs.length = ys.length → HitsH prog w A.in1 s ys xs r) (h : Q (.bool (if b = true then (xs.length == ys.length && r) else !(xs.length == ys.length && r))) s) :
    wpAny (model prog w) A (compareOp op (.ref a) (.ref c)) Q E s := by
  rcases ho with ⟨rfl, rfl⟩ | ⟨rfl, rfl⟩
  · refine wpAny_richCompare_same_room (op := .Eq) da.typeIs dc.typeIs PySem.F.slot_dict_eq (wpAny_call_entry PySem.F.slot_dict_eq da.typeIs PySem.F.entry_dict_eq ?_ (PySem.F.args_dict_eq_2 _ _)) hv
    show wpAny _ _ (Builtin.Dict.dictSlotArgs "__eq__" ⟨[.ref a, .ref c], []⟩ >>= _) _ _ s
    unfold Builtin.Dict.dictSlotArgs
    refine wpAny_bind (wpAny_bind (wpAny_notOrdered_dict da.typeIs ?_))
    show wpAny _ _ (pure (Value.ref a, Value.ref c)) _ _ s
    refine wpAny_pure (wpAny_bind (wpAny_isInstance (T := "dict") dc.typeIs PySem.F.sub_dict_dict ?_))
    simp only [Bool.not_true, Bool.false_eq_true, if_false]; refine wpAny_bind (wpAny_pure (wpAny_bind (wpAny_pure (wpAny_bind (samePairsH hu ha hc da dc hits ?_)))))
    exact wpAny_pure ⟨_, rfl, ⟨(fun x => nomatch x), by simpa using h⟩⟩
  · refine wpAny_richCompare_same_room (op := .NotEq) da.typeIs dc.typeIs PySem.F.slot_dict_ne (wpAny_call_entry PySem.F.slot_dict_ne da.typeIs PySem.F.entry_dict_ne ?_ (PySem.F.args_dict_ne_2 _ _)) hv
    show wpAny _ _ (Builtin.Dict.dictSlotArgs "__ne__" ⟨[.ref a, .ref c], []⟩ >>= _) _ _ s
    unfold Builtin.Dict.dictSlotArgs
    refine wpAny_bind (wpAny_bind (wpAny_notOrdered_dict da.typeIs ?_))
    show wpAny _ _ (pure (Value.ref a, Value.ref c)) _ _ s
    refine wpAny_pure (wpAny_bind (wpAny_isInstance (T := "dict") dc.typeIs PySem.F.sub_dict_dict ?_))
    simp only [Bool.not_true, Bool.false_eq_true, if_false]; refine wpAny_bind (wpAny_pure (wpAny_bind (wpAny_pure (wpAny_bind (samePairsH hu ha hc da dc hits ?_)))))
    exact wpAny_pure ⟨_, rfl, ⟨(fun x => nomatch x), by simpa using h⟩⟩
end
/-- whether the values stand in the other table, too -/
def sameK : List D → List D → List D → List D → Option Bool
  | k :: ks, v :: vs, ks2, vs2 => match keyOf k with
    | some q => match getK ks2 vs2 q with
      | none => some false
      | some u => match eqS v u with
        | .ok (.bl true) => sameK ks vs ks2 vs2
        | .ok (.bl false) => some false
        | _ => none
    | none => none
  | _, _, _, _ => some true
def sameD (ks vs ks2 vs2 : List D) : Option Bool := if ks.length = ks2.length then sameK ks vs ks2 vs2 else some false
def eqD (a b : D) : Res D := match a, b with
  | .dic ks vs, .dic ks2 vs2 => match sameD ks vs ks2 vs2 with
    | some b => .ok (.bl b)
    | none => .bad
  | a, b => eqS a b
def neD (a b : D) : Res D := match a, b with
  | .dic ks vs, .dic ks2 vs2 => match sameD ks vs ks2 vs2 with
    | some b => .ok (.bl (!b))
    | none => .bad
  | a, b => neS a b
theorem ne_eqD : NoEr2 eqD := fun a b e z => by
  unfold eqD at z
  split at z
  · split at z <;> cases z
  · exact ne_eq _ _ _ z
theorem ne_neD : NoEr2 neD := fun a b e z => by
  unfold neD at z
  split at z
  · split at z <;> cases z
  · exact ne_ne _ _ _ z
section
variable {X : Cx} {pins : List (Addr × Obj)} {σ : L2.St} {H F : Hp} {s : Shared} {k : Nat}
theorem eqT_of (I : L2.Inv X pins σ H s) (sF : Same F H) (hr : X.A.units + 65 < cLine) {v u : V} {x y : Value} {d e : D} {b : Bool} (h : eqS d e = .ok (.bl b)) (rv : Rep (gOf X) F v d) (ru : Rep (gOf X) F u e) (hx : RelV v x) (hy : RelV u y) : EqT X.prog X.w X.A.in1 s x y b := by
  unfold eqS at h
  split at h
  · rename_i p q h1 h2
    split at h
    · rename_i hs
      injection h with h
      injection h with h
      subst h
      obtain ⟨as, r1⟩ := Dp.reads I p v x (rv.dp sF h1) hx
      obtain ⟨bs, r2⟩ := Dp.reads I q u y (ru.dp sF h2) hy
      have z := PySem.W.keq_at (A := X.A) r1 r2 hs.1 hs.2 (show X.A.units + 1 + 64 < cLine by omega)
      exact fun E Q hq => z X.prog X.w E Q hq
    · cases h
  · cases h
theorem hits_of (I : L2.Inv X pins σ H s) (sF : Same F H) (hr : X.A.units + 65 < cLine) {ys : List EN} {us : List V} {ks2 vs2 : List D} (h2 : DR (gOf X) F ys us ks2 vs2) : ∀ {xs : List EN} {ws : List V} {ks vs : List D} {b : Bool}, DR (gOf X) F xs ws ks vs → sameK ks vs ks2 vs2 = some b → HitsH X.prog X.w X.A.in1 s ys xs b
  | xs, ws, ks, vs, b, h, e => by
    rcases h.shape with ⟨rfl, rfl, rfl, rfl⟩ | ⟨x, xs', w, ws', k, ks', v, vs', rfl, rfl, rfl, rfl⟩
    · simp [sameK] at e
      subst e
      exact .nil
    · obtain ⟨t, e1, e2, e3, e4⟩ := h.tail
      rw [sameK, e3] at e
      simp only at e
      rcases getK_at (q := x.1) h2.wv h2.ke h2.vr with ⟨z1, z2⟩ | ⟨d, en, u, z1, z2, z3, z4⟩
      · rw [z1] at e
        cases e
        exact .miss z2
      · rw [z1] at e
        simp only at e
        split at e
        · rename_i he
          exact .hit z2 (eqT_of I sF hr he e4 z4 e1 z3) (hits_of I sF hr h2 t e)
        · rename_i he
          cases e
          exact .not z2 (eqT_of I sF hr he e4 z4 e1 z3)
        · cases e
def rDD (X : Cx) (P : Bool → Hp → Prop) : V → V → Hp → Prop := fun x y H => ∃ (F : Hp) (p p2 : Addr) (o o2 : Obj) (xs ys : List EN) (ws us : List V) (ks vs ks2 vs2 : List D) (b : Bool), x = .ref p ∧ y = .ref p2 ∧ Same F H ∧ H p = some (.ext (isObj' p o)) ∧ (p == sysModules) = false ∧
  DicO (gOf X) o xs ∧ DR (gOf X) F xs ws ks vs ∧ H p2 = some (.ext (isObj' p2 o2)) ∧ (p2 == sysModules) = false ∧ DicO (gOf X) o2 ys ∧ DR (gOf X) F ys us ks2 vs2 ∧ sameD ks vs ks2 vs2 = some b ∧ P b H
theorem op_cmpH (hr : Room k X.A) {op : CmpOp} {c : Bool} (ho : (op = .Eq ∧ c = true) ∨ (op = .NotEq ∧ c = false)) : OpR X (compareOp op) (fun x y H Q => rDD X (fun b H => Q (.bl (if c = true then b else !b)) H) x y H) := by
  intro pins s σ H x y u1 u2 Q I r1 r2 h
  obtain ⟨F, p, p2, o, o2, xs, ys, ws, us, ks, vs, ks2, vs2, b, rfl, rfl, sF, hp, hn, dd, dr, hp2, hn2, dd2, dr2, hb, hq⟩ := h
  cases r1
  cases r2
  have hu := hr.un
  unfold sameD at hb
  rw [← dr.len, ← dr2.len] at hb
  split at hb
  · rename_i hl
    refine cmpH ho (room8 hr) (by omega) hn hn2 (dr_of I sF hp dd dr) (dr_of I sF hp2 dd2 dr2) (fun _ => hits_of I sF (by omega) dr2 dr hb) ⟨.bl (if c = true then b else !b), H, I, ?_, hq⟩
    rw [hl, beq_self_eq_true, Bool.true_and] <;> rfl
  · rename_i hl
    cases hb
    refine cmpH (r := true) ho (room8 hr) (by omega) hn hn2 (dr_of I sF hp dd dr) (dr_of I sF hp2 dd2 dr2) (fun z => (hl z).elim) ⟨.bl (if c = true then false else !false), H, I, ?_, hq⟩
    rw [beq_eq_false_iff_ne.mpr hl, Bool.false_and] <;> rfl
theorem eqD_ok' : OpD (gOf X) (fun x y H Q => rEqD X.K x y H Q ∨ rDD X (fun b H => Q (.bl (if true = true then b else !b)) H) x y H) .R .R .S eqD := fun F H x y a b d Q Ha Hb s ka kb e k => by
  unfold eqD at e
  split at e
  · split at e <;> cases e
    rename_i hb
    obtain ⟨p, o, xs, ws, rfl, h1, h2, h3, h4⟩ := RdD.dr s (show RdD (gOf X) F H x _ from ka)
    obtain ⟨p', o', xs', ws', rfl, h1', h2', h3', h4'⟩ := RdD.dr s (show RdD (gOf X) F H y _ from kb)
    exact .inr ⟨F, p, p', o, o', xs, xs', ws, ws', _, _, _, _, _, rfl, rfl, s, h1, h2, h3, h4, h1', h2', h3', h4', hb, k _ F H (Grow.refl s) (Rep.bl _)⟩
  · exact .inl (eq_ok F H x y _ _ d Q Ha Hb s ka kb e k)
theorem neD_ok' : OpD (gOf X) (fun x y H Q => rNeD X.K x y H Q ∨ rDD X (fun b H => Q (.bl (if false = true then b else !b)) H) x y H) .R .R .S neD := fun F H x y a b d Q Ha Hb s ka kb e k => by
  unfold neD at e
  split at e
  · split at e <;> cases e
    rename_i hb
    obtain ⟨p, o, xs, ws, rfl, h1, h2, h3, h4⟩ := RdD.dr s (show RdD (gOf X) F H x _ from ka)
    obtain ⟨p', o', xs', ws', rfl, h1', h2', h3', h4'⟩ := RdD.dr s (show RdD (gOf X) F H y _ from kb)
    exact .inr ⟨F, p, p', o, o', xs, xs', ws, ws', _, _, _, _, _, rfl, rfl, s, h1, h2, h3, h4, h1', h2', h3', h4', hb, k _ F H (Grow.refl s) (Rep.bl _)⟩
  · exact .inl (ne_ok F H x y _ _ d Q Ha Hb s ka kb e k)
theorem c_eq (hr : Room k X.A) : Cmp X .Eq eqD := ⟨⟨_, (op_eqD hr.units).or (op_cmpH hr (.inl ⟨rfl, rfl⟩)), eqD_ok'⟩, ne_eqD⟩
theorem c_ne (hr : Room k X.A) : Cmp X .NotEq neD := ⟨⟨_, (op_neD hr.units).or (op_cmpH hr (.inr ⟨rfl, rfl⟩)), neD_ok'⟩, ne_neD⟩
end

/-! ### dict(d) -/
section
variable {prog : Program} {w : World} {A : Around} {E : Value → Shared → Prop} {s : Shared}
theorem dictCopyH {o : Addr} {xs : List EN} {Q : Value → Shared → Prop} (hu : (nestedKind prog w).room A.in1.in1) (hoS : (o == sysModules) = false) (ho : s.heap.DictOfH (nestedKind prog w) o xs) (hsz : xs.length ≤ sizeLine) (hap : (xs.map fun x => (nestedKind prog w).hash x.1).Nodup)
    (h : ∀ h', h'.DictOfH (nestedKind prog w) s.heap.objs.size xs → Heap.SameBut s.heap.objs.size (s.heap.push { cls := .type "dict", data := .dict #[] }) h' → Q (.ref s.heap.objs.size) { s with heap := h' }) :
    wpAny (model prog w) A (call (.type "dict") [.ref o]) Q E s := by
  refine callType_codes (Q₁ := fun ob t => ob = .ref s.heap.objs.size ∧ t = { s with heap := s.heap.push { cls := .type "dict", data := .dict #[] } }) F.kt_called_dict (F.kt_typeCall_dict_1 _) F.entry_dict_init (kt_code_dict_new _ ⟨rfl, rfl⟩) ?_
  rintro ob t ⟨rfl, rfl⟩
  have hnew : (s.heap.push { cls := .type "dict", data := .dict #[] }).DictOfH (nestedKind prog w) s.heap.objs.size [] := Heap.DictOfH.new s.heap
  have hty := keyed_apart nestedKind_stays ho
  have hn := ho.nodup
  obtain ⟨oo, es, ep, hg, hc, hd, he, hi, hnn⟩ := id ho
  have hlt := Heap.lt_size hg
  have ho' : (s.heap.push { cls := .type "dict", data := .dict #[] }).DictOfH (nestedKind prog w) o xs :=
    ⟨oo, es, ep, Heap.get?_push_of_some _ hg, hc, hd, he, fun x hx => nestedKind_stays.stays (fun b u _ _ q _ => Heap.get?_push_of_some _ q) (hi x hx), hnn⟩
  refine ⟨hnew.typeIs, F.args_dict_init_2 _ _, ?_⟩
  unfold Builtin.«dict.__init__» Builtin.Dict.selfAndRest
  refine wpAny_bind (wpAny_bind (wpAny_notOrdered_dict hnew.typeIs ?_))
  show wpAny _ _ (pure (s.heap.objs.size, [Value.ref o])) _ _ _
  refine wpAny_pure ?_
  show wpAny _ _ (Builtin.Dict.updateFrom "dict.__init__" s.heap.objs.size (.ref o) [] .none) _ _ _
  refine wpAny_mono (updateFrom_dictH (R := fun r s' => r = .ok (.ret .none) ∧ Q (.ref s.heap.objs.size) s') .none hu (Nat.ne_of_gt hlt) hoS hnew ho' (.inr ⟨fun x hx => ?_, hap⟩) (by simpa using hsz) fun h' h1 h2 h3 => ⟨rfl, ?_⟩) (fun fin s' z => ?_) fun e s' z => ?_
  · obtain ⟨u, hu1, hu2⟩ := hty x hx
    exact ⟨u, Heap.get?_push_of_some _ hu1, hu2⟩
  · rw [storedAllH_nil_of_nodup xs hn] at h1
    exact h h' h1 h3
  · cases fin with
    | done f => obtain ⟨z1, z2⟩ := z; cases z1; exact ⟨rfl, z2⟩
    | again c => exact ⟨z.1, codeAny_mono z.2 fun r s1 q => by obtain ⟨q1, q2⟩ := q; cases q1; exact ⟨rfl, q2⟩⟩
  · obtain ⟨z1, z2⟩ := z
    cases z1
end

mutual
/-- a key's hash, where no text is in it -/
def nh : NestedKey → Option Int
  | .none => some (reduceHash 0xFCA86420)
  | .num i => some (hashInt i)
  | .text _ => none
  | .tup ks => match nhs ks with
    | some hs => some (reduceHash (Builtin.Tuple.tupleHashOf hs))
    | none => none
def nhs : List NestedKey → Option (List Int)
  | [] => some []
  | k :: ks => match nh k, nhs ks with
    | some h, some hs => some (h :: hs)
    | _, _ => none
end
mutual
theorem nh_eq (w : World) : ∀ {k : NestedKey} {h : Int}, nh k = some h → NestedKey.hash w k = h
  | .none, h, e => by rw [nh] at e; cases e; rw [NestedKey.hash]
  | .num i, h, e => by rw [nh] at e; cases e; rw [NestedKey.hash]
  | .text x, h, e => by rw [nh] at e; cases e
  | .tup ks, h, e => by
    rw [nh] at e
    split at e
    · rename_i hs hh
      cases e
      rw [NestedKey.hash, nhs_eq w hh]
    · cases e
theorem nhs_eq (w : World) : ∀ {k : List NestedKey} {h : List Int}, nhs k = some h → NestedKey.hashes w k = h
  | [], h, e => by rw [nhs] at e; cases e; rw [NestedKey.hashes]
  | k :: ks, h, e => by
    rw [nhs] at e
    split at e
    · rename_i a b h1 h2
      cases e
      rw [NestedKey.hashes, nh_eq w h1, nhs_eq w h2]
    · cases e
end
/-- the keys' hashes -/
def hashesK : List D → Option (List Int)
  | [] => some []
  | k :: ks => match keyOf k with
    | some q => match nh q, hashesK ks with
      | some h, some hs => some (h :: hs)
      | _, _ => none
    | none => none
def apartK (ks : List D) : Bool := match hashesK ks with
  | some hs => decide hs.Nodup
  | none => false
theorem hashes_at {P : Program} (w : World) : ∀ {xs : List EN} {ks : List D} {hs : List Int}, ks.map keyOf = xs.map (fun x => some x.1) → hashesK ks = some hs → xs.map (fun x => (nestedKind P w).hash x.1) = hs
  | [], ks, hs, ke, e => by
    cases ks with
    | nil => rw [hashesK] at e; cases e; rfl
    | cons k ks => cases ke
  | x :: xs, ks, hs, ke, e => by
    cases ks with
    | nil => cases ke
    | cons k ks =>
      rw [List.map_cons, List.map_cons, List.cons.injEq] at ke
      rw [hashesK, ke.1] at e
      simp only at e
      split at e
      · rename_i a b h1 h2
        cases e
        rw [List.map_cons, hashes_at w ke.2 h2]
        have z : (nestedKind P w).hash x.1 = a := nh_eq w h1
        rw [z]
      · cases e
def dictD : D → Res D
  | .dic ks vs => if apartK ks = true then .ok (.dic ks vs) else .bad
  | _ => .bad
section
variable {X : Cx} {k : Nat}
theorem call_dictN (hr : Room k X.A) : CallR X (.type "dict") (fun xs H Q => ∃ (F : Hp) (p : Addr) (o : Obj) (es : List EN) (ws : List V) (ks vs : List D), xs = [.ref p] ∧ Same F H ∧ H p = some (.ext (isObj' p o)) ∧ (p == sysModules) = false ∧ DicO (gOf X) o es ∧ DR (gOf X) F es ws ks vs ∧ apartK ks = true ∧
    ∀ a o', H a = none → (a == sysModules) = false → DicO (gOf X) o' es → Q (.ref a) (upd H a (.ext (isObj' a o')))) := by
  intro pins s σ H xs us Q I r h
  obtain ⟨F, p, o, es, ws, ks, vs, rfl, sF, hp, hn, dd, dr, ha, q⟩ := h
  obtain ⟨u, rfl, rx⟩ := vals1 r
  cases rx
  have hap : (es.map fun x => (nestedKind X.prog X.w).hash x.1).Nodup := by
    unfold apartK at ha
    split at ha
    · rename_i hs hh
      rw [hashes_at X.w dr.ke hh]
      exact of_decide_eq_true ha
    · cases ha
  have hu := hr.un
  refine dictCopyH (show X.A.units + 1 + 1 + 8 < cLine by omega) hn (dr_of I sF hp dd dr) dd.sz hap fun h' hm hs => ?_
  have nm : (s.heap.objs.size == sysModules) = false := beq_eq_false_iff_ne.mpr (Ne.symm (Nat.ne_of_lt I.big))
  obtain ⟨o', e1, e2⟩ := dicO_of hm dd.sz
  exact ⟨.ref s.heap.objs.size, _, I.laid (t' := s.toks) (fun b u e => (hs.2 b (Nat.ne_of_lt (Heap.lt_size e))).trans (Heap.get?_push_of_some _ e)) (Nat.le_refl _) (ext_ok e1), rfl, q _ o' (I.hok.fresh (Nat.le_refl _)) nm e2⟩
theorem boot_dict' : bootBuiltins "dict" = some (.type "dict") := by decide +kernel
theorem b_dict (hr : Room k X.A) (hm : X.mg "dict" = none) : BlM X "dict" (.O .flat) (one dictD) := BlM.t hm boot_dict' (call_dictN hr) (ne_one (fun d e z => by unfold dictD at z; split at z <;> (try split at z) <;> cases z)) (cal_one fun F H x a d Q s ra e q => by
  unfold dictD at e
  split at e
  · split at e <;> cases e
    rename_i ha
    obtain ⟨p, o, xs, ws, rfl, h1, h2, h3, h4⟩ := RdD.dr s (show RdD (gOf X) F H x _ from ra)
    exact ⟨F, p, o, xs, ws, _, _, rfl, s, h1, h2, h3, h4, ha, fun t o' ht hn dd => q _ _ _ (Grow.own s ht) ⟨[t], Own.dr upd_same (s.free ht) hn dd h4, fun a ha => by rw [List.mem_singleton.mp ha]; exact ht⟩⟩
  · cases e)
end

/-! ### walks -/
/-- the keys in their order -/
def Itdk (d : Addr) (o : Obj) (xs : List EN) : It := ⟨fun i H => H d = some (.ext (isObj' d o)) ∧ i < xs.length, fun i H x H' => H' = H ∧ ∃ e, xs[i]? = some e ∧ x = .ref e.2.1, fun i H => H d = some (.ext (isObj' d o)) ∧ xs.length ≤ i⟩
def Itdv (d : Addr) (o : Obj) (ws : List V) : It := ⟨fun i H => H d = some (.ext (isObj' d o)) ∧ i < ws.length, fun i H x H' => H' = H ∧ ws[i]? = some x, fun i H => H d = some (.ext (isObj' d o)) ∧ ws.length ≤ i⟩
def Itdi (d : Addr) (o : Obj) (xs : List EN) (ws : List V) : It := ⟨fun i H => H d = some (.ext (isObj' d o)) ∧ i < xs.length, fun i H x H' => ∃ T e w, xs[i]? = some e ∧ ws[i]? = some w ∧ x = .ref T ∧ H T = none ∧ H' = upd H T (.tup [.ref e.2.1, w]), fun i H => H d = some (.ext (isObj' d o)) ∧ xs.length ≤ i⟩
theorem ent_at {K : Type} [DecidableEq K] {P : Program} {w : World} {knd : HeapKind P w K} {es : Array DictEntry} {xs : List (K × Addr × Value)} (he : es.toList = xs.map (entryOfKey knd)) {i : Nat} (hi : i < es.size) : ∃ e, xs[i]? = some e ∧ es[i].key = .ref e.2.1 ∧ es[i].val = e.2.2 := by
  have h1 := entry_at he i
  rw [Array.getElem?_eq_getElem hi] at h1
  cases hx : xs[i]? with
  | none => rw [hx] at h1; cases h1
  | some e =>
    rw [hx] at h1
    have h2 : es[i] = entryOfKey knd e := Option.some.inj h1
    exact ⟨e, rfl, by rw [h2]; rfl, by rw [h2]; rfl⟩
theorem vals_at : ∀ {ws : List V} {us : List Value} {i : Nat} {u : Value}, Vals ws us → us[i]? = some u → ∃ w, ws[i]? = some w ∧ RelV w u
  | _, _, _, _, .nil, e => by simp at e
  | _, _, 0, _, .cons r _, e => by simp at e; subst e; exact ⟨_, rfl, r⟩
  | _, _, i + 1, u, .cons _ t, e => by
    obtain ⟨w, h1, h2⟩ := vals_at (i := i) t (by simpa using e)
    exact ⟨w, by simpa using h1, h2⟩
section
variable {P : Program} {w : World} {K : PySem.W.Frag} {tg : Expr} {d : Addr} {o : Obj} {es : Array DictEntry} {ep : Nat} {xs : List EN} {ws : List V}
theorem ext_raw {X : Cx} {pins : List (Addr × Obj)} {σ : L2.St} {H : Hp} {s : Shared} (I : L2.Inv X pins σ H s) (h : H d = some (.ext (isObj' d o))) (hx : o.ExactDict) (hd : o.data = .dict es ep) : s.heap.DictRaw d es ep := by
  obtain ⟨e, _⟩ := (show ObjOk X.prog X.w H s.heap d (.ext (isObj' d o)) from I.hok d _ h)
  exact ⟨o, e, hx, hd⟩
theorem turn_dk (it : Addr) (hx : o.ExactDict) (hod : o.data = .dict es ep) (he : es.toList = xs.map (entryOfKey (nestedKind P w))) : Turn P w K tg (Itdk d o xs) [it] it (fun i h => h.IsKeyIter it d i es.size ep) where
  mem := by simp
  obj := fun i h st b hb => by
    have e : b = it := by simpa using hb
    subst e
    obtain ⟨oi, e, c, dd⟩ := st
    exact ⟨oi, e, fun v z => by rw [dd] at z; cases z⟩
  keep := fun i h h' st k => st.at fun oi e => k it (by simp) oi e
  item := by
    intro X hP hw hK hc i pins s σ H E I hf st ⟨hd, hi⟩
    subst hP hw hK
    obtain ⟨f0, f1, f2, f3, f4, f5⟩ := hf it (by simp)
    have hsz := size_of_entries he
    have hi' : i < es.size := by rw [hsz]; exact hi
    obtain ⟨e, e1, e2, _⟩ := ent_at he hi'
    refine wpAny_pyNext_keys_item_raw st (ext_raw I hd hx hod) hi' fun h' st' sb => ?_
    have I1 : Inv X pins σ H { s with heap := h' } := I.turned (t' := s.toks) (fun b ob hb q => (sb.2 b hb).trans q) f0 f1 f3 f4 f5
    obtain ⟨oi, q, c, dd⟩ := id st'
    exact ⟨es[i].key, rfl, go_of (s := { s with heap := h' }) q c dd (by decide) ⟨.ref e.2.1, H, I1, e2, ⟨rfl, e, e1, rfl⟩, st', fun b hb => (hf b hb).1⟩⟩
  done := by
    intro X hP hw hK hc i pins s σ H E I hf st ⟨hd, hi⟩
    subst hP hw hK
    obtain ⟨f0, f1, f2, f3, f4, f5⟩ := hf it (by simp)
    have hsz := size_of_entries he
    exact wpAny_pyNext_keys_end_raw (I.ok.hd hc) st (ext_raw I hd hx hod) (by rw [hsz]; exact hi) fun h' eb => ⟨rfl, I.turned (t' := s.toks) (fun b ob hb e => eb b ob hb e) f0 f1 f3 f4 f5⟩
  self := fun A i s Q E st h => wpAny_pyIter_keyiter st h
theorem turn_dv (it : Addr) (hx : o.ExactDict) (hod : o.data = .dict es ep) (he : es.toList = xs.map (entryOfKey (nestedKind P w))) (hv : Vals ws (xs.map (·.2.2))) : Turn P w K tg (Itdv d o ws) [it] it (fun i h => h.IsValIter it d i es.size ep) where
  mem := by simp
  obj := fun i h st b hb => by
    have e : b = it := by simpa using hb
    subst e
    obtain ⟨oi, e, c, dd⟩ := st
    exact ⟨oi, e, fun v z => by rw [dd] at z; cases z⟩
  keep := fun i h h' st k => st.at fun oi e => k it (by simp) oi e
  item := by
    intro X hP hw hK hc i pins s σ H E I hf st ⟨hd, hi⟩
    subst hP hw hK
    obtain ⟨f0, f1, f2, f3, f4, f5⟩ := hf it (by simp)
    have hsz := size_of_entries he
    have hl := hv.length
    rw [List.length_map] at hl
    have hi' : i < es.size := by omega
    obtain ⟨e, e1, _, e2⟩ := ent_at he hi'
    obtain ⟨u, u1, u2⟩ := vals_at hv (i := i) (u := e.2.2) (by rw [List.getElem?_map, e1]; rfl)
    refine wpAny_pyNext_values_item_raw st (ext_raw I hd hx hod) hi' fun h' st' sb => ?_
    have I1 : Inv X pins σ H { s with heap := h' } := I.turned (t' := s.toks) (fun b ob hb q => (sb.2 b hb).trans q) f0 f1 f3 f4 f5
    obtain ⟨oi, q, c, dd⟩ := id st'
    exact ⟨es[i].val, rfl, go_of (s := { s with heap := h' }) q c dd (by decide) ⟨u, H, I1, by rw [e2]; exact u2, ⟨rfl, u1⟩, st', fun b hb => (hf b hb).1⟩⟩
  done := by
    intro X hP hw hK hc i pins s σ H E I hf st ⟨hd, hi⟩
    subst hP hw hK
    obtain ⟨f0, f1, f2, f3, f4, f5⟩ := hf it (by simp)
    have hsz := size_of_entries he
    have hl := hv.length
    rw [List.length_map] at hl
    exact wpAny_pyNext_values_end_raw (I.ok.hd hc) st (ext_raw I hd hx hod) (by omega) fun h' eb => ⟨rfl, I.turned (t' := s.toks) (fun b ob hb e => eb b ob hb e) f0 f1 f3 f4 f5⟩
  self := fun A i s Q E st h => wpAny_pyIter_valiter st h
theorem turn_di {elts : List Expr} {kk : Nat} {tpos : Pos} (it : Addr) (hx : o.ExactDict) (hod : o.data = .dict es ep) (he : es.toList = xs.map (entryOfKey (nestedKind P w))) (hv : Vals ws (xs.map (·.2.2))) :
    Turn P w K (.Tuple elts kk tpos) (Itdi d o xs ws) [it] it (fun i h => ∃ ok ov, IsItemIter h it d i es.size ep ok ov) where
  mem := by simp
  obj := fun i h st b hb => by
    have e : b = it := by simpa using hb
    subst e
    obtain ⟨ok, ov, e⟩ := st
    exact ⟨_, e, fun v z => nomatch z⟩
  keep := fun i h h' ⟨ok, ov, e⟩ k => ⟨ok, ov, k it (by simp) _ e⟩
  item := by
    intro X hP hw hK hc i pins s σ H E I hf ⟨ok, ov, st⟩ ⟨hd, hi⟩
    subst hP hw hK
    have hsz := size_of_entries he
    have hi' : i < es.size := by rw [hsz]; exact hi
    obtain ⟨e, e1, e2, e3⟩ := ent_at he hi'
    obtain ⟨u, u1, u2⟩ := vals_at hv (i := i) (u := e.2.2) (by rw [List.getElem?_map, e1]; rfl)
    have hlt : it < s.heap.objs.size := Heap.lt_size st
    refine wpAny_pyNext_items_item_raw st (ext_raw I hd hx hod) hi' fun h' ho hT hz hk => ?_
    refine ⟨_, rfl, wpAny_letOwnedTupleGo_items (s := { s with heap := h' }) ho fun h2 he' sb => ?_⟩
    have hT2 : h2.get? s.heap.objs.size = some { cls := .type "tuple", data := .seq #[es[i].key, es[i].val] } := (sb.2 _ (Nat.ne_of_gt hlt)).trans hT
    have new : ObjOk X.prog X.w (upd H s.heap.objs.size (.tup [.ref e.2.1, u])) h2 s.heap.objs.size (.tup [.ref e.2.1, u]) :=
      ⟨by show 2 ≤ sizeLine; decide, [es[i].key, es[i].val], .cons e2 (.cons (by rw [e3]; exact u2) .nil), ⟨_, hT2, rfl, _, rfl⟩⟩
    have I1 : Inv X pins σ (upd H s.heap.objs.size (.tup [.ref e.2.1, u])) { s with heap := h2 } :=
      I.turnedNew (t' := s.toks) (ch := [it]) (fun b ob hb q => (sb.2 b (by simpa using hb)).trans (hk b ob (by simpa using hb) q)) hf (Nat.le_refl _) new
    refine ⟨.ref s.heap.objs.size, _, I1, rfl, ⟨_, e, u, e1, u1, rfl, I.hok.fresh (Nat.le_refl _), rfl⟩, ⟨_, _, he'⟩, fun b hb => ?_⟩
    have eb : b = it := by simpa using hb
    rw [eb, upd_ne (Nat.ne_of_lt hlt)]
    exact (hf it (by simp)).1
  done := by
    intro X hP hw hK hc i pins s σ H E I hf ⟨ok, ov, st⟩ ⟨hd, hi⟩
    subst hP hw hK
    obtain ⟨f0, f1, f2, f3, f4, f5⟩ := hf it (by simp)
    have hsz := size_of_entries he
    exact wpAny_pyNext_items_end_raw (I.ok.hd hc) st (ext_raw I hd hx hod) (by rw [hsz]; exact hi) fun h' eb => ⟨rfl, I.turned (t' := s.toks) (fun b ob hb e => eb b ob hb e) f0 f1 f3 f4 f5⟩
  self := fun A i s Q E ⟨_, _, e⟩ h => wpAny_pyIter_itemiter e h
end
/-- the dict is there -/
def iDk (X : Cx) (J : Addr → Obj → List EN → List V → It) (td : TE) : TI := fun σ H R => td σ H fun x H1 => ∃ (F : Hp) (d : Addr) (o : Obj) (xs : List EN) (ws : List V) (ks vs : List D), x = .ref d ∧ Same F H1 ∧ H1 d = some (.ext (isObj' d o)) ∧ (d == sysModules) = false ∧ DicO (gOf X) o xs ∧ DR (gOf X) F xs ws ks vs ∧ R (J d o xs ws) H1
section
variable {X : Cx} {W : Wi} {tg e : Expr} {td : TE} {fe : Env → Res D} {apos cpos : Pos}
theorem pi_dk (he : PE X e td) : PI X tg e (iDk X (fun d o xs _ => Itdk d o xs) td) := by
  refine ⟨fun pins s σ H R I h => thn (he.run pins s σ H _ I h) fun u s1 ⟨x, H1, I1, rx, F', d, o, xs, ws, ks, vs, ex, sF, hd, hn, dd, dr, q⟩ => ?_⟩
  subst ex
  obtain rfl : u = Value.ref d := rx
  obtain ⟨es, ep, h1, h2⟩ := dd.dat
  refine wpAny_pyIter_dict_raw hn (ext_raw I1 hd dd.ex h1) (pi_one (tk := s1.toks) I1 _ (turn_dk _ dd.ex h1 h2) ⟨_, Heap.get?_push_size _ rfl, rfl, rfl⟩ q)
theorem pi_dv (he : PE X e td) (hbase : attributeBase e "values" X.env (eval e X.env) = eval e X.env := by rfl) (hline : (apos.endLine == cpos.line) = true := by rfl) : PI X tg (.Call (.Attribute e "values" apos) [] [] cpos) (iDk X (fun d o _ ws => Itdv d o ws) td) := by
  refine ⟨fun pins s σ H R I h => ?_⟩
  refine wpAny_Call_method (T := "dict") (id := "dict.values") hbase rfl hline F.plainAttrs_dict F.slot_dict_values F.type_dict_values (thn (he.run pins s σ H _ I h) fun u s1 ⟨x, H1, I1, rx, F', d, o, xs, ws, ks, vs, ex, sF, hd, hn, dd, dr, q⟩ => ?_)
  subst ex
  obtain rfl : u = Value.ref d := rx
  obtain ⟨es, ep, h1, h2⟩ := dd.dat
  have hr := ext_raw I1 hd dd.ex h1
  have ho : s1.heap.get? d = some o := (I1.hok d _ hd).1
  refine ⟨hr.typeIs, fun a ea => by cases ea; exact ⟨o, ho, dd.ex.2.1⟩, ?_⟩
  have I2 : Inv X pins σ H1 { s1 with heap := s1.heap.push { cls := .type "dict_values", data := .fields #[.ref d] } } := I1.kept (t' := s1.toks) fun b ob q => Heap.get?_push_of_some _ q
  have fin : wpAny (model X.prog X.w) X.A (pyIter (.ref s1.heap.objs.size)) (PIE X pins σ tg R) X.xe { s1 with heap := s1.heap.push { cls := .type "dict_values", data := .fields #[.ref d] } } :=
    wpAny_pyIter_values_raw ⟨_, Heap.get?_push_size _ rfl, rfl, rfl⟩ (hr.at fun ob q => Heap.get?_push_of_some _ q) (pi_one (tk := s1.toks) I2 _ (turn_dv _ dd.ex h1 h2 dr.wv) ⟨_, Heap.get?_push_size _ rfl, rfl, rfl⟩ q)
  show wpAny _ _ (callWith cpos (.builtin "dict.values") [.ref d] [] []) _ X.xe s1
  exact method_meetsIn F.slot_dict_values F.entry_dict_values rfl (PySem.evalArgs_none ⟨rfl, hr.typeIs, F.args_dict_values_1 _, _, meets_dict_values_raw d hn, ⟨es, ep, hr⟩, fin⟩)
theorem pi_di {elts : List Expr} {kk : Nat} {tpos : Pos} (he : PE X e td) (hbase : attributeBase e "items" X.env (eval e X.env) = eval e X.env := by rfl) (hline : (apos.endLine == cpos.line) = true := by rfl) :
    PI X (.Tuple elts kk tpos) (.Call (.Attribute e "items" apos) [] [] cpos) (iDk X Itdi td) := by
  refine ⟨fun pins s σ H R I h => ?_⟩
  refine wpAny_Call_method (T := "dict") (id := "dict.items") hbase rfl hline F.plainAttrs_dict F.slot_dict_items F.type_dict_items (thn (he.run pins s σ H _ I h) fun u s1 ⟨x, H1, I1, rx, F', d, o, xs, ws, ks, vs, ex, sF, hd, hn, dd, dr, q⟩ => ?_)
  subst ex
  obtain rfl : u = Value.ref d := rx
  obtain ⟨es, ep, h1, h2⟩ := dd.dat
  have hr := ext_raw I1 hd dd.ex h1
  have ho : s1.heap.get? d = some o := (I1.hok d _ hd).1
  refine ⟨hr.typeIs, fun a ea => by cases ea; exact ⟨o, ho, dd.ex.2.1⟩, ?_⟩
  have I2 : Inv X pins σ H1 { s1 with heap := s1.heap.push { cls := .type "dict_items", data := .fields #[.ref d] } } := I1.kept (t' := s1.toks) fun b ob q => Heap.get?_push_of_some _ q
  have fin : wpAny (model X.prog X.w) X.A (pyIter (.ref s1.heap.objs.size)) (PIE X pins σ (.Tuple elts kk tpos) R) X.xe { s1 with heap := s1.heap.push { cls := .type "dict_items", data := .fields #[.ref d] } } :=
    wpAny_pyIter_items_raw ⟨_, Heap.get?_push_size _ rfl, rfl, rfl⟩ (hr.at fun ob q => Heap.get?_push_of_some _ q) (pi_one (tk := s1.toks) I2 _ (turn_di _ dd.ex h1 h2 dr.wv) ⟨.none, .none, Heap.get?_push_size _ rfl⟩ q)
  show wpAny _ _ (callWith cpos (.builtin "dict.items") [.ref d] [] []) _ X.xe s1
  exact method_meetsIn F.slot_dict_items F.entry_dict_items rfl (PySem.evalArgs_none ⟨rfl, hr.typeIs, F.args_dict_items_1 _, _, meets_dict_items_raw d hn, ⟨es, ep, hr⟩, fin⟩)
theorem WalkD.dk {G : GC} {F F1 B : Hp} {d : Addr} {o : Obj} {xs : List EN} {ws : List V} {ks vs : List D} (h : B d = some (.ext (isObj' d o))) (dr : DR G F xs ws ks vs) : WalkD G F B (Itdk d o xs) ks := ⟨fun i H hi s => ⟨s _ _ h, by rw [dr.len]; exact hi⟩, fun H s => ⟨s _ _ h, by rw [dr.len]; exact Nat.le_refl _⟩, fun i F2 H2 x H3 hi s1 s2 s3 y => by
  obtain ⟨rfl, e, he, rfl⟩ := y
  obtain ⟨kd, h1, h2⟩ := dr.kr.getV (i := i) (v := .ref e.2.1) (by rw [List.getElem?_map, he]; rfl)
  exact ⟨F2, kd, Grow.refl s2, h1, h2.mono s1⟩⟩
theorem WalkD.dv {G : GC} {F B : Hp} {d : Addr} {o : Obj} {xs : List EN} {ws : List V} {ks vs : List D} (h : B d = some (.ext (isObj' d o))) (dr : DR G F xs ws ks vs) : WalkD G F B (Itdv d o ws) vs := ⟨fun i H hi s => ⟨s _ _ h, by rw [dr.vr.length]; exact hi⟩, fun H s => ⟨s _ _ h, by rw [dr.vr.length]; exact Nat.le_refl _⟩, fun i F2 H2 x H3 hi s1 s2 s3 y => by
  obtain ⟨rfl, hw⟩ := y
  obtain ⟨vd, h1, h2⟩ := dr.vr.getV hw
  exact ⟨F2, vd, Grow.refl s2, h1, h2.mono s1⟩⟩
/-- the pairs of a table -/
def pairsK (ks vs : List D) : List D := (ks.zip vs).map fun p => .tup [p.1, p.2]
theorem WalkD.di {G : GC} {F B : Hp} {d : Addr} {o : Obj} {xs : List EN} {ws : List V} {ks vs : List D} (h : B d = some (.ext (isObj' d o))) (dr : DR G F xs ws ks vs) : WalkD G F B (Itdi d o xs ws) (pairsK ks vs) := by
  have l1 := dr.len
  have l2 := dr.vr.length
  have l3 := dr.wv.length
  rw [List.length_map] at l3
  have hl : (pairsK ks vs).length = ks.length := by simp [pairsK]; omega
  refine ⟨fun i H hi s => ⟨s _ _ h, by omega⟩, fun H s => ⟨s _ _ h, by omega⟩, fun i F2 H2 x H3 hi s1 s2 s3 y => ?_⟩
  obtain ⟨T, e, w, he, hw, rfl, hT, rfl⟩ := y
  obtain ⟨kd, h1, h2⟩ := dr.kr.getV (i := i) (v := .ref e.2.1) (by rw [List.getElem?_map, he]; rfl)
  obtain ⟨vd, h3, h4⟩ := dr.vr.getV hw
  refine ⟨_, .tup [kd, vd], Grow.mk1 s2 hT, ?_, Rep.tup (.of upd_same) (.cons ((h2.mono s1).mono (Grow.mk1 s2 hT).f) (.cons ((h4.mono s1).mono (Grow.mk1 s2 hT).f) .nil))⟩
  unfold pairsK
  rw [List.getElem?_map, List.getElem?_zip_eq_some (z := (kd, vd)) |>.mpr ⟨h1, h3⟩]
  rfl
def itemsD (d : D) : Res (List D) := match d with
  | .dic ks _ => .ok ks
  | d => itemsS d
@[simp] theorem itemsD_lst (xs : List D) : itemsD (.lst xs) = .ok xs := rfl
@[simp] theorem itemsD_tup (xs : List D) : itemsD (.tup xs) = .ok xs := rfl
@[simp] theorem itemsD_scr (xs : List Int) : itemsD (.scr xs) = .ok (xs.map D.int) := rfl
@[simp] theorem itemsD_str (z : Str) : itemsD (.str z) = .ok (signsOf z) := rfl
@[simp] theorem itemsD_dic (ks vs : List D) : itemsD (.dic ks vs) = .ok ks := rfl
theorem re_iter (he : RE X W .S e fe) : RI X W true tg e (fun r => fe r >>= itemsD) := by
  refine ⟨fun pins s σ H R I ⟨H0, F0, fp, F, r, m, o⟩ => ?_⟩
  have o : Out (gOf X) W σ F H _ (fe r >>= itemsD) := o
  cases ef : fe r with
  | er x => exact (re_iterS he).run pins s σ H R I ⟨H0, F0, fp, F, r, m, by show Out _ _ _ _ _ _ (fe r >>= itemsS); rw [ef] at o ⊢; exact o⟩
  | bad => rw [ef] at o; exact o.elim
  | ok d =>
    rw [ef] at o
    have o0 : itemsD d = itemsS d → Out (gOf X) W σ F H _ (fe r >>= itemsS) := fun z => by
      rw [ef]
      have o1 : Out (gOf X) W σ F H _ (itemsD d) := o
      rw [z] at o1
      exact o1
    cases d with
    | dic ks vs => exact (pi_dk he).run pins s σ H R I ⟨H0, F0, fp, F, r, m, by
        rw [ef]
        intro F' H' gr v kv
        have kv' : Rep (gOf X) F' v (.dic ks vs) := kv
        cases kv' with
        | dic h1 z1 z2 z3 z4 z5 z6 => exact ⟨F', _, _, _, _, ks, vs, rfl, gr.sub, gr.sub _ _ h1, z1, z2, ⟨z3, z4, z5, z6⟩, o F' H' gr _ (WalkD.dk (F1 := F') h1 ⟨z3, z4, z5, z6⟩)⟩⟩
    | _ => exact (re_iterS he).run pins s σ H R I ⟨H0, F0, fp, F, r, m, o0 rfl⟩
theorem re_iterR (he : RE X W .R e fe) : RI X W false tg e (fun r => fe r >>= itemsD) := by
  refine ⟨fun pins s σ H R I ⟨H0, F0, fp, F, r, m, o⟩ => ?_⟩
  have o : Out (gOf X) W σ F H _ (fe r >>= itemsD) := o
  cases ef : fe r with
  | er x => exact (re_iterRS he).run pins s σ H R I ⟨H0, F0, fp, F, r, m, by show Out _ _ _ _ _ _ (fe r >>= itemsS); rw [ef] at o ⊢; exact o⟩
  | bad => rw [ef] at o; exact o.elim
  | ok d =>
    rw [ef] at o
    have o0 : itemsD d = itemsS d → Out (gOf X) W σ F H _ (fe r >>= itemsS) := fun z => by
      rw [ef]
      have o1 : Out (gOf X) W σ F H _ (itemsD d) := o
      rw [z] at o1
      exact o1
    cases d with
    | dic ks vs => exact (pi_dk he).run pins s σ H R I ⟨H0, F0, fp, F, r, m, by
        rw [ef]
        intro F' H' gr v kv
        obtain ⟨p, ob, xs, ws, rfl, h1, h2, h3, h4⟩ := RdD.dr gr.sub (show RdD (gOf X) F' H' v _ from kv)
        exact ⟨F', _, _, _, _, ks, vs, rfl, gr.sub, h1, h2, h3, h4, o F' H' gr _ (WalkD.dk (F1 := F') h1 h4)⟩⟩
    | _ => exact (re_iterRS he).run pins s σ H R I ⟨H0, F0, fp, F, r, m, o0 rfl⟩
def valsD (d : D) : Res (List D) := match d with
  | .dic _ vs => .ok vs
  | _ => .bad
def pairsD (d : D) : Res (List D) := match d with
  | .dic ks vs => .ok (pairsK ks vs)
  | _ => .bad
@[simp] theorem valsD_dic (ks vs : List D) : valsD (.dic ks vs) = .ok vs := rfl
@[simp] theorem pairsD_dic (ks vs : List D) : pairsD (.dic ks vs) = .ok (pairsK ks vs) := rfl
theorem ri_dk {J : Addr → Obj → List EN → List V → It} {g : D → Res (List D)} {iter : Expr} (hg : ∀ d x, g d ≠ .er x) (hj : ∀ (F B : Hp) (d : Addr) (o : Obj) (xs : List EN) (ws : List V) (ks vs : List D) (l : List D), g (.dic ks vs) = .ok l → B d = some (.ext (isObj' d o)) → DR (gOf X) F xs ws ks vs → WalkD (gOf X) F B (J d o xs ws) l)
    (hb : ∀ d, (∀ ks vs, d ≠ .dic ks vs) → g d = .bad) (h : PI X tg iter (iDk X J (tE (gOf X) W .S fe))) : RI X W true tg iter (fun r => fe r >>= g) := by
  refine ⟨fun pins s σ H R I ⟨H0, F0, fp, F, r, m, o⟩ => h.run pins s σ H R I ⟨H0, F0, fp, F, r, m, o.bind fun F' H' d gr o2 v kv => ?_⟩⟩
  cases e : g d with
  | er x => exact (hg _ _ e).elim
  | bad => rw [e] at o2; exact o2.elim
  | ok l =>
    rw [e] at o2
    have kv' : Rep (gOf X) F' v d := kv
    cases kv' with
    | dic h1 z1 z2 z3 z4 z5 z6 => exact ⟨F', _, _, _, _, _, _, rfl, gr.sub, gr.sub _ _ h1, z1, z2, ⟨z3, z4, z5, z6⟩, o2 F' H' (Grow.refl gr.sub) _ (hj F' F' _ _ _ _ _ _ l e h1 ⟨z3, z4, z5, z6⟩)⟩
    | _ => exact absurd ((hb _ (by intro _ _ z; cases z)).symm.trans e) (by simp)
theorem ri_values (he : RE X W .S e fe) (hbase : attributeBase e "values" X.env (eval e X.env) = eval e X.env := by rfl) (hline : (apos.endLine == cpos.line) = true := by rfl) : RI X W true tg (.Call (.Attribute e "values" apos) [] [] cpos) (fun r => fe r >>= valsD) :=
  ri_dk (J := fun d o _ ws => Itdv d o ws) (fun d x z => by unfold valsD at z; split at z <;> cases z) (fun F B d o xs ws ks vs l e h dr => by cases e; exact WalkD.dv h dr) (fun d h => by unfold valsD; split; exact (h _ _ rfl).elim; rfl) (pi_dv he hbase hline)
theorem ri_items {elts : List Expr} {kk : Nat} {tpos : Pos} (he : RE X W .S e fe) (hbase : attributeBase e "items" X.env (eval e X.env) = eval e X.env := by rfl) (hline : (apos.endLine == cpos.line) = true := by rfl) : RI X W true (.Tuple elts kk tpos) (.Call (.Attribute e "items" apos) [] [] cpos) (fun r => fe r >>= pairsD) :=
  ri_dk (J := Itdi) (fun d x z => by unfold pairsD at z; split at z <;> cases z) (fun F B d o xs ws ks vs l e h dr => by cases e; exact WalkD.di h dr) (fun d h => by unfold pairsD; split; exact (h _ _ rfl).elim; rfl) (pi_di he hbase hline)
end
end Mir

/-! Two names at once, chains as values, keys taken out, a dict in an object. -/
namespace Mir
open PySem PySem.Spec PyProof.Rows L2

/-! ### a, b = x, y -/
def parG (i j : Nat) (ds : List D) (r : Env) : Oc := match ds with
  | [d, e] => .nx ((r.set i (.sh d)).set j (.sh e))
  | _ => .bad
section
variable {X : Cx} {W : Wi} {k : Kd} {m : Nat}
theorem rs_par (i j : Nat) {x y : Str} {a b : Expr} {px py pt : Pos} {kt k2 : Nat} {pt2 pos : Pos} {fa : Env → Res (List D)} (hc : X.calm = true) (hN : X.N.Nodup) (ha : RA X W [a, b] fa) (hJ1 : ∀ σ v, W.J σ → W.J (σ.set i v) := by first | exact fun _ _ h => h | exact jset (by decide))
    (hJ2 : ∀ σ v, W.J σ → W.J (σ.set j v) := by first | exact fun _ _ h => h | exact jset (by decide)) (hi : X.N[i]? = some x := by rfl) (hj : X.N[j]? = some y := by rfl) (hij : i ≠ j := by decide) (hx : X.env.scope.names.lookup x = some .local := by rfl) (hy : X.env.scope.names.lookup y = some .local := by rfl)
    (hw : swappedStores [.Tuple [.Name x px, .Name y py] kt pt] (.Tuple [a, b] k2 pt2) X.env = pure (some [x, y]) := by first | rfl | with_unfolding_all rfl)
    (hs : swapsWithSole [.Tuple [.Name x px, .Name y py] kt pt] (.Tuple [a, b] k2 pt2) pos.line X.env = pure false := by rfl) : RS X W k (.Assign [.Tuple [.Name x px, .Name y py] kt pt] (.Tuple [a, b] k2 pt2) pos) (fun r => lift (fa r) r fun ds => parG i j ds r) :=
  (ps_par hc hN hi hj hij hx hy ha hw hs).imp fun D σ H ⟨H0, F0, fp, F, r, m, o⟩ => ⟨H0, F0, fp, F, r, m, OutS.lift m o fun F' H' ds gr o' vs rv => by
    cases rv with
    | nil => exact o'.elim
    | cons r1 t =>
      cases t with
      | nil => exact o'.elim
      | cons r2 t =>
        cases t with
        | nil => exact ⟨_, _, rfl, o' fp F' _ H' (Same.refl _) (((m.grow gr).setS i r1 hJ1).setS j r2 hJ2)⟩
        | cons _ _ => exact o'.elim⟩
/-- a < b < c as a value -/
theorem re_chain {o1 o2 : CmpOp} {p1 p2 : D → D → Res D} {a b c : Expr} {pos : Pos} {fa fb fc : Env → Res D} (C1 : Cmp X o1 p1) (C2 : Cmp X o2 p2) (ha : RE X W .R a fa) (hb : RE X W .R b fb) (hc : RE X W .R c fc) (hm : lastMarks [o1, o2] [b, c] = false := by with_unfolding_all rfl) :
    RE X W .S (.Compare a [o1, o2] [b, c] pos) (fun r => fa r >>= fun x => fb r >>= fun y => (p1 x y >>= asB) >>= fun t => if t = true then fc r >>= fun z => p2 y z else .ok (.bl false)) := by
  obtain ⟨rr1, h1, k1⟩ := C1.ex
  obtain ⟨rr2, h2, k2⟩ := C2.ex
  refine (pe_chain h1 h2 ha hb hc hm).imp fun σ H Q ⟨H0, F0, fp, F, r, m, o⟩ => ⟨H0, F0, fp, F, r, m, o.bind fun F1 H1 d1 g1 o1 v1 kv1 => ⟨H0, F0, fp, F1, r, m.grow g1, o1.bind fun F2 H2 d2 g2 o2 v2 kv2 => ?_⟩⟩
  cases e1 : p1 d1 d2 with
  | er x => exact (C1.ne _ _ _ e1).elim
  | bad => rw [e1] at o2; exact o2.elim
  | ok w =>
    rw [e1] at o2
    refine k1 F2 H2 v1 v2 d1 d2 w _ H H g2.sub (RdD.grow kv1 g2) kv2 e1 fun v' F' H' g3 kr => ?_
    have o3 := Out.grow o2 g3
    cases w with
    | bl t =>
      have kr' : Rep (gOf X) F' v' (.bl t) := kr
      cases kr'
      refine ⟨t, rfl, ?_⟩
      cases t with
      | false => exact o3 F' H' (Grow.refl g3.sub) _ (Rep.bl false)
      | true =>
        have m3 := ((m.grow g1).grow g2).grow g3
        have o5 : Out (gOf X) W σ F' H' _ (fc r >>= fun z => p2 d2 z) := o3
        refine ⟨H0, F0, fp, F', r, m3, o5.bind fun F5 H5 d5 g5 o6 v5 kv5 => ?_⟩
        cases e2 : p2 d2 d5 with
        | er x => exact (C2.ne _ _ _ e2).elim
        | bad => rw [e2] at o6; exact o6.elim
        | ok w2 =>
          rw [e2] at o6
          exact k2 F5 H5 v2 v5 d2 d5 w2 _ H H g5.sub (RdD.grow (RdD.grow kv2 g3) g5) kv5 e2 fun v6 F6 H6 g6 kr6 => o6 F6 H6 g6 v6 (Kd.Rep.later (k := .S) (g1.h.trans (g2.h.trans (g3.h.trans (g5.h)))) kr6)
    | _ => exact o3.elim
end

/-! ### clear, pop -/
def clrG (i : Nat) (r : Env) : Oc := match ownF i r with
  | some (.lst _) => .nx (r.set i (.ow .flat (.lst [])))
  | some (.dic _ _) => .nx (r.set i (.ow .flat (.dic [] [])))
  | _ => .bad
def popG (i : Nat) (fk : Env → Res D) (r : Env) : Oc := match ownF i r with
  | some (.dic ks vs) => lift (fk r) r fun k => match keyT k with
    | some q => if hasK ks q = true then .nx (r.set i (.ow .flat (.dic (delK ks vs q).1 (delK ks vs q).2))) else .bad
    | none => .bad
  | _ => .bad
section
variable {X : Cx} {W : Wi} {k : Kd} {m : Nat} {e : Expr} {fe : Env → Res D} {pos apos cpos ps : Pos} {x : Str}
/-- a dict and what is done to it -/
def rDU (X : Cx) (P : List EN → List V → List D → List D → Hp → Addr → Hp → Prop) : V → Hp → Prop := fun x H => ∃ (F : Hp) (p : Addr) (o : Obj) (xs : List EN) (ws : List V) (ks vs : List D), x = .ref p ∧ Same F H ∧ H p = some (.ext (isObj' p o)) ∧ (p == sysModules) = false ∧ DicO (gOf X) o xs ∧ DR (gOf X) F xs ws ks vs ∧ P xs ws ks vs F p H
theorem pe_dclear (i : Nat) (hN : X.N[i]? = some x) (hv : Vis X.env.scope x) (hd : (x == ("__debug__" : Str)) = false) (hcd : (x == ("__classdict__" : Str)) = false) (hbase : attributeBase (.Name x ps) "clear" X.env (eval (.Name x ps) X.env) = eval (.Name x ps) X.env) (hline : (apos.endLine == cpos.line) = true) :
    PE X (.Call (.Attribute (.Name x ps) "clear" apos) [] [] cpos) (fun σ H Q => ∃ v, σ[i]? = some (some v) ∧ rDU X (fun xs ws ks vs F p H => ∀ o', DicO (gOf X) o' [] → Q .non (upd H p (.ext (isObj' p o')))) v H) := by
  refine ⟨fun pins s σ H Q I h => ?_⟩
  obtain ⟨v, hv', h⟩ := h
  refine wpAny_Call_method0_late hbase hline (thn ((pe_var hN hv hd hcd).run pins s σ H (fun y H1 => y = v ∧ H1 = H) I ⟨v, hv', rfl, rfl⟩) fun u s1 ⟨y, H1, I1, r1, ey, eH⟩ => ?_)
  subst ey eH
  obtain ⟨F', p, o, xs, ws, ks, vs, rfl, sF, hp, hn, dd, dr, q⟩ := h
  cases r1
  have dm := dr_of I1 sF hp dd dr
  obtain ⟨es, ep, h1, h2⟩ := dd.dat
  have hr := ext_raw I1 hp dd.ex h1
  refine ⟨"dict", "dict.clear", F.plainAttrs_dict, F.slot_dict_clear, F.type_dict_clear, hr.typeIs, fun a ea => by cases ea; exact ⟨o, (I1.hok p _ hp).1, dd.ex.2.1⟩, Calls.callWith_builtin rfl (PySem.evalArgs_none ?_)⟩
  refine clear_keyed (knd := nestedKind X.prog X.w) ⟨xs, dm, rfl⟩ (fun h' hm hs => ?_) (by rw [pairsH_length]; exact dd.sz)
  obtain ⟨ys, hy, ey⟩ := hm
  have eys : ys = [] := by
    cases ys with
    | nil => rfl
    | cons a b => cases ey
  subst eys
  obtain ⟨o', e1, e2⟩ := dicO_of hy (Nat.zero_le _)
  exact ⟨.non, _, d_write (t' := s1.toks) I1 (by rw [hp]; exact True.intro) hs ⟨o', e1⟩ (ext_ok e1), rfl, q o' e2⟩
theorem rs_clear (i : Nat) (hN : X.N[i]? = some x := by rfl) (hv : Vis X.env.scope x := by first | exact Or.inl rfl | exact Or.inr (Or.inl rfl) | exact Or.inr (Or.inr rfl)) (hd : (x == ("__debug__" : Str)) = false := by decide)
    (hcd : (x == ("__classdict__" : Str)) = false := by decide) (hs : swapsWith (.Call (.Attribute (.Name x ps) "clear" apos) [] [] cpos) none pos.line X.env = pure false := by rfl)
    (hbase : attributeBase (.Name x ps) "clear" X.env (eval (.Name x ps) X.env) = eval (.Name x ps) X.env := by rfl) (hline : (apos.endLine == cpos.line) = true := by rfl) :
    RS X W k (.Expr (.Call (.Attribute (.Name x ps) "clear" apos) [] [] cpos) pos) (clrG i) := by
  refine ⟨fun pins s σ H D I h => ?_⟩
  obtain ⟨H0, F0, fp, F, r, m, o⟩ := h
  cases ho : ownF i r with
  | none =>
    have o' : OutS (gOf X) W k H0 F0 F D (clrG i r) := o
    unfold clrG at o'
    rw [ho] at o'
    exact o'.elim
  | some d =>
    have hi := ownF_some ho
    cases d with
    | lst ds => exact (rs_clearL (W := W) (k := k) i hN hv hd hcd hs hbase hline).run pins s σ H D I ⟨H0, F0, fp, F, r, m, by
        have o' : OutS (gOf X) W k H0 F0 F D (clrG i r) := o
        unfold clrG at o'
        rw [ho] at o'
        unfold clrLG ownL
        rw [hi]
        exact o'⟩
    | dic ks vs =>
      have o' : OutS (gOf X) W k H0 F0 F D (clrG i r) := o
      unfold clrG at o'
      rw [ho] at o'
      obtain ⟨a, ob, xs, ws, h1, h2, h3, h4, h5, h6⟩ := m.dic hi
      exact (ps_expr (pe_dclear i hN hv hd hcd hbase hline) hs).run pins s σ H D I ⟨.ref a, h1, F, a, ob, xs, ws, ks, vs, rfl, m.sub, h2, h3, h4, h5, fun o2 dd => by
        obtain ⟨fp', m'⟩ := m.dicUpd hi h1 h6 h3 dd (DR.nil (F := F))
        exact o' fp' F σ _ (Same.refl _) m'⟩
    | _ =>
      have o' : OutS (gOf X) W k H0 F0 F D (clrG i r) := o
      unfold clrG at o'
      rw [ho] at o'
      exact o'.elim
theorem pe_dpop (i : Nat) (hr : Room m X.A) (he : RE X W .R e fe) (hN : X.N[i]? = some x) (hv : Vis X.env.scope x) (hd : (x == ("__debug__" : Str)) = false) (hcd : (x == ("__classdict__" : Str)) = false) (hbase : attributeBase (.Name x ps) "pop" X.env (eval (.Name x ps) X.env) = eval (.Name x ps) X.env) (hline : (apos.endLine == cpos.line) = true)
    (hst : backTo cpos (starEach [e] X.env) = [(false, eval e X.env)]) :
    PE X (.Call (.Attribute (.Name x ps) "pop" apos) [e] [] cpos) (fun σ H Q => ∃ p, σ[i]? = some (some (.ref p)) ∧ (∃ o, H p = some (.ext (isObj' p o)) ∧ o.ExactDict) ∧ tE (gOf X) W .R fe σ H fun y H1 => ∃ (F : Hp) (b : Addr) (o : Obj) (xs : List EN) (ws : List V) (ks vs : List D) (kd : D) (q : NestedKey), y = .ref b ∧ Same F H1 ∧ H1 p = some (.ext (isObj' p o)) ∧ (p == sysModules) = false ∧ DicO (gOf X) o xs ∧ DR (gOf X) F xs ws ks vs ∧
      Rep (gOf X) F (.ref b) kd ∧ keyT kd = some q ∧ hasK ks q = true ∧ ∀ o' w, DicO (gOf X) o' (withoutH xs q) → Q w (upd H1 p (.ext (isObj' p o')))) := by
  refine ⟨fun pins s σ H Q I h => ?_⟩
  obtain ⟨p, hv', ⟨o, hp, hx⟩, h⟩ := h
  refine wpAny_Call_method1_late hbase hline hst (thn ((pe_var hN hv hd hcd).run pins s σ H (fun y H1 => y = .ref p ∧ H1 = H) I ⟨_, hv', rfl, rfl⟩) fun u s1 ⟨y, H1, I1, r1, ey, eH⟩ => ?_)
  subst ey eH
  cases r1
  have ho : s1.heap.get? p = some o := (I1.hok p _ hp).1
  refine ⟨"dict", "dict.pop", F.plainAttrs_dict, F.slot_dict_pop, F.type_dict_pop, ⟨o, ho, hx.1⟩, fun a ea => by cases ea; exact ⟨o, ho, hx.2.1⟩, Calls.callWith_builtin rfl (Calls.evalArgs_plain (Calls.spliced_cons (thn (he.run pins s1 σ H1 _ I1 h) fun uk s2 ⟨y, H2, I2, r2, q⟩ => Calls.spliced_nil ?_)))⟩
  obtain ⟨F', b, o, xs, ws, ks, vs, kd, q, rfl, sF, hp2, hn, dd, dr, rk, hk, hh, qq⟩ := q
  cases r2
  have dm := dr_of I2 sF hp2 dd dr
  rw [hasK_at dr.ke] at hh
  obtain ⟨en, hen⟩ := Option.isSome_iff_exists.mp hh
  refine call_pop_heap (hsz := dd.sz) (.inl rfl) (F.args_dict_pop_2 _ _) (room8 hr) (key_is I2 sF rk hk) hn dm hen fun h' hm hs => ?_
  have hz : (withoutH xs q).length ≤ sizeLine := Nat.le_trans (by unfold withoutH; exact List.length_filter_le _ _) dd.sz
  obtain ⟨o', e1, e2⟩ := dicO_of hm hz
  obtain ⟨w, hw⟩ : ∃ w : V, RelV w en.2 := by
    rcases getK_at (q := q) dr.wv dr.ke dr.vr with ⟨_, z⟩ | ⟨d', e', v, z1, z2, z3, z4⟩
    · rw [hen] at z; cases z
    · rw [hen] at z2
      cases z2
      exact ⟨v, z3⟩
  exact ⟨w, _, d_write I2 (by rw [hp2]; exact True.intro) hs ⟨o', e1⟩ (ext_ok e1), hw, qq o' w e2⟩
theorem rs_pop (i : Nat) (hr : Room m X.A) (he : RE X W .R e fe) (hN : X.N[i]? = some x := by rfl) (hv : Vis X.env.scope x := by first | exact Or.inl rfl | exact Or.inr (Or.inl rfl) | exact Or.inr (Or.inr rfl)) (hd : (x == ("__debug__" : Str)) = false := by decide)
    (hcd : (x == ("__classdict__" : Str)) = false := by decide) (hs : swapsWith (.Call (.Attribute (.Name x ps) "pop" apos) [e] [] cpos) none pos.line X.env = pure false := by rfl)
    (hbase : attributeBase (.Name x ps) "pop" X.env (eval (.Name x ps) X.env) = eval (.Name x ps) X.env := by rfl) (hline : (apos.endLine == cpos.line) = true := by rfl) (hst : backTo cpos (starEach [e] X.env) = [(false, eval e X.env)] := by rfl) :
    RS X W k (.Expr (.Call (.Attribute (.Name x ps) "pop" apos) [e] [] cpos) pos) (popG i fe) :=
  (ps_expr (pe_dpop i hr he hN hv hd hcd hbase hline hst) hs).imp fun D σ H ⟨H0, F0, fp, F, r, m, o⟩ => by
    unfold popG at o
    split at o
    · rename_i ks vs ho
      have hi := ownF_some ho
      obtain ⟨a, ob, xs, ws, h1, h2, h3, h4, h5, h6⟩ := m.dic hi
      refine ⟨a, h1, ⟨ob, h2, h4.ex⟩, H0, F0, fp, F, r, m, o.lift m fun F' H' d gr o' u ku => ?_⟩
      split at o'
      · rename_i q hq
        split at o'
        · rename_i hh
          obtain ⟨b, rfl, rb⟩ := key_ref (show RdD (gOf X) F' H' u _ from ku) hq
          have h5' := h5.mono gr.f
          refine ⟨F', b, ob, xs, ws, ks, vs, d, q, rfl, gr.sub, gr.h _ _ h2, h3, h4, h5', rb, hq, hh, fun o2 w dd => ?_⟩
          obtain ⟨ws', dr'⟩ := h5'.del (q := q)
          obtain ⟨fp', m'⟩ := (m.grow gr).dicUpd hi h1 h6 h3 dd dr'
          exact o' fp' F' σ _ (Same.refl _) m'
        · exact o'.elim
      · exact o'.elim
    · exact o.elim
end

/-! ### self.f[k] = v, f's dict one's own -/
section
variable {G : GC} {F H : Hp}
theorem OwnAll.setAt {f : Nat → Shape} {d' : D} : ∀ {n0 : Nat} {ws : List V} {vs : List D} {A : List Addr}, OwnAll G F H f n0 ws vs A → ∀ (n : Nat) {d : D}, vs[n]? = some d → ∃ w B, ws[n]? = some w ∧ Own G F H (f (n0 + n)) w d B ∧ (∀ b ∈ B, b ∈ A) ∧
      ∀ a o, a ∈ B → Own G F (upd H a o) (f (n0 + n)) w d' B → OwnAll G F (upd H a o) f n0 ws (vs.set n d') A
  | _, _, _, _, .nil, n, d, h => by simp at h
  | n0, _, _, _, .cons (A := A) (B := B) r t x, 0, d, h => by
    simp at h
    subst h
    exact ⟨_, A, rfl, r, fun b hb => List.mem_append_left _ hb, fun a o ha r' => .cons r' (t.keep (Keep.upd (x a ha))) x⟩
  | n0, _, _, _, .cons (A := A) (B := B) r t x, n + 1, d, h => by
    obtain ⟨w, C, h1, h2, h3, h4⟩ := OwnAll.setAt t n (d := d) (by simpa using h)
    rw [show n0 + 1 + n = n0 + (n + 1) by omega] at h2 h4
    refine ⟨w, C, by simpa using h1, h2, fun b hb => List.mem_append_right _ (h3 b hb), fun a o ha r' => ?_⟩
    rw [List.set_cons_succ]
    exact .cons (r.keep (Keep.upd fun z => x a z (h3 a ha))) (h4 a o ha r') x
end
def Shape.isFlat : Shape → Bool
  | .flat => true
  | _ => false
theorem Shape.flat_of {s : Shape} (h : s.isFlat = true) : s = .flat := by cases s <;> first | rfl | cases h
def setFI (i c n : Nat) (fv fi : Env → Res D) (r : Env) : Oc := lift (fv r) r fun v => match r[i]? with
  | some (.ow s (.obj c' vs)) => if c' = c ∧ (s.kid n).isFlat = true then (match vs[n]? with
    | some (.dic ks us) => lift (fi r) r fun kx => match keyT kx with
      | some q => if ks.length < lim then .nx (r.set i (.ow s (.obj c (vs.set n (.dic (setK ks us kx q v).1 (setK ks us kx q v).2))))) else .bad
      | none => .bad
    | _ => .bad) else .bad
  | _ => .bad
section
variable {X : Cx} {W : Wi} {k : Nat} {kk : Kd} {e iv : Expr} {fe fi : Env → Res D} {pos ps p2 p3 : Pos} {x f : Str}
theorem rs_fldItem (i c n : Nat) (M : ClM X.K (gOf X).ca f c) (hr : Room k X.A) (he : RE X W .S e fe) (hi : RE X W .R iv fi) (hn : (cflds c)[n]? = some f := by rfl) (hN : X.N[i]? = some x := by rfl) (hv : Vis X.env.scope x := by first | exact Or.inl rfl | exact Or.inr (Or.inl rfl) | exact Or.inr (Or.inr rfl)) (hd : (x == ("__debug__" : Str)) = false := by decide)
    (hcd : (x == ("__classdict__" : Str)) = false := by decide) (hb : attributeBase (.Name x ps) f X.env (eval (.Name x ps) X.env) = eval (.Name x ps) X.env := by rfl) (ha : ∀ v, assign (.Subscript (.Attribute (.Name x ps) f p3) iv p2) X.env v = (do
      let ov ← holding [v] (eval (.Attribute (.Name x ps) f p3) X.env)
      let iv ← holding [v, ov] (eval iv X.env)
      standAt p2
      holding [v, ov, iv] (setItem ov iv v)
      release [v, ov, iv] []) := by intro _; rfl)
    (hs : swapsWithSole [.Subscript (.Attribute (.Name x ps) f p3) iv p2] e pos.line X.env = pure false := by rfl) (hw : swappedStores [.Subscript (.Attribute (.Name x ps) f p3) iv p2] e X.env = pure none := by rfl) (h1 : (assignEach [.Subscript (.Attribute (.Name x ps) f p3) iv p2] X.env).map (·.2) = [assign (.Subscript (.Attribute (.Name x ps) f p3) iv p2) X.env] := by rfl) :
    RS X W kk (.Assign [.Subscript (.Attribute (.Name x ps) f p3) iv p2] e pos) (setFI i c n fe fi) :=
  (ps_asg he (pg_sub (pe_fld (pe_var hN hv hd hcd) hb) hi (set_dic hr) ha) hs hw h1).imp fun D σ H ⟨H0, F0, fp, F, r, m, o⟩ => ⟨H0, F0, fp, F, r, m, OutS.lift m o fun F' H' d gr o' v kv => by
    split at o'
    · rename_i s c' vs hi
      split at o'
      · rename_i hc
        obtain ⟨rfl, hfl⟩ := hc
        have hfl := Shape.flat_of hfl
        split at o'
        · rename_i ks us hvs
          have m' := m.grow gr
          obtain ⟨⟨w, hw, ow⟩, hA⟩ := m'.ow i _ _ hi
          have hfp : fp i = fp i := rfl
          generalize hAA : fp i = A at ow hA
          cases ow with
          | sh _ => cases hfl
          | @obj _ a dx _ ws _ A' so ha fa hz oa na =>
            obtain ⟨w2, B, b1, b2, b3, b4⟩ := oa.setAt (d' := .dic [] []) n hvs
            rw [Nat.zero_add, hfl] at b2
            cases b2 with
            | @dic _ p ob xs wz _ _ _ h0 e2 f2 z1 z2 z3 z4 z5 ra nb =>
              obtain ⟨rfl, rr⟩ := ra.to_rep
              refine ⟨.ref a, hw, a, (gOf X).ca c', dx, _, .ref p, rfl, ha, M.cl, M.no, lookup_zip M.nd hn b1, H0, F0, fp, F', r, m', OutS.lift m' o' fun F2 H2 n2 g2 o2 u ku => ?_⟩
              split at o2
              · rename_i q hq
                split at o2
                · rename_i hl
                  obtain ⟨b, rfl, rb⟩ := key_ref (show RdD (gOf X) F2 H2 u _ from ku) hq
                  have dr : DR (gOf X) F2 xs wz ks us := (DR.mk z3 z4 z5 rr).mono g2.f
                  refine ⟨F2, p, b, ob, xs, wz, ks, us, n2, q, rfl, rfl, g2.sub, g2.h _ _ e2, z1, z2, dr, rb, hq, by rw [dr.len]; exact Nat.le_of_lt hl, fun p' b' ob' uu ep eb ru dd' => ?_⟩
                  cases ep
                  cases eb
                  obtain ⟨wz', dr'⟩ := dr.set ru rb (keyT_some hq).2.1 (Mir.Rep.mono g2.f kv)
                  have m2 := m'.grow g2
                  obtain ⟨⟨w', hw', ow'⟩, _⟩ := m2.ow i _ _ hi
                  rw [hw] at hw'
                  cases hw'
                  rw [hAA] at ow'
                  have oa2 : OwnAll (gOf X) F2 H2 s.kid 0 ws vs A' := oa.keep (g2.keep fun y hy => (oa.there y hy).2)
                  obtain ⟨w3, B3, c1, c2, c3, c4⟩ := oa2.setAt (d' := .dic (setK ks us n2 q d).1 (setK ks us n2 q d).2) n hvs
                  rw [b1] at c1
                  cases c1
                  rw [Nat.zero_add, hfl] at c2 c4
                  have fp0 : F2 p = none := by
                    cases c2 with
                    | dic _ _ y _ _ _ _ _ _ _ => exact y
                  have eB : B3 = [p] := by
                    cases c2 with
                    | dic _ _ _ _ _ _ _ _ rb2 _ => obtain ⟨rfl, _⟩ := rb2.to_rep; rfl
                  subst eB
                  have oo := c4 p (.ext (isObj' p ob')) (by simp) (Own.dr upd_same fp0 z1 dd' dr')
                  have pA : p ∈ A' := c3 p (by simp)
                  have hap : a ≠ p := fun z => na (z ▸ pA)
                  obtain ⟨fp', m3⟩ := m2.write hi hw (by rw [hAA]; exact List.mem_cons_of_mem _ pA) (Own.obj (dx := dx) so (by rw [upd_ne hap]; exact g2.h _ _ ha) (by
                    cases zz : F2 a with
                    | none => rfl
                    | some u2 =>
                      rcases g2.new a u2 zz with y | y
                      · rw [fa] at y; cases y
                      · rw [ha] at y; cases y) hz oo na) fun y hy => .inl (by rw [hAA]; exact hy)
                  exact o2 fp' F2 σ _ (Same.refl _) m3
                · exact o2.elim
              · exact o2.elim
        · exact o'.elim
      · exact o'.elim
    · exact o'.elim⟩
end
end Mir

/-! Facts for what follows in plain Lean. -/
namespace Mir
open PySem PySem.Spec PyProof.Rows L2

theorem okQ_dic {n : Nat} {ks vs : List D} : okQ n (.dic ks vs) = false := by cases n <;> rfl
theorem eqD_S {a b : D} (h : ∀ ks vs, a ≠ .dic ks vs) : eqD a b = eqS a b := by
  unfold eqD
  split
  · exact absurd rfl (h _ _)
  · rfl
theorem neD_S {a b : D} (h : ∀ ks vs, a ≠ .dic ks vs) : neD a b = neS a b := by
  unfold neD
  split
  · exact absurd rfl (h _ _)
  · rfl
theorem eqD_ok {a b : D} (ha : okQ 64 a = true) (hb : okQ 64 b = true) : eqD a b = .ok (.bl (eqQ a b)) := by
  rw [eqD_S (fun ks vs e => by subst e; rw [okQ_dic] at ha; cases ha)]
  exact eqS_ok ha hb
theorem neD_ok {a b : D} (ha : okQ 64 a = true) (hb : okQ 64 b = true) : neD a b = .ok (.bl (!eqQ a b)) := by
  rw [neD_S (fun ks vs e => by subst e; rw [okQ_dic] at ha; cases ha)]
  exact neS_ok ha hb
@[simp] theorem eqD_int (i j : Int) : eqD (.int i) (.int j) = .ok (.bl (decide (i = j))) := eqS_int i j
@[simp] theorem neD_int (i j : Int) : neD (.int i) (.int j) = .ok (.bl (!decide (i = j))) := neS_int i j
theorem eqD_bl (i j : Bool) : eqD (.bl i) (.bl j) = .ok (.bl (i == j)) := by
  rw [eqD_ok (by simp) (by simp), eqQ]
theorem neD_bl (i j : Bool) : neD (.bl i) (.bl j) = .ok (.bl (!(i == j))) := by
  rw [neD_ok (by simp) (by simp), eqQ]
theorem neD_tI (xs ys : List Int) : neD (tuI xs) (tuI ys) = .ok (.bl (!decide (xs = ys))) := by
  rw [neD_ok (by simp) (by simp), eqQ, eqQs_ints]
theorem eqD_tI (xs ys : List Int) : eqD (tuI xs) (tuI ys) = .ok (.bl (decide (xs = ys))) := by
  rw [eqD_ok (by simp) (by simp), eqQ, eqQs_ints]
@[simp] theorem ixD_lst (xs : List D) (i : Int) : ixD (.lst xs) (.int i) = match atI xs i with
    | some d => .ok d
    | none => .bad := rfl
@[simp] theorem ixD_tup (xs : List D) (i : Int) : ixD (.tup xs) (.int i) = match atI xs i with
    | some d => .ok d
    | none => .bad := rfl
@[simp] theorem ixD_scr (ns : List Int) (i : Int) : ixD (.scr ns) (.int i) = match atI ns i with
    | some n => .ok (.int n)
    | none => .bad := rfl
theorem atI_nat {α : Type} (xs : List α) (i : Nat) (h : i < xs.length) : atI xs (i : Int) = xs[i]? := by
  unfold atI ixN
  rw [if_pos (Int.natCast_nonneg i), if_pos (by omega)]
  rfl
theorem atI_int {α : Type} (xs : List α) (i : Int) (h0 : 0 ≤ i) (h : i < xs.length) : atI xs i = xs[i.toNat]? := by
  have e : i = ((i.toNat : Nat) : Int) := by omega
  rw [e, atI_nat xs i.toNat (by omega)]
  rfl
theorem ixD_tI {xs : List Int} {i : Nat} (h : i < xs.length) : ixD (tuI xs) (.int (i : Nat)) = .ok (.int (xs.getD i 0)) := by
  have e : xs[i]? = some (xs.getD i 0) := by rw [List.getD_eq_getElem?_getD, List.getElem?_eq_getElem h]; rfl
  rw [ixD_tup, atI_nat _ _ (by simpa using h), List.getElem?_map, e]
  rfl
theorem ixD_last (f : List Int) (a : Int) : ixD (.lst (f.map D.int ++ [.int a])) (.int (-1)) = .ok (.int a) := by
  have z : atI (f.map D.int ++ [D.int a]) (-1) = some (.int a) := by
    unfold atI ixN
    have hl : (f.map D.int ++ [D.int a]).length = f.length + 1 := by simp
    rw [hl, if_neg (by omega), if_pos (by omega)]
    show (f.map D.int ++ [D.int a])[((-1 : Int) + ((f.length + 1 : Nat) : Int)).toNat]? = _
    have e : ((-1 : Int) + ((f.length + 1 : Nat) : Int)).toNat = f.length := by omega
    rw [e, List.getElem?_append_right (by simp)]
    simp
  rw [ixD_lst, z]
theorem atI_getD {ns : List Int} {i : Int} (h0 : 0 ≤ i) (h1 : i < ns.length) : atI ns i = some (ns.getD i.toNat 0) := by
  rw [atI_int ns i h0 h1, List.getD_eq_getElem?_getD, List.getElem?_eq_getElem (by omega)]
  rfl
/-- one of a row of data by a rest -/
theorem ixD_pick {xs : List D} (c : Int) (n : Int) (hn : n = xs.length) (h0 : 0 < n) : ∃ d, d ∈ xs ∧ ixD (.lst xs) (.int (c % n)) = .ok d := by
  have h1 := Int.emod_nonneg c (b := n) (by omega)
  have h2 := Int.emod_lt_of_pos c (b := n) h0
  have hl : (c % n).toNat < xs.length := by omega
  refine ⟨xs[(c % n).toNat], List.getElem_mem hl, ?_⟩
  rw [ixD_lst, atI_int xs _ h1 (by omega), List.getElem?_eq_getElem hl]
@[simp] theorem bits0 : bits 0 = 0 := rfl
theorem bits_lt {i : Int} {n : Nat} (hn : 0 < n) (h : i.natAbs < 2 ^ n) : bits i < n := by
  unfold bits
  by_cases h0 : i.natAbs = 0
  · rw [h0]; simpa using hn
  · exact (Nat.log2_lt h0).mpr h
theorem mulD_bits {i j : Int} (h : bits i + bits j < 1000000) : mulD (.int i) (.int j) = .ok (.int (i * j)) := if_pos (.inl h)
/-! ### comprehensions over whole numbers -/
theorem zipL2_ints (xs ys : List Int) : zipL2 (xs.map D.int) (ys.map D.int) = (xs.zip ys).map fun p => .tup [.int p.1, .int p.2] := by
  unfold zipL2
  rw [List.zip_map, List.map_map]
  rfl
theorem zipL3_ints (xs ys zs : List Int) : zipL3 (xs.map D.int) (ys.map D.int) (zs.map D.int) = (xs.zip (ys.zip zs)).map fun p => .tup [.int p.1, .int p.2.1, .int p.2.2] := by
  unfold zipL3
  rw [List.zip_map, List.zip_map, List.map_map]
  rfl
theorem lcD_gmap {α : Type} {g : D → Env → Res Env} {t : Env → Res Bool} {f : Env → Res D} {r : Env} (A : α → D) (F : α → D) : ∀ {xs : List α}, (∀ a ∈ xs, ∃ r1, g (A a) r = .ok r1 ∧ t r1 = .ok true ∧ f r1 = .ok (F a)) → lcD g t f r (xs.map A) = .ok (xs.map F)
  | [], _ => rfl
  | a :: xs, h => by
    obtain ⟨r1, h1, h2, h3⟩ := h a List.mem_cons_self
    rw [List.map_cons, lcD, h1]
    simp only [nE_ok, ok_bind, h2, if_true, h3, lcD_gmap A F fun d hd => h d (List.mem_cons_of_mem _ hd)]
    rfl
theorem lcD_zip2 {t : Env → Res Bool} {f : Env → Res D} {r : Env} {i j : Nat} {xs ys : List Int} (F : Int × Int → D) (h : ∀ p ∈ xs.zip ys, t ((r.set i (.sh (.int p.1))).set j (.sh (.int p.2))) = .ok true ∧ f ((r.set i (.sh (.int p.1))).set j (.sh (.int p.2))) = .ok (F p)) :
    lcD (tupG 2 (consG (nameG i) (consG (nameG j) nilG))) t f r (zipL2 (xs.map D.int) (ys.map D.int)) = .ok ((xs.zip ys).map F) := by
  rw [zipL2_ints]
  exact lcD_gmap (fun p : Int × Int => .tup [.int p.1, .int p.2]) F fun p hp => ⟨_, rfl, h p hp⟩
theorem lcD_zip3 {t : Env → Res Bool} {f : Env → Res D} {r : Env} {i j k : Nat} {xs ys zs : List Int} (F : Int × Int × Int → D) (h : ∀ p ∈ xs.zip (ys.zip zs), t (((r.set i (.sh (.int p.1))).set j (.sh (.int p.2.1))).set k (.sh (.int p.2.2))) = .ok true ∧ f (((r.set i (.sh (.int p.1))).set j (.sh (.int p.2.1))).set k (.sh (.int p.2.2))) = .ok (F p)) :
    lcD (tupG 3 (consG (nameG i) (consG (nameG j) (consG (nameG k) nilG)))) t f r (zipL3 (xs.map D.int) (ys.map D.int) (zs.map D.int)) = .ok ((xs.zip (ys.zip zs)).map F) := by
  rw [zipL3_ints]
  exact lcD_gmap (fun p : Int × Int × Int => .tup [.int p.1, .int p.2.1, .int p.2.2]) F fun p hp => ⟨_, rfl, h p hp⟩
/-- one name, over anything -/
theorem lcD_one {α : Type} {t : Env → Res Bool} {f : Env → Res D} {r : Env} {i : Nat} (A : α → D) (F : α → D) {xs : List α} (h : ∀ a ∈ xs, t (r.set i (.sh (A a))) = .ok true ∧ f (r.set i (.sh (A a))) = .ok (F a)) : lcD (nameG i) t f r (xs.map A) = .ok (xs.map F) :=
  lcD_gmap A F fun a ha => ⟨_, rfl, h a ha⟩
theorem lcD_ints {t : Env → Res Bool} {f : Env → Res D} {r : Env} {i : Nat} (F : Int → D) {xs : List Int} (h : ∀ a ∈ xs, t (r.set i (.sh (.int a))) = .ok true ∧ f (r.set i (.sh (.int a))) = .ok (F a)) : lcD (nameG i) t f r (xs.map D.int) = .ok (xs.map F) := lcD_one D.int F h
theorem rangeL_nat (n : Nat) : rangeL 0 n = (List.range n).map fun i : Nat => D.int i := by
  unfold rangeL
  exact List.map_congr_left fun i _ => by rw [Int.zero_add]
theorem lcD_range {t : Env → Res Bool} {f : Env → Res D} {r : Env} {i : Nat} (F : Nat → D) {n : Nat} (h : ∀ k, k < n → t (r.set i (.sh (.int (k : Nat)))) = .ok true ∧ f (r.set i (.sh (.int (k : Nat)))) = .ok (F k)) : lcD (nameG i) t f r (rangeL 0 n) = .ok ((List.range n).map F) := by
  rw [rangeL_nat]
  exact lcD_one (fun k : Nat => D.int k) F fun k hk => h k (List.mem_range.mp hk)
theorem allT_true (n : Nat) : allT (.lst (List.replicate n (.bl true))) = .ok (.bl true) := by
  have t : ∀ n, trsD (List.replicate n (D.bl true)) = some (List.replicate n true) := fun n => by
    induction n with
    | zero => rfl
    | succ n ih => rw [List.replicate_succ, trsD, ih]; rfl
  unfold allT
  simp only [t]
  congr 2
  simp
theorem trsD_bls : ∀ bs : List Bool, trsD (bs.map D.bl) = some bs
  | [] => rfl
  | b :: bs => by rw [List.map_cons, trsD, trsD_bls bs]; rfl
theorem allT_bls (bs : List Bool) : allT (.lst (bs.map D.bl)) = .ok (.bl (bs.all id)) := by
  unfold allT
  simp only [trsD_bls]
theorem anyT_bls (bs : List Bool) : anyT (.lst (bs.map D.bl)) = .ok (.bl (bs.any id)) := by
  unfold anyT
  simp only [trsD_bls]
theorem inS_ints (i : Int) (ys : List Int) : inS (.int i) (liI ys) = .ok (.bl (decide (i ∈ ys))) := by
  have h1 : toPy (liI ys) = some (.list (ys.map PyData.int)) := by
    have z : ∀ ys : List Int, toPy.toPys (ys.map D.int) = some (ys.map PyData.int) := fun ys => by
      induction ys with
      | nil => rfl
      | cons y ys ih => rw [List.map_cons, toPy.toPys, ih]; rfl
    show (toPy.toPys (ys.map D.int)).map PyData.list = _
    rw [z]
    rfl
  have h2 : SeqAt.shaped (.int i) = true := by
    unfold SeqAt.shaped
    rw [PyData.canLay0, PyData.depth]
    rfl
  have h3 : SeqAt.shaped (.list (ys.map PyData.int)) = true := by
    obtain ⟨p, e, c, d⟩ := toPy_ok 64 (liI ys) (okQ_ints 63 ys)
    rw [h1] at e
    cases e
    unfold SeqAt.shaped
    rw [c]
    simpa using d
  unfold inS
  rw [h1, show toPy (.int i) = some (.int i) from rfl]
  simp only [h2, h3, and_self, if_true]
  congr 2
  rw [List.any_map]
  induction ys with
  | nil => rfl
  | cons y ys ih =>
    have e : decide (i ∈ y :: ys) = ((y == i) || decide (i ∈ ys)) := by
      rw [Bool.eq_iff_iff]
      simp only [decide_eq_true_eq, List.mem_cons, Bool.or_eq_true, beq_iff_eq]
      constructor
      · rintro (h | h)
        · exact .inl h.symm
        · exact .inr h
      · rintro (h | h)
        · exact .inl h.symm
        · exact .inr h
    rw [List.any_cons, e]
    congr 1
    exact ih (by
      have z : ∀ ys : List Int, toPy.toPys (ys.map D.int) = some (ys.map PyData.int) := fun ys => by
        induction ys with
        | nil => rfl
        | cons y ys ih => rw [List.map_cons, toPy.toPys, ih]; rfl
      show (toPy.toPys (ys.map D.int)).map PyData.list = _
      rw [z]
      rfl) (by
      obtain ⟨p, e, c, d⟩ := toPy_ok 64 (liI ys) (okQ_ints 63 ys)
      have z : ∀ ys : List Int, toPy.toPys (ys.map D.int) = some (ys.map PyData.int) := fun ys => by
        induction ys with
        | nil => rfl
        | cons y ys ih => rw [List.map_cons, toPy.toPys, ih]; rfl
      have e2 : toPy (liI ys) = some (.list (ys.map PyData.int)) := by
        show (toPy.toPys (ys.map D.int)).map PyData.list = _
        rw [z]
        rfl
      rw [e2] at e
      cases e
      unfold SeqAt.shaped
      rw [c]
      simpa using d)
theorem notInS_ints (i : Int) (ys : List Int) : notInS (.int i) (liI ys) = .ok (.bl (!decide (i ∈ ys))) := by
  have h := inS_ints i ys
  unfold inS at h
  unfold notInS
  split at h
  · rename_i p ps h1 h2
    split at h
    · rename_i hs
      rw [if_pos hs]
      injection h with h
      injection h with h
      rw [h]
    · cases h
  · cases h
theorem notInD_ints (i : Int) (ys : List Int) : notInD (.int i) (liI ys) = .ok (.bl (!decide (i ∈ ys))) := notInS_ints i ys
theorem inD_ints (i : Int) (ys : List Int) : inD (.int i) (liI ys) = .ok (.bl (decide (i ∈ ys))) := inS_ints i ys

/-- a walk that gives up at the first of its kind -/
theorem forD_any {f : D → Env → Oc} (P : Env → Prop) (b : D → Bool) (v : D) : ∀ {ds : List D} {r : Env}, (∀ d ∈ ds, ∀ r, P r → if b d = true then f d r = .rt v else ∃ r', f d r = .nx r' ∧ P r') → P r → if ds.any b = true then forD f ds r = .rt v else ∃ r', forD f ds r = .nx r' ∧ P r'
  | [], r, _, hp => by simpa using hp
  | d :: ds, r, h, hp => by
    have h1 := h d List.mem_cons_self r hp
    rw [List.any_cons]
    cases hb : b d with
    | true =>
      rw [hb, if_pos rfl] at h1
      rw [Bool.true_or, if_pos rfl, forD_cons, h1]
    | false =>
      rw [hb, if_neg (by simp)] at h1
      obtain ⟨r1, e, p1⟩ := h1
      rw [Bool.false_or, forD_cons, e]
      exact forD_any P b v (fun x hx => h x (List.mem_cons_of_mem _ hx)) p1

@[simp] theorem atI0 {α : Type} (a : α) (xs : List α) : atI (a :: xs) 0 = some a := by
  rw [show (0 : Int) = ((0 : Nat) : Int) from rfl, atI_nat _ _ (by simp)]
  rfl
@[simp] theorem atI1 {α : Type} (a b : α) (xs : List α) : atI (a :: b :: xs) 1 = some b := by
  rw [show (1 : Int) = ((1 : Nat) : Int) from rfl, atI_nat _ _ (by simp)]
  rfl
@[simp] theorem atI2 {α : Type} (a b c : α) (xs : List α) : atI (a :: b :: c :: xs) 2 = some c := by
  rw [show (2 : Int) = ((2 : Nat) : Int) from rfl, atI_nat _ _ (by simp)]
  rfl

@[simp] theorem addD_tup (xs ys : List D) : addD (.tup xs) (.tup ys) = if xs.length + ys.length ≤ lim then .ok (.tup (xs ++ ys)) else .bad := rfl
@[simp] theorem addD_lst (xs ys : List D) : addD (.lst xs) (.lst ys) = if xs.length + ys.length ≤ lim then .ok (.lst (xs ++ ys)) else .bad := rfl
@[simp] theorem sliceD_tup (xs : List D) (lo hi : Option Int) : sliceD (.tup xs) lo hi = .ok (.tup (cutD xs lo hi)) := rfl
@[simp] theorem sliceD_lst (xs : List D) (lo hi : Option Int) : sliceD (.lst xs) lo hi = .ok (.lst (cutD xs lo hi)) := rfl
theorem cutD_len (ds : List D) (lo hi : Option Int) : (cutD ds lo hi).length ≤ ds.length := by
  unfold cutD
  rw [List.length_take, List.length_drop]
  omega

/-- names that one owns are shared ahead of a statement -/
def frzAt (i : Nat) (g : Env → Oc) (r : Env) : Oc := g (freeze i r)
@[simp] theorem frzAt_eq (i : Nat) (g : Env → Oc) (r : Env) : frzAt i g r = g (freeze i r) := rfl
theorem rs_frz (i : Nat) {X : Cx} {W : Wi} {k : Kd} {s : Stmt} {g : Env → Oc} (h : RS X W k s g) : RS X W k s (fun r => frzAt i g r) := rs_freeze i h
end Mir

/-! Dicts as tables of plain things. -/
namespace Mir
open PySem PySem.Spec PyProof.Rows L2

/-! ### keys -/
def kI (x : List Int) : NestedKey := .tup (x.map .num)
theorem keysOf_ints : ∀ x : List Int, keyOf.keysOf (x.map D.int) = some (x.map .num)
  | [] => by simp [keyOf.keysOf]
  | i :: x => by rw [List.map_cons, keyOf.keysOf, keysOf_ints x]; simp [keyOf]
theorem keyOf_tuI (x : List Int) : keyOf (tuI x) = some (kI x) := by
  show (keyOf.keysOf (x.map D.int)).map NestedKey.tup = _
  rw [keysOf_ints]
  rfl
theorem depth_nums : ∀ x : List Int, NestedKey.depthAll (x.map NestedKey.num) = 0
  | [] => by simp [NestedKey.depthAll]
  | i :: x => by rw [List.map_cons, NestedKey.depthAll, depth_nums x]; simp [NestedKey.depth]
theorem depth_kI (x : List Int) : (kI x).depth = 1 := by
  unfold kI
  rw [NestedKey.depth, depth_nums]
theorem kI_inj {x y : List Int} (h : kI x = kI y) : x = y := by
  unfold kI at h
  injection h with h
  have z : ∀ x y : List Int, x.map NestedKey.num = y.map NestedKey.num → x = y := fun x => by
    induction x with
    | nil => intro y h; cases y with
      | nil => rfl
      | cons a b => cases h
    | cons a x ih =>
      intro y h
      cases y with
      | nil => cases h
      | cons b y =>
        rw [List.map_cons, List.map_cons] at h
        injection h with h1 h2
        injection h1 with h1
        rw [h1, ih y h2]
  exact z x y h
/-- data as keys -/
structure KeyE {α : Type} (E : α → D) (Q : α → NestedKey) : Prop where
  t : ∀ a, keyT (E a) = some (Q a)
  inj : ∀ a b, Q a = Q b → a = b
theorem KeyE.of {α : Type} {E : α → D} {Q : α → NestedKey} (K : KeyE E Q) (a : α) : keyOf (E a) = some (Q a) := (keyT_some (K.t a)).2.1
theorem keyE : KeyE tuI kI := ⟨fun x => by
  unfold keyT
  simp only [keyOf_tuI, depth_kI]
  rfl, fun _ _ => kI_inj⟩
abbrev pkD (p : List Int × List Int) : D := .tup [tuI p.1, tuI p.2]
def kP (p : List Int × List Int) : NestedKey := .tup [kI p.1, kI p.2]
theorem keyP : KeyE pkD kP := ⟨fun p => by
  have e : keyOf (pkD p) = some (kP p) := by
    show (keyOf.keysOf [tuI p.1, tuI p.2]).map NestedKey.tup = _
    rw [keyOf.keysOf, keyOf_tuI, keyOf.keysOf, keyOf_tuI, keyOf.keysOf]
    rfl
  have d : (kP p).depth = 2 := by
    unfold kP
    rw [NestedKey.depth, NestedKey.depthAll, NestedKey.depthAll, NestedKey.depthAll, depth_kI, depth_kI]
    rfl
  unfold keyT
  simp only [e, d]
  rfl, fun p q h => by
  unfold kP at h
  injection h with h
  injection h with h1 h
  injection h with h2 _
  exact Prod.ext (kI_inj h1) (kI_inj h2)⟩
/-- two whole numbers as a key -/
abbrev ikD (p : Int × Int) : D := .tup [.int p.1, .int p.2]
theorem keyII : KeyE ikD (fun p => .tup [.num p.1, .num p.2]) := ⟨fun p => by
  unfold keyT
  have e : keyOf (ikD p) = some (.tup [.num p.1, .num p.2]) := by
    show (keyOf.keysOf [D.int p.1, D.int p.2]).map NestedKey.tup = _
    rw [keyOf.keysOf, keyOf.keysOf, keyOf.keysOf]
    simp [keyOf]
  simp only [e]
  rw [if_pos (by simp [NestedKey.depth, NestedKey.depthAll])], fun p q h => by
  injection h with h
  injection h with h1 h
  injection h with h2 _
  injection h1 with h1
  injection h2 with h2
  exact Prod.ext h1 h2⟩

/-! ### tables -/
section
variable {α β : Type} [DecidableEq α]
def lookA (l : List (α × β)) (a : α) : Option β := (l.find? fun p => decide (p.1 = a)).map (·.2)
def hasA (l : List (α × β)) (a : α) : Bool := l.any fun p => decide (p.1 = a)
def setA (l : List (α × β)) (a : α) (b : β) : List (α × β) := if hasA l a = true then l.map (fun p => if p.1 = a then (p.1, b) else p) else l ++ [(a, b)]
def delA (l : List (α × β)) (a : α) : List (α × β) := l.filter fun p => decide (p.1 ≠ a)
def dicA (E : α → D) (V : β → D) (l : List (α × β)) : D := .dic (l.map fun p => E p.1) (l.map fun p => V p.2)
variable {E : α → D} {V : β → D} {Q : α → NestedKey}
theorem getK_A (K : KeyE E Q) (a : α) : ∀ l : List (α × β), getK (l.map fun p => E p.1) (l.map fun p => V p.2) (Q a) = (lookA l a).map V
  | [] => by simp [getK, lookA]
  | p :: l => by
    rw [List.map_cons, List.map_cons, getK, K.of]
    unfold lookA
    rw [List.find?_cons]
    by_cases h : p.1 = a
    · rw [if_pos (by rw [h]), decide_eq_true h]
      rfl
    · rw [if_neg (fun z => h (K.inj _ _ (Option.some.inj z))), decide_eq_false h, getK_A K a l]
      rfl
theorem hasK_A (K : KeyE E Q) (a : α) (l : List (α × β)) : hasK (l.map fun p => E p.1) (Q a) = hasA l a := by
  unfold hasK hasA
  rw [List.any_map]
  congr 1
  funext p
  simp only [Function.comp, K.of]
  by_cases h : p.1 = a
  · rw [decide_eq_true h, decide_eq_true (by rw [h])]
  · rw [decide_eq_false h, decide_eq_false (fun z => h (K.inj _ _ (Option.some.inj z)))]
theorem repK_A (K : KeyE E Q) (a : α) (b : β) : ∀ l : List (α × β), repK (l.map fun p => E p.1) (l.map fun p => V p.2) (Q a) (V b) = (l.map fun p => if p.1 = a then (p.1, b) else p).map fun p => V p.2
  | [] => by simp [repK]
  | p :: l => by
    rw [List.map_cons, List.map_cons, repK, K.of, repK_A K a b l, List.map_cons, List.map_cons]
    congr 1
    by_cases h : p.1 = a
    · rw [if_pos (by rw [h]), if_pos h]
    · rw [if_neg (fun z => h (K.inj _ _ (Option.some.inj z))), if_neg h]
theorem setK_A (K : KeyE E Q) (a : α) (b : β) (l : List (α × β)) : setK (l.map fun p => E p.1) (l.map fun p => V p.2) (E a) (Q a) (V b) = ((setA l a b).map fun p => E p.1, (setA l a b).map fun p => V p.2) := by
  unfold setK setA
  rw [hasK_A K]
  by_cases h : hasA l a = true
  · rw [if_pos h, if_pos h, repK_A K]
    have e : (l.map fun p => E p.1) = (l.map fun p => if p.1 = a then (p.1, b) else p).map fun p => E p.1 := by
      rw [List.map_map]
      refine List.map_congr_left fun p _ => ?_
      show E p.1 = E (if p.1 = a then (p.1, b) else p).1
      split <;> rfl
    rw [← e]
  · rw [if_neg h, if_neg h, List.map_append, List.map_append]
    rfl
theorem delK_A (K : KeyE E Q) (a : α) : ∀ l : List (α × β), delK (l.map fun p => E p.1) (l.map fun p => V p.2) (Q a) = ((delA l a).map fun p => E p.1, (delA l a).map fun p => V p.2)
  | [] => by simp [delK, delA]
  | p :: l => by
    have ih := delK_A K a l
    rw [List.map_cons, List.map_cons, delK, K.of, ih]
    unfold delA
    rw [List.filter_cons]
    by_cases h : p.1 = a
    · rw [if_pos (by rw [h]), if_neg (by simp [h])]
    · rw [if_neg (fun z => h (K.inj _ _ (Option.some.inj z))), if_pos (by simp [h])]
      rfl
theorem ixD_A (K : KeyE E Q) (l : List (α × β)) (a : α) {b : β} (h : lookA l a = some b) : ixD (dicA E V l) (E a) = .ok (V b) := by
  unfold ixD dicA
  simp only [K.t, getK_A K, h]
  rfl
theorem inD_A (K : KeyE E Q) (l : List (α × β)) (a : α) : inD (E a) (dicA E V l) = .ok (.bl (hasA l a)) := by
  unfold inD dicA
  simp only [K.t, hasK_A K]
theorem notInD_A (K : KeyE E Q) (l : List (α × β)) (a : α) : notInD (E a) (dicA E V l) = .ok (.bl (!hasA l a)) := by
  unfold notInD dicA
  simp only [K.t, hasK_A K]
theorem setD_A (K : KeyE E Q) (l : List (α × β)) (a : α) (b : β) (hl : l.length < lim) : setD (dicA E V l) (E a) (V b) = .ok (dicA E V (setA l a b)) := by
  unfold setD dicA
  simp only [K.t, List.length_map, hl, if_true, setK_A K]
theorem setK_A' (K : KeyE E Q) (l : List (α × β)) (a : α) (b : β) : D.dic (setK (l.map fun p => E p.1) (l.map fun p => V p.2) (E a) (Q a) (V b)).1 (setK (l.map fun p => E p.1) (l.map fun p => V p.2) (E a) (Q a) (V b)).2 = dicA E V (setA l a b) := by
  rw [setK_A K]
  rfl
@[simp] theorem lenD_A (l : List (α × β)) : lenD (dicA E V l) = .ok (.int l.length) := by
  show Res.ok (D.int ((l.map fun p => E p.1).length : Nat)) = _
  rw [List.length_map]
@[simp] theorem itemsD_A (l : List (α × β)) : itemsD (dicA E V l) = .ok (l.map fun p => E p.1) := rfl
theorem pairsD_A (l : List (α × β)) : pairsD (dicA E V l) = .ok (l.map fun p => .tup [E p.1, V p.2]) := by
  show Res.ok (pairsK _ _) = _
  unfold pairsK
  rw [List.zip_map', List.map_map]
  rfl
theorem dicA_nil : (D.dic [] [] : D) = dicA E V ([] : List (α × β)) := rfl
theorem setA_new {l : List (α × β)} {a : α} (b : β) (h : a ∉ l.map (·.1)) : setA l a b = l ++ [(a, b)] := by
  unfold setA
  rw [if_neg]
  unfold hasA
  rw [List.any_eq_true]
  rintro ⟨p, hp, e⟩
  exact h (List.mem_map.mpr ⟨p, hp, of_decide_eq_true e⟩)
theorem lookA_mem {l : List (α × β)} {a : α} {b : β} (hn : (l.map (·.1)).Nodup) (h : (a, b) ∈ l) : lookA l a = some b := by
  induction l with
  | nil => cases h
  | cons p l ih =>
    rw [List.map_cons, List.nodup_cons] at hn
    unfold lookA
    rw [List.find?_cons]
    rcases List.mem_cons.mp h with z | z
    · subst z
      rw [decide_eq_true rfl]
      rfl
    · have ne : p.1 ≠ a := fun e => hn.1 (by rw [e]; exact List.mem_map.mpr ⟨_, z, rfl⟩)
      rw [decide_eq_false ne]
      exact ih hn.2 z
theorem lookA_map {l : List α} (f : α → β) {a : α} (h : a ∈ l) : lookA (l.map fun x => (x, f x)) a = some (f a) := by
  induction l with
  | nil => cases h
  | cons x l ih =>
    unfold lookA
    rw [List.map_cons, List.find?_cons]
    by_cases e : x = a
    · subst e
      rw [decide_eq_true rfl]
      rfl
    · rw [decide_eq_false (by simpa using e)]
      rcases List.mem_cons.mp h with z | z
      · exact (e z.symm).elim
      · exact ih z
theorem hasA_map (l : List α) (f : α → β) (a : α) : hasA (l.map fun x => (x, f x)) a = decide (a ∈ l) := by
  unfold hasA
  rw [List.any_map, Bool.eq_iff_iff, List.any_eq_true, decide_eq_true_iff]
  constructor
  · rintro ⟨x, hx, e⟩
    have e' : x = a := of_decide_eq_true e
    rw [← e']
    exact hx
  · intro h
    exact ⟨a, h, decide_eq_true rfl⟩
/-- a table told by a function on a row of keys -/
abbrev dicF (E : α → D) (V : β → D) (l : List α) (f : α → β) : D := dicA E V (l.map fun x => (x, f x))
theorem setA_map (l : List α) (f : α → β) (a : α) (b : β) (h : a ∈ l) : setA (l.map fun x => (x, f x)) a b = l.map fun x => (x, if x = a then b else f x) := by
  unfold setA
  rw [hasA_map, if_pos (decide_eq_true h), List.map_map]
  exact List.map_congr_left fun x _ => by
    simp only [Function.comp]
    by_cases e : x = a
    · rw [if_pos e, if_pos e]
    · rw [if_neg e, if_neg e]
end
/-- two tables with the same row of keys, whose values are rows of whole numbers -/
theorem sameK_A {α : Type} [DecidableEq α] {E : α → D} {Q : α → NestedKey} (K : KeyE E Q) (m : List (α × List Int)) : ∀ l : List (α × List Int), sameK (l.map fun p => E p.1) (l.map fun p => tuI p.2) (m.map fun p => E p.1) (m.map fun p => tuI p.2) = some (l.all fun p => decide (lookA m p.1 = some p.2))
  | [] => by simp [sameK]
  | p :: l => by
    have ih := sameK_A K m l
    rw [List.map_cons, List.map_cons, sameK, K.of, List.all_cons]
    simp only [getK_A K (V := tuI)]
    cases h : lookA m p.1 with
    | none => simp
    | some x =>
      have e : eqS (tuI p.2) (tuI x) = .ok (.bl (decide (p.2 = x))) := by
        rw [eqS_ok (by simp) (by simp), eqQ, eqQs_ints]
      simp only [Option.map_some, e]
      by_cases hx : p.2 = x
      · rw [decide_eq_true hx, ih, hx]
        simp
      · rw [decide_eq_false hx]
        have : ¬ x = p.2 := fun z => hx z.symm
        simp [this]
theorem eqD_A {α : Type} [DecidableEq α] {E : α → D} {Q : α → NestedKey} (K : KeyE E Q) (l m : List (α × List Int)) : eqD (dicA E tuI l) (dicA E tuI m) = .ok (.bl (decide (l.length = m.length) && l.all fun p => decide (lookA m p.1 = some p.2))) := by
  unfold eqD dicA sameD
  simp only [List.length_map, sameK_A K]
  by_cases h : l.length = m.length
  · rw [if_pos h, decide_eq_true h, Bool.true_and]
  · rw [if_neg h, decide_eq_false h, Bool.false_and]
theorem neD_A {α : Type} [DecidableEq α] {E : α → D} {Q : α → NestedKey} (K : KeyE E Q) (l m : List (α × List Int)) : neD (dicA E tuI l) (dicA E tuI m) = .ok (.bl (!(decide (l.length = m.length) && l.all fun p => decide (lookA m p.1 = some p.2)))) := by
  unfold neD dicA sameD
  simp only [List.length_map, sameK_A K]
  by_cases h : l.length = m.length
  · rw [if_pos h, decide_eq_true h, Bool.true_and]
  · rw [if_neg h, decide_eq_false h, Bool.false_and]
theorem eqD_F {α : Type} [DecidableEq α] {E : α → D} {Q : α → NestedKey} (K : KeyE E Q) (l : List α) (f g : α → List Int) : eqD (dicF E tuI l f) (dicF E tuI l g) = .ok (.bl (decide (∀ a ∈ l, f a = g a))) := by
  rw [eqD_A K]
  congr 2
  simp only [List.length_map, decide_true, Bool.true_and]
  rw [List.all_map, Bool.eq_iff_iff, List.all_eq_true, decide_eq_true_iff]
  constructor
  · intro h a ha
    have := h a ha
    simp only [Function.comp, lookA_map g ha, decide_eq_true_iff, Option.some.injEq] at this
    exact this.symm
  · intro h a ha
    simp only [Function.comp, lookA_map g ha, decide_eq_true_iff, Option.some.injEq]
    exact (h a ha).symm

/-! ### all elements by rounds -/
def memsStep (found : List (List Int)) (n : Int) : List (List Int) := found.flatMap fun x => (List.range n.toNat).map fun i : Nat => x ++ [(i : Int)]
def mems (rs : List Int) : List (List Int) := rs.foldl memsStep [[]]
def prs (rs : List Int) : List (List Int × List Int) := (mems rs).flatMap fun x => (mems rs).map fun y => (x, y)
theorem mem_prs {rs x y : List Int} : (x, y) ∈ prs rs ↔ x ∈ mems rs ∧ y ∈ mems rs := by
  unfold prs
  rw [List.mem_flatMap]
  constructor
  · rintro ⟨a, ha, h⟩
    obtain ⟨b, hb, e⟩ := List.mem_map.mp h
    injection e with e1 e2
    subst e1 e2
    exact ⟨ha, hb⟩
  · rintro ⟨h1, h2⟩
    exact ⟨x, h1, List.mem_map.mpr ⟨y, h2, rfl⟩⟩
end Mir

/-! Whole numbers by rounds (printed by mkmath.py). -/
namespace Mir
open PySem PySem.Spec PyProof.Rows L2
/-- a group by rounds -/
abbrev gR (rs : List Int) : D := .obj 0 [tuI rs]
/-- rounds that make a group -/
structure OkR (rs : List Int) : Prop where
  two : ∀ n ∈ rs, 2 ≤ n
  len : rs.length ≤ 7
structure OkE (rs x : List Int) : Prop where
  len : x.length = rs.length
  at_ : ∀ p ∈ x.zip rs, 0 ≤ p.1 ∧ p.1 < p.2
theorem fld_rounds (rs : List Int) : fldD (plOf [0] "rounds") (gR rs) = .ok (tuI rs) := by
  have e : plOf [0] "rounds" 0 = some 0 := by kernel_rfl
  unfold fldD
  simp [e]
theorem is_tuple (cs us : List Nat) (xs : List D) : isD cs us (.tup xs) (.ty "tuple") = .ok (.bl true) := rfl
theorem mem_zip2 {xs ys : List Int} {d : D} (h : d ∈ zipL2 (xs.map D.int) (ys.map D.int)) : ∃ p ∈ xs.zip ys, d = .tup [.int p.1, .int p.2] := by
  unfold zipL2 at h
  rw [List.zip_map, List.map_map] at h
  obtain ⟨p, hp, e⟩ := List.mem_map.mp h
  exact ⟨p, hp, e.symm⟩
/-- the sum by rounds -/
def putV (rs x y : List Int) : List Int := (x.zip (y.zip rs)).map fun p => (p.1 + p.2.1) % p.2.2
def backV (rs x : List Int) : List Int := (x.zip rs).map fun p => (0 - p.1) % p.2
def zeroV (rs : List Int) : List Int := rs.map fun _ => 0
theorem putV_len {rs x y : List Int} (h1 : x.length = rs.length) (h2 : y.length = rs.length) : (putV rs x y).length = rs.length := by simp [putV, h1, h2]
theorem put_el {rs x y : List Int} (h : OkR rs) (h1 : x.length = rs.length) (h2 : y.length = rs.length) : OkE rs (putV rs x y) := by
  refine ⟨putV_len h1 h2, fun p hp => ?_⟩
  obtain ⟨i, hi⟩ := List.getElem?_of_mem hp
  obtain ⟨g1, g2⟩ := List.getElem?_zip_eq_some.mp hi
  unfold putV at g1
  rw [List.getElem?_map, Option.map_eq_some_iff] at g1
  obtain ⟨q, hq, e⟩ := g1
  obtain ⟨_, q2⟩ := List.getElem?_zip_eq_some.mp hq
  obtain ⟨_, q3⟩ := List.getElem?_zip_eq_some.mp q2
  have en : q.2.2 = p.2 := Option.some.inj (q3.symm.trans g2)
  have t : (2 : Int) ≤ p.2 := h.two _ (List.of_mem_zip hp).2
  rw [← e, en]
  exact ⟨Int.emod_nonneg _ (by omega), Int.emod_lt_of_pos _ (by omega)⟩
theorem backV_len {rs x : List Int} (h1 : x.length = rs.length) : (backV rs x).length = rs.length := by simp [backV, h1]
theorem back_el {rs x : List Int} (h : OkR rs) (h1 : x.length = rs.length) : OkE rs (backV rs x) := by
  refine ⟨backV_len h1, fun p hp => ?_⟩
  obtain ⟨i, hi⟩ := List.getElem?_of_mem hp
  obtain ⟨g1, g2⟩ := List.getElem?_zip_eq_some.mp hi
  unfold backV at g1
  rw [List.getElem?_map, Option.map_eq_some_iff] at g1
  obtain ⟨q, hq, e⟩ := g1
  obtain ⟨_, q3⟩ := List.getElem?_zip_eq_some.mp hq
  have en : q.2 = p.2 := Option.some.inj (q3.symm.trans g2)
  have t : (2 : Int) ≤ p.2 := h.two _ (List.of_mem_zip hp).2
  rw [← e, en]
  exact ⟨Int.emod_nonneg _ (by omega), Int.emod_lt_of_pos _ (by omega)⟩
theorem zero_el {rs : List Int} (h : OkR rs) : OkE rs (zeroV rs) := by
  refine ⟨by simp [zeroV], fun p hp => ?_⟩
  obtain ⟨q1, q2⟩ := List.of_mem_zip hp
  unfold zeroV at q1
  obtain ⟨n, _, e⟩ := List.mem_map.mp q1
  have t : (2 : Int) ≤ p.2 := h.two _ q2
  omega
/-- a while that goes down: k turns at most -/
theorem whileD_down {c : Env → Res Bool} {b : Env → Oc} (P : Nat → Env → Prop) (Q : Env → Prop) (step : ∀ k r, P k r → (c r = .ok false ∧ Q r) ∨ (∃ j r', k = j + 1 ∧ c r = .ok true ∧ b r = .nx r' ∧ P j r')) :
    ∀ (k N : Nat) (r : Env), P k r → k < N → ∃ r', whileD c b N r = .nx r' ∧ Q r' := fun k => by
  induction k with
  | zero =>
    intro N r hP hN
    obtain ⟨M, rfl⟩ : ∃ M, N = M + 1 := ⟨N - 1, by omega⟩
    rcases step 0 r hP with ⟨h1, h2⟩ | ⟨j, r', h, _⟩
    · exact ⟨r, by rw [whileD, h1]; rfl, h2⟩
    · omega
  | succ k ih =>
    intro N r hP hN
    obtain ⟨M, rfl⟩ : ∃ M, N = M + 1 := ⟨N - 1, by omega⟩
    rcases step (k + 1) r hP with ⟨h1, h2⟩ | ⟨j, r', h, h1, h2, h3⟩
    · exact ⟨r, by rw [whileD, h1]; rfl, h2⟩
    · obtain rfl : k = j := by omega
      obtain ⟨r2, q1, q2⟩ := ih M r' h3 (by omega)
      refine ⟨r2, ?_, q2⟩
      rw [whileD, h1]
      simp only [lift_ok, if_true, h2]
      exact q1
theorem loopD_down {c : Env → Res Bool} {b : Env → Oc} (P : Nat → Env → Prop) (Q : Env → Prop) (step : ∀ k r, P k r → (c r = .ok false ∧ Q r) ∨ (∃ j r', k = j + 1 ∧ c r = .ok true ∧ b r = .nx r' ∧ P j r'))
    {k : Nat} {r : Env} (h : P k r) (hk : k < 1000000) : ∃ r', loopD c b r = .nx r' ∧ Q r' := by
  unfold loopD
  rw [turns_eq]
  exact whileD_down P Q step k _ r h hk

/-- so many times -/
def timesV (rs : List Int) (n : Int) (x : List Int) : List Int := (x.zip rs).map fun p => n * p.1 % p.2

/-- rounds that the program takes -/
structure OkG (rs : List Int) : Prop where
  ok : OkR rs
  most : ∀ n ∈ rs, n ≤ 144
  prod : rs.foldl (· * ·) 1 ≤ 144
theorem take_more {α : Type} {l : List α} {i : Nat} {x : α} (h : l[i]? = some x) : l.take (i + 1) = l.take i ++ [x] := by
  rw [List.take_add_one, h]
  rfl
theorem is_seq (src : D) (rs : List Int) (h : src = tuI rs ∨ src = liI rs) (cs us : List Nat) : isD cs us src (.tup [.ty "list", .ty "tuple"]) = .ok (.bl true) := by
  rcases h with rfl | rfl <;> kernel_rfl
theorem runI_nx {p n c : Nat} {g : Env → Oc} {ds : List D} {r : Env} (h : ds.length = p) (e : g (startI n c ds) = .nx r) : runI p n c g ds = selfR r := by
  unfold runI
  rw [if_pos h, e]
theorem getD_zip {xs ys : List Int} {f : Int × Int → Int} {i : Nat} (h1 : i < xs.length) (h2 : i < ys.length) : ((xs.zip ys).map f).getD i 0 = f (xs.getD i 0, ys.getD i 0) := by
  have e1 : xs[i]? = some (xs.getD i 0) := by rw [List.getD_eq_getElem?_getD, List.getElem?_eq_getElem h1]; rfl
  have e2 : ys[i]? = some (ys.getD i 0) := by rw [List.getD_eq_getElem?_getD, List.getElem?_eq_getElem h2]; rfl
  have e3 : (xs.zip ys)[i]? = some (xs.getD i 0, ys.getD i 0) := List.getElem?_zip_eq_some.mpr ⟨e1, e2⟩
  rw [List.getD_eq_getElem?_getD, List.getElem?_map, e3]
  rfl
theorem putV_at {rs x y : List Int} {i : Nat} (hi : i < rs.length) (h1 : x.length = rs.length) (h2 : y.length = rs.length) : (putV rs x y).getD i 0 = (x.getD i 0 + y.getD i 0) % rs.getD i 0 := by
  have e1 : x[i]? = some (x.getD i 0) := by rw [List.getD_eq_getElem?_getD, List.getElem?_eq_getElem (by omega)]; rfl
  have e2 : y[i]? = some (y.getD i 0) := by rw [List.getD_eq_getElem?_getD, List.getElem?_eq_getElem (by omega)]; rfl
  have e3 : rs[i]? = some (rs.getD i 0) := by rw [List.getD_eq_getElem?_getD, List.getElem?_eq_getElem hi]; rfl
  have e4 : (x.zip (y.zip rs))[i]? = some (x.getD i 0, y.getD i 0, rs.getD i 0) := List.getElem?_zip_eq_some.mpr ⟨e1, List.getElem?_zip_eq_some.mpr ⟨e2, e3⟩⟩
  unfold putV
  rw [List.getD_eq_getElem?_getD, List.getElem?_map, e4]
  rfl
theorem ext_getD {xs ys : List Int} (hl : xs.length = ys.length) (h : ∀ i, i < ys.length → xs.getD i 0 = ys.getD i 0) : xs = ys := by
  apply List.ext_getElem hl
  intro i h1 h2
  have := h i h2
  rw [List.getD_eq_getElem?_getD, List.getD_eq_getElem?_getD, List.getElem?_eq_getElem h1, List.getElem?_eq_getElem h2] at this
  exact this
theorem OkE.get {rs x : List Int} (h : OkE rs x) {i : Nat} (hi : i < rs.length) : 0 ≤ x.getD i 0 ∧ x.getD i 0 < rs.getD i 0 := by
  have e1 : x[i]? = some (x.getD i 0) := by rw [List.getD_eq_getElem?_getD, List.getElem?_eq_getElem (by rw [h.len]; exact hi)]; rfl
  have e3 : rs[i]? = some (rs.getD i 0) := by rw [List.getD_eq_getElem?_getD, List.getElem?_eq_getElem hi]; rfl
  exact h.at_ _ (List.mem_of_getElem? (List.getElem?_zip_eq_some.mpr ⟨e1, e3⟩ : (x.zip rs)[i]? = some (x.getD i 0, rs.getD i 0)))
theorem OkR.get {rs : List Int} (h : OkR rs) {i : Nat} (hi : i < rs.length) : 2 ≤ rs.getD i 0 := by
  have e3 : rs[i]? = some (rs.getD i 0) := by rw [List.getD_eq_getElem?_getD, List.getElem?_eq_getElem hi]; rfl
  exact h.two _ (List.mem_of_getElem? e3)
theorem zeroV_at (rs : List Int) (i : Nat) : (zeroV rs).getD i 0 = 0 := by
  unfold zeroV
  rw [List.getD_eq_getElem?_getD, List.getElem?_map]
  cases rs[i]? <;> rfl
/-- what stays while the number is halved -/
structure TInv (rs x0 : List Int) (n0 n : Int) (x f : List Int) : Prop where
  lx : x.length = rs.length
  ef : OkE rs f
  nn : 0 ≤ n
  eq : ∀ i, i < rs.length → (f.getD i 0 + n * x.getD i 0) % rs.getD i 0 = n0 * x0.getD i 0 % rs.getD i 0
theorem half_odd {f x m n : Int} (h1 : n % 2 = 1) : ((f + x) % m + n / 2 * ((x + x) % m)) % m = (f + n * x) % m := by
  have a := Int.emod_add_mul_ediv (f + x) m
  have b := Int.emod_add_mul_ediv (x + x) m
  have c : n = 2 * (n / 2) + 1 := by omega
  have e : f + n * x = ((f + x) % m + n / 2 * ((x + x) % m)) + m * ((f + x) / m + n / 2 * ((x + x) / m)) := by
    have t1 : n / 2 * (x + x) = n / 2 * x + n / 2 * x := Int.mul_add ..
    have t2 : n * x = 2 * (n / 2 * x) + x := by
      have z : n * x = (2 * (n / 2) + 1) * x := congrArg (· * x) c
      rw [z, Int.add_mul, Int.mul_assoc, Int.one_mul]
    have c2 : n * x = n / 2 * (x + x) + x := by omega
    rw [c2]
    conv => lhs; rw [← b]
    rw [Int.mul_add, Int.mul_add]
    have d : n / 2 * (m * ((x + x) / m)) = m * (n / 2 * ((x + x) / m)) := Int.mul_left_comm ..
    omega
  rw [e, Int.add_mul_emod_self_left]
theorem half_even {f x m n : Int} (h1 : n % 2 = 0) : (f + n / 2 * ((x + x) % m)) % m = (f + n * x) % m := by
  have b := Int.emod_add_mul_ediv (x + x) m
  have c : n = 2 * (n / 2) := by omega
  have e : f + n * x = (f + n / 2 * ((x + x) % m)) + m * (n / 2 * ((x + x) / m)) := by
    have t1 : n / 2 * (x + x) = n / 2 * x + n / 2 * x := Int.mul_add ..
    have t2 : n * x = 2 * (n / 2 * x) := by
      have z : n * x = (2 * (n / 2)) * x := congrArg (· * x) c
      rw [z, Int.mul_assoc]
    have c2 : n * x = n / 2 * (x + x) := by omega
    rw [c2]
    conv => lhs; rw [← b]
    rw [Int.mul_add]
    have d : n / 2 * (m * ((x + x) / m)) = m * (n / 2 * ((x + x) / m)) := Int.mul_left_comm ..
    omega
  rw [e, Int.add_mul_emod_self_left]
theorem TInv.odd {rs x0 x f : List Int} {n0 n : Int} (h : OkR rs) (v : TInv rs x0 n0 n x f) (o : n % 2 = 1) : TInv rs x0 n0 (n / 2) (putV rs x x) (putV rs f x) where
  lx := putV_len v.lx v.lx
  ef := put_el h v.ef.len v.lx
  nn := by have := v.nn; omega
  eq := fun i hi => by
    rw [putV_at hi v.ef.len v.lx, putV_at hi v.lx v.lx, half_odd o]
    exact v.eq i hi
theorem TInv.even {rs x0 x f : List Int} {n0 n : Int} (h : OkR rs) (v : TInv rs x0 n0 n x f) (o : n % 2 = 0) : TInv rs x0 n0 (n / 2) (putV rs x x) f where
  lx := putV_len v.lx v.lx
  ef := v.ef
  nn := by have := v.nn; omega
  eq := fun i hi => by
    rw [putV_at hi v.lx v.lx, half_even o]
    exact v.eq i hi
theorem timesV_at {rs x : List Int} {n : Int} {i : Nat} (hi : i < rs.length) (hl : x.length = rs.length) : (timesV rs n x).getD i 0 = n * x.getD i 0 % rs.getD i 0 := getD_zip (f := fun p => n * p.1 % p.2) (by omega) hi
theorem TInv.done {rs x0 x f : List Int} {n0 : Int} (h : OkR rs) (hl : x0.length = rs.length) (v : TInv rs x0 n0 0 x f) : f = timesV rs n0 x0 := by
  refine ext_getD (by rw [v.ef.len]; simp [timesV, hl]) fun i hi => ?_
  have hi' : i < rs.length := by simpa [timesV, hl] using hi
  have e := v.eq i hi'
  obtain ⟨a, b⟩ := v.ef.get hi'
  rw [Int.zero_mul, Int.add_zero, Int.emod_eq_of_lt a b] at e
  rw [e, timesV_at hi' hl]
theorem backV_at {rs x : List Int} {i : Nat} (hi : i < rs.length) (hl : x.length = rs.length) : (backV rs x).getD i 0 = (0 - x.getD i 0) % rs.getD i 0 := getD_zip (f := fun p => (0 - p.1) % p.2) (by omega) hi
theorem neg_back {x m n : Int} : (0 + (0 - n) * ((0 - x) % m)) % m = n * x % m := by
  have b := Int.emod_add_mul_ediv (0 - x) m
  have e : n * x = (0 + (0 - n) * ((0 - x) % m)) + m * ((0 - n) * ((0 - x) / m)) := by
    have t1 : n * x = (0 - n) * (0 - x) := by
      rw [Int.zero_sub, Int.zero_sub, Int.neg_mul_neg]
    rw [t1]
    conv => lhs; rw [← b]
    rw [Int.mul_add]
    have d : (0 - n) * (m * ((0 - x) / m)) = m * ((0 - n) * ((0 - x) / m)) := Int.mul_left_comm ..
    omega
  rw [e, Int.add_mul_emod_self_left]
/-- the total of a list -/
def totalV (rs : List Int) (xs : List (List Int)) : List Int := xs.foldl (fun f x => putV rs f x) (zeroV rs)
/-- the least number of times from 1 on that comes to nought -/
structure Least (rs x : List Int) (m : Nat) : Prop where
  one : 1 ≤ m
  z : timesV rs m x = zeroV rs
  le : ∀ j : Nat, 1 ≤ j → j < m → timesV rs j x ≠ zeroV rs
theorem Least.uniq {rs x : List Int} {m n : Nat} (a : Least rs x m) (b : Least rs x n) : m = n := by
  by_cases h : m < n
  · exact absurd a.z (b.le m a.one h)
  · by_cases h2 : n < m
    · exact absurd b.z (a.le n b.one h2)
    · omega
theorem least_of {P : Nat → Prop} : ∀ n : Nat, 1 ≤ n → P n → ∃ m, 1 ≤ m ∧ m ≤ n ∧ P m ∧ ∀ j, 1 ≤ j → j < m → ¬ P j := fun n => by
  induction n using Nat.strongRecOn with
  | ind n ih =>
    intro h1 hp
    by_cases h : ∃ j, 1 ≤ j ∧ j < n ∧ P j
    · obtain ⟨j, j1, j2, j3⟩ := h
      obtain ⟨m, m1, m2, m3⟩ := ih j j2 j1 j3
      exact ⟨m, m1, by omega, m3⟩
    · exact ⟨n, h1, Nat.le_refl _, hp, fun j j1 j2 q => h ⟨j, j1, j2, q⟩⟩
theorem timesV_len (rs x : List Int) (n : Int) (hl : x.length = rs.length) : (timesV rs n x).length = rs.length := by simp [timesV, hl]
theorem times_zero_iff {rs x : List Int} {n : Int} (hl : x.length = rs.length) (h : ∀ i, i < rs.length → n * x.getD i 0 % rs.getD i 0 = 0) : timesV rs n x = zeroV rs :=
  ext_getD (by simp [timesV, zeroV, hl]) fun i hi => by
    have hi' : i < rs.length := by simpa [zeroV] using hi
    rw [timesV_at hi' hl, zeroV_at, h i hi']
theorem dvd_foldl : ∀ (rs : List Int) (a : Int) (i : Nat), i < rs.length → rs.getD i 0 ∣ rs.foldl (· * ·) a
  | [], _, _, h => by simp at h
  | r :: rs, a, 0, _ => by
    show r ∣ rs.foldl (· * ·) (a * r)
    have z : ∀ (l : List Int) (b : Int), r ∣ b → r ∣ l.foldl (· * ·) b := fun l => by
      induction l with
      | nil => exact fun b hb => hb
      | cons c l ih => exact fun b hb => ih (b * c) (Int.dvd_mul_of_dvd_left hb)
    exact z rs _ (Int.dvd_mul_left ..)
  | r :: rs, a, i + 1, h => by
    show (r :: rs).getD (i + 1) 0 ∣ rs.foldl (· * ·) (a * r)
    have e : (r :: rs).getD (i + 1) 0 = rs.getD i 0 := by simp
    rw [e]
    exact dvd_foldl rs (a * r) i (by simpa using h)
theorem foldl_pos : ∀ (rs : List Int) (a : Int), 1 ≤ a → (∀ n ∈ rs, 2 ≤ n) → 1 ≤ rs.foldl (· * ·) a
  | [], _, h, _ => h
  | r :: rs, a, h, h2 => foldl_pos rs (a * r) (by
    have := h2 r List.mem_cons_self
    have q : 1 * 1 ≤ a * r := Int.mul_le_mul h (by omega) (by omega) (by omega)
    omega) fun n hn => h2 n (List.mem_cons_of_mem _ hn)
theorem least_ex {rs x : List Int} (g : OkG rs) (hx : OkE rs x) : ∃ m : Nat, m ≤ 144 ∧ Least rs x m := by
  have p1 := foldl_pos rs 1 (by omega) g.ok.two
  have p2 := g.prod
  generalize hp : rs.foldl (· * ·) 1 = p at p1 p2
  have hz : timesV rs (p.toNat : Nat) x = zeroV rs := times_zero_iff hx.len fun i hi => by
    have d := dvd_foldl rs 1 i hi
    rw [hp] at d
    have e : ((p.toNat : Nat) : Int) = p := by omega
    rw [e]
    exact Int.emod_eq_zero_of_dvd (Int.dvd_mul_of_dvd_left d)
  obtain ⟨m, m1, m2, m3, m4⟩ := least_of (P := fun j => timesV rs (j : Nat) x = zeroV rs) p.toNat (by omega) hz
  exact ⟨m, by omega, m1, m3, m4⟩
theorem times_one {rs x : List Int} (hx : OkE rs x) : timesV rs 1 x = x := ext_getD (timesV_len rs x 1 hx.len |>.trans hx.len.symm) fun i hi => by
  have hi' : i < rs.length := by rw [← hx.len]; exact hi
  rw [timesV_at hi' hx.len, Int.one_mul]
  obtain ⟨a, b⟩ := hx.get hi'
  exact Int.emod_eq_of_lt a b
theorem times_succ {rs x : List Int} (hl : x.length = rs.length) (j : Nat) : putV rs (timesV rs j x) x = timesV rs ((j + 1 : Nat) : Int) x := ext_getD (by rw [putV_len (timesV_len rs x j hl) hl, timesV_len rs x _ hl]) fun i hi => by
  have hi' : i < rs.length := by rw [timesV_len rs x _ hl] at hi; exact hi
  rw [putV_at hi' (timesV_len rs x j hl) hl, timesV_at hi' hl, timesV_at hi' hl]
  have e : ((j + 1 : Nat) : Int) * x.getD i 0 = (j : Int) * x.getD i 0 + x.getD i 0 := by
    rw [Int.natCast_add, Int.add_mul]
    show _ + (1 : Int) * _ = _
    rw [Int.one_mul]
  rw [e, Int.emod_add_emod]
/-- a comprehension over the places -/
theorem lcD_places {g : D → Env → Res Env} {t : Env → Res Bool} {f : Env → Res D} {r : Env} (ys : List Int) (h : ∀ i : Nat, i < ys.length → ∃ r1, g (.int (i : Nat)) r = .ok r1 ∧ t r1 = .ok true ∧ f r1 = .ok (.int (ys.getD i 0))) : lcD g t f r (rangeL 0 ys.length) = .ok (ys.map .int) := by
  rw [lcD_map (fun d => match d with | .int i => .int (ys.getD i.toNat 0) | _ => .non) (fun d hd => by
    obtain ⟨i, hi, rfl⟩ := mem_rangeL hd
    rw [Int.zero_add]
    obtain ⟨r1, h1, h2, h3⟩ := h i hi
    exact ⟨r1, h1, h2, by simpa using h3⟩)]
  congr 1
  apply List.ext_getElem?
  intro i
  unfold rangeL
  rw [List.map_map, List.getElem?_map, List.getElem?_map]
  by_cases hi : i < ys.length
  · rw [List.getElem?_range hi, List.getElem?_eq_getElem hi]
    simp [List.getElem?_eq_getElem hi]
  · rw [List.getElem?_eq_none (by simpa using hi), List.getElem?_eq_none (by simpa using hi)]
    rfl

theorem prod_app (f : List Int) (a b : Int) : (f ++ [a]).foldl (· * ·) b = f.foldl (· * ·) b * a := by rw [List.foldl_append]; rfl
/-- what stays while rounds are drawn -/
structure RIM (most : Int) (i : Nat) (f : List Int) (left : Int) : Prop where
  len : f.length ≤ i
  two : ∀ n ∈ f, 2 ≤ n
  le : ∀ n ∈ f, n ≤ most
  one : 1 ≤ left
  prod : f.foldl (· * ·) 1 * left ≤ most
theorem RIM.left_le {most : Int} {i : Nat} {f : List Int} {left : Int} (v : RIM most i f left) : left ≤ most := by
  have p := foldl_pos f 1 (by omega) v.two
  have q : 1 * left ≤ f.foldl (· * ·) 1 * left := Int.mul_le_mul_of_nonneg_right p (by have := v.one; omega)
  have := v.prod
  omega
theorem RIM.step {most : Int} {i : Nat} {f : List Int} {left n : Int} (v : RIM most i f left) (h2 : 2 ≤ n) (h : n ≤ left) : RIM most (i + 1) (f ++ [n]) (left / n) where
  len := by have := v.len; simp; omega
  two := fun m hm => by
    rcases List.mem_append.mp hm with z | z
    · exact v.two m z
    · rw [List.mem_singleton.mp z]; exact h2
  le := fun m hm => by
    rcases List.mem_append.mp hm with z | z
    · exact v.le m z
    · have := v.left_le
      rw [List.mem_singleton.mp z]; omega
  one := by
    have z : 1 * n ≤ left := by omega
    exact (Int.le_ediv_iff_mul_le (by omega)).mpr z
  prod := by
    rw [prod_app, Int.mul_assoc]
    have p := foldl_pos f 1 (by omega) v.two
    have z : n * (left / n) ≤ left := Int.mul_ediv_self_le (by omega)
    have q := Int.mul_le_mul_of_nonneg_left z (show 0 ≤ f.foldl (· * ·) 1 by omega)
    have := v.prod
    omega
theorem RIM.mono {most : Int} {i : Nat} {f : List Int} {left : Int} (v : RIM most i f left) : RIM most (i + 1) f left := ⟨by have := v.len; omega, v.two, v.le, v.one, v.prod⟩
/-- rounds drawn: of a product of at most so many -/
structure OkM (most : Int) (rs : List Int) : Prop where
  ok : OkG rs
  prod : rs.foldl (· * ·) 1 ≤ most
  len : rs.length ≤ 3
/-- things of a plain kind -/
def plainD : D → Bool
  | .non => true
  | .bl _ => true
  | .int _ => true
  | .str _ => true
  | .tup _ => true
  | .lst _ => true
  | .dic _ _ => true
  | _ => false
def isW : D → Bool
  | .int _ => true
  | _ => false
def inB : D → Int → Bool
  | .int i, m => decide (0 ≤ i) && decide (i < m)
  | _, _ => false
/-- whether a thing is an element -/
def elB (rs : List Int) : D → Bool
  | .tup ds => decide (ds.length = rs.length) && (ds.zip rs).all fun p => inB p.1 p.2
  | _ => false
/-- what is asked here -/
def plainT : D → Bool
  | .tup ds => ds.all plainD
  | d => plainD d
theorem is_tuple_any {d : D} (h : plainT d = true) (cs us : List Nat) : isD cs us d (.ty "tuple") = .ok (.bl (match d with | .tup _ => true | _ => false)) := by
  cases d <;> first | (cases h; done) | rfl
theorem elB_of {rs x : List Int} (h : OkE rs x) : elB rs (tuI x) = true := by
  unfold elB
  rw [Bool.and_eq_true]
  refine ⟨by simpa using h.len, List.all_eq_true.mpr fun p hp => ?_⟩
  have e : (x.map D.int).zip rs = (x.zip rs).map fun q => (D.int q.1, q.2) := by rw [List.zip_map_left]; rfl
  rw [e] at hp
  obtain ⟨q, hq, rfl⟩ := List.mem_map.mp hp
  obtain ⟨a, b⟩ := h.at_ q hq
  simp [inB, a, b]
theorem ints_of : ∀ {ds : List D} {rs : List Int}, ds.length = rs.length → ((ds.zip rs).all fun p => inB p.1 p.2) = true → ∃ x : List Int, ds = x.map D.int ∧ ∀ p ∈ x.zip rs, 0 ≤ p.1 ∧ p.1 < p.2
  | [], [], _, _ => ⟨[], rfl, fun _ h => nomatch h⟩
  | [], _ :: _, h, _ => by simp at h
  | _ :: _, [], h, _ => by simp at h
  | d :: ds, m :: rs, hl, h => by
    rw [List.zip_cons_cons, List.all_cons, Bool.and_eq_true] at h
    obtain ⟨x, e, q⟩ := ints_of (by simpa using hl) h.2
    cases d with
    | int i =>
      have h1 : 0 ≤ i ∧ i < m := by simpa [inB] using h.1
      refine ⟨i :: x, by rw [e]; rfl, fun p hp => ?_⟩
      rw [List.zip_cons_cons] at hp
      rcases List.mem_cons.mp hp with z | z
      · subst z; exact h1
      · exact q p z
    | _ => simp [inB] at h
theorem elB_el {rs : List Int} {d : D} (h : elB rs d = true) : ∃ x, OkE rs x ∧ d = tuI x := by
  cases d with
  | tup ds =>
    unfold elB at h
    rw [Bool.and_eq_true, decide_eq_true_iff] at h
    obtain ⟨x, e, q⟩ := ints_of h.1 h.2
    refine ⟨x, ⟨?_, q⟩, by rw [e]⟩
    have := h.1
    rw [e] at this
    simpa using this
  | _ => cases h
theorem mem_zip_any {ds : List D} {rs : List Int} {d : D} (h : d ∈ zipL2 ds (rs.map D.int)) : ∃ p ∈ ds.zip rs, d = .tup [p.1, .int p.2] := by
  unfold zipL2 at h
  rw [List.zip_map_right, List.map_map] at h
  obtain ⟨p, hp, e⟩ := List.mem_map.mp h
  exact ⟨p, hp, e.symm⟩
theorem any_zip {ds : List D} {rs : List Int} (f : D → Int → Bool) (g : D → Bool) (h : ∀ a i, g (.tup [a, .int i]) = f a i) : (zipL2 ds (rs.map D.int)).any g = (ds.zip rs).any fun p => f p.1 p.2 := by
  unfold zipL2
  rw [List.zip_map_right, List.map_map, List.any_map]
  congr 1
  funext p
  exact h p.1 p.2
/-- the rest but for so many times -/
def gcV (n m : Int) : Int := (Nat.gcd m.toNat n.toNat : Nat)
def restV (rs : List Int) (n : Int) (a : List Int) : List Int := (a.zip rs).map fun p => p.1 % gcV n p.2
theorem gcV_pos {n m : Int} (hm : 0 < m) : 0 < gcV n m := by
  unfold gcV
  have : 0 < Nat.gcd m.toNat n.toNat := Nat.gcd_pos_of_pos_left _ (by omega)
  omega
/-- Bezout -/
theorem bezout (a : Nat) : ∀ b : Nat, ∃ x y : Int, (Nat.gcd a b : Int) = a * x + b * y := by
  intro b
  induction a, b using Nat.gcd.induction with
  | H0 n => exact ⟨0, 1, by simp⟩
  | H1 m n hm ih =>
    obtain ⟨x, y, e⟩ := ih
    refine ⟨y - (n / m : Nat) * x, x, ?_⟩
    rw [Nat.gcd_rec, e]
    have hd : (n : Int) = m * (n / m : Nat) + (n % m : Nat) := by exact_mod_cast (Nat.div_add_mod n m).symm
    rw [hd, Int.mul_sub, Int.add_mul]
    have : (m : Int) * ((n / m : Nat) * x) = m * (n / m : Nat) * x := (Int.mul_assoc ..).symm
    omega
/-- the rests are alike just where some multiple is what they differ by -/
theorem rest_iff {n m a b : Int} (hn : 0 < n) (hm : 0 < m) (ha : 0 ≤ a) (hb : 0 ≤ b) : a % gcV n m = b % gcV n m ↔ (a - b) % m ∈ ((List.range m.toNat).map fun k : Nat => n * k % m) := by
  have g0 := gcV_pos (n := n) hm
  have dm : gcV n m ∣ m := by
    unfold gcV
    have := Int.natCast_dvd_natCast.mpr (Nat.gcd_dvd_left m.toNat n.toNat)
    rwa [Int.toNat_of_nonneg (show 0 ≤ m by omega)] at this
  have dn : gcV n m ∣ n := by
    unfold gcV
    have := Int.natCast_dvd_natCast.mpr (Nat.gcd_dvd_right m.toNat n.toNat)
    rwa [Int.toNat_of_nonneg (show 0 ≤ n by omega)] at this
  rw [Int.emod_eq_emod_iff_emod_sub_eq_zero]
  constructor
  · intro h
    obtain ⟨c, hc⟩ := Int.dvd_of_emod_eq_zero h
    obtain ⟨x, y, e⟩ := bezout m.toNat n.toNat
    rw [Int.toNat_of_nonneg (show 0 ≤ m by omega), Int.toNat_of_nonneg (show 0 ≤ n by omega)] at e
    have e' : gcV n m = m * x + n * y := e
    have k0 := Int.emod_nonneg (y * c) (b := m) (by omega)
    have k1 := Int.emod_lt_of_pos (y * c) hm
    refine List.mem_map.mpr ⟨((y * c) % m).toNat, List.mem_range.mpr (by omega), ?_⟩
    rw [Int.toNat_of_nonneg k0, hc, e', Int.add_mul, Int.mul_assoc, Int.mul_assoc, Int.add_comm, Int.add_mul_emod_self_left, Int.mul_emod, Int.emod_emod, ← Int.mul_emod]
  · intro h
    obtain ⟨k, _, e⟩ := List.mem_map.mp h
    have d1 : gcV n m ∣ n * k % m := by
      have d2 : gcV n m ∣ n * k := Int.dvd_trans dn (Int.dvd_mul_right ..)
      rw [Int.emod_def]
      exact Int.dvd_sub d2 (Int.dvd_trans dm (Int.dvd_mul_right ..))
    rw [e] at d1
    have d3 : gcV n m ∣ a - b := by
      have := Int.emod_add_mul_ediv (a - b) m
      rw [← this]
      exact Int.dvd_add d1 (Int.dvd_trans dm (Int.dvd_mul_right ..))
    exact Int.emod_eq_zero_of_dvd d3

theorem restV_iff {n : Int} : ∀ {rs a b : List Int}, a.length = rs.length → b.length = rs.length → (restV rs n a = restV rs n b ↔ ∀ p ∈ rs.zip (a.zip b), p.2.1 % gcV n p.1 = p.2.2 % gcV n p.1)
  | [], [], [], _, _ => by simp [restV]
  | m :: rs, x :: a, y :: b, h1, h2 => by
    have ih := restV_iff (n := n) (rs := rs) (a := a) (b := b) (by simpa using h1) (by simpa using h2)
    unfold restV at ih ⊢
    simp only [List.zip_cons_cons, List.map_cons, List.cons.injEq, List.mem_cons, forall_eq_or_imp, ih]
/-- the groups' rounds of this law -/
def rows34 : List (List Int) := [[144], [2, 72], [12, 12], [6, 4, 3], [2, 2, 2, 3, 6], [100], [7, 20], [8, 18], [], [9, 16], [2, 2]]
theorem row34 : ∀ rs ∈ rows34, OkG rs := by
  intro rs h
  have d : ∀ rs ∈ rows34, (∀ n ∈ rs, 2 ≤ n) ∧ rs.length ≤ 7 ∧ (∀ n ∈ rs, n ≤ 144) ∧ rs.foldl (· * ·) 1 ≤ 144 := by decide +kernel
  obtain ⟨a, b, c, e⟩ := d rs h
  exact ⟨⟨a, b⟩, c, e⟩
end Mir

/-! The elements of a group by rounds, in their order. -/
namespace Mir
open PySem PySem.Spec PyProof.Rows L2

theorem nodup_flat {α β : Type} {f : α → List β} : ∀ {l : List α}, (∀ a ∈ l, (f a).Nodup) → l.Pairwise (fun a b => ∀ x ∈ f a, x ∉ f b) → (l.flatMap f).Nodup
  | [], _, _ => by simp
  | a :: l, h, p => by
    rw [List.pairwise_cons] at p
    rw [List.flatMap_cons, List.nodup_append]
    refine ⟨h a List.mem_cons_self, nodup_flat (fun b hb => h b (List.mem_cons_of_mem _ hb)) p.2, fun x hx y hy e => ?_⟩
    subst e
    obtain ⟨b, hb, hy⟩ := List.mem_flatMap.mp hy
    exact p.1 b hb x hx hy
theorem nodup_inj {α β : Type} {f : α → β} (hf : ∀ a b, f a = f b → a = b) : ∀ {l : List α}, l.Nodup → (l.map f).Nodup
  | [], _ => by simp
  | a :: l, h => by
    rw [List.nodup_cons] at h
    rw [List.map_cons, List.nodup_cons]
    refine ⟨fun hm => ?_, nodup_inj hf h.2⟩
    obtain ⟨b, hb, e⟩ := List.mem_map.mp hm
    exact h.1 (hf _ _ e ▸ hb)
theorem sum_const {α : Type} (c : Nat) : ∀ l : List α, (l.map fun _ => c).sum = l.length * c
  | [] => by simp
  | a :: l => by rw [List.map_cons, List.sum_cons, sum_const c l, List.length_cons, Nat.succ_mul]; omega
theorem OkE.nil : OkE [] [] := ⟨rfl, fun _ h => nomatch h⟩
theorem OkE.cons {n i : Int} {rs t : List Int} : OkE (n :: rs) (i :: t) ↔ (0 ≤ i ∧ i < n) ∧ OkE rs t := by
  constructor
  · intro h
    refine ⟨h.at_ (i, n) (by simp), ⟨by have := h.len; simpa using this, fun p hp => h.at_ p (by rw [List.zip_cons_cons]; exact List.mem_cons_of_mem _ hp)⟩⟩
  · rintro ⟨h1, h2⟩
    refine ⟨by simp [h2.len], fun p hp => ?_⟩
    rw [List.zip_cons_cons] at hp
    rcases List.mem_cons.mp hp with z | z
    · subst z; exact h1
    · exact h2.at_ p z
theorem mem_fold : ∀ (rs : List Int) (S : List (List Int)) (x : List Int), x ∈ rs.foldl memsStep S ↔ ∃ s t, s ∈ S ∧ x = s ++ t ∧ OkE rs t
  | [], S, x => by
    rw [List.foldl_nil]
    constructor
    · intro h
      exact ⟨x, [], h, by simp, .nil⟩
    · rintro ⟨s, t, hs, rfl, ht⟩
      have : t = [] := List.length_eq_zero_iff.mp ht.len
      subst this
      simpa using hs
  | n :: rs, S, x => by
    rw [List.foldl_cons, mem_fold rs]
    constructor
    · rintro ⟨s, t, hs, rfl, ht⟩
      unfold memsStep at hs
      obtain ⟨a, ha, hs⟩ := List.mem_flatMap.mp hs
      obtain ⟨i, hi, rfl⟩ := List.mem_map.mp hs
      have := List.mem_range.mp hi
      exact ⟨a, (i : Int) :: t, ha, by simp, OkE.cons.mpr ⟨⟨by omega, by omega⟩, ht⟩⟩
    · rintro ⟨s, t, hs, rfl, ht⟩
      cases t with
      | nil => have := ht.len; simp at this
      | cons i t =>
        obtain ⟨⟨h1, h2⟩, h3⟩ := OkE.cons.mp ht
        refine ⟨s ++ [i], t, ?_, by simp, h3⟩
        unfold memsStep
        refine List.mem_flatMap.mpr ⟨s, hs, List.mem_map.mpr ⟨i.toNat, List.mem_range.mpr (by omega), ?_⟩⟩
        rw [Int.toNat_of_nonneg h1]
theorem mem_mems {rs x : List Int} : x ∈ mems rs ↔ OkE rs x := by
  unfold mems
  rw [mem_fold]
  constructor
  · rintro ⟨s, t, hs, rfl, ht⟩
    rw [List.mem_singleton.mp hs]
    simpa using ht
  · intro h
    exact ⟨[], x, by simp, by simp, h⟩
theorem step_len (S : List (List Int)) (n : Int) : (memsStep S n).length = S.length * n.toNat := by
  unfold memsStep
  rw [List.length_flatMap]
  simp [sum_const]
theorem fold_len : ∀ (rs : List Int) (S : List (List Int)), (∀ n ∈ rs, 0 ≤ n) → ((rs.foldl memsStep S).length : Int) = rs.foldl (· * ·) (S.length : Int)
  | [], S, _ => rfl
  | n :: rs, S, h => by
    rw [List.foldl_cons, List.foldl_cons, fold_len rs _ fun m hm => h m (List.mem_cons_of_mem _ hm), step_len]
    congr 1
    have := h n List.mem_cons_self
    rw [Int.natCast_mul, Int.toNat_of_nonneg this]
theorem mems_len {rs : List Int} (h : ∀ n ∈ rs, 0 ≤ n) : ((mems rs).length : Int) = rs.foldl (· * ·) 1 := by
  unfold mems
  rw [fold_len rs _ h]
  rfl
theorem fold_nodup : ∀ (rs : List Int) (S : List (List Int)) (k : Nat), S.Nodup → (∀ s ∈ S, s.length = k) → (rs.foldl memsStep S).Nodup
  | [], S, _, h, _ => h
  | n :: rs, S, k, h, hk => by
    rw [List.foldl_cons]
    refine fold_nodup rs _ (k + 1) ?_ fun s hs => ?_
    · unfold memsStep
      refine nodup_flat (fun s _ => ?_) ?_
      · refine nodup_inj (fun a b e => ?_) List.nodup_range
        have := List.append_cancel_left e
        have z : ((a : Nat) : Int) = b := by simpa using this
        omega
      · refine List.Pairwise.imp_of_mem (R := fun a b => a ≠ b) (fun {a b} ha hb ne => ?_) h
        intro x hx hy
        obtain ⟨i, _, rfl⟩ := List.mem_map.mp hx
        obtain ⟨j, _, e⟩ := List.mem_map.mp hy
        have := List.append_inj_left e (by rw [hk a ha, hk b hb])
        exact ne this.symm
    · unfold memsStep at hs
      obtain ⟨a, ha, hs⟩ := List.mem_flatMap.mp hs
      obtain ⟨i, _, rfl⟩ := List.mem_map.mp hs
      simp [hk a ha]
theorem mems_nodup (rs : List Int) : (mems rs).Nodup := fold_nodup rs [[]] 0 (by simp) (by simp)
theorem prs_nodup (rs : List Int) : (prs rs).Nodup := by
  unfold prs
  refine nodup_flat (fun x _ => ?_) ?_
  · exact nodup_inj (fun a b e => (Prod.mk.inj e).2) (mems_nodup rs)
  · refine List.Pairwise.imp (R := fun a b => a ≠ b) (fun {a b} ne => ?_) (mems_nodup rs)
    intro x hx hy
    obtain ⟨i, _, rfl⟩ := List.mem_map.mp hx
    obtain ⟨j, _, e⟩ := List.mem_map.mp hy
    exact ne (Prod.mk.inj e).1.symm
theorem prs_len (rs : List Int) : (prs rs).length = (mems rs).length * (mems rs).length := by
  unfold prs
  rw [List.length_flatMap]
  simp [sum_const]
/-- the upper groups that are let in -/
def smallUps : List (List Int) := [[], [2], [3], [4], [5], [6], [7], [8], [9], [2, 2], [2, 3], [2, 4], [3, 2], [3, 3], [4, 2], [2, 2, 2]]
theorem small_ups {rs : List Int} (h : ∀ n ∈ rs, 2 ≤ n) (hp : rs.foldl (· * ·) 1 ≤ 9) : rs ∈ smallUps := by
  match rs, h, hp with
  | [], _, _ => decide
  | [a], h, hp =>
    have h2 := h a (by simp)
    have hp : 1 * a ≤ 9 := hp
    have : a = 2 ∨ a = 3 ∨ a = 4 ∨ a = 5 ∨ a = 6 ∨ a = 7 ∨ a = 8 ∨ a = 9 := by omega
    rcases this with rfl | rfl | rfl | rfl | rfl | rfl | rfl | rfl <;> decide
  | [a, b], h, hp =>
    have h2 := h a (by simp)
    have h3 := h b (by simp)
    have hp : 1 * a * b ≤ 9 := hp
    rw [Int.one_mul] at hp
    have ha : a ≤ 4 := by
      have := Int.mul_le_mul_of_nonneg_left h3 (show 0 ≤ a by omega)
      omega
    have hb : b ≤ 4 := by
      have := Int.mul_le_mul_of_nonneg_right h2 (show 0 ≤ b by omega)
      omega
    have e1 : a = 2 ∨ a = 3 ∨ a = 4 := by omega
    have e2 : b = 2 ∨ b = 3 ∨ b = 4 := by omega
    rcases e1 with rfl | rfl | rfl <;> rcases e2 with rfl | rfl | rfl <;> first | decide | (exfalso; omega)
  | [a, b, c], h, hp =>
    have h2 := h a (by simp)
    have h3 := h b (by simp)
    have h4 := h c (by simp)
    have hp : 1 * a * b * c ≤ 9 := hp
    rw [Int.one_mul] at hp
    have q1 : 2 * 2 ≤ a * b := Int.mul_le_mul h2 h3 (by omega) (by omega)
    have q2 : a * b * 2 ≤ a * b * c := Int.mul_le_mul_of_nonneg_left h4 (by omega)
    have q3 : 2 * 2 * c ≤ a * b * c := Int.mul_le_mul_of_nonneg_right q1 (by omega)
    have hc : c = 2 := by omega
    have hab : a * b ≤ 4 := by omega
    have ha : a ≤ 2 := by
      have := Int.mul_le_mul_of_nonneg_left h3 (show 0 ≤ a by omega)
      omega
    have hb : b ≤ 2 := by
      have := Int.mul_le_mul_of_nonneg_right h2 (show 0 ≤ b by omega)
      omega
    have e1 : a = 2 := by omega
    have e2 : b = 2 := by omega
    subst e1 e2 hc
    decide
  | a :: b :: c :: d :: rs, h, hp =>
    exfalso
    have h2 := h a (by simp)
    have h3 := h b (by simp)
    have h4 := h c (by simp)
    have h5 := h d (by simp)
    have hp : rs.foldl (· * ·) (1 * a * b * c * d) ≤ 9 := hp
    rw [Int.one_mul] at hp
    have q1 : 2 * 2 ≤ a * b := Int.mul_le_mul h2 h3 (by omega) (by omega)
    have q2 : 2 * 2 * 2 ≤ a * b * c := Int.mul_le_mul q1 h4 (by omega) (by omega)
    have q3 : 2 * 2 * 2 * 2 ≤ a * b * c * d := Int.mul_le_mul q2 h5 (by omega) (by omega)
    have mono : ∀ (l : List Int) (p : Int), 0 ≤ p → (∀ n ∈ l, 2 ≤ n) → p ≤ l.foldl (· * ·) p := fun l => by
      induction l with
      | nil => intro p _ _; exact Int.le_refl _
      | cons n l ih =>
        intro p hp hl
        rw [List.foldl_cons]
        have hn := hl n List.mem_cons_self
        have t : p * 1 ≤ p * n := Int.mul_le_mul_of_nonneg_left (by omega) hp
        have := ih (p * n) (by omega) fun m hm => hl m (List.mem_cons_of_mem _ hm)
        omega
    have := mono rs (a * b * c * d) (by omega) fun n hn => h n (by simp [hn])
    omega
theorem apart_prs {rs : List Int} (h : rs ∈ smallUps) : apartK ((prs rs).map pkD) = true := by
  simp only [smallUps, List.mem_cons, List.not_mem_nil, or_false] at h
  rcases h with rfl | rfl | rfl | rfl | rfl | rfl | rfl | rfl | rfl | rfl | rfl | rfl | rfl | rfl | rfl | rfl <;> decide +kernel
theorem apart_mems {rs : List Int} (h : rs ∈ smallUps) : apartK ((mems rs).map tuI) = true := by
  simp only [smallUps, List.mem_cons, List.not_mem_nil, or_false] at h
  rcases h with rfl | rfl | rfl | rfl | rfl | rfl | rfl | rfl | rfl | rfl | rfl | rfl | rfl | rfl | rfl | rfl <;> decide +kernel
theorem dictD_F {α β : Type} [DecidableEq α] {E : α → D} {V : β → D} (l : List α) (f : α → β) (h : apartK (l.map E) = true) : dictD (dicF E V l f) = .ok (dicF E V l f) := by
  unfold dictD dicF dicA
  have e : ((l.map fun x => (x, f x)).map fun p => E p.1) = l.map E := by rw [List.map_map]; rfl
  simp only [e, h, if_true]

/-- a walk that gives up with what it finds first -/
theorem forD_find {α : Type} {f : D → Env → Oc} (A : α → D) (P : Env → Prop) (g : α → Option D) : ∀ {ds : List α} {r : Env}, (∀ a ∈ ds, ∀ r, P r → (∀ v, g a = some v → f (A a) r = .rt v) ∧ (g a = none → ∃ r', f (A a) r = .nx r' ∧ P r')) → P r →
    (∀ v, ds.findSome? g = some v → forD f (ds.map A) r = .rt v) ∧ (ds.findSome? g = none → ∃ r', forD f (ds.map A) r = .nx r' ∧ P r')
  | [], r, _, hp => ⟨fun v h => by simp at h, fun _ => ⟨r, rfl, hp⟩⟩
  | a :: ds, r, h, hp => by
    obtain ⟨h1, h2⟩ := h a List.mem_cons_self r hp
    rw [List.map_cons, forD_cons]
    cases hg : g a with
    | some v =>
      rw [List.findSome?_cons, hg, h1 v hg]
      exact ⟨fun w e => by cases e; rfl, fun e => by cases e⟩
    | none =>
      obtain ⟨r1, e, p1⟩ := h2 hg
      rw [List.findSome?_cons, hg, e]
      exact forD_find A P g (fun b hb => h b (List.mem_cons_of_mem _ hb)) p1
/-- a walk over a row, by places -/
theorem forD_row {α : Type} {pre0 : List α} {f : D → Env → Oc} (A : α → D) (P : List α → Env → Prop) : ∀ {ds : List α} {r : Env} {pre : List α}, (∀ (pre : List α) a, (pre ++ [a]) <+: pre0 → ∀ r, P pre r → ∃ r', f (A a) r = .nx r' ∧ P (pre ++ [a]) r') → pre ++ ds = pre0 → P pre r → ∃ r', forD f (ds.map A) r = .nx r' ∧ P (pre ++ ds) r'
  | [], r, pre, _, _, hp => ⟨r, rfl, by simpa using hp⟩
  | a :: ds, r, pre, h, he, hp => by
    obtain ⟨r1, e, p1⟩ := h pre a ⟨ds, by simpa using he⟩ r hp
    obtain ⟨r2, e2, p2⟩ := forD_row A P (pre := pre ++ [a]) (ds := ds) h (by simpa using he) p1
    refine ⟨r2, ?_, by simpa using p2⟩
    rw [List.map_cons, forD_cons, e]
    exact e2
/-- a table -/
def tabD (lo up : List Int) (c : List Int → List Int → List Int) : D := .obj 2 [gR lo, gR up, dicF pkD tuI (prs up) fun p => c p.1 p.2]

theorem runO_rt {p n : Nat} {g : Env → Oc} {ds : List D} {d : D} (h : ds.length = p) (e : g (startD n ds) = .rt d) : runO p n g ds = .ok d := by
  unfold runO
  rw [if_pos h, e]
theorem runO_er {p n : Nat} {g : Env → Oc} {ds : List D} {r : Env} {d : D} (h : ds.length = p) (e : g (startD n ds) = .er d r) : runO p n g ds = .er d := by
  unfold runO
  rw [if_pos h, e]

/-! ### dicts filled by two loops -/
theorem asF {α β : Type} [DecidableEq α] (d : β) {L : List (α × β)} (hn : (L.map (·.1)).Nodup) : L = (L.map (·.1)).map fun a => (a, (lookA L a).getD d) := by
  rw [List.map_map]
  have e : ∀ p ∈ L, ((fun a => (a, (lookA L a).getD d)) ∘ (·.1)) p = p := fun p hp => by
    show (p.1, (lookA L p.1).getD d) = p
    rw [lookA_mem hn (show (p.1, p.2) ∈ L from hp)]
    rfl
  rw [List.map_congr_left e]
  simp
theorem toF {lo up : List Int} {L : List ((List Int × List Int) × List Int)} (hk : L.map (·.1) = prs up) (hv : ∀ p ∈ L, OkE lo p.2) : ∃ c : List Int → List Int → List Int, (∀ x y, OkE up x → OkE up y → OkE lo (c x y)) ∧ dicA pkD tuI L = dicF pkD tuI (prs up) fun p => c p.1 p.2 := by
  have hn : (L.map (·.1)).Nodup := by rw [hk]; exact prs_nodup up
  refine ⟨fun x y => (lookA L (x, y)).getD [], fun x y hx hy => ?_, ?_⟩
  · have hm : (x, y) ∈ L.map (·.1) := by rw [hk]; exact mem_prs.mpr ⟨mem_mems.mpr hx, mem_mems.mpr hy⟩
    obtain ⟨p, hp, e⟩ := List.mem_map.mp hm
    have e2 := lookA_mem hn (show (p.1, p.2) ∈ L from hp)
    rw [e] at e2
    show OkE lo ((lookA L (x, y)).getD [])
    rw [e2]
    exact hv p hp
  · have := asF (d := ([] : List Int)) hn
    rw [hk] at this
    unfold dicF
    exact congrArg (dicA pkD tuI) this
theorem fill1 {N : Nat} {lo : List Int} {f : D → Env → Oc} {x : List Int} (P : List ((List Int × List Int) × List Int) → Env → Prop) : ∀ {ys : List (List Int)} {L : List ((List Int × List Int) × List Int)} {r : Env}, L.length + ys.length ≤ N → ys.Nodup → (∀ y ∈ ys, (x, y) ∉ L.map (·.1)) →
    (∀ L, L.length < N → ∀ y ∈ ys, (x, y) ∉ L.map (·.1) → ∀ r, P L r → ∃ v r', OkE lo v ∧ f (tuI y) r = .nx r' ∧ P (setA L (x, y) v) r') → P L r →
    ∃ L' r', forD f (ys.map tuI) r = .nx r' ∧ P (L ++ L') r' ∧ L'.map (·.1) = ys.map (fun y => (x, y)) ∧ ∀ p ∈ L', OkE lo p.2
  | [], L, r, _, _, _, _, hp => ⟨[], r, rfl, by simpa using hp, rfl, fun _ h => nomatch h⟩
  | y :: ys, L, r, hl, hn, hf, h, hp => by
    rw [List.length_cons] at hl
    rw [List.nodup_cons] at hn
    obtain ⟨v, r1, hv, e, p1⟩ := h L (by omega) y List.mem_cons_self (hf y List.mem_cons_self) r hp
    rw [setA_new v (hf y List.mem_cons_self)] at p1
    obtain ⟨L', r2, e2, p2, k2, v2⟩ := fill1 P (L := L ++ [((x, y), v)]) (r := r1) (by simp; omega) hn.2 (fun z hz hm => by
      rw [List.map_append, List.mem_append] at hm
      rcases hm with m | m
      · exact hf z (List.mem_cons_of_mem _ hz) m
      · rw [List.map_cons, List.map_nil, List.mem_singleton] at m
        injection m with _ m
        exact hn.1 (m ▸ hz)) (fun L hL z hz => h L hL z (List.mem_cons_of_mem _ hz)) p1
    refine ⟨((x, y), v) :: L', r2, ?_, by simpa using p2, by simp [k2], fun p hq => ?_⟩
    · rw [List.map_cons, forD_cons, e]
      exact e2
    · rcases List.mem_cons.mp hq with z | z
      · subst z; exact hv
      · exact v2 p z
theorem fill2 {N : Nat} {α : Type} {lo up : List Int} {outer inner : D → Env → Oc} (A : α → D) (kx : α → List Int) (P : List ((List Int × List Int) × List Int) → Env → Prop) (P' : List ((List Int × List Int) × List Int) → α → Env → Prop) : ∀ {X : List α} {L : List ((List Int × List Int) × List Int)} {r : Env}, L.length + X.length * (mems up).length ≤ N → (X.map kx).Nodup → (∀ a ∈ X, ∀ y ∈ mems up, (kx a, y) ∉ L.map (·.1)) →
    (∀ L, L.length < N → ∀ a ∈ X, ∀ y ∈ mems up, (kx a, y) ∉ L.map (·.1) → ∀ r, P' L a r → ∃ v r', OkE lo v ∧ inner (tuI y) r = .nx r' ∧ P' (setA L (kx a, y) v) a r') →
    (∀ L, ∀ a ∈ X, ∀ r, P L r → ∃ r1, P' L a r1 ∧ ∀ L' r2, forD inner ((mems up).map tuI) r1 = .nx r2 → P' L' a r2 → ∃ r3, outer (A a) r = .nx r3 ∧ P L' r3) → P L r →
    ∃ L' r', forD outer (X.map A) r = .nx r' ∧ P (L ++ L') r' ∧ L'.map (·.1) = X.flatMap (fun a => (mems up).map fun y => (kx a, y)) ∧ ∀ p ∈ L', OkE lo p.2
  | [], L, r, _, _, _, _, _, hp => ⟨[], r, rfl, by simpa using hp, rfl, fun _ h => nomatch h⟩
  | a :: X, L, r, hl, hn, hf, hi, ho, hp => by
    rw [List.length_cons, Nat.succ_mul] at hl
    rw [List.map_cons, List.nodup_cons] at hn
    obtain ⟨r1, p1, q⟩ := ho L a List.mem_cons_self r hp
    obtain ⟨L1, r2, e1, p2, k1, v1⟩ := fill1 (lo := lo) (f := inner) (x := kx a) (N := N) (fun L r => P' L a r) (by omega) (mems_nodup up) (hf a List.mem_cons_self) (fun L hL y hy hm r hr => hi L hL a List.mem_cons_self y hy hm r hr) p1
    obtain ⟨r3, e3, p3⟩ := q _ r2 e1 p2
    obtain ⟨L2, r4, e4, p4, k2, v2⟩ := fill2 A kx P P' (X := X) (L := L ++ L1) (r := r3) (by have := congrArg List.length k1; rw [List.length_map, List.length_map] at this; rw [List.length_append]; omega) hn.2 (fun b hb y hy hm => by
      rw [List.map_append, List.mem_append] at hm
      rcases hm with m | m
      · exact hf b (List.mem_cons_of_mem _ hb) y hy m
      · rw [k1] at m
        obtain ⟨z, _, e⟩ := List.mem_map.mp m
        injection e with e _
        exact hn.1 (e ▸ List.mem_map.mpr ⟨b, hb, rfl⟩)) (fun L hL b hb => hi L hL b (List.mem_cons_of_mem _ hb)) (fun L b hb => ho L b (List.mem_cons_of_mem _ hb)) p3
    refine ⟨L1 ++ L2, r4, ?_, by simpa using p4, by simp [k1, k2], fun p hq => ?_⟩
    · rw [List.map_cons, forD_cons, e3]
      exact e4
    · rcases List.mem_append.mp hq with z | z
      · exact v1 p z
      · exact v2 p z

theorem fillE {N : Nat} {α : Type} {lo : List Int} {f : D → Env → Oc} (A : α → D) (kx : α → List Int) (P : List (List Int × List Int) → Env → Prop) : ∀ {X : List α} {L : List (List Int × List Int)} {r : Env}, L.length + X.length ≤ N → (X.map kx).Nodup → (∀ a ∈ X, kx a ∉ L.map (·.1)) →
    (∀ L, L.length < N → ∀ a ∈ X, kx a ∉ L.map (·.1) → ∀ r, P L r → ∃ v r', OkE lo v ∧ f (A a) r = .nx r' ∧ P (setA L (kx a) v) r') → P L r →
    ∃ L' r', forD f (X.map A) r = .nx r' ∧ P (L ++ L') r' ∧ L'.map (·.1) = X.map kx ∧ ∀ p ∈ L', OkE lo p.2
  | [], L, r, _, _, _, _, hp => ⟨[], r, rfl, by simpa using hp, rfl, fun _ h => nomatch h⟩
  | a :: X, L, r, hl, hn, hf, h, hp => by
    rw [List.length_cons] at hl
    rw [List.map_cons, List.nodup_cons] at hn
    obtain ⟨v, r1, hv, e, p1⟩ := h L (by omega) a List.mem_cons_self (hf a List.mem_cons_self) r hp
    rw [setA_new v (hf a List.mem_cons_self)] at p1
    obtain ⟨L', r2, e2, p2, k2, v2⟩ := fillE (lo := lo) A kx P (L := L ++ [(kx a, v)]) (r := r1) (by simp; omega) hn.2 (fun z hz hm => by
      rw [List.map_append, List.mem_append] at hm
      rcases hm with m | m
      · exact hf z (List.mem_cons_of_mem _ hz) m
      · rw [List.map_cons, List.map_nil, List.mem_singleton] at m
        have m : kx z = kx a := m
        exact hn.1 (m ▸ List.mem_map.mpr ⟨z, hz, rfl⟩)) (fun L hL z hz => h L hL z (List.mem_cons_of_mem _ hz)) p1
    refine ⟨(kx a, v) :: L', r2, ?_, by simpa using p2, by simp [k2], fun p hq => ?_⟩
    · rw [List.map_cons, forD_cons, e]
      exact e2
    · rcases List.mem_cons.mp hq with z | z
      · subst z; exact hv
      · exact v2 p z
theorem lookA_all {lo : List Int} {α : Type} [DecidableEq α] {L : List (α × List Int)} (hn : (L.map (·.1)).Nodup) (hv : ∀ p ∈ L, OkE lo p.2) {x : α} (hx : x ∈ L.map (·.1)) : ∃ v, lookA L x = some v ∧ OkE lo v := by
  obtain ⟨p, hp, e⟩ := List.mem_map.mp hx
  refine ⟨p.2, ?_, hv p hp⟩
  subst e
  exact lookA_mem hn hp
theorem enumL_els (xs : List (List Int)) : enumL (xs.map tuI) = xs.zipIdx.map fun p => .tup [.int (p.2 : Nat), tuI p.1] := by
  unfold enumL
  rw [List.zipIdx_map, List.map_map]
  rfl
theorem zipIdx_fst {α : Type} (xs : List α) : xs.zipIdx.map (·.1) = xs := by
  simp
theorem mem_zipIdx_lt {α : Type} {xs : List α} {p : α × Nat} (h : p ∈ xs.zipIdx) : p.1 ∈ xs ∧ p.2 < xs.length := by
  obtain ⟨a, i⟩ := p
  have := List.mem_zipIdx h
  simp at this
  exact ⟨by rw [this.2]; exact List.getElem_mem _, by omega⟩
theorem setG_A {α β : Type} [DecidableEq α] {E : α → D} {V : β → D} {Q : α → NestedKey} (K : KeyE E Q) {i : Nat} {fv fi : Env → Res D} {r : Env} {l : List (α × β)} {a : α} {b : β} (h : r[i]? = some (.ow .flat (dicA E V l))) (hv : fv r = .ok (V b)) (hk : fi r = .ok (E a)) (hl : l.length < lim) : setG i fv fi r = .nx (r.set i (.ow .flat (dicA E V (setA l a b)))) := by
  have o : ownF i r = some (dicA E V l) := by unfold ownF; rw [h]
  unfold setG
  rw [hv]
  simp only [lift, o, hk, setD_A K l a b hl]
theorem fillK {κ : Type} [DecidableEq κ] {N : Nat} {α : Type} {lo : List Int} {f : D → Env → Oc} (A : α → D) (kx : α → κ) (P : List (κ × List Int) → Env → Prop) : ∀ {X : List α} {L : List (κ × List Int)} {r : Env}, L.length + X.length ≤ N → (X.map kx).Nodup → (∀ a ∈ X, kx a ∉ L.map (·.1)) →
    (∀ L, L.length < N → ∀ a ∈ X, kx a ∉ L.map (·.1) → ∀ r, P L r → ∃ v r', OkE lo v ∧ f (A a) r = .nx r' ∧ P (setA L (kx a) v) r') → P L r →
    ∃ L' r', forD f (X.map A) r = .nx r' ∧ P (L ++ L') r' ∧ L'.map (·.1) = X.map kx ∧ ∀ p ∈ L', OkE lo p.2
  | [], L, r, _, _, _, _, hp => ⟨[], r, rfl, by simpa using hp, rfl, fun _ h => nomatch h⟩
  | a :: X, L, r, hl, hn, hf, h, hp => by
    rw [List.length_cons] at hl
    rw [List.map_cons, List.nodup_cons] at hn
    obtain ⟨v, r1, hv, e, p1⟩ := h L (by omega) a List.mem_cons_self (hf a List.mem_cons_self) r hp
    rw [setA_new v (hf a List.mem_cons_self)] at p1
    obtain ⟨L', r2, e2, p2, k2, v2⟩ := fillK (lo := lo) A kx P (L := L ++ [(kx a, v)]) (r := r1) (by simp; omega) hn.2 (fun z hz hm => by
      rw [List.map_append, List.mem_append] at hm
      rcases hm with m | m
      · exact hf z (List.mem_cons_of_mem _ hz) m
      · rw [List.map_cons, List.map_nil, List.mem_singleton] at m
        have m : kx z = kx a := m
        exact hn.1 (m ▸ List.mem_map.mpr ⟨z, hz, rfl⟩)) (fun L hL z hz => h L hL z (List.mem_cons_of_mem _ hz)) p1
    refine ⟨(kx a, v) :: L', r2, ?_, by simpa using p2, by simp [k2], fun p hq => ?_⟩
    · rw [List.map_cons, forD_cons, e]
      exact e2
    · rcases List.mem_cons.mp hq with z | z
      · subst z; exact hv
      · exact v2 p z
theorem fillP {N : Nat} {lo : List Int} {f : D → Env → Oc} (P : List ((List Int × List Int) × List Int) → Env → Prop) {X : List (List Int × List Int)} {L : List ((List Int × List Int) × List Int)} {r : Env} (hl : L.length + X.length ≤ N) (hn : X.Nodup) (hf : ∀ a ∈ X, a ∉ L.map (·.1))
    (h : ∀ L, L.length < N → ∀ a ∈ X, a ∉ L.map (·.1) → ∀ r, P L r → ∃ v r', OkE lo v ∧ f (pkD a) r = .nx r' ∧ P (setA L a v) r') (hp : P L r) : ∃ L' r', forD f (X.map pkD) r = .nx r' ∧ P (L ++ L') r' ∧ L'.map (·.1) = X ∧ ∀ p ∈ L', OkE lo p.2 := by
  have := fillK (N := N) (lo := lo) (f := f) pkD (fun a : List Int × List Int => a) P (X := X) (L := L) (r := r) hl (by simpa using hn) hf h hp
  simpa using this
theorem OkE.snoc {rs x : List Int} {n v : Int} (h : OkE rs x) (h0 : 0 ≤ v) (h1 : v < n) : OkE (rs ++ [n]) (x ++ [v]) := by
  refine ⟨by simp [h.len], fun p hp => ?_⟩
  rw [List.zip_append h.len] at hp
  rcases List.mem_append.mp hp with z | z
  · exact h.at_ p z
  · simp at z
    subst z
    exact ⟨h0, h1⟩
theorem forD_dic {N : Nat} {f : D → Env → Oc} (g : List Int → List Int → List Int) (P : List ((List Int × List Int) × List Int) → Env → Prop) : ∀ {X : List (List Int × List Int)} {L : List ((List Int × List Int) × List Int)} {r : Env}, L.length + X.length ≤ N → X.Nodup → (∀ a ∈ X, a ∉ L.map (·.1)) →
    (∀ L, L.length < N → ∀ a ∈ X, ∀ r, P L r → ∃ r', f (pkD a) r = .nx r' ∧ P (setA L a (g a.1 a.2)) r') → P L r → ∃ L' r', forD f (X.map pkD) r = .nx r' ∧ P (L ++ L') r' ∧ L' = X.map fun p => (p, g p.1 p.2)
  | [], L, r, _, _, _, _, hp => ⟨[], r, rfl, by simpa using hp, rfl⟩
  | a :: X, L, r, hl, hn, hf, h, hp => by
    rw [List.length_cons] at hl
    rw [List.nodup_cons] at hn
    obtain ⟨r1, e, p1⟩ := h L (by omega) a List.mem_cons_self r hp
    rw [setA_new _ (hf a List.mem_cons_self)] at p1
    obtain ⟨L', r2, e2, p2, v2⟩ := forD_dic g P (X := X) (L := L ++ [(a, g a.1 a.2)]) (r := r1) (by simp; omega) hn.2 (fun z hz hm => by
      rw [List.map_append, List.mem_append] at hm
      rcases hm with m | m
      · exact hf z (List.mem_cons_of_mem _ hz) m
      · rw [List.map_cons, List.map_nil, List.mem_singleton] at m
        have m : z = a := m
        exact hn.1 (m ▸ hz)) (fun L hL z hz => h L hL z (List.mem_cons_of_mem _ hz)) p1
    refine ⟨(a, g a.1 a.2) :: L', r2, ?_, by simpa using p2, by simp [v2]⟩
    rw [List.map_cons, forD_cons, e]
    exact e2
end Mir

/-! Lending: an own list or dict is read as a shared one while an expression is worked out, and stays one's own. -/
namespace Mir
open PySem PySem.Spec PyProof.Rows L2
mutual
/-- nowhere within d stands a list (a dict) of n things -/
def apart (b : Bool) (n : Nat) : D → Bool
  | .lst ds => (b || decide (ds.length ≠ n)) && aparts b n ds
  | .tup ds => aparts b n ds
  | .scr _ => b
  | .dic ks vs => (!b || decide (ks.length ≠ n)) && (aparts b n ks && aparts b n vs)
  | .obj _ vs => aparts b n vs
  | .exc _ vs => aparts b n vs
  | _ => true
def aparts (b : Bool) (n : Nat) : List D → Bool
  | [] => true
  | d :: ds => apart b n d && aparts b n ds
end
def sizeO : D → Option (Bool × Nat)
  | .lst ds => some (false, ds.length)
  | .dic ks _ => some (true, ks.length)
  | _ => none
/-- at b stands nothing but a list (a dict) of n things -/
structure Hol (G : GC) (F : Hp) (b : Addr) (k : Bool) (n : Nat) : Prop where
  nt : ∀ xs, ¬ Rd F b (.tup xs)
  nl : ∀ xs, F b = some (.lst xs) → k = false ∧ xs.length = n
  nr : ∀ xs, k = true → ¬ Rd F b (.lst xs)
  nd : ∀ o xs, F b = some (.ext (isObj' b o)) → DicO G o xs → k = true ∧ xs.length = n
  ni : ∀ C dx fs, F b ≠ some (.ins C dx fs)
  ne : ∀ C d, F b ≠ some (.ext (isExc b C d))
  nx : ∀ fs, F b ≠ some (.xd fs)
section
variable {G : GC} {F F2 : Hp} {b : Addr} {k : Bool} {n : Nat}
theorem Rd.thin (s : ∀ a o, a ≠ b → F a = some o → F2 a = some o) {a : Addr} {u : HO} (ha : a ≠ b) (h : Rd F a u) : Rd F2 a u := by
  rcases h with h | ⟨o, h⟩
  · exact .inl (s _ _ ha h)
  · exact .inr ⟨o, s _ _ ha h⟩
mutual
theorem Rep.thin (s : ∀ a o, a ≠ b → F a = some o → F2 a = some o) (q : Hol G F b k n) : ∀ {v : V} {d : D}, Rep G F v d → apart k n d = true → Rep G F2 v d
  | _, _, .non, _ => .non
  | _, _, .bl b, _ => .bl b
  | _, _, .int i, _ => .int i
  | _, _, .str x, _ => .str x
  | _, _, .tup (a := a) h r, p => by
    unfold apart at p
    refine .tup ?_ (RepAll.thin s q r p)
    rcases h with h | h
    · exact .inl (Rd.thin s (fun e => by subst e; exact q.nt _ h) h)
    · exact .inr h
  | _, _, .lst (a := a) h r, p => by
    unfold apart at p
    rw [Bool.and_eq_true] at p
    refine .lst (s _ _ (fun e => ?_) h) (RepAll.thin s q r p.2)
    subst e
    obtain ⟨e1, e2⟩ := q.nl _ h
    have p1 := p.1
    rw [e1, ← RepAll.length r, e2] at p1
    simp at p1
  | _, _, .scr (a := a) h, p => by
    unfold apart at p
    rcases h with h | h
    · exact .scr (.inl (Rd.thin s (fun e => by subst e; exact q.nr _ p h) h))
    · exact .scr (.inr h)
  | _, _, .dic (a := a) h1 h2 h3 h4 h5 h6 h7, p => by
    unfold apart at p
    rw [Bool.and_eq_true, Bool.and_eq_true] at p
    refine .dic (s _ _ (fun e => ?_) h1) h2 h3 h4 (RepAll.thin s q h5 p.2.1) h6 (RepAll.thin s q h7 p.2.2)
    subst e
    obtain ⟨e1, e2⟩ := q.nd _ _ h1 h3
    have p1 := p.1
    have hl := RepAll.length h5
    rw [List.length_map] at hl
    rw [e1, ← hl, e2] at p1
    simp at p1
  | _, _, .obj (a := a) h z r, p => by
    unfold apart at p
    exact .obj (s _ _ (fun e => by subst e; exact q.ni _ _ _ h) h) z (RepAll.thin s q r p)
  | _, _, .exc (a := a) h z, _ => .exc (s _ _ (fun e => by subst e; exact q.ne _ _ h) h) z
  | _, _, .excF (a := a) (dx := dx) h1 h2 z r, p => by
    unfold apart at p
    exact .excF (s _ _ (fun e => by subst e; exact q.ne _ _ h1) h1) (s _ _ (fun e => by subst e; exact q.nx _ h2) h2) z (RepAll.thin s q r p)
  | _, _, .cls h, _ => .cls h
  | _, _, .ty n, _ => .ty n
theorem RepAll.thin (s : ∀ a o, a ≠ b → F a = some o → F2 a = some o) (q : Hol G F b k n) : ∀ {vs : List V} {ds : List D}, RepAll G F vs ds → aparts k n ds = true → RepAll G F2 vs ds
  | _, _, .nil, _ => .nil
  | _, _, .cons r t, p => by
    unfold aparts at p
    rw [Bool.and_eq_true] at p
    exact .cons (Rep.thin s q r p.1) (RepAll.thin s q t p.2)
end
theorem ExcIs.thin (s : ∀ a o, a ≠ b → F a = some o → F2 a = some o) (q : Hol G F b k n) {cls : Value} {dd : Option Addr} {e : D} (h : ExcIs G F cls dd e) (p : apart k n e = true) : ExcIs G F2 cls dd e := by
  obtain ⟨c, ws, vs, rfl, hc, r, h⟩ := h
  unfold apart at p
  refine ⟨c, ws, vs, rfl, hc, RepAll.thin s q r p, ?_⟩
  rcases h with h | ⟨dx, h1, h2, h3⟩
  · exact .inl h
  · exact .inr ⟨dx, h1, s _ _ (fun e => by subst e; exact q.nx _ h2) h2, h3⟩
end
section
variable {G : GC} {J : L2.St → Prop} {H0 F0 F H : Hp} {fp : Nat → List Addr} {σ : L2.St} {r : Env}
theorem MS.freezeX (m : MS G J H0 F0 fp F σ H r) {i : Nat} {sp : Shape} {d : D} (e : r[i]? = some (.ow sp d)) : MS G J H0 F0 fp (share F H (fp i)) σ H (Mir.freeze i r) := by
  unfold Mir.freeze
  rw [e]
  obtain ⟨⟨v, h1, h2⟩, h3⟩ := m.ow i sp d e
  have hi : i < r.length := (List.getElem?_eq_some_iff.mp e).1
  refine ⟨m.jo, m.s0, m.f0.trans (share_same m.sub _), share_sub m.sub _, fun a o q => ?_, by simpa using m.len, fun j e' h => ?_, fun j t e' h => ?_, fun j k t u d' e' n q1 q2 => ?_⟩
  · by_cases ha : a ∈ fp i
    · exact .inr (h3 a ha)
    · rw [share_ne ha] at q
      exact m.new a o q
  · rcases get_set_slot h with ⟨rfl, x, hl⟩ | ⟨ne, h⟩
    · cases x
      exact ⟨v, h1, h2.rep m.sub _ fun _ z => z⟩
    · obtain ⟨w, q1, q2⟩ := m.sh j e' h
      exact ⟨w, q1, q2.mono (share_same m.sub _)⟩
  · rcases get_set_slot h with ⟨_, x, _⟩ | ⟨ne, h⟩
    · cases x
    · obtain ⟨⟨w, q1, q2⟩, q3⟩ := m.ow j t e' h
      refine ⟨⟨w, q1, q2.keep ⟨fun _ _ _ z => z, share_same m.sub _, fun a ha z => ?_⟩⟩, q3⟩
      rw [share_ne (m.ap j i t sp e' d (Ne.symm ne) h e a ha)]
      exact z
  · rcases get_set_slot q1 with ⟨_, x, _⟩ | ⟨_, q1⟩
    · cases x
    · rcases get_set_slot q2 with ⟨_, x, _⟩ | ⟨_, q2⟩
      · cases x
      · exact m.ap j k t u d' e' n q1 q2
/-- behind what was worked out on the lent part the own part is as it was -/
theorem MS.lend (m : MS G J H0 F0 fp F σ H r) {i : Nat} {o : D} {k : Bool} {n : Nat} (e : r[i]? = some (.ow .flat o)) (sz : sizeO o = some (k, n))
    (hx : ∀ b ob, H b = some (.ext (isObj' b ob)) → ∃ h : Heap, h.get? b = some ob) : ∃ F1, MS G J H0 F0 fp F1 σ H (Mir.freeze i r) ∧ ∀ F' H', Grow F1 H F' H' → ∃ F2, Grow F H F2 H' ∧ (∀ v d, Rep G F' v d → apart k n d = true → Rep G F2 v d) ∧
      ∀ cls dd x, ExcIs G F' cls dd x → apart k n x = true → ExcIs G F2 cls dd x := by
  refine ⟨_, m.freezeX e, fun F' H' g => ?_⟩
  obtain ⟨⟨v, h1, h2⟩, h3⟩ := m.ow i .flat o e
  obtain ⟨b, hA, O, hO, hol⟩ : ∃ b, fp i = [b] ∧ ∃ O, H b = some O ∧ ∀ F' : Hp, F' b = some O → Hol G F' b k n := by
    generalize fp i = A at h2 h3
    cases h2 with
    | lst h0 q1 q2 q3 q4 =>
      obtain ⟨rfl, rr⟩ := q3.to_rep
      rename_i a vs ds
      cases sz
      refine ⟨a, rfl, _, q1, fun F' hF => ?_⟩
      refine ⟨fun xs hh => ?_, fun xs hh => ?_, fun xs hk => ?_, fun o xs hh _ => ?_, fun C dx fs hh => ?_, fun C d hh => ?_, fun fs hh => ?_⟩
      · rcases hh with hh | ⟨_, hh⟩ <;> · rw [hF] at hh; cases hh
      · rw [hF] at hh
        cases hh
        exact ⟨rfl, RepAll.length rr⟩
      · cases hk
      · rw [hF] at hh; cases hh
      · rw [hF] at hh; cases hh
      · rw [hF] at hh; cases hh
      · rw [hF] at hh; cases hh
    | dic h0 q1 q2 z1 z2 z3 z4 z5 q3 q4 =>
      obtain ⟨rfl, rr⟩ := q3.to_rep
      rename_i a ob xs0 ws ks vs
      cases sz
      obtain ⟨hp, hpe⟩ := hx _ _ q1
      have hk : xs0.length = ks.length := by
        have := RepAll.length z4
        rw [List.length_map] at this
        exact this
      obtain ⟨es, ep, hd, hes⟩ := z2.dat
      refine ⟨a, rfl, _, q1, fun F' hF => ?_⟩
      refine ⟨fun xs hh => ?_, fun xs hh => ?_, fun xs _ hh => ?_, fun o2 xs hh dd => ?_, fun C dx fs hh => ?_, fun C d hh => ?_, fun fs hh => ?_⟩
      · rcases hh with hh | ⟨_, hh⟩ <;> · rw [hF] at hh; cases hh
      · rw [hF] at hh; cases hh
      · rcases hh with hh | ⟨_, hh⟩ <;> · rw [hF] at hh; cases hh
      · rw [hF] at hh
        have hh : isObj' a ob = isObj' a o2 := by
          have := Option.some.inj hh
          injection this
        have : hp.get? a = some o2 := by
          have q := congrFun hh hp
          exact q.mp hpe
        rw [hpe] at this
        cases this
        refine ⟨rfl, ?_⟩
        obtain ⟨es2, ep2, hd2, hes2⟩ := dd.dat
        rw [hd] at hd2
        cases hd2
        rw [hes] at hes2
        have := congrArg List.length hes2
        rw [List.length_map, List.length_map] at this
        omega
      · rw [hF] at hh; cases hh
      · rw [hF] at hh
        have hh : isObj' a ob = isExc a C d := by
          have := Option.some.inj hh
          injection this
        obtain ⟨oe, vs', w1, _, _, w2⟩ : isExc a C d hp := by rw [← hh]; exact hpe
        rw [hpe] at w1
        cases w1
        rw [hd] at w2
        cases w2
      · rw [hF] at hh; cases hh
    | obj => cases sz
    | tup => cases sz
  rw [hA] at g
  have s1 : share F H [b] b = some O := by unfold share; simp [hO]
  have hol := hol F' (g.f _ _ s1)
  have sF : F b = none := by
    have := (h2.there b (by rw [hA]; exact List.mem_cons_self)).1
    exact this
  let F2 : Hp := fun a => if a = b then none else F' a
  have sp : ∀ a o, a ≠ b → F' a = some o → F2 a = some o := fun a o ne h => by
    show (if a = b then none else F' a) = some o
    rw [if_neg ne]; exact h
  have nb : ∀ a, a ≠ b → share F H [b] a = F a := fun a ne => share_ne (by simpa using ne)
  refine ⟨F2, ⟨g.h, fun a o h => ?_, fun a o h => ?_, fun a o h => ?_⟩, fun v d hr p => Rep.thin sp hol hr p, fun cls dd x hr p => ExcIs.thin sp hol hr p⟩
  · have ne : a ≠ b := fun z => by subst z; rw [sF] at h; cases h
    exact sp a o ne (g.f a o (by rw [nb a ne]; exact h))
  · have h : (if a = b then none else F' a) = some o := h
    split at h
    · cases h
    · exact g.sub a o h
  · have h : (if a = b then none else F' a) = some o := h
    split at h
    · cases h
    · rename_i ne
      rcases g.new a o h with z | z
      · rw [nb a ne] at z; exact .inl z
      · exact .inr z
end
def lendR (i : Nat) (f : Env → Res D) (r : Env) : Res D := match r[i]? with
  | some (.ow .flat o) => match sizeO o with
    | some (k, n) => match f (freeze i r) with
      | .ok d => if apart k n d = true then .ok d else .bad
      | .er e => if apart k n e = true then .er e else .bad
      | .bad => .bad
    | none => .bad
  | some (.ow _ _) => .bad
  | _ => f r
def lendT (i : Nat) (f : Env → Res Bool) (r : Env) : Res Bool := match r[i]? with
  | some (.ow .flat o) => match sizeO o with
    | some (k, n) => match f (freeze i r) with
      | .ok d => .ok d
      | .er e => if apart k n e = true then .er e else .bad
      | .bad => .bad
    | none => .bad
  | some (.ow _ _) => .bad
  | _ => f r
theorem re_lend (i : Nat) {X : Cx} {W : Wi} {e : Expr} {f : Env → Res D} (h : RE X W .S e f) : RE X W .S e (lendR i f) := by
  refine ⟨fun pins s σ H Q I hw => h.run pins s σ H Q I ?_⟩
  have hx : ∀ b ob, H b = some (.ext (isObj' b ob)) → ∃ h : Heap, h.get? b = some ob := fun b ob q => by
    obtain ⟨z, _⟩ := (show ObjOk X.prog X.w H s.heap b (.ext (isObj' b ob)) from I.hok b _ q)
    exact ⟨s.heap, z⟩
  obtain ⟨H0, F0, fp, F, r, m, o⟩ := hw
  unfold lendR at o
  split at o
  · rename_i ob er
    split at o
    · rename_i k n sz
      obtain ⟨F1, m1, back⟩ := m.lend er sz hx
      refine ⟨H0, F0, fp, F1, _, m1, ?_⟩
      cases hf : f (freeze i r) with
      | ok d =>
        rw [hf] at o
        intro F' H' g v hv
        obtain ⟨F2, g2, b1, _⟩ := back F' H' g
        dsimp only at o
        split at o
        · rename_i p
          exact o F2 H' g2 v (b1 v d hv p)
        · exact o.elim
      | er x =>
        rw [hf] at o
        intro cls dd F' H' g hv
        obtain ⟨F2, g2, _, b2⟩ := back F' H' g
        dsimp only at o
        split at o
        · rename_i p
          exact o cls dd F2 H' g2 (b2 cls dd x hv p)
        · exact o.elim
      | bad => rw [hf] at o; exact o.elim
    · exact o.elim
  · exact o.elim
  · exact ⟨H0, F0, fp, F, r, m, o⟩
theorem rt_lend (i : Nat) {X : Cx} {W : Wi} {e : Expr} {f : Env → Res Bool} (h : RT X W e f) : RT X W e (lendT i f) := by
  refine ⟨fun pins s σ H Q I hw => h.run pins s σ H Q I ?_⟩
  have hx : ∀ b ob, H b = some (.ext (isObj' b ob)) → ∃ h : Heap, h.get? b = some ob := fun b ob q => by
    obtain ⟨z, _⟩ := (show ObjOk X.prog X.w H s.heap b (.ext (isObj' b ob)) from I.hok b _ q)
    exact ⟨s.heap, z⟩
  obtain ⟨H0, F0, fp, F, r, m, o⟩ := hw
  unfold lendT at o
  split at o
  · rename_i ob er
    split at o
    · rename_i k n sz
      obtain ⟨F1, m1, back⟩ := m.lend er sz hx
      refine ⟨H0, F0, fp, F1, _, m1, ?_⟩
      cases hf : f (freeze i r) with
      | ok d =>
        rw [hf] at o
        intro F' H' g
        obtain ⟨F2, g2, _, _⟩ := back F' H' g
        exact o F2 H' g2
      | er x =>
        rw [hf] at o
        intro cls dd F' H' g hv
        obtain ⟨F2, g2, _, b2⟩ := back F' H' g
        dsimp only at o
        split at o
        · rename_i p
          exact o cls dd F2 H' g2 (b2 cls dd x hv p)
        · exact o.elim
      | bad => rw [hf] at o; exact o.elim
    · exact o.elim
  · exact o.elim
  · exact ⟨H0, F0, fp, F, r, m, o⟩
end Mir

/-! Tables of carries by a rule; sums of multiples in a group by rounds. -/
namespace Mir
open PySem PySem.Spec PyProof.Rows L2
theorem fill1Q {N : Nat} {Q : List Int × List Int → List Int → Prop} {f : D → Env → Oc} {x : List Int} (P : List ((List Int × List Int) × List Int) → Env → Prop) : ∀ {ys : List (List Int)} {L : List ((List Int × List Int) × List Int)} {r : Env}, L.length + ys.length ≤ N → ys.Nodup → (∀ y ∈ ys, (x, y) ∉ L.map (·.1)) →
    (∀ L, L.length < N → ∀ y ∈ ys, (x, y) ∉ L.map (·.1) → ∀ r, P L r → ∃ v r', Q (x, y) v ∧ f (tuI y) r = .nx r' ∧ P (setA L (x, y) v) r') → P L r →
    ∃ L' r', forD f (ys.map tuI) r = .nx r' ∧ P (L ++ L') r' ∧ L'.map (·.1) = ys.map (fun y => (x, y)) ∧ ∀ p ∈ L', Q p.1 p.2
  | [], L, r, _, _, _, _, hp => ⟨[], r, rfl, by simpa using hp, rfl, fun _ h => nomatch h⟩
  | y :: ys, L, r, hl, hn, hf, h, hp => by
    rw [List.length_cons] at hl
    rw [List.nodup_cons] at hn
    obtain ⟨v, r1, hv, e, p1⟩ := h L (by omega) y List.mem_cons_self (hf y List.mem_cons_self) r hp
    rw [setA_new v (hf y List.mem_cons_self)] at p1
    obtain ⟨L', r2, e2, p2, k2, v2⟩ := fill1Q P (L := L ++ [((x, y), v)]) (r := r1) (by simp; omega) hn.2 (fun z hz hm => by
      rw [List.map_append, List.mem_append] at hm
      rcases hm with m | m
      · exact hf z (List.mem_cons_of_mem _ hz) m
      · rw [List.map_cons, List.map_nil, List.mem_singleton] at m
        injection m with _ m
        exact hn.1 (m ▸ hz)) (fun L hL z hz => h L hL z (List.mem_cons_of_mem _ hz)) p1
    refine ⟨((x, y), v) :: L', r2, ?_, by simpa using p2, by simp [k2], fun p hq => ?_⟩
    · rw [List.map_cons, forD_cons, e]
      exact e2
    · rcases List.mem_cons.mp hq with z | z
      · subst z; exact hv
      · exact v2 p z
theorem fill2Q {N : Nat} {α : Type} {up : List Int} {Q : List Int × List Int → List Int → Prop} {outer inner : D → Env → Oc} (A : α → D) (kx : α → List Int) (P : List ((List Int × List Int) × List Int) → Env → Prop) (P' : List ((List Int × List Int) × List Int) → α → Env → Prop) : ∀ {X : List α} {L : List ((List Int × List Int) × List Int)} {r : Env}, L.length + X.length * (mems up).length ≤ N → (X.map kx).Nodup → (∀ a ∈ X, ∀ y ∈ mems up, (kx a, y) ∉ L.map (·.1)) →
    (∀ L, L.length < N → ∀ a ∈ X, ∀ y ∈ mems up, (kx a, y) ∉ L.map (·.1) → ∀ r, P' L a r → ∃ v r', Q (kx a, y) v ∧ inner (tuI y) r = .nx r' ∧ P' (setA L (kx a, y) v) a r') →
    (∀ L, ∀ a ∈ X, ∀ r, P L r → ∃ r1, P' L a r1 ∧ ∀ L' r2, forD inner ((mems up).map tuI) r1 = .nx r2 → P' L' a r2 → ∃ r3, outer (A a) r = .nx r3 ∧ P L' r3) → P L r →
    ∃ L' r', forD outer (X.map A) r = .nx r' ∧ P (L ++ L') r' ∧ L'.map (·.1) = X.flatMap (fun a => (mems up).map fun y => (kx a, y)) ∧ ∀ p ∈ L', Q p.1 p.2
  | [], L, r, _, _, _, _, _, hp => ⟨[], r, rfl, by simpa using hp, rfl, fun _ h => nomatch h⟩
  | a :: X, L, r, hl, hn, hf, hi, ho, hp => by
    rw [List.length_cons, Nat.succ_mul] at hl
    rw [List.map_cons, List.nodup_cons] at hn
    obtain ⟨r1, p1, q⟩ := ho L a List.mem_cons_self r hp
    obtain ⟨L1, r2, e1, p2, k1, v1⟩ := fill1Q (Q := Q) (f := inner) (x := kx a) (N := N) (fun L r => P' L a r) (by omega) (mems_nodup up) (hf a List.mem_cons_self) (fun L hL y hy hm r hr => hi L hL a List.mem_cons_self y hy hm r hr) p1
    obtain ⟨r3, e3, p3⟩ := q _ r2 e1 p2
    obtain ⟨L2, r4, e4, p4, k2, v2⟩ := fill2Q A kx P P' (X := X) (L := L ++ L1) (r := r3) (by have := congrArg List.length k1; rw [List.length_map, List.length_map] at this; rw [List.length_append]; omega) hn.2 (fun b hb y hy hm => by
      rw [List.map_append, List.mem_append] at hm
      rcases hm with m | m
      · exact hf b (List.mem_cons_of_mem _ hb) y hy m
      · rw [k1] at m
        obtain ⟨z, _, e⟩ := List.mem_map.mp m
        injection e with e _
        exact hn.1 (e ▸ List.mem_map.mpr ⟨b, hb, rfl⟩)) (fun L hL b hb => hi L hL b (List.mem_cons_of_mem _ hb)) (fun L b hb => ho L b (List.mem_cons_of_mem _ hb)) p3
    refine ⟨L1 ++ L2, r4, ?_, by simpa using p4, by simp [k1, k2], fun p hq => ?_⟩
    · rw [List.map_cons, forD_cons, e3]
      exact e4
    · rcases List.mem_append.mp hq with z | z
      · exact v1 p z
      · exact v2 p z


theorem byRule {α β : Type} {L : List (α × β)} {g : α → β} (h : ∀ p ∈ L, p.2 = g p.1) : L = (L.map (·.1)).map fun a => (a, g a) := by
  rw [List.map_map]
  have e : ∀ p ∈ L, ((fun a => (a, g a)) ∘ (·.1)) p = p := fun p hp => by
    show (p.1, g p.1) = p
    rw [← h p hp]
  rw [List.map_congr_left e]
  simp
abbrev nnD (p : Nat × Nat) : D := .tup [.int p.1, .int p.2]
theorem keyNN : KeyE nnD (fun p => .tup [.num (p.1 : Nat), .num (p.2 : Nat)]) := ⟨fun p => keyII.t ((p.1 : Int), (p.2 : Int)), fun p q h => by
  have := keyII.inj ((p.1 : Int), (p.2 : Int)) ((q.1 : Int), (q.2 : Int)) h
  injection this with a b
  obtain ⟨p1, p2⟩ := p
  obtain ⟨q1, q2⟩ := q
  have a : (p1 : Int) = q1 := a
  have b : (p2 : Int) = q2 := b
  have a : p1 = q1 := by omega
  have b : p2 = q2 := by omega
  rw [a, b]⟩
theorem ixD_els {ps : List (List Int)} {k : Nat} (h : k < ps.length) : ixD (.lst (ps.map tuI)) (.int (k : Nat)) = .ok (tuI (ps.getD k [])) := by
  have e : ps[k]? = some (ps.getD k []) := by rw [List.getD_eq_getElem?_getD, List.getElem?_eq_getElem h]; rfl
  rw [ixD_lst, atI_nat _ _ (by simpa using h), List.getElem?_map, e]
  rfl
/-- the carry of the parts -/
def carryV (lo up : List Int) (ps : List (List Int)) (L : List ((Nat × Nat) × List Int)) (x y : List Int) : List Int :=
  L.foldl (fun f q => putV lo f (timesV lo (x.getD q.1.1 0 * y.getD q.1.2 0) q.2)) ((List.range up.length).foldl (fun f k => if up.getD k 0 ≤ x.getD k 0 + y.getD k 0 then putV lo f (ps.getD k []) else f) (zeroV lo))
def ownV (lo up : List Int) (hf : List Int → List Int) (x y : List Int) : List Int := putV lo (putV lo (hf x) (hf y)) (timesV lo (-1) (hf (putV up x y)))
/-- the pairs of places, the lesser first -/
def placeRow (n i : Nat) : List (Nat × Nat) := (List.range (n - (i + 1))).map fun k => (i, i + 1 + k)
def placePairs (n : Nat) : List (Nat × Nat) := (List.range n).flatMap (placeRow n)
theorem mem_placePairs {n : Nat} {p : Nat × Nat} : p ∈ placePairs n ↔ p.1 < p.2 ∧ p.2 < n := by
  unfold placePairs placeRow
  rw [List.mem_flatMap]
  constructor
  · rintro ⟨i, hi, h⟩
    obtain ⟨k, hk, rfl⟩ := List.mem_map.mp h
    have := List.mem_range.mp hk
    exact ⟨by show i < i + 1 + k; omega, by show i + 1 + k < n; omega⟩
  · rintro ⟨h1, h2⟩
    refine ⟨p.1, List.mem_range.mpr (by omega), List.mem_map.mpr ⟨p.2 - (p.1 + 1), List.mem_range.mpr (by omega), ?_⟩⟩
    obtain ⟨a, b⟩ := p
    have h1 : a < b := h1
    show (a, a + 1 + (b - (a + 1))) = (a, b)
    rw [Nat.add_sub_cancel' h1]
theorem placeRow_nodup (n i : Nat) : (placeRow n i).Nodup := by
  unfold placeRow
  refine nodup_inj (fun a b e => ?_) List.nodup_range
  injection e with _ e
  omega
/-- what carries are made of -/
structure OkP (lo up : List Int) (ps : List (List Int)) (L : List ((Nat × Nat) × List Int)) : Prop where
  len : ps.length = up.length
  ps : ∀ k, k < up.length → OkE lo (ps.getD k [])
  key : L.map (·.1) = placePairs up.length
  val : ∀ q ∈ L, OkE lo q.2
theorem OkP.at_ {lo up : List Int} {ps : List (List Int)} {L : List ((Nat × Nat) × List Int)} (h : OkP lo up ps L) {q : (Nat × Nat) × List Int} (hq : q ∈ L) : q.1.1 < q.1.2 ∧ q.1.2 < up.length := by
  have : q.1 ∈ placePairs up.length := by rw [← h.key]; exact List.mem_map.mpr ⟨q, hq, rfl⟩
  exact mem_placePairs.mp this
theorem placePairs_nodup (n : Nat) : (placePairs n).Nodup := by
  unfold placePairs
  refine nodup_flat (fun i _ => placeRow_nodup n i) ?_
  refine List.Pairwise.imp (R := fun a b => a ≠ b) (fun {a b} ne => ?_) List.nodup_range
  intro x hx hy
  unfold placeRow at hx hy
  obtain ⟨_, _, e1⟩ := List.mem_map.mp hx
  obtain ⟨_, _, e2⟩ := List.mem_map.mp hy
  rw [← e1] at e2
  exact ne (Prod.mk.inj e2).1.symm
end Mir

/-! enumerate of a list or a tuple. -/
namespace Mir
open PySem PySem.Spec PyProof.Rows L2

theorem drawsS {prog : Program} {w : World} {A : Around} (hh : A.handled = none) (k : Bool) (it l : Addr) (hne : l ≠ it) (items : Array Value) :
    Draws prog w A it [it, l] items.size (fun i v => items[i]? = some v) (fun i h => SIt h k it l i ∧ SSrc h k l items) where
  live := fun _ _ st => let ⟨o, ho, _⟩ := st.1.ob; ⟨o, ho⟩
  frame := fun _ _ _ st hk => ⟨st.1.at fun o e => hk it (by simp) o e, st.2.at fun o e => hk l (by simp) o e⟩
  item := fun i s Q E hi st hQ => by
    refine nextS_item st.1 st.2 (x := items[i]) (by simp [hi]) fun h' hit' hs' => ?_
    exact hQ _ h' s.toks (by simp [hi]) ⟨hit', st.2.at fun o e => hs'.extBut _ _ hne e⟩ hs'
  done := fun s Q E st hE => nextS_end hh st.1 st.2 (by simp) hE
abbrev eH1 (h : Heap) (k : Bool) (l : Addr) : Heap := h.push { cls := .type (clsI k), data := .fields #[.ref l, .int 0 0] }
abbrev eH2 (h : Heap) (k : Bool) (l : Addr) : Heap := (eH1 h k l).push { cls := .type "enumerate", data := .fields #[.none, .bool false, .ref h.objs.size, rawInt 0, .none, .none] }
theorem meets_enumS (k : Bool) (l : Addr) (items : Array Value) :
    Meets (Builtin.«enumerate.__new__» ⟨[.type "enumerate", .ref l], []⟩) (fun _ R s => SSrc s.heap k l items ∧
      R (.ok (.ret (.ref (eH1 s.heap k l).objs.size))) { s with heap := eH2 s.heap k l }) :=
  .of_wp fun prog w A R s h => by
    obtain ⟨hp, g, d, tk, os⟩ := s; obtain ⟨h1, h⟩ := h
    have hsub := sub_enumerate
    have q1 : ∀ {A' : Around} {E : Value → Shared → Prop} {Q : Value → Shared → Prop}, Q (.ref hp.objs.size) ⟨eH1 hp k l, g, d, tk, os⟩ → wpAny (model prog w) A' (pyIter (.ref l)) Q E ⟨hp, g, d, tk, os⟩ :=
      fun q => iterS (s := ⟨hp, g, d, tk, os⟩) h1 q
    wp_walk using q1
    refine wpAny_stack_any fun st => wpAny_pure ?_
    split
    · rename_i c _ _ _ _ _
      cases (c == Value.type "enumerate")
      · wp_walk using q1
        exact ⟨_, rfl, h⟩
      · wp_walk using q1
        exact ⟨_, rfl, h⟩
    · wp_walk using q1
      exact ⟨_, rfl, h⟩
section
variable {prog : Program} {w : World} {A : Around} {E : Value → Shared → Prop} {s : Shared}
theorem call_enumS {k : Bool} {l : Addr} {items : Array Value} {Q : Value → Shared → Prop} (hL : SSrc s.heap k l items)
    (h : ∀ h', IsEnum h' (s.heap.objs.size + 1) s.heap.objs.size 0 .none → SIt h' k s.heap.objs.size l 0 → h'.objs.size = s.heap.objs.size + 2 →
      (∀ b o, s.heap.get? b = some o → h'.get? b = some o) → Q (.ref (s.heap.objs.size + 1)) { s with heap := h' }) :
    wpAny (model prog w) A (call (.type "enumerate") [.ref l]) Q E s := by
  refine callType_new F.called_enumerate (by decide) (F.typeCall_enumerate_1 _) (F.newCall_enumerate_1 _) (fun obj => F.args_object_init_2 obj _) F.entry_enumerate_new
    (meets_enumS k l items) ⟨hL, ?_⟩
  have hz : (eH1 s.heap k l).objs.size = s.heap.objs.size + 1 := Heap.size_push ..
  show _ ∧ _
  rw [hz]
  have he : IsEnum (eH2 s.heap k l) (s.heap.objs.size + 1) s.heap.objs.size 0 .none := by
    have := Heap.get?_push_size (eH1 s.heap k l)
      (o := { cls := .type "enumerate", data := .fields #[.none, .bool false, .ref s.heap.objs.size, rawInt 0, .none, .none] }) rfl
    rw [hz] at this; exact this
  have hi : (eH2 s.heap k l).get? s.heap.objs.size = some _ := Heap.get?_push_of_some _ (Heap.get?_push_size _ rfl)
  exact ⟨⟨_, he, rfl⟩, h _ he (show SIt _ k _ l 0 by cases k <;> exact ⟨_, hi, rfl, rfl⟩) (by rw [Heap.size_push, hz]) fun b o x => Heap.get?_push_of_some _ (Heap.get?_push_of_some _ x)⟩
end
section
variable {prog : Program} {w : World} {A : Around} {E : Value → Shared → Prop} {s : Shared}
theorem enumS_end {k : Bool} {e it l : Addr} {i : Nat} {items : Array Value} {c : Int} {old : Value} {Q : Option Value → Shared → Prop} (hh : A.in1.handled = none)
    (he : IsEnum s.heap e it c old) (hit : SIt s.heap k it l i) (hl : SSrc s.heap k l items) (hx : items[i]? = none)
    (hQ : ∀ h', Heap.ExtBut it s.heap h' → Q none { s with heap := h' }) : wpAny (model prog w) A (pyNext (.ref e)) Q E s := by
  have hT : s.TypeIs (.ref e) "enumerate" := ⟨_, he, rfl⟩
  unfold pyNext
  refine wpAny_bind (wpAny_attempt (wpAny_callSpecial?_slot (name := Str.ofString "__next__") hT F.slot_enumerate_next
    (wpAny_call_entry F.slot_enumerate_next hT F.entry_enumerate_next ?_ (F.args_enumerate_next_1 _))))
  show wpAny _ _ (field (.ref e) 2 >>= _) _ _ _
  refine wpAny_bind (wpAny_field he rfl (x := .ref it) rfl ?_)
  refine wpAny_bind (nextS_end hh hit hl hx fun h' x he' hx' => ?_)
  obtain ⟨o, ho, hc⟩ := hx'
  refine wpAny_bind (wpAny_isInstance (T := "StopIteration") (b := true) ⟨o, ho, hc⟩ isSubtype_stop ?_)
  exact wpAny_pure (hQ _ he')
end
/-- the items of a list or a tuple that stands, each in a new pair -/
def IteS (K : PySem.W.Frag) (k : Bool) (a : Addr) (ys : List V) : It :=
  ⟨fun i H => SqS K H k a ys ∧ i < ys.length, fun i H v H' => ∃ (T : Addr) (x : V), v = .ref T ∧ H T = none ∧ H' = upd H T (.tup [.int (i : Nat), x]) ∧ ys[i]? = some x, fun i H => SqS K H k a ys ∧ ys.length ≤ i⟩
theorem turn_enumS {P : Program} {w : World} {K : PySem.W.Frag} {elts : List Expr} {kk : Nat} {tpos : Pos} {k : Bool} {a e it : Addr} {ys : List V} (hai : a ≠ it) (hea : e ≠ a) (hne : e ≠ it) :
    Turn P w K (.Tuple elts kk tpos) (IteS K k a ys) [e, it] e (fun i h => (∃ old, IsEnum h e it ((i : Nat) : Int) old) ∧ SIt h k it a i) where
  mem := by simp
  obj := fun i h st b hb => by
    obtain ⟨⟨old, he⟩, hi⟩ := st
    have e' : b = e ∨ b = it := by simpa using hb
    rcases e' with z | z
    · rw [z]; exact ⟨_, he, fun v q => nomatch q⟩
    · rw [z]; exact hi.ob
  keep := fun i h h' st k => let ⟨⟨old, he⟩, hi⟩ := st; ⟨⟨old, k e (by simp) _ he⟩, hi.at fun o q => k it (by simp) o q⟩
  item := by
    intro X hP hw hK hc i pins s σ H E I hf st hg
    subst hP hw hK
    obtain ⟨⟨old, he⟩, hit⟩ := st
    obtain ⟨hq, hx⟩ := hg
    obtain ⟨its, rv, p⟩ := Inv.srcS I hq
    have hl := rv.length
    have hel : e < s.heap.objs.size := Heap.lt_size he
    have hil : it < s.heap.objs.size := hit.lt
    have hh : X.A.in1.handled = none := I.ok.hd hc
    refine wpAny_pyNext_enum_itemD (drawsS hh k it a hai its.toArray) he ⟨hit, p⟩ (by simp; omega) hne (by simp [hne, hea]) fun u h' tk hu ho hst' hT hsz hk => ?_
    obtain ⟨hit', p'⟩ := hst'
    have hx1 : ys[i]? = some (ys[i]'hx) := List.getElem?_eq_getElem hx
    generalize ys[i]'hx = x at hx1
    obtain ⟨u', hu', ru⟩ := rv.get hx1
    have eu : u' = u := by
      have q : its[i]? = some u := by simpa using hu
      rw [q] at hu'; exact (Option.some.inj hu').symm
    subst eu
    refine ⟨_, rfl, wpAny_letOwnedTupleGo_enum (s := { s with heap := h', toks := tk + 1 }) ho fun h'' he' sb => ?_⟩
    have hT2 : h''.get? s.heap.objs.size = some { cls := .type "tuple", data := .seq #[.int i tk, u'] } := (sb.2 _ (Nat.ne_of_gt hel)).trans hT
    have new : ObjOk X.prog X.w (upd H s.heap.objs.size (.tup [.int (i : Nat), x])) h'' s.heap.objs.size (.tup [.int (i : Nat), x]) :=
      ⟨by show 2 ≤ sizeLine; decide, [.int i tk, u'], .cons ⟨_, rfl⟩ (.cons ru .nil), ⟨_, hT2, rfl, _, rfl⟩⟩
    have I1 : L2.Inv X pins σ (upd H s.heap.objs.size (.tup [.int (i : Nat), x])) { s with heap := h'', toks := tk + 1 } :=
      I.turnedNew (t' := tk + 1) (ch := [e, it]) (fun b ob hb q => (sb.2 b (fun z => hb (by simp [z]))).trans (hk b ob (fun z => hb (by simp [z])) (fun z => hb (by simp [z])) q)) hf (Nat.le_refl _) new
    refine ⟨.ref s.heap.objs.size, _, I1, rfl, ⟨_, x, rfl, I.hok.fresh (Nat.le_refl _), rfl, hx1⟩, ⟨⟨u', ?_⟩, hit'.at fun o q => (sb.2 it (Ne.symm hne)).trans q⟩, fun b hb => ?_⟩
    · have e1 : ((i + 1 : Nat) : Int) = (i : Int) + 1 := by omega
      rw [e1]; exact he'
    · have hb' : b < s.heap.objs.size := by
        have e' : b = e ∨ b = it := by simpa using hb
        rcases e' with z | z
        · rw [z]; exact hel
        · rw [z]; exact hil
      rw [upd_ne (Nat.ne_of_lt hb')]
      exact (hf b hb).1
  done := by
    intro X hP hw hK hc i pins s σ H E I hf st hg
    subst hP hw hK
    obtain ⟨⟨old, he⟩, hit⟩ := st
    obtain ⟨hq, hx⟩ := hg
    obtain ⟨its, rv, p⟩ := Inv.srcS I hq
    obtain ⟨f0, f1, f2, f3, f4, f5⟩ := hf it (by simp)
    have hl := rv.length
    have hh : X.A.in1.handled = none := I.ok.hd hc
    exact enumS_end hh he hit p (by simp; omega) fun h' eb => ⟨rfl, I.turned (t' := s.toks) (fun b o hb q => eb b o hb q) f0 f1 f3 f4 f5⟩
  self := fun A i s Q E st h => let ⟨⟨_, he⟩, _⟩ := st; wpAny_pyIter_enum he h
def iEnumS (K : PySem.W.Frag) (ta : TA) : TI := fun σ H R => ta σ H fun vs H1 => ∃ (k : Bool) (a : Addr) (ys : List V), vs = [.ref a] ∧ SqS K H1 k a ys ∧ R (IteS K k a ys) H1
theorem pi_enumS {X : Cx} {e : Expr} {ta : TA} {p pos tpos : Pos} {elts : List Expr} {kk : Nat} (hg : Gl X "enumerate") (hm : X.mg "enumerate" = none) (ha : PA X [e] ta) (hs : starEach [e] X.env = [(false, eval e X.env)] := by rfl) :
    PI X (.Tuple elts kk tpos) (.Call (.Name "enumerate" p) [e] [] pos) (iEnumS X.K ta) := by
  refine ⟨fun pins s σ H R I h => ?_⟩
  refine Call_ (ld_blt I hg hm boot_enumerate (PyProof.Rows.callWith_type1 (thn (ha.run pos pins s σ H _ I h) fun us s1 ⟨vs, H1, I1, r1, q1⟩ => ?_) hs rfl))
  obtain ⟨k, a, ys, ex, hq, q⟩ := q1
  subst ex
  cases r1 with
  | cons r rr =>
    cases rr
    cases r
    obtain ⟨its, rv, p'⟩ := Inv.srcS I1 hq
    have hlt := p'.lt
    refine call_enumS p' fun h' he hit hsz hk => wpAny_pyIter_enum he ?_
    have I2 : L2.Inv X pins σ H1 { s1 with heap := h' } := I1.kept (t' := s1.toks) hk
    refine ⟨s1.heap.objs.size + 1, [s1.heap.objs.size + 1, s1.heap.objs.size], _, _, H1, rfl, I2, turn_enumS (Nat.ne_of_lt hlt) (Nat.ne_of_gt (Nat.lt_succ_of_lt hlt)) (Nat.succ_ne_self _), ⟨⟨.none, he⟩, hit⟩, fun b hb => ?_, q⟩
    have e' : b = s1.heap.objs.size + 1 ∨ b = s1.heap.objs.size := by simpa using hb
    have hle : s1.heap.objs.size ≤ b := by
      rcases e' with z | z
      · rw [z]; exact Nat.le_add_right _ _
      · rw [z]; exact Nat.le_refl _
    exact I1.fpOk hle (I1.hok.fresh hle)
theorem WalkD.enumS {G : GC} {F B : Hp} {k : Bool} {a : Addr} {ys : List V} {ds : List D} (hs : SqS G.K B k a ys) (r : RepAll G F ys ds) : WalkD G F B (IteS G.K k a ys) (enumL ds) where
  goes := fun i H hi s => by
    have w := r.length
    rw [enumL_len] at hi
    exact ⟨hs.keep s, by omega⟩
  stops := fun H s => by
    have w := r.length
    exact ⟨hs.keep s, by rw [enumL_len]; omega⟩
  yields := fun i F2 H2 v H3 hi s1 s2 _ ⟨T, x, e1, e2, e3, g⟩ => by
    subst e1 e3
    obtain ⟨c, t, m⟩ := r.getV g
    exact ⟨_, .tup [.int (i : Nat), c], Grow.mk1 s2 e2, enumL_get t, Rep.tup (.of upd_same) (.cons (.int _) (.cons ((m.mono s1).mono (Grow.mk1 s2 e2).f) .nil))⟩
def enumS : List D → Res (List D)
  | [d] => match seqQ d with
    | some xs => .ok (enumL xs)
    | none => .bad
  | _ => .bad
@[simp] theorem enumS_lst (xs : List D) : enumS [.lst xs] = .ok (enumL xs) := rfl
@[simp] theorem enumS_tup (xs : List D) : enumS [.tup xs] = .ok (enumL xs) := rfl
@[simp] theorem enumS_scr (ns : List Int) : enumS [.scr ns] = .ok (enumL (ns.map D.int)) := rfl
theorem enumS_inv (ds : List D) : (∃ d xs, ds = [d] ∧ seqQ d = some xs ∧ enumS ds = .ok (enumL xs)) ∨ enumS ds = .bad := by
  unfold enumS
  split
  · rename_i d
    split
    · rename_i xs h; exact .inl ⟨d, xs, rfl, h, rfl⟩
    · exact .inr rfl
  · exact .inr rfl
theorem seqQ_rd {G : GC} {F H : Hp} {v : V} {d : D} {ds : List D} (s : Same F H) (r : RdD G F H v d) (e : seqQ d = some ds) : ∃ k a ys, v = .ref a ∧ SqS G.K H k a ys ∧ RepAll G F ys ds := by
  cases d with
  | lst xs => cases e; obtain ⟨a, vs, rfl, h, ra⟩ := r.lst s; exact ⟨true, a, vs, rfl, .of h, ra⟩
  | scr ns => cases e; obtain ⟨a, rfl, h⟩ := r.scr s; exact ⟨true, a, _, rfl, h, ints_rep _⟩
  | tup xs => cases e; obtain ⟨a, vs, rfl, h, ra⟩ := r.tup s; exact ⟨false, a, vs, rfl, h, ra⟩
  | _ => cases e
section
variable {X : Cx} {W : Wi} {e : Expr} {p pos tpos : Pos} {elts : List Expr} {kk : Nat}
/-- enumerate(list or tuple): one's own list, too -/
theorem ri_enumSR {fa : Env → Res (List D)} (hm : X.mg "enumerate" = none) (ha : RAR X W [e] fa) (hg : Gl X "enumerate" := by rfl) (hs : starEach [e] X.env = [(false, eval e X.env)] := by rfl) :
    RI X W false (.Tuple elts kk tpos) (.Call (.Name "enumerate" p) [e] [] pos) (fun r => fa r >>= enumS) := by
  refine ⟨fun pins s σ H R I ⟨H0, F0, fp, F, r, m, o⟩ => (pi_enumS hg hm ha hs).run pins s σ H R I ⟨H0, F0, fp, F, r, m, o.bind fun F' H' ds gr o2 vs rv => ?_⟩⟩
  rcases enumS_inv ds with ⟨d, xs, rfl, w, e⟩ | e
  · rw [e] at o2
    cases rv with
    | cons r1 rr =>
      cases rr
      obtain ⟨k, a, ys, rfl, q, ra⟩ := seqQ_rd gr.sub r1 w
      exact ⟨k, a, ys, rfl, q, o2 F' H' (Grow.refl gr.sub) _ (WalkD.enumS q ra)⟩
  · rw [e] at o2; exact o2.elim
theorem ri_enumS {fa : Env → Res (List D)} (hm : X.mg "enumerate" = none) (ha : RA X W [e] fa) (hg : Gl X "enumerate" := by rfl) (hs : starEach [e] X.env = [(false, eval e X.env)] := by rfl) :
    RI X W true (.Tuple elts kk tpos) (.Call (.Name "enumerate" p) [e] [] pos) (fun r => fa r >>= enumS) := by
  refine ⟨fun pins s σ H R I ⟨H0, F0, fp, F, r, m, o⟩ => (pi_enumS hg hm ha hs).run pins s σ H R I ⟨H0, F0, fp, F, r, m, o.bind fun F' H' ds gr o2 vs rv => ?_⟩⟩
  rcases enumS_inv ds with ⟨d, xs, rfl, w, e⟩ | e
  · rw [e] at o2
    cases rv with
    | cons r1 rr =>
      cases rr
      obtain ⟨k, a, ys, rfl, q, ra⟩ := seqQ_rep (Same.refl F') r1 w
      exact ⟨k, a, ys, rfl, q.keep gr.sub, o2 F' H' (Grow.refl gr.sub) _ (WalkD.enumS q ra)⟩
  · rw [e] at o2; exact o2.elim
end
end Mir

/-! Maps of groups by rounds: plain mathematics. -/
namespace Mir
/-- the products, added -/
def dotV : List Int → List Int → Int
  | a :: x, b :: y => a * b + dotV x y
  | _, _ => 0
def colV (im : List (List Int)) (i : Nat) : List Int := im.map fun y => y.getD i 0
/-- where x is led -/
def ledV (g : List Int) (im : List (List Int)) (x : List Int) : List Int := totalV g ((x.zip im).map fun p => timesV g p.1 p.2)
/-- images that make a map -/
structure OkI (s g : List Int) (im : List (List Int)) : Prop where
  len : im.length = s.length
  el : ∀ y ∈ im, OkE g y
  nil : ∀ p ∈ s.zip im, timesV g p.1 p.2 = zeroV g
theorem totalV_from {g : List Int} : ∀ (ys : List (List Int)) (a : List Int), a.length = g.length → (∀ y ∈ ys, y.length = g.length) → (ys.foldl (fun f x => putV g f x) a).length = g.length ∧
    ∀ i, i < g.length → a.getD i 0 % g.getD i 0 = a.getD i 0 → (ys.foldl (fun f x => putV g f x) a).getD i 0 = (a.getD i 0 + (colV ys i).sum) % g.getD i 0 := fun ys => by
  induction ys with
  | nil => intro a ha _; exact ⟨ha, fun i hi e => by simp only [colV, List.foldl_nil, List.map_nil, List.sum_nil, Int.add_zero]; exact e.symm⟩
  | cons y ys ih =>
    intro a ha hy
    have hy0 := hy y List.mem_cons_self
    obtain ⟨l, q⟩ := ih (putV g a y) (putV_len ha hy0) fun z hz => hy z (List.mem_cons_of_mem _ hz)
    refine ⟨l, fun i hi e => ?_⟩
    rw [List.foldl_cons, q i hi (by rw [putV_at hi ha hy0, Int.emod_emod_of_dvd _ (Int.dvd_refl _)]), putV_at hi ha hy0]
    rw [Int.emod_add_emod]
    show _ = (a.getD i 0 + (y.getD i 0 + (colV ys i).sum)) % _
    rw [Int.add_assoc]
theorem totalV_len {g : List Int} {ys : List (List Int)} (h : ∀ y ∈ ys, y.length = g.length) : (totalV g ys).length = g.length := (totalV_from ys (zeroV g) (by simp [zeroV]) h).1
theorem totalV_at {g : List Int} {ys : List (List Int)} {i : Nat} (hi : i < g.length) (h : ∀ y ∈ ys, y.length = g.length) : (totalV g ys).getD i 0 = (colV ys i).sum % g.getD i 0 := by
  have := (totalV_from ys (zeroV g) (by simp [zeroV]) h).2 i hi (by rw [zeroV_at]; simp)
  rw [zeroV_at, Int.zero_add] at this
  exact this
theorem led_at {g : List Int} {i : Nat} (hi : i < g.length) : ∀ {x : List Int} {im : List (List Int)}, (∀ y ∈ im, y.length = g.length) → (ledV g im x).getD i 0 = dotV x (colV im i) % g.getD i 0 := fun {x im} h => by
  unfold ledV
  rw [totalV_at hi fun y hy => by
    obtain ⟨p, hp, rfl⟩ := List.mem_map.mp hy
    exact timesV_len g p.2 p.1 (h _ (List.of_mem_zip hp).2)]
  induction x generalizing im with
  | nil => simp [colV, dotV]
  | cons a x ih =>
    cases im with
    | nil => simp [colV, dotV]
    | cons y im =>
      have e := ih (im := im) fun z hz => h z (List.mem_cons_of_mem _ hz)
      show ((timesV g a y).getD i 0 + (colV ((x.zip im).map fun p => timesV g p.1 p.2) i).sum) % _ = (a * y.getD i 0 + dotV x (colV im i)) % _
      rw [timesV_at hi (h y List.mem_cons_self), Int.emod_add_emod, Int.add_emod, e, ← Int.add_emod]
theorem led_len {g x : List Int} {im : List (List Int)} (h : ∀ y ∈ im, y.length = g.length) : (ledV g im x).length = g.length := totalV_len fun y hy => by
  obtain ⟨p, hp, rfl⟩ := List.mem_map.mp hy
  exact timesV_len g p.2 p.1 (h _ (List.of_mem_zip hp).2)
theorem el_of_mod {g x : List Int} (h : OkR g) (hl : x.length = g.length) (hm : ∀ i, i < g.length → ∃ z, x.getD i 0 = z % g.getD i 0) : OkE g x := by
  refine ⟨hl, fun p hp => ?_⟩
  obtain ⟨i, hi⟩ := List.getElem?_of_mem hp
  obtain ⟨g1, g2⟩ := List.getElem?_zip_eq_some.mp hi
  have hi' : i < g.length := (List.getElem?_eq_some_iff.mp g2).1
  obtain ⟨z, e⟩ := hm i hi'
  have t := h.get hi'
  have e1 : x.getD i 0 = p.1 := by rw [List.getD_eq_getElem?_getD, g1]; rfl
  have e2 : g.getD i 0 = p.2 := by rw [List.getD_eq_getElem?_getD, g2]; rfl
  rw [← e1, ← e2, e]
  exact ⟨Int.emod_nonneg _ (by omega), Int.emod_lt_of_pos _ (by omega)⟩
theorem times_el {g x : List Int} {n : Int} (h : OkR g) (hl : x.length = g.length) : OkE g (timesV g n x) := el_of_mod h (timesV_len g x n hl) fun i hi => ⟨_, timesV_at hi hl⟩
theorem led_el {g x : List Int} {im : List (List Int)} (h : OkR g) (hy : ∀ y ∈ im, y.length = g.length) : OkE g (ledV g im x) := el_of_mod h (led_len hy) fun i hi => ⟨_, led_at hi hy⟩
theorem dvd_step {m n c a z : Int} (h : m ∣ n * c) : m ∣ (z % n) * c - z * c := by
  have e : (z % n) * c - z * c = -(z / n) * (n * c) := by
    have q := Int.emod_add_mul_ediv z n
    have : z % n = z - n * (z / n) := by omega
    rw [this, Int.sub_mul, Int.neg_mul]
    have : n * (z / n) * c = z / n * (n * c) := by rw [Int.mul_comm n (z / n), Int.mul_assoc]
    omega
  rw [e]
  exact Int.dvd_mul_of_dvd_right h
theorem mod_of_dvd {m a b : Int} (h : m ∣ a - b) : a % m = b % m := Int.emod_eq_emod_iff_emod_sub_eq_zero.mpr (Int.emod_eq_zero_of_dvd h)
theorem dot_put {m : Int} : ∀ {s x y c : List Int}, x.length = s.length → y.length = s.length → c.length = s.length → (∀ p ∈ s.zip c, m ∣ p.1 * p.2) → m ∣ dotV (putV s x y) c - (dotV x c + dotV y c)
  | [], [], [], [], _, _, _, _ => by simp [dotV, putV]
  | n :: s, a :: x, b :: y, d :: c, h1, h2, h3, h => by
    have ih := dot_put (s := s) (x := x) (y := y) (c := c) (by simpa using h1) (by simpa using h2) (by simpa using h3) fun p hp => h p (by simp [hp])
    have q := dvd_step (m := m) (n := n) (c := d) (a := 0) (z := a + b) (h (n, d) (by simp))
    have e : dotV (putV (n :: s) (a :: x) (b :: y)) (d :: c) - (dotV (a :: x) (d :: c) + dotV (b :: y) (d :: c)) = ((a + b) % n * d - (a + b) * d) + (dotV (putV s x y) c - (dotV x c + dotV y c)) := by
      show ((a + b) % n * d + dotV (putV s x y) c) - ((a * d + dotV x c) + (b * d + dotV y c)) = _
      rw [Int.add_mul a b d]
      omega
    rw [e]
    exact Int.dvd_add q ih
theorem dot_times {m k : Int} : ∀ {s x c : List Int}, x.length = s.length → c.length = s.length → (∀ p ∈ s.zip c, m ∣ p.1 * p.2) → m ∣ dotV (timesV s k x) c - k * dotV x c
  | [], [], [], _, _, _ => by simp [dotV, timesV]
  | n :: s, a :: x, d :: c, h1, h3, h => by
    have ih := dot_times (k := k) (s := s) (x := x) (c := c) (by simpa using h1) (by simpa using h3) fun p hp => h p (by simp [hp])
    have q := dvd_step (m := m) (n := n) (c := d) (a := 0) (z := k * a) (h (n, d) (by simp))
    have e : dotV (timesV (n :: s) k (a :: x)) (d :: c) - k * dotV (a :: x) (d :: c) = (k * a % n * d - k * a * d) + (dotV (timesV s k x) c - k * dotV x c) := by
      show (k * a % n * d + dotV (timesV s k x) c) - k * (a * d + dotV x c) = _
      rw [Int.mul_add, ← Int.mul_assoc]
      omega
    rw [e]
    exact Int.dvd_add q ih
theorem dot_zero : ∀ {s : List Int} {c : List Int}, dotV (zeroV s) c = 0
  | [], _ => rfl
  | _ :: _, [] => rfl
  | n :: s, d :: c => by
    show 0 * d + dotV (zeroV s) c = 0
    rw [dot_zero, Int.zero_mul]; rfl
theorem OkI.lens {s g : List Int} {im : List (List Int)} (h : OkI s g im) : ∀ y ∈ im, y.length = g.length := fun y hy => (h.el y hy).len
theorem OkI.col {s g : List Int} {im : List (List Int)} (h : OkI s g im) {i : Nat} (hi : i < g.length) : (colV im i).length = s.length ∧ ∀ p ∈ s.zip (colV im i), g.getD i 0 ∣ p.1 * p.2 := by
  refine ⟨by simp [colV, h.len], fun p hp => ?_⟩
  unfold colV at hp
  rw [List.zip_map_right] at hp
  obtain ⟨q, hq, rfl⟩ := List.mem_map.mp hp
  have e := congrArg (fun l => l.getD i 0) (h.nil q hq)
  simp only [zeroV_at, timesV_at hi (h.lens _ (List.of_mem_zip hq).2)] at e
  exact Int.dvd_of_emod_eq_zero e
theorem led_put {s g x y : List Int} {im : List (List Int)} (h : OkI s g im) (hx : x.length = s.length) (hy : y.length = s.length) : ledV g im (putV s x y) = putV g (ledV g im x) (ledV g im y) := by
  have l1 : ∀ z, (ledV g im z).length = g.length := fun z => led_len h.lens
  refine ext_getD (by rw [l1, putV_len (l1 x) (l1 y)]) fun i hi => ?_
  rw [putV_len (l1 x) (l1 y)] at hi
  obtain ⟨c1, c2⟩ := h.col hi
  rw [putV_at hi (l1 x) (l1 y), led_at hi h.lens, led_at hi h.lens, led_at hi h.lens, ← Int.add_emod]
  exact mod_of_dvd (dot_put hx hy c1 c2)
theorem led_times {s g x : List Int} {k : Int} {im : List (List Int)} (h : OkI s g im) (hx : x.length = s.length) : ledV g im (timesV s k x) = timesV g k (ledV g im x) := by
  have l1 : ∀ z, (ledV g im z).length = g.length := fun z => led_len h.lens
  refine ext_getD (by rw [l1, timesV_len g _ k (l1 x)]) fun i hi => ?_
  rw [timesV_len g _ k (l1 x)] at hi
  obtain ⟨c1, c2⟩ := h.col hi
  rw [timesV_at hi (l1 x), led_at hi h.lens, led_at hi h.lens, mod_of_dvd (dot_times hx c1 c2), Int.mul_emod, Int.mul_emod k (dotV x (colV im i) % g.getD i 0), Int.emod_emod_of_dvd _ (Int.dvd_refl _)]
theorem led_zero {s g : List Int} {im : List (List Int)} (h : OkI s g im) : ledV g im (zeroV s) = zeroV g := by
  refine ext_getD (by rw [led_len h.lens]; simp [zeroV]) fun i hi => ?_
  have hi : i < g.length := by simpa [zeroV] using hi
  rw [led_at hi h.lens, dot_zero, zeroV_at]; simp
theorem led_total {s g : List Int} {im : List (List Int)} (h : OkI s g im) : ∀ (ys : List (List Int)) (a : List Int), a.length = s.length → (∀ y ∈ ys, y.length = s.length) →
    ledV g im (ys.foldl (fun f x => putV s f x) a) = (ys.map (ledV g im)).foldl (fun f x => putV g f x) (ledV g im a) := fun ys => by
  induction ys with
  | nil => intro a _ _; rfl
  | cons y ys ih =>
    intro a ha hy
    have hy0 := hy y List.mem_cons_self
    rw [List.foldl_cons, ih _ (putV_len ha hy0) fun z hz => hy z (List.mem_cons_of_mem _ hz), led_put h ha hy0]
    rfl
/-- one map behind another one -/
theorem led_led {s m g x : List Int} {im1 im2 : List (List Int)} (h1 : OkI s m im1) (h2 : OkI m g im2) : ledV g im2 (ledV m im1 x) = ledV g (im1.map (ledV g im2)) x := by
  have e1 : ledV g im2 (ledV m im1 x) = (((x.zip im1).map fun p => timesV m p.1 p.2).map (ledV g im2)).foldl (fun f x => putV g f x) (ledV g im2 (zeroV m)) := led_total h2 _ _ (by simp [zeroV]) fun y hy => by
    obtain ⟨p, hp, rfl⟩ := List.mem_map.mp hy
    exact timesV_len m p.2 p.1 (h1.lens _ (List.of_mem_zip hp).2)
  rw [e1, led_zero h2]
  have e2 : ((x.zip im1).map fun p => timesV m p.1 p.2).map (ledV g im2) = (x.zip (im1.map (ledV g im2))).map fun p => timesV g p.1 p.2 := by
    rw [List.map_map, List.zip_map_right, List.map_map]
    refine List.map_congr_left fun p hp => ?_
    exact led_times h2 (h1.lens _ (List.of_mem_zip hp).2)
  rw [e2]
  rfl
theorem OkI.behind {s m g : List Int} {im1 im2 : List (List Int)} (hg : OkR g) (h1 : OkI s m im1) (h2 : OkI m g im2) : OkI s g (im1.map (ledV g im2)) := by
  refine ⟨by rw [List.length_map, h1.len], fun y hy => ?_, fun p hp => ?_⟩
  · obtain ⟨z, _, rfl⟩ := List.mem_map.mp hy
    exact led_el hg h2.lens
  · rw [List.zip_map_right] at hp
    obtain ⟨q, hq, rfl⟩ := List.mem_map.mp hp
    show timesV g q.1 (ledV g im2 q.2) = _
    rw [← led_times h2 (h1.lens _ (List.of_mem_zip hq).2), h1.nil q hq, led_zero h2]
/-- the heads -/
def headV (n at_ : Nat) : List Int := (List.range n).map fun k => if k = at_ then 1 else 0
def headsV (n : Nat) : List (List Int) := (List.range n).map (headV n)
theorem dot_unit : ∀ (x : List Int) (a i : Nat), dotV x ((List.range' a x.length).map fun k => if k = i then (1 : Int) else 0) = if a ≤ i then x.getD (i - a) 0 else 0
  | [], a, i => by simp [dotV]
  | b :: x, a, i => by
    have ih := dot_unit x (a + 1) i
    show b * (if a = i then 1 else 0) + dotV x ((List.range' (a + 1) x.length).map fun k => if k = i then (1 : Int) else 0) = _
    rw [ih]
    by_cases h : a = i
    · subst h
      have h3 : ¬ a + 1 ≤ a := by omega
      simp only [if_true, if_neg h3]
      simp
    · by_cases h2 : a ≤ i
      · have h3 : a + 1 ≤ i := by omega
        have h4 : i - a = (i - (a + 1)) + 1 := by omega
        simp [h, h2, h3, h4]
      · have h3 : ¬ a + 1 ≤ i := by omega
        simp [h, h2, h3]
theorem headV_at {n a i : Nat} (hi : i < n) : (headV n a).getD i 0 = if i = a then 1 else 0 := by
  unfold headV
  rw [List.getD_eq_getElem?_getD, List.getElem?_map, List.getElem?_range hi]
  rfl
theorem headV_len (n a : Nat) : (headV n a).length = n := by simp [headV]
theorem heads_len {n : Nat} : ∀ y ∈ headsV n, y.length = n := fun y hy => by
  obtain ⟨k, _, rfl⟩ := List.mem_map.mp hy
  exact headV_len n k
theorem led_heads {g x : List Int} (hx : OkE g x) : ledV g (headsV g.length) x = x := by
  have hl : ∀ y ∈ headsV g.length, y.length = g.length := heads_len
  refine ext_getD (by rw [led_len hl, hx.len]) fun i hi => ?_
  rw [hx.len] at hi
  rw [led_at hi hl]
  have e : colV (headsV g.length) i = (List.range' 0 x.length).map fun k => if k = i then (1 : Int) else 0 := by
    unfold colV headsV
    rw [List.map_map, hx.len, ← List.range_eq_range']
    refine List.map_congr_left fun k _ => ?_
    show (headV g.length k).getD i 0 = _
    rw [headV_at hi]
    by_cases h : i = k
    · simp [h]
    · have h2 : ¬ k = i := fun e => h e.symm
      simp [h, h2]
  rw [e, dot_unit]
  obtain ⟨a, b⟩ := hx.get hi
  simp only [Nat.zero_le, if_true, Nat.sub_zero]
  exact Int.emod_eq_of_lt a b
theorem OkI.heads {g : List Int} (hg : OkR g) : OkI g g (headsV g.length) := by
  have el : ∀ k, OkE g (headV g.length k) := fun k => el_of_mod hg (headV_len _ _) fun i hi => by
    have t := hg.get hi
    refine ⟨if i = k then 1 else 0, ?_⟩
    rw [headV_at hi]
    by_cases h : i = k
    · rw [if_pos h, Int.emod_eq_of_lt (by omega) (by omega)]
    · rw [if_neg h]; simp
  refine ⟨by simp [headsV], fun y hy => ?_, fun p hp => ?_⟩
  · obtain ⟨k, _, rfl⟩ := List.mem_map.mp hy
    exact el k
  · obtain ⟨i, hi⟩ := List.getElem?_of_mem hp
    obtain ⟨g1, g2⟩ := List.getElem?_zip_eq_some.mp hi
    have hi' : i < g.length := (List.getElem?_eq_some_iff.mp g1).1
    have e1 : g.getD i 0 = p.1 := by rw [List.getD_eq_getElem?_getD, g1]; rfl
    have e2 : p.2 = headV g.length i := by
      unfold headsV at g2
      rw [List.getElem?_map, List.getElem?_range hi'] at g2
      exact (Option.some.inj g2).symm
    refine ext_getD (by rw [timesV_len g _ _ (by rw [e2]; exact headV_len _ _)]; simp [zeroV]) fun j hj => ?_
    have hj : j < g.length := by simpa [zeroV] using hj
    rw [zeroV_at, e2, timesV_at hj (headV_len _ _), headV_at hj]
    by_cases h : j = i
    · subst h
      simp [← e1]
    · simp [h]
/-- the law's image: each place's step, so many times -/
def imgV (n : Int) (g o : List Int) : List Int := (g.zip o).map fun p => p.1 / gcV n p.1 * p.2
theorem img_at {n : Int} {g o : List Int} {i : Nat} (hi : i < g.length) (hl : o.length = g.length) : (imgV n g o).getD i 0 = g.getD i 0 / gcV n (g.getD i 0) * o.getD i 0 := getD_zip (f := fun p => p.1 / gcV n p.1 * p.2) hi (by omega)
theorem gcV_dvd_left (n m : Int) (hm : 0 ≤ m) : gcV n m ∣ m := by
  unfold gcV
  rw [Int.ofNat_dvd_left]
  have := Nat.gcd_dvd_left m.toNat n.toNat
  have e : m.natAbs = m.toNat := by omega
  rw [e]; exact this
theorem gcV_dvd_right (n m : Int) (hn : 0 ≤ n) : gcV n m ∣ n := by
  unfold gcV
  rw [Int.ofNat_dvd_left]
  have := Nat.gcd_dvd_right m.toNat n.toNat
  have e : n.natAbs = n.toNat := by omega
  rw [e]; exact this
theorem img_el {n : Int} {g o : List Int} (hg : OkR g) (hl : o.length = g.length) (ho : ∀ i, i < g.length → 0 ≤ o.getD i 0 ∧ o.getD i 0 < gcV n (g.getD i 0)) : OkE g (imgV n g o) := by
  have ll : (imgV n g o).length = g.length := by simp [imgV, hl]
  refine el_of_mod hg ll fun i hi => ⟨(imgV n g o).getD i 0, ?_⟩
  have t := hg.get hi
  obtain ⟨a, b⟩ := ho i hi
  have gp := gcV_pos (n := n) (m := g.getD i 0) (by omega)
  obtain ⟨k, hk⟩ := gcV_dvd_left n (g.getD i 0) (by omega)
  rw [img_at hi hl]
  have e : g.getD i 0 / gcV n (g.getD i 0) = k := by
    conv => lhs; lhs; rw [hk]
    exact Int.mul_ediv_cancel_left k (by omega)
  rw [e]
  have kp : 0 < k := by
    apply Int.lt_of_not_ge
    intro h
    have := Int.mul_nonneg (Int.le_of_lt gp) (show 0 ≤ -k by omega)
    rw [Int.mul_neg] at this
    omega
  refine (Int.emod_eq_of_lt (Int.mul_nonneg (by omega) a) ?_).symm
  have : k * o.getD i 0 < k * gcV n (g.getD i 0) := Int.mul_lt_mul_of_pos_left b kp
  rw [Int.mul_comm k (gcV _ _), ← hk] at this
  exact this
theorem img_nil {n : Int} {g o : List Int} (hn : 0 ≤ n) (hg : OkR g) (hl : o.length = g.length) : timesV g n (imgV n g o) = zeroV g := by
  have ll : (imgV n g o).length = g.length := by simp [imgV, hl]
  refine ext_getD (by rw [timesV_len g _ _ ll]; simp [zeroV]) fun i hi => ?_
  have hi : i < g.length := by simpa [zeroV] using hi
  have t := hg.get hi
  rw [zeroV_at, timesV_at hi ll, img_at hi hl]
  have gp := gcV_pos (n := n) (m := g.getD i 0) (by omega)
  obtain ⟨k, hk⟩ := gcV_dvd_left n (g.getD i 0) (by omega)
  obtain ⟨j, hj⟩ := gcV_dvd_right n (g.getD i 0) hn
  have e : g.getD i 0 / gcV n (g.getD i 0) = k := by
    conv => lhs; lhs; rw [hk]
    exact Int.mul_ediv_cancel_left k (by omega)
  rw [e]
  apply Int.emod_eq_zero_of_dvd
  refine ⟨j * o.getD i 0, ?_⟩
  generalize o.getD i 0 = z
  conv => lhs; rw [hj]
  conv => rhs; lhs; rw [hk]
  generalize gcV n (g.getD i 0) = u
  simp only [Int.mul_assoc, Int.mul_left_comm, Int.mul_comm]
theorem OkI.at_ {s g : List Int} {im : List (List Int)} (h : OkI s g im) {i : Nat} (hi : i < s.length) : OkE g (im.getD i []) ∧ timesV g (s.getD i 0) (im.getD i []) = zeroV g := by
  have e1 : s[i]? = some (s.getD i 0) := by rw [List.getD_eq_getElem?_getD, List.getElem?_eq_getElem hi]; rfl
  have e2 : im[i]? = some (im.getD i []) := by rw [List.getD_eq_getElem?_getD, List.getElem?_eq_getElem (by rw [h.len]; exact hi)]; rfl
  exact ⟨h.el _ (List.mem_of_getElem? e2), h.nil (s.getD i 0, im.getD i []) (List.mem_of_getElem? (List.getElem?_zip_eq_some.mpr ⟨e1, e2⟩))⟩
theorem OkI.of_at {s g : List Int} {im : List (List Int)} (hl : im.length = s.length) (h : ∀ i, i < s.length → OkE g (im.getD i []) ∧ timesV g (s.getD i 0) (im.getD i []) = zeroV g) : OkI s g im := by
  have at_ : ∀ (i : Nat) (y : List Int), im[i]? = some y → im.getD i [] = y := fun i y e => by rw [List.getD_eq_getElem?_getD, e]; rfl
  refine ⟨hl, fun y hy => ?_, fun p hp => ?_⟩
  · obtain ⟨i, hi⟩ := List.getElem?_of_mem hy
    have hi' : i < s.length := by rw [← hl]; exact (List.getElem?_eq_some_iff.mp hi).1
    have := (h i hi').1
    rw [at_ i y hi] at this
    exact this
  · obtain ⟨i, hi⟩ := List.getElem?_of_mem hp
    obtain ⟨g1, g2⟩ := List.getElem?_zip_eq_some.mp hi
    have hi' : i < s.length := (List.getElem?_eq_some_iff.mp g1).1
    have := (h i hi').2
    rw [at_ i p.2 g2, List.getD_eq_getElem?_getD, g1] at this
    exact this
theorem OkG.at144 {s : List Int} (hs : OkG s) {i : Nat} (hi : i < s.length) : 2 ≤ s.getD i 0 ∧ s.getD i 0 ≤ 144 := by
  have e1 : s[i]? = some (s.getD i 0) := by rw [List.getD_eq_getElem?_getD, List.getElem?_eq_getElem hi]; rfl
  exact ⟨hs.ok.get hi, hs.most _ (List.mem_of_getElem? e1)⟩
theorem OkI.snoc {s g : List Int} {im : List (List Int)} {y : List Int} {i : Nat} (hl : im.length = i) (h : ∀ j, j < i → OkE g (im.getD j []) ∧ timesV g (s.getD j 0) (im.getD j []) = zeroV g) (h1 : OkE g y) (h2 : timesV g (s.getD i 0) y = zeroV g) :
    ∀ j, j < i + 1 → OkE g ((im ++ [y]).getD j []) ∧ timesV g (s.getD j 0) ((im ++ [y]).getD j []) = zeroV g := fun j hj => by
  by_cases e : j < i
  · rw [List.getD_eq_getElem?_getD, List.getElem?_append_left (by omega), ← List.getD_eq_getElem?_getD]
    exact h j e
  · have e2 : j = i := by omega
    subst e2
    have e3 : (im ++ [y]).getD j [] = y := by rw [List.getD_eq_getElem?_getD, List.getElem?_append_right (by omega)]; simp [hl]
    rw [e3]
    exact ⟨h1, h2⟩
/-- the rounds that the laws of maps draw -/
def rows52 : List (List Int) := [[2], [4], [2, 2], [6], [12], [2, 4], [3, 9], [5], [], [144], [2, 3, 4], [8, 2], [10, 14], [2, 2, 2, 3]]
theorem row52 : ∀ rs ∈ rows52, OkG rs := by
  intro rs h
  have d : ∀ rs ∈ rows52, (∀ n ∈ rs, 2 ≤ n) ∧ rs.length ≤ 7 ∧ (∀ n ∈ rs, n ≤ 144) ∧ rs.foldl (· * ·) 1 ≤ 144 := by decide +kernel
  obtain ⟨a, b, c, e⟩ := d rs h
  exact ⟨⟨a, b⟩, c, e⟩
end Mir

/-! Whole carries: plain mathematics. -/
namespace Mir
theorem mod_self_add {a b m : Int} : (a % m + b) % m = (a + b) % m := Int.emod_add_emod ..
theorem el_mod {lo v : List Int} (h : OkE lo v) {p : Nat} (hp : p < lo.length) : v.getD p 0 % lo.getD p 0 = v.getD p 0 := by
  obtain ⟨a, b⟩ := h.get hp
  exact Int.emod_eq_of_lt a b
theorem fold_if {lo : List Int} (c : Nat → Prop) [DecidablePred c] (v : Nat → List Int) : ∀ (l : List Nat) (a : List Int), a.length = lo.length → (∀ k ∈ l, (v k).length = lo.length) →
    (l.foldl (fun f k => if c k then putV lo f (v k) else f) a).length = lo.length ∧
    ∀ p, p < lo.length → a.getD p 0 % lo.getD p 0 = a.getD p 0 → (l.foldl (fun f k => if c k then putV lo f (v k) else f) a).getD p 0 = (a.getD p 0 + (l.map fun k => if c k then (v k).getD p 0 else 0).sum) % lo.getD p 0 := fun l => by
  induction l with
  | nil => intro a ha _; exact ⟨ha, fun p hp e => by simp only [List.foldl_nil, List.map_nil, List.sum_nil, Int.add_zero]; exact e.symm⟩
  | cons k l ih =>
    intro a ha hv
    have hk := hv k List.mem_cons_self
    rw [List.foldl_cons]
    by_cases hc : c k
    · rw [if_pos hc]
      obtain ⟨q1, q2⟩ := ih (putV lo a (v k)) (putV_len ha hk) fun j hj => hv j (List.mem_cons_of_mem _ hj)
      refine ⟨q1, fun p hp e => ?_⟩
      rw [q2 p hp (by rw [putV_at hp ha hk, Int.emod_emod_of_dvd _ (Int.dvd_refl _)]), putV_at hp ha hk, Int.emod_add_emod, List.map_cons, List.sum_cons, if_pos hc, Int.add_assoc]
    · rw [if_neg hc]
      obtain ⟨q1, q2⟩ := ih a ha fun j hj => hv j (List.mem_cons_of_mem _ hj)
      refine ⟨q1, fun p hp e => ?_⟩
      rw [q2 p hp e, List.map_cons, List.sum_cons, if_neg hc, Int.zero_add]
theorem fold_tm {lo : List Int} {α : Type} (w : α → Int) (v : α → List Int) : ∀ (l : List α) (a : List Int), a.length = lo.length → (∀ k ∈ l, (v k).length = lo.length) →
    (l.foldl (fun f k => putV lo f (timesV lo (w k) (v k))) a).length = lo.length ∧
    ∀ p, p < lo.length → a.getD p 0 % lo.getD p 0 = a.getD p 0 → (l.foldl (fun f k => putV lo f (timesV lo (w k) (v k))) a).getD p 0 = (a.getD p 0 + (l.map fun k => w k * (v k).getD p 0).sum) % lo.getD p 0 := fun l => by
  induction l with
  | nil => intro a ha _; exact ⟨ha, fun p hp e => by simp only [List.foldl_nil, List.map_nil, List.sum_nil, Int.add_zero]; exact e.symm⟩
  | cons k l ih =>
    intro a ha hv
    have hk := hv k List.mem_cons_self
    have ht := timesV_len lo (v k) (w k) hk
    rw [List.foldl_cons]
    obtain ⟨q1, q2⟩ := ih (putV lo a (timesV lo (w k) (v k))) (putV_len ha ht) fun j hj => hv j (List.mem_cons_of_mem _ hj)
    refine ⟨q1, fun p hp e => ?_⟩
    rw [q2 p hp (by rw [putV_at hp ha ht, Int.emod_emod_of_dvd _ (Int.dvd_refl _)]), putV_at hp ha ht, Int.emod_add_emod, List.map_cons, List.sum_cons, timesV_at hp hk]
    have e1 : a.getD p 0 + w k * (v k).getD p 0 % lo.getD p 0 + (l.map fun k => w k * (v k).getD p 0).sum = w k * (v k).getD p 0 % lo.getD p 0 + (a.getD p 0 + (l.map fun k => w k * (v k).getD p 0).sum) := by omega
    rw [e1, Int.emod_add_emod]
    congr 1
    omega
/-- a carry's place, before it is rested -/
def carI (up : List Int) (ps : List (List Int)) (L : List ((Nat × Nat) × List Int)) (x y : List Int) (p : Nat) : Int :=
  ((List.range up.length).map fun k => if up.getD k 0 ≤ x.getD k 0 + y.getD k 0 then (ps.getD k []).getD p 0 else 0).sum + (L.map fun q => x.getD q.1.1 0 * y.getD q.1.2 0 * q.2.getD p 0).sum
theorem carryV_mod {lo up x y : List Int} {ps : List (List Int)} {L : List ((Nat × Nat) × List Int)} (h : OkP lo up ps L) : (carryV lo up ps L x y).length = lo.length ∧ ∀ p, p < lo.length → (carryV lo up ps L x y).getD p 0 = carI up ps L x y p % lo.getD p 0 := by
  obtain ⟨a1, a2⟩ := fold_if (lo := lo) (fun k => up.getD k 0 ≤ x.getD k 0 + y.getD k 0) (fun k => ps.getD k []) (List.range up.length) (zeroV lo) (by simp [zeroV]) fun k hk => (h.ps k (List.mem_range.mp hk)).len
  obtain ⟨b1, b2⟩ := fold_tm (lo := lo) (fun q : (Nat × Nat) × List Int => x.getD q.1.1 0 * y.getD q.1.2 0) (fun q => q.2) L _ a1 fun q hq => (h.val q hq).len
  refine ⟨b1, fun p hp => ?_⟩
  have z : (zeroV lo).getD p 0 % lo.getD p 0 = (zeroV lo).getD p 0 := by rw [zeroV_at]; simp
  have e1 := a2 p hp z
  have e2 := b2 p hp (by rw [e1, Int.emod_emod_of_dvd _ (Int.dvd_refl _)])
  unfold carryV
  rw [e2, e1, Int.emod_add_emod, zeroV_at, Int.zero_add]
  rfl
/-- the carries of parts and a relabeling -/
def wholeV (lo up : List Int) (ps : List (List Int)) (L : List ((Nat × Nat) × List Int)) (hf : List Int → List Int) (x y : List Int) : List Int := putV lo (carryV lo up ps L x y) (ownV lo up hf x y)
def OkH (lo up : List Int) (hf : List Int → List Int) : Prop := ∀ x, OkE up x → OkE lo (hf x)
theorem own_mod {lo up x y : List Int} {hf : List Int → List Int} (g : OkR up) (hh : OkH lo up hf) (hx : OkE up x) (hy : OkE up y) : (ownV lo up hf x y).length = lo.length ∧ ∀ p, p < lo.length → (ownV lo up hf x y).getD p 0 = ((hf x).getD p 0 + (hf y).getD p 0 - (hf (putV up x y)).getD p 0) % lo.getD p 0 := by
  have a := (hh x hx).len
  have b := (hh y hy).len
  have c := (hh _ (put_el g hx.len hy.len)).len
  have tl := timesV_len lo _ (-1) c
  refine ⟨putV_len (putV_len a b) tl, fun p hp => ?_⟩
  unfold ownV
  rw [putV_at hp (putV_len a b) tl, putV_at hp a b, timesV_at hp c, Int.emod_add_emod]
  have e1 : (hf x).getD p 0 + (hf y).getD p 0 + -1 * (hf (putV up x y)).getD p 0 % lo.getD p 0 = -1 * (hf (putV up x y)).getD p 0 % lo.getD p 0 + ((hf x).getD p 0 + (hf y).getD p 0) := by omega
  rw [e1, Int.emod_add_emod]
  congr 1
  omega
theorem whole_mod {lo up x y : List Int} {ps : List (List Int)} {L : List ((Nat × Nat) × List Int)} {hf : List Int → List Int} (h : OkP lo up ps L) (g : OkR up) (hh : OkH lo up hf) (hx : OkE up x) (hy : OkE up y) : (wholeV lo up ps L hf x y).length = lo.length ∧ ∀ p, p < lo.length →
    (wholeV lo up ps L hf x y).getD p 0 = (carI up ps L x y p + ((hf x).getD p 0 + (hf y).getD p 0 - (hf (putV up x y)).getD p 0)) % lo.getD p 0 := by
  obtain ⟨a1, a2⟩ := carryV_mod (x := x) (y := y) h
  obtain ⟨b1, b2⟩ := own_mod g hh hx hy
  refine ⟨putV_len a1 b1, fun p hp => ?_⟩
  unfold wholeV
  rw [putV_at hp a1 b1, a2 p hp, b2 p hp, ← Int.add_emod]
theorem whole_el {lo up x y : List Int} {ps : List (List Int)} {L : List ((Nat × Nat) × List Int)} {hf : List Int → List Int} (h : OkP lo up ps L) (gl : OkR lo) (g : OkR up) (hh : OkH lo up hf) (hx : OkE up x) (hy : OkE up y) : OkE lo (wholeV lo up ps L hf x y) :=
  let ⟨a, b⟩ := whole_mod h g hh hx hy
  el_of_mod gl a fun p hp => ⟨_, b p hp⟩
/-- carries that keep the rule for three -/
def Three (lo up : List Int) (c : List Int → List Int → List Int) : Prop := ∀ x y z, OkE up x → OkE up y → OkE up z → putV lo (c x y) (c (putV up x y) z) = putV lo (c y z) (c x (putV up y z))
/-- odd parts that both their rounds bring to nought -/
def OkQ (lo up : List Int) (L : List ((Nat × Nat) × List Int)) : Prop := ∀ q ∈ L, timesV lo (up.getD q.1.1 0) q.2 = zeroV lo ∧ timesV lo (up.getD q.1.2 0) q.2 = zeroV lo
theorem dvd_sums {α : Type} {m : Int} (A B C E : α → Int) : ∀ l : List α, (∀ a ∈ l, m ∣ (A a + B a) - (C a + E a)) → m ∣ ((l.map A).sum + (l.map B).sum) - ((l.map C).sum + (l.map E).sum)
  | [], _ => by simp
  | a :: l, h => by
    have ih := dvd_sums A B C E l fun b hb => h b (List.mem_cons_of_mem _ hb)
    have q := h a List.mem_cons_self
    simp only [List.map_cons, List.sum_cons]
    have e : (A a + (l.map A).sum + (B a + (l.map B).sum)) - (C a + (l.map C).sum + (E a + (l.map E).sum)) = ((A a + B a) - (C a + E a)) + (((l.map A).sum + (l.map B).sum) - ((l.map C).sum + (l.map E).sum)) := by omega
    rw [e]
    exact Int.dvd_add q ih
theorem mod_small {a n : Int} (h0 : 0 ≤ a) (h1 : a < n + n) (hn : 0 < n) : a % n = if n ≤ a then a - n else a := by
  split
  · have e : a = (a - n) + n * 1 := by omega
    rw [e, Int.add_mul_emod_self_left, Int.emod_eq_of_lt (by omega) (by omega)]
    omega
  · exact Int.emod_eq_of_lt h0 (by omega)
theorem digit {x y z n a : Int} (x0 : 0 ≤ x) (x1 : x < n) (y0 : 0 ≤ y) (y1 : y < n) (z0 : 0 ≤ z) (z1 : z < n) :
    ((if n ≤ x + y then a else 0) + (if n ≤ (x + y) % n + z then a else 0)) = ((if n ≤ y + z then a else 0) + (if n ≤ x + (y + z) % n then a else 0)) := by
  rw [mod_small (a := x + y) (by omega) (by omega) (by omega), mod_small (a := y + z) (by omega) (by omega) (by omega)]
  by_cases h1 : n ≤ x + y <;> by_cases h2 : n ≤ y + z <;> simp only [h1, h2, if_true, if_false]
  · by_cases h3 : n ≤ x + y - n + z
    · rw [if_pos h3, if_pos (by omega)]
    · rw [if_neg h3, if_neg (by omega)]
  · rw [if_neg (by omega), if_pos (by omega)]; omega
  · rw [if_pos (by omega), if_neg (by omega)]; omega
  · by_cases h3 : n ≤ x + y + z
    · rw [if_pos h3, if_pos (by omega)]
    · rw [if_neg h3, if_neg (by omega)]
theorem pair_dvd {m n k x y z x' y' z' a : Int} (h1 : m ∣ n * a) (h2 : m ∣ k * a) : m ∣ (x * y' * a + (x + y) % n * z' * a) - (y * z' * a + x * ((y' + z') % k) * a) := by
  obtain ⟨u, hu⟩ := h1
  obtain ⟨v, hv⟩ := h2
  have e1 := Int.emod_add_mul_ediv (x + y) n
  have e2 := Int.emod_add_mul_ediv (y' + z') k
  generalize (x + y) / n = c at e1
  generalize (y' + z') / k = d at e2
  have f1 : (x + y) % n = x + y - n * c := by omega
  have f2 : (y' + z') % k = y' + z' - k * d := by omega
  rw [f1, f2]
  have g1 : (x + y - n * c) * z' * a = x * z' * a + y * z' * a - m * (u * (c * z')) := by
    rw [← Int.mul_assoc m u, ← hu, Int.sub_mul, Int.add_mul, Int.sub_mul, Int.add_mul]
    have : n * c * z' * a = n * a * (c * z') := by simp only [Int.mul_assoc, Int.mul_comm, Int.mul_left_comm]
    omega
  have g2 : x * (y' + z' - k * d) * a = x * y' * a + x * z' * a - m * (v * (d * x)) := by
    rw [← Int.mul_assoc m v, ← hv, Int.mul_sub, Int.mul_add, Int.sub_mul, Int.add_mul]
    have : x * (k * d) * a = k * a * (d * x) := by simp only [Int.mul_assoc, Int.mul_comm, Int.mul_left_comm]
    omega
  rw [g1, g2]
  refine ⟨v * (d * x) - u * (c * z'), ?_⟩
  rw [Int.mul_sub]
  omega
theorem dvd_join {m a1 a2 a3 a4 b1 b2 b3 b4 : Int} (d1 : m ∣ a1 + a2 - (a3 + a4)) (d2 : m ∣ b1 + b2 - (b3 + b4)) : m ∣ a1 + b1 + (a2 + b2) - (a3 + b3 + (a4 + b4)) := by
  have := Int.dvd_add d1 d2
  have e : a1 + b1 + (a2 + b2) - (a3 + b3 + (a4 + b4)) = a1 + a2 - (a3 + a4) + (b1 + b2 - (b3 + b4)) := by omega
  rw [e]
  exact this
theorem car_three {lo up x y z : List Int} {ps : List (List Int)} {L : List ((Nat × Nat) × List Int)} (h : OkP lo up ps L) (k : OkQ lo up L) (hx : OkE up x) (hy : OkE up y) (hz : OkE up z) {p : Nat} (hp : p < lo.length) :
    lo.getD p 0 ∣ (carI up ps L x y p + carI up ps L (putV up x y) z p) - (carI up ps L y z p + carI up ps L x (putV up y z) p) := by
  have d1 := dvd_sums (m := lo.getD p 0) (fun k => if up.getD k 0 ≤ x.getD k 0 + y.getD k 0 then (ps.getD k []).getD p 0 else 0) (fun k => if up.getD k 0 ≤ (putV up x y).getD k 0 + z.getD k 0 then (ps.getD k []).getD p 0 else 0)
    (fun k => if up.getD k 0 ≤ y.getD k 0 + z.getD k 0 then (ps.getD k []).getD p 0 else 0) (fun k => if up.getD k 0 ≤ x.getD k 0 + (putV up y z).getD k 0 then (ps.getD k []).getD p 0 else 0) (List.range up.length) (fun k hk => by
      have hk := List.mem_range.mp hk
      obtain ⟨x0, x1⟩ := hx.get hk
      obtain ⟨y0, y1⟩ := hy.get hk
      obtain ⟨z0, z1⟩ := hz.get hk
      have e := digit (a := (ps.getD k []).getD p 0) x0 x1 y0 y1 z0 z1
      simp only [putV_at hk hx.len hy.len, putV_at hk hy.len hz.len]
      rw [e, Int.sub_self]
      exact Int.dvd_zero _)
  have d2 := dvd_sums (m := lo.getD p 0) (fun q : (Nat × Nat) × List Int => x.getD q.1.1 0 * y.getD q.1.2 0 * q.2.getD p 0) (fun q => (putV up x y).getD q.1.1 0 * z.getD q.1.2 0 * q.2.getD p 0)
    (fun q => y.getD q.1.1 0 * z.getD q.1.2 0 * q.2.getD p 0) (fun q => x.getD q.1.1 0 * (putV up y z).getD q.1.2 0 * q.2.getD p 0) L (fun q hq => by
      obtain ⟨i1, i2⟩ := h.at_ hq
      obtain ⟨k1, k2⟩ := k q hq
      have l1 := (h.val q hq).len
      have c1 := congrArg (fun l => l.getD p 0) k1
      have c2 := congrArg (fun l => l.getD p 0) k2
      simp only [zeroV_at, timesV_at hp l1] at c1 c2
      simp only [putV_at (show q.1.1 < up.length by omega) hx.len hy.len, putV_at i2 hy.len hz.len]
      exact pair_dvd (x' := 0) (z := 0) (Int.dvd_of_emod_eq_zero c1) (Int.dvd_of_emod_eq_zero c2))
  unfold carI
  exact dvd_join d1 d2
theorem putV_assoc {rs x y z : List Int} (h1 : x.length = rs.length) (h2 : y.length = rs.length) (h3 : z.length = rs.length) : putV rs (putV rs x y) z = putV rs x (putV rs y z) := by
  have l1 := putV_len h1 h2
  have l2 := putV_len h2 h3
  refine ext_getD (by rw [putV_len l1 h3, putV_len h1 l2]) fun i hi => ?_
  rw [putV_len h1 l2] at hi
  rw [putV_at hi l1 h3, putV_at hi h1 h2, putV_at hi h1 l2, putV_at hi h2 h3, Int.emod_add_emod, Int.add_emod_emod, Int.add_assoc]
theorem whole_three {lo up : List Int} {ps : List (List Int)} {L : List ((Nat × Nat) × List Int)} {hf : List Int → List Int} (h : OkP lo up ps L) (k : OkQ lo up L) (g : OkR up) (hh : OkH lo up hf) : Three lo up (wholeV lo up ps L hf) := fun x y z hx hy hz => by
  have hxy := put_el g hx.len hy.len
  have hyz := put_el g hy.len hz.len
  obtain ⟨a1, a2⟩ := whole_mod h g hh hx hy
  obtain ⟨b1, b2⟩ := whole_mod h g hh hxy hz
  obtain ⟨c1, c2⟩ := whole_mod h g hh hy hz
  obtain ⟨d1, d2⟩ := whole_mod h g hh hx hyz
  refine ext_getD (by rw [putV_len a1 b1, putV_len c1 d1]) fun p hp => ?_
  rw [putV_len c1 d1] at hp
  rw [putV_at hp a1 b1, putV_at hp c1 d1, a2 p hp, b2 p hp, c2 p hp, d2 p hp, ← Int.add_emod, ← Int.add_emod]
  apply mod_of_dvd
  have q := car_three h k hx hy hz hp
  rw [putV_assoc hx.len hy.len hz.len]
  generalize carI up ps L x y p = A at *
  generalize carI up ps L (putV up x y) z p = B at *
  generalize carI up ps L y z p = C at *
  generalize carI up ps L x (putV up y z) p = E at *
  have e : ∀ u v w s t r : Int, A + (u + v - w) + (B + (w + s - t)) - (C + (v + s - r) + (E + (u + r - t))) = (A + B) - (C + E) := fun u v w s t r => by omega
  rw [e]
  exact q
/-- so many times the head, weighed -/
def weighV (lo up : List Int) (c : List Int → List Int → List Int) (i : Nat) : List Int := (List.range (up.getD i 0).toNat).foldl (fun f k => putV lo f (c (timesV up (k : Nat) (headV up.length i)) (headV up.length i))) (zeroV lo)
theorem head_el {up : List Int} (h : OkR up) (i : Nat) : OkE up (headV up.length i) := el_of_mod h (headV_len _ _) fun j hj => by
  have t := h.get hj
  refine ⟨if j = i then 1 else 0, ?_⟩
  rw [headV_at hj]
  by_cases e : j = i
  · rw [if_pos e, Int.emod_eq_of_lt (by omega) (by omega)]
  · rw [if_neg e]; simp
theorem weigh_mod {lo up : List Int} {c : List Int → List Int → List Int} {i : Nat} (g : OkR up) (hc : ∀ x y, OkE up x → OkE up y → (c x y).length = lo.length) :
    (weighV lo up c i).length = lo.length ∧ ∀ p, p < lo.length → (weighV lo up c i).getD p 0 = ((List.range (up.getD i 0).toNat).map fun k : Nat => (c (timesV up k (headV up.length i)) (headV up.length i)).getD p 0).sum % lo.getD p 0 := by
  have cl : ∀ k : Nat, (c (timesV up k (headV up.length i)) (headV up.length i)).length = lo.length := fun k => hc _ _ (times_el g (headV_len _ _)) (head_el g i)
  have e : weighV lo up c i = totalV lo ((List.range (up.getD i 0).toNat).map fun k : Nat => c (timesV up k (headV up.length i)) (headV up.length i)) := by
    unfold weighV totalV
    rw [List.foldl_map]
  have ln : ∀ y ∈ (List.range (up.getD i 0).toNat).map (fun k : Nat => c (timesV up k (headV up.length i)) (headV up.length i)), y.length = lo.length := fun y hy => by
    obtain ⟨k, _, rfl⟩ := List.mem_map.mp hy
    exact cl k
  refine ⟨by rw [e]; exact totalV_len ln, fun p hp => ?_⟩
  rw [e, totalV_at hp ln]
  unfold colV
  rw [List.map_map]
  rfl
theorem weigh_el {lo up : List Int} {c : List Int → List Int → List Int} {i : Nat} (gl : OkR lo) (g : OkR up) (hc : ∀ x y, OkE up x → OkE up y → (c x y).length = lo.length) : OkE lo (weighV lo up c i) :=
  let ⟨a, b⟩ := weigh_mod (i := i) g hc
  el_of_mod gl a fun p hp => ⟨_, b p hp⟩
theorem mul_head {up : List Int} {i j k : Nat} (hj : j < up.length) (hk : (k : Int) ≤ up.getD i 0) (g : OkR up) : (timesV up (k : Nat) (headV up.length i)).getD j 0 = if j = i then (k : Int) % up.getD i 0 else 0 := by
  rw [timesV_at hj (headV_len _ _), headV_at hj]
  by_cases e : j = i
  · subst e; simp
  · simp [e]
theorem sum_zero {α : Type} (f : α → Int) : ∀ l : List α, (∀ a ∈ l, f a = 0) → (l.map f).sum = 0
  | [], _ => rfl
  | a :: l, h => by rw [List.map_cons, List.sum_cons, h a List.mem_cons_self, sum_zero f l fun b hb => h b (List.mem_cons_of_mem _ hb)]; rfl
theorem sum_one {i : Nat} (f : Nat → Int) : ∀ l : List Nat, l.Nodup → i ∈ l → (∀ a ∈ l, a ≠ i → f a = 0) → (l.map f).sum = f i
  | [], _, h, _ => nomatch h
  | a :: l, hn, hi, h => by
    rw [List.nodup_cons] at hn
    rw [List.map_cons, List.sum_cons]
    rcases List.mem_cons.mp hi with e | e
    · subst e
      rw [sum_zero f l fun b hb => h b (List.mem_cons_of_mem _ hb) fun z => hn.1 (z ▸ hb)]; simp
    · have ne : a ≠ i := fun z => hn.1 (z ▸ e)
      rw [h a List.mem_cons_self ne, sum_one f l hn.2 e fun b hb => h b (List.mem_cons_of_mem _ hb)]; simp
theorem car_head {lo up : List Int} {ps : List (List Int)} {L : List ((Nat × Nat) × List Int)} (h : OkP lo up ps L) (g : OkR up) {i k p : Nat} (hi : i < up.length) (hk : (k : Int) < up.getD i 0) :
    carI up ps L (timesV up (k : Nat) (headV up.length i)) (headV up.length i) p = if up.getD i 0 ≤ (k : Int) + 1 then (ps.getD i []).getD p 0 else 0 := by
  unfold carI
  have km : (k : Int) % up.getD i 0 = k := Int.emod_eq_of_lt (by omega) hk
  rw [sum_one (i := i) _ (List.range up.length) List.nodup_range (List.mem_range.mpr hi) (fun j hj ne => by
    have hj := List.mem_range.mp hj
    have t := g.get hj
    rw [mul_head hj (by omega) g, headV_at hj, if_neg ne, if_neg ne, if_neg (by omega)]), sum_zero _ L (fun q hq => by
    obtain ⟨i1, i2⟩ := h.at_ hq
    rw [mul_head (show q.1.1 < up.length by omega) (by omega) g, headV_at i2]
    by_cases e : q.1.1 = i
    · have : ¬ q.1.2 = i := by omega
      rw [if_neg this]; simp
    · rw [if_neg e]; simp), Int.add_zero, mul_head hi (by omega) g, headV_at hi, if_pos rfl, if_pos rfl, km]
theorem times_nil {up : List Int} (g : OkR up) (i : Nat) (hi : i < up.length) : timesV up (up.getD i 0) (headV up.length i) = zeroV up := ext_getD (by rw [timesV_len up _ _ (headV_len _ _)]; simp [zeroV]) fun j hj => by
  have hj : j < up.length := by simpa [zeroV] using hj
  rw [zeroV_at, timesV_at hj (headV_len _ _), headV_at hj]
  by_cases e : j = i
  · subst e; simp
  · simp [e]
theorem times_zero {up x : List Int} (hl : x.length = up.length) : timesV up 0 x = zeroV up := ext_getD (by rw [timesV_len up _ _ hl]; simp [zeroV]) fun j hj => by
  have hj : j < up.length := by simpa [zeroV] using hj
  rw [zeroV_at, timesV_at hj hl]
  simp
/-- what is weighed of whole carries -/
theorem weigh_whole {lo up : List Int} {ps : List (List Int)} {L : List ((Nat × Nat) × List Int)} {hf : List Int → List Int} (h : OkP lo up ps L) (g : OkR up) (hh : OkH lo up hf) {i : Nat} (hi : i < up.length) :
    weighV lo up (wholeV lo up ps L hf) i = putV lo (ps.getD i []) (timesV lo (up.getD i 0) (hf (headV up.length i))) := by
  obtain ⟨w1, w2⟩ := weigh_mod (i := i) g fun x y hx hy => (whole_mod h g hh hx hy).1
  have he := hh _ (head_el g i)
  have tl := timesV_len lo _ (up.getD i 0) he.len
  have hpi := h.ps i hi
  have t2 := g.get hi
  refine ext_getD (by rw [w1, putV_len hpi.len tl]) fun p hp => ?_
  rw [putV_len hpi.len tl] at hp
  rw [w2 p hp, putV_at hp hpi.len tl, timesV_at hp he.len, Int.add_emod_emod]
  have key : ∀ t : Nat, (t : Int) ≤ up.getD i 0 → lo.getD p 0 ∣ ((List.range t).map fun k : Nat => (wholeV lo up ps L hf (timesV up k (headV up.length i)) (headV up.length i)).getD p 0).sum -
      ((if up.getD i 0 ≤ (t : Int) then (ps.getD i []).getD p 0 else 0) + (t : Int) * (hf (headV up.length i)).getD p 0 + ((hf (zeroV up)).getD p 0 - (hf (timesV up (t : Nat) (headV up.length i))).getD p 0)) := fun t => by
    induction t with
    | zero =>
      intro _
      have e0 : ((0 : Nat) : Int) = 0 := rfl
      rw [e0, times_zero (headV_len _ _), if_neg (by omega)]
      simp
    | succ t ih =>
      intro ht
      have ih := ih (by omega)
      have hk : (t : Int) < up.getD i 0 := by omega
      rw [if_neg (by omega)] at ih
      obtain ⟨_, m2⟩ := whole_mod h g hh (times_el (n := (t : Nat)) g (headV_len up.length i)) (head_el g i)
      have m := m2 p hp
      rw [car_head h g hi hk, times_succ (headV_len _ _)] at m
      rw [List.range_succ, List.map_append, List.sum_append, List.map_singleton, List.sum_singleton, m]
      have e1 : ((t + 1 : Nat) : Int) = (t : Int) + 1 := by omega
      rw [e1] at m ht ⊢
      generalize ((List.range t).map fun k : Nat => (wholeV lo up ps L hf (timesV up k (headV up.length i)) (headV up.length i)).getD p 0).sum = S at *
      generalize (if up.getD i 0 ≤ (t : Int) + 1 then (ps.getD i []).getD p 0 else 0) = A at *
      generalize (hf (timesV up (t : Nat) (headV up.length i))).getD p 0 = B at *
      generalize (hf (timesV up ((t : Int) + 1) (headV up.length i))).getD p 0 = C at *
      generalize (hf (headV up.length i)).getD p 0 = E at *
      generalize (hf (zeroV up)).getD p 0 = Z at *
      have f := Int.emod_add_mul_ediv (A + (B + E - C)) (lo.getD p 0)
      obtain ⟨u, hu⟩ := ih
      refine ⟨u - (A + (B + E - C)) / lo.getD p 0, ?_⟩
      rw [Int.mul_sub, ← hu]
      have e2 : ((t : Int) + 1) * E = (t : Int) * E + E := by rw [Int.add_mul, Int.one_mul]
      rw [e2]
      omega
  have q := key (up.getD i 0).toNat (by omega)
  have en : (((up.getD i 0).toNat : Nat) : Int) = up.getD i 0 := by omega
  rw [en, times_nil g i hi, if_pos (Int.le_refl _), Int.sub_self, Int.add_zero] at q
  exact mod_of_dvd q
theorem rest_shift {lo a b : List Int} {n : Int} (gl : OkR lo) (hn : 0 ≤ n) (ha : a.length = lo.length) (hb : b.length = lo.length) : restV lo n (putV lo a (timesV lo n b)) = restV lo n a := by
  have tl := timesV_len lo b n hb
  have pl := putV_len ha tl
  refine ext_getD (by simp [restV, pl, ha]) fun p hp => ?_
  have hp : p < lo.length := by simpa [restV, ha] using hp
  have r : ∀ v : List Int, v.length = lo.length → (restV lo n v).getD p 0 = v.getD p 0 % gcV n (lo.getD p 0) := fun v hv => getD_zip (f := fun p => p.1 % gcV n p.2) (by omega) hp
  rw [r _ pl, r _ ha, putV_at hp ha tl, timesV_at hp hb]
  have t := gl.get hp
  have d1 := gcV_dvd_left n (lo.getD p 0) (by omega)
  have d2 := gcV_dvd_right n (lo.getD p 0) hn
  rw [Int.emod_emod_of_dvd _ d1]
  apply mod_of_dvd
  have e : a.getD p 0 + n * b.getD p 0 % lo.getD p 0 - a.getD p 0 = n * b.getD p 0 % lo.getD p 0 := by omega
  rw [e]
  obtain ⟨u, hu⟩ := d1
  obtain ⟨v, hv⟩ := d2
  have f := Int.emod_add_mul_ediv (n * b.getD p 0) (lo.getD p 0)
  refine ⟨v * b.getD p 0 - u * (n * b.getD p 0 / lo.getD p 0), ?_⟩
  rw [Int.mul_sub, ← Int.mul_assoc, ← Int.mul_assoc, ← hv, ← hu]
  omega
/-- two carries, the second one so many times -/
def addC (lo : List Int) (s : Int) (c e : List Int → List Int → List Int) (x y : List Int) : List Int := putV lo (c x y) (timesV lo s (e x y))
theorem add_swap {rs a b c d : List Int} (h1 : a.length = rs.length) (h2 : b.length = rs.length) (h3 : c.length = rs.length) (h4 : d.length = rs.length) : putV rs (putV rs a b) (putV rs c d) = putV rs (putV rs a c) (putV rs b d) := by
  refine ext_getD (by rw [putV_len (putV_len h1 h2) (putV_len h3 h4), putV_len (putV_len h1 h3) (putV_len h2 h4)]) fun i hi => ?_
  rw [putV_len (putV_len h1 h3) (putV_len h2 h4)] at hi
  rw [putV_at hi (putV_len h1 h2) (putV_len h3 h4), putV_at hi (putV_len h1 h3) (putV_len h2 h4), putV_at hi h1 h2, putV_at hi h3 h4, putV_at hi h1 h3, putV_at hi h2 h4, ← Int.add_emod, ← Int.add_emod]
  congr 1
  omega
theorem times_put {rs a b : List Int} {s : Int} (h1 : a.length = rs.length) (h2 : b.length = rs.length) : timesV rs s (putV rs a b) = putV rs (timesV rs s a) (timesV rs s b) := by
  have t1 := timesV_len rs a s h1
  have t2 := timesV_len rs b s h2
  refine ext_getD (by rw [timesV_len rs _ s (putV_len h1 h2), putV_len t1 t2]) fun i hi => ?_
  rw [putV_len t1 t2] at hi
  rw [timesV_at hi (putV_len h1 h2), putV_at hi h1 h2, putV_at hi t1 t2, timesV_at hi h1, timesV_at hi h2, ← Int.add_emod, ← Int.mul_add, Int.mul_emod, Int.emod_emod_of_dvd _ (Int.dvd_refl _), ← Int.mul_emod]
theorem three_add {lo up : List Int} {s : Int} {c e : List Int → List Int → List Int} (g : OkR up) (hc : ∀ x y, OkE up x → OkE up y → (c x y).length = lo.length) (he : ∀ x y, OkE up x → OkE up y → (e x y).length = lo.length) (h1 : Three lo up c) (h2 : Three lo up e) : Three lo up (addC lo s c e) := fun x y z hx hy hz => by
  have hxy := put_el g hx.len hy.len
  have hyz := put_el g hy.len hz.len
  have tl := fun x y (hx : OkE up x) (hy : OkE up y) => timesV_len lo (e x y) s (he x y hx hy)
  unfold addC
  rw [add_swap (hc _ _ hx hy) (tl _ _ hx hy) (hc _ _ hxy hz) (tl _ _ hxy hz), add_swap (hc _ _ hy hz) (tl _ _ hy hz) (hc _ _ hx hyz) (tl _ _ hx hyz), h1 x y z hx hy hz, ← times_put (he _ _ hx hy) (he _ _ hxy hz), h2 x y z hx hy hz, times_put (he _ _ hy hz) (he _ _ hx hyz)]
theorem weigh_add {lo up : List Int} {s : Int} {c e : List Int → List Int → List Int} {i : Nat} (g : OkR up) (hc : ∀ x y, OkE up x → OkE up y → (c x y).length = lo.length) (he : ∀ x y, OkE up x → OkE up y → (e x y).length = lo.length) :
    weighV lo up (addC lo s c e) i = putV lo (weighV lo up c i) (timesV lo s (weighV lo up e i)) := by
  have tl := fun x y (hx : OkE up x) (hy : OkE up y) => timesV_len lo (e x y) s (he x y hx hy)
  obtain ⟨a1, a2⟩ := weigh_mod (i := i) g hc
  obtain ⟨b1, b2⟩ := weigh_mod (i := i) g he
  obtain ⟨d1, d2⟩ := weigh_mod (i := i) (c := addC lo s c e) g fun x y hx hy => putV_len (hc x y hx hy) (tl x y hx hy)
  have bt := timesV_len lo _ s b1
  refine ext_getD (by rw [d1, putV_len a1 bt]) fun p hp => ?_
  rw [putV_len a1 bt] at hp
  rw [d2 p hp, putV_at hp a1 bt, timesV_at hp b1, a2 p hp, b2 p hp, ← Int.add_emod, Int.add_emod, Int.mul_emod, Int.emod_emod_of_dvd _ (Int.dvd_refl _), ← Int.mul_emod, ← Int.add_emod]
  apply mod_of_dvd
  generalize List.range (up.getD i 0).toNat = l
  induction l with
  | nil => simp
  | cons k l ih =>
    simp only [List.map_cons, List.sum_cons]
    have hx := times_el (n := (k : Nat)) g (headV_len up.length i)
    have hy := head_el g i
    have ea : (addC lo s c e (timesV up (k : Nat) (headV up.length i)) (headV up.length i)).getD p 0 = ((c (timesV up (k : Nat) (headV up.length i)) (headV up.length i)).getD p 0 + s * (e (timesV up (k : Nat) (headV up.length i)) (headV up.length i)).getD p 0 % lo.getD p 0) % lo.getD p 0 := by
      unfold addC
      rw [putV_at hp (hc _ _ hx hy) (tl _ _ hx hy), timesV_at hp (he _ _ hx hy)]
    rw [ea, Int.add_emod_emod]
    generalize (c (timesV up (k : Nat) (headV up.length i)) (headV up.length i)).getD p 0 = A
    generalize (e (timesV up (k : Nat) (headV up.length i)) (headV up.length i)).getD p 0 = B
    have f := Int.emod_add_mul_ediv (A + s * B) (lo.getD p 0)
    obtain ⟨u, hu⟩ := ih
    refine ⟨u - (A + s * B) / lo.getD p 0, ?_⟩
    rw [Int.mul_sub, ← hu, Int.mul_add]
    omega
theorem fillKQ {κ : Type} [DecidableEq κ] {N : Nat} {α : Type} {Q : κ → List Int → Prop} {f : D → Env → Oc} (A : α → D) (kx : α → κ) (P : List (κ × List Int) → Env → Prop) : ∀ {X : List α} {L : List (κ × List Int)} {r : Env}, L.length + X.length ≤ N → (X.map kx).Nodup → (∀ a ∈ X, kx a ∉ L.map (·.1)) →
    (∀ L, L.length < N → ∀ a ∈ X, kx a ∉ L.map (·.1) → ∀ r, P L r → ∃ v r', Q (kx a) v ∧ f (A a) r = .nx r' ∧ P (setA L (kx a) v) r') → P L r →
    ∃ L' r', forD f (X.map A) r = .nx r' ∧ P (L ++ L') r' ∧ L'.map (·.1) = X.map kx ∧ ∀ p ∈ L', Q p.1 p.2
  | [], L, r, _, _, _, _, hp => ⟨[], r, rfl, by simpa using hp, rfl, fun _ h => nomatch h⟩
  | a :: X, L, r, hl, hn, hf, h, hp => by
    rw [List.length_cons] at hl
    rw [List.map_cons, List.nodup_cons] at hn
    obtain ⟨v, r1, hv, e, p1⟩ := h L (by omega) a List.mem_cons_self (hf a List.mem_cons_self) r hp
    rw [setA_new v (hf a List.mem_cons_self)] at p1
    obtain ⟨L', r2, e2, p2, k2, v2⟩ := fillKQ (Q := Q) A kx P (L := L ++ [(kx a, v)]) (r := r1) (by simp; omega) hn.2 (fun z hz hm => by
      rw [List.map_append, List.mem_append] at hm
      rcases hm with m | m
      · exact hf z (List.mem_cons_of_mem _ hz) m
      · rw [List.map_cons, List.map_nil, List.mem_singleton] at m
        have m : kx z = kx a := m
        exact hn.1 (m ▸ List.mem_map.mpr ⟨z, hz, rfl⟩)) (fun L hL z hz => h L hL z (List.mem_cons_of_mem _ hz)) p1
    refine ⟨(kx a, v) :: L', r2, ?_, by simpa using p2, by simp [k2], fun p hq => ?_⟩
    · rw [List.map_cons, forD_cons, e]
      exact e2
    · rcases List.mem_cons.mp hq with z | z
      · subst z; exact hv
      · exact v2 p z
theorem nil_snoc {rs x : List Int} {a n v : Int} (hl : x.length = rs.length) (h : timesV rs a x = zeroV rs) (hv : a * v % n = 0) : timesV (rs ++ [n]) a (x ++ [v]) = zeroV (rs ++ [n]) := by
  unfold timesV zeroV at *
  rw [List.zip_append hl, List.map_append, List.map_append, h]
  simp [hv]
theorem nil_nil (a : Int) : timesV [] a [] = zeroV [] := rfl
theorem times_times {rs a : List Int} {s t : Int} (h : a.length = rs.length) : timesV rs s (timesV rs t a) = timesV rs t (timesV rs s a) := by
  have t1 := timesV_len rs a s h
  have t2 := timesV_len rs a t h
  refine ext_getD (by rw [timesV_len rs _ s t2, timesV_len rs _ t t1]) fun i hi => ?_
  rw [timesV_len rs _ t t1] at hi
  rw [timesV_at hi t2, timesV_at hi t1, timesV_at hi h, timesV_at hi h, Int.mul_emod, Int.emod_emod_of_dvd _ (Int.dvd_refl _), ← Int.mul_emod, Int.mul_emod t (s * _ % _), Int.emod_emod_of_dvd _ (Int.dvd_refl _), ← Int.mul_emod, Int.mul_left_comm]
/-- the odd parts of carries -/
def oddsC (lo up : List Int) (c : List Int → List Int → List Int) (i j : Nat) : List Int := putV lo (c (headV up.length i) (headV up.length j)) (timesV lo (-1) (c (headV up.length j) (headV up.length i)))
theorem odds_add {lo up : List Int} {s : Int} {c e : List Int → List Int → List Int} {i j : Nat} (g : OkR up) (hc : ∀ x y, OkE up x → OkE up y → (c x y).length = lo.length) (he : ∀ x y, OkE up x → OkE up y → (e x y).length = lo.length) :
    oddsC lo up (addC lo s c e) i j = putV lo (oddsC lo up c i j) (timesV lo s (oddsC lo up e i j)) := by
  have ei := head_el g i
  have ej := head_el g j
  have c1 := hc _ _ ei ej
  have c2 := hc _ _ ej ei
  have e1 := he _ _ ei ej
  have e2 := he _ _ ej ei
  have t1 := timesV_len lo _ s e1
  have t2 := timesV_len lo _ s e2
  have n1 := timesV_len lo _ (-1) c2
  have n2 := timesV_len lo _ (-1) e2
  unfold oddsC addC
  rw [times_put c2 t2, add_swap c1 t1 n1 (timesV_len lo _ (-1) t2), times_put e1 n2, times_times e2]
theorem odds_len {lo up : List Int} {c : List Int → List Int → List Int} {i j : Nat} (g : OkR up) (hc : ∀ x y, OkE up x → OkE up y → (c x y).length = lo.length) : (oddsC lo up c i j).length = lo.length :=
  putV_len (hc _ _ (head_el g i) (head_el g j)) (timesV_len lo _ (-1) (hc _ _ (head_el g j) (head_el g i)))
theorem back_times' {rs x : List Int} (hl : x.length = rs.length) : backV rs x = timesV rs (-1) x := ext_getD (by rw [backV_len hl, timesV_len rs x _ hl]) fun i hi => by
  have hi' : i < rs.length := by rw [timesV_len rs x _ hl] at hi; exact hi
  rw [backV_at hi' hl, timesV_at hi' hl]
  congr 1
  omega
/-- the kind -/
def restsK (lo up : List Int) (c : List Int → List Int → List Int) : List (List Int) := (List.range up.length).map fun i => restV lo (up.getD i 0) (weighV lo up c i)
def oddsK (lo up : List Int) (c : List Int → List Int → List Int) : List (List Int) := (placePairs up.length).map fun p => oddsC lo up c p.1 p.2
abbrev kdD (r o : List (List Int)) : D := .tup [.tup (r.map tuI), .tup (o.map tuI)]
abbrev kindD (lo up : List Int) (c : List Int → List Int → List Int) : D := kdD (restsK lo up c) (oddsK lo up c)
theorem putV_comm {rs x y : List Int} (h1 : x.length = rs.length) (h2 : y.length = rs.length) : putV rs x y = putV rs y x := ext_getD (by rw [putV_len h1 h2, putV_len h2 h1]) fun i hi => by
  rw [putV_len h2 h1] at hi
  rw [putV_at hi h1 h2, putV_at hi h2 h1, Int.add_comm]
theorem fold_at {lo : List Int} {p : Nat} (hp : p < lo.length) (w : (Nat × Nat) × List Int → Int) : ∀ (L : List ((Nat × Nat) × List Int)) (f : List Int), f.length = lo.length → (∀ q ∈ L, q.2.length = lo.length) →
    (L.foldl (fun f q => putV lo f (timesV lo (w q) q.2)) f).length = lo.length ∧ ∃ k : Int, (L.foldl (fun f q => putV lo f (timesV lo (w q) q.2)) f).getD p 0 = f.getD p 0 + (L.map fun q => w q * q.2.getD p 0).sum + lo.getD p 0 * k
  | [], f, hf, _ => ⟨hf, 0, by simp⟩
  | q :: L, f, hf, hL => by
    have hq := hL q List.mem_cons_self
    have ht := timesV_len lo q.2 (w q) hq
    obtain ⟨h1, k, h2⟩ := fold_at hp w L (putV lo f (timesV lo (w q) q.2)) (putV_len hf ht) fun r hr => hL r (List.mem_cons_of_mem _ hr)
    refine ⟨h1, k - (w q * q.2.getD p 0) / lo.getD p 0 - (f.getD p 0 + w q * q.2.getD p 0 % lo.getD p 0) / lo.getD p 0, ?_⟩
    rw [List.foldl_cons, h2, putV_at hp hf ht, timesV_at hp hq, List.map_cons, List.sum_cons]
    generalize w q * q.2.getD p 0 = a
    generalize lo.getD p 0 = n
    generalize f.getD p 0 = b
    generalize (L.map fun q => w q * q.2.getD p 0).sum = S
    have e1 := Int.emod_add_mul_ediv a n
    have e2 := Int.emod_add_mul_ediv (b + a % n) n
    rw [Int.mul_sub, Int.mul_sub]
    generalize a % n = u at *
    generalize (b + u) % n = v at *
    generalize n * (a / n) = c at *
    generalize n * ((b + u) / n) = d at *
    generalize n * k = m
    omega
theorem sum_none {p : Nat} {k : Nat × Nat} (w : (Nat × Nat) × List Int → Int) : ∀ L : List ((Nat × Nat) × List Int), (∀ q ∈ L, w q = if q.1 = k then 1 else 0) → (∀ q ∈ L, q.1 ≠ k) → (L.map fun q => w q * q.2.getD p 0).sum = 0
  | [], _, _ => rfl
  | q :: L, hw, h => by
    rw [List.map_cons, List.sum_cons, sum_none w L (fun r hr => hw r (List.mem_cons_of_mem _ hr)) (fun r hr => h r (List.mem_cons_of_mem _ hr)), hw q List.mem_cons_self, if_neg (h q List.mem_cons_self)]
    simp
theorem sum_some {p : Nat} {k : Nat × Nat} {a : List Int} (w : (Nat × Nat) × List Int → Int) : ∀ L : List ((Nat × Nat) × List Int), (L.map (·.1)).Nodup → (∀ q ∈ L, w q = if q.1 = k then 1 else 0) → (k, a) ∈ L → (L.map fun q => w q * q.2.getD p 0).sum = a.getD p 0
  | [], _, _, h => nomatch h
  | q :: L, hn, hw, h => by
    rw [List.map_cons, List.nodup_cons] at hn
    rw [List.map_cons, List.sum_cons, hw q List.mem_cons_self]
    rcases List.mem_cons.mp h with e | e
    · subst e
      rw [if_pos rfl, sum_none w L (fun r hr => hw r (List.mem_cons_of_mem _ hr)) fun r hr z => hn.1 (z ▸ List.mem_map.mpr ⟨r, hr, rfl⟩)]
      simp
    · have ne : q.1 ≠ k := fun z => hn.1 (z ▸ List.mem_map.mpr ⟨(k, a), e, rfl⟩)
      rw [if_neg ne, sum_some w L hn.2 (fun r hr => hw r (List.mem_cons_of_mem _ hr)) e]
      simp
/-- the odd part told by the parts -/
def oddV (lo : List Int) (L : List ((Nat × Nat) × List Int)) (i j : Nat) : List Int := if i < j then (lookA L (i, j)).getD [] else if j < i then timesV lo (-1) ((lookA L (j, i)).getD []) else zeroV lo
theorem okP_look {lo up : List Int} {ps : List (List Int)} {L : List ((Nat × Nat) × List Int)} (h : OkP lo up ps L) {i j : Nat} (hij : i < j) (hj : j < up.length) : ∃ a, (( i, j), a) ∈ L ∧ lookA L (i, j) = some a ∧ OkE lo a := by
  have hm : (i, j) ∈ L.map (·.1) := by rw [h.key]; exact mem_placePairs.mpr ⟨hij, hj⟩
  obtain ⟨q, hq, e⟩ := List.mem_map.mp hm
  obtain ⟨k, a⟩ := q
  have e : k = (i, j) := e
  subst e
  exact ⟨a, hq, lookA_mem (by rw [h.key]; exact placePairs_nodup _) hq, h.val _ hq⟩
theorem carry_at {lo up : List Int} {ps : List (List Int)} {L : List ((Nat × Nat) × List Int)} (h : OkP lo up ps L) (g : OkR lo) {i j p : Nat} (hi : i < up.length) (hj : j < up.length) (hp : p < lo.length) : ∃ k : Int, (carryV lo up ps L (headV up.length i) (headV up.length j)).getD p 0 = ((List.range up.length).foldl (fun f k => if up.getD k 0 ≤ (headV up.length i).getD k 0 + (headV up.length j).getD k 0 then putV lo f (ps.getD k []) else f) (zeroV lo)).getD p 0 + (L.map fun q => ((headV up.length i).getD q.1.1 0 * (headV up.length j).getD q.1.2 0) * q.2.getD p 0).sum + lo.getD p 0 * k := by
  have bl : ∀ (l : List Nat) (f : List Int), (∀ k ∈ l, k < up.length) → f.length = lo.length → (l.foldl (fun f k => if up.getD k 0 ≤ (headV up.length i).getD k 0 + (headV up.length j).getD k 0 then putV lo f (ps.getD k []) else f) f).length = lo.length := fun l => by
    induction l with
    | nil => intro f _ hf; exact hf
    | cons k l ih =>
      intro f hl hf
      rw [List.foldl_cons]
      refine ih _ (fun k hk => hl k (List.mem_cons_of_mem _ hk)) ?_
      split
      · exact putV_len hf (h.ps k (hl k List.mem_cons_self)).len
      · exact hf
  unfold carryV
  exact (fold_at hp (fun q => (headV up.length i).getD q.1.1 0 * (headV up.length j).getD q.1.2 0) L _ (bl _ _ (fun k hk => List.mem_range.mp hk) (by unfold zeroV; simp)) fun q hq => (h.val q hq).len).2
theorem weight {up : List Int} {i j : Nat} {q : Nat × Nat} (h1 : q.1 < q.2) (h2 : q.2 < up.length) : (headV up.length i).getD q.1 0 * (headV up.length j).getD q.2 0 = if q = (i, j) then 1 else 0 := by
  obtain ⟨a, b⟩ := q
  have h1 : a < b := h1
  have h2 : b < up.length := h2
  show (headV up.length i).getD a 0 * (headV up.length j).getD b 0 = _
  rw [headV_at (show a < up.length by omega), headV_at h2]
  by_cases e1 : a = i
  · by_cases e2 : b = j
    · subst e1 e2; simp
    · have : ¬ ((a, b) = (i, j)) := fun z => e2 (Prod.mk.inj z).2
      rw [if_neg e2, if_neg this]; simp
  · have : ¬ ((a, b) = (i, j)) := fun z => e1 (Prod.mk.inj z).1
    rw [if_neg e1, if_neg this]; simp
theorem whole_odds {lo up : List Int} {ps : List (List Int)} {L : List ((Nat × Nat) × List Int)} {hf : List Int → List Int} (gl : OkR lo) (g : OkR up) (h : OkP lo up ps L) (hh : OkH lo up hf) {i j : Nat} (hi : i < up.length) (hj : j < up.length) :
    oddsC lo up (wholeV lo up ps L hf) i j = oddV lo L i j := by
  unfold oddsC
  have ei := head_el g i
  have ej := head_el g j
  have lij := whole_el h gl g hh ei ej
  have lji := whole_el h gl g hh ej ei
  have ltm := timesV_len lo _ (-1) lji.len
  have lodd : (oddV lo L i j).length = lo.length := by
    unfold oddV
    split
    · rename_i c
      obtain ⟨a, _, e, ha⟩ := okP_look h c hj
      rw [e]; exact ha.len
    · split
      · rename_i c
        obtain ⟨a, _, e, ha⟩ := okP_look h c hi
        rw [e]; exact timesV_len lo a (-1) ha.len
      · unfold zeroV; simp
  refine ext_getD (by rw [putV_len lij.len ltm, lodd]) fun p hp => ?_
  rw [lodd] at hp
  rw [putV_at hp lij.len ltm, timesV_at hp lji.len]
  obtain ⟨k1, c1⟩ := carry_at h gl hi hj hp
  obtain ⟨k2, c2⟩ := carry_at h gl hj hi hp
  have sw : (fun (f : List Int) (k : Nat) => if up.getD k 0 ≤ (headV up.length j).getD k 0 + (headV up.length i).getD k 0 then putV lo f (ps.getD k []) else f) = (fun f k => if up.getD k 0 ≤ (headV up.length i).getD k 0 + (headV up.length j).getD k 0 then putV lo f (ps.getD k []) else f) := by
    funext f k
    rw [Int.add_comm]
  rw [sw] at c2
  have ow : ownV lo up hf (headV up.length j) (headV up.length i) = ownV lo up hf (headV up.length i) (headV up.length j) := by
    unfold ownV
    rw [putV_comm (hh _ ej).len (hh _ ei).len, putV_comm ej.len ei.len]
  have hz := hh _ (put_el g ei.len ej.len)
  have ol : (ownV lo up hf (headV up.length i) (headV up.length j)).length = lo.length := by
    unfold ownV
    exact putV_len (putV_len (hh _ ei).len (hh _ ej).len) (timesV_len lo _ (-1) hz.len)
  have cll : ∀ a b, a < up.length → b < up.length → (carryV lo up ps L (headV up.length a) (headV up.length b)).length = lo.length := fun a b ha hb => by
    exact (carryV_mod h).1
  have w1 : (wholeV lo up ps L hf (headV up.length i) (headV up.length j)).getD p 0 = ((carryV lo up ps L (headV up.length i) (headV up.length j)).getD p 0 + (ownV lo up hf (headV up.length i) (headV up.length j)).getD p 0) % lo.getD p 0 := putV_at hp (cll i j hi hj) ol
  have w2 : (wholeV lo up ps L hf (headV up.length j) (headV up.length i)).getD p 0 = ((carryV lo up ps L (headV up.length j) (headV up.length i)).getD p 0 + (ownV lo up hf (headV up.length i) (headV up.length j)).getD p 0) % lo.getD p 0 := by
    unfold wholeV
    rw [ow]
    exact putV_at hp (cll j i hj hi) ol
  rw [w1, w2, c1, c2]
  have nn := gl.get hp
  have gn : (L.map (·.1)).Nodup := by rw [h.key]; exact placePairs_nodup _
  have wi : ∀ q ∈ L, (headV up.length i).getD q.1.1 0 * (headV up.length j).getD q.1.2 0 = if q.1 = (i, j) then 1 else 0 := fun q hq => weight (h.at_ hq).1 (h.at_ hq).2
  have wj : ∀ q ∈ L, (headV up.length j).getD q.1.1 0 * (headV up.length i).getD q.1.2 0 = if q.1 = (j, i) then 1 else 0 := fun q hq => weight (h.at_ hq).1 (h.at_ hq).2
  have no : ∀ a b : Nat, ¬ a < b → ∀ q ∈ L, q.1 ≠ (a, b) := fun a b hab q hq z => by
    have := (h.at_ hq).1
    rw [z] at this
    exact hab this
  generalize ((List.range up.length).foldl (fun f k => if up.getD k 0 ≤ (headV up.length i).getD k 0 + (headV up.length j).getD k 0 then putV lo f (ps.getD k []) else f) (zeroV lo)).getD p 0 = B
  generalize (ownV lo up hf (headV up.length i) (headV up.length j)).getD p 0 = O
  have key : ∀ S1 S2 : Int, ((B + S1 + lo.getD p 0 * k1 + O) % lo.getD p 0 + -1 * ((B + S2 + lo.getD p 0 * k2 + O) % lo.getD p 0) % lo.getD p 0) % lo.getD p 0 = (S1 - S2) % lo.getD p 0 := fun S1 S2 => by
    generalize lo.getD p 0 = n
    rw [← Int.add_emod]
    have e2 := Int.emod_add_mul_ediv (B + S2 + n * k2 + O) n
    have : (B + S1 + n * k1 + O) + -1 * ((B + S2 + n * k2 + O) % n) = (S1 - S2) + n * (k1 - k2 + (B + S2 + n * k2 + O) / n) := by
      rw [Int.mul_add, Int.mul_sub]
      generalize n * ((B + S2 + n * k2 + O) / n) = v at *
      generalize (B + S2 + n * k2 + O) % n = b at *
      generalize n * k1 = c at *
      generalize n * k2 = d at *
      omega
    rw [this, Int.add_mul_emod_self_left]
  rw [key]
  unfold oddV
  by_cases c : i < j
  · rw [if_pos c]
    obtain ⟨a, ha, e, oa⟩ := okP_look h c hj
    rw [e, sum_some (k := (i, j)) (a := a) _ L gn wi ha, sum_none (k := (j, i)) _ L wj (no j i (by omega))]
    obtain ⟨z1, z2⟩ := oa.get hp
    show (a.getD p 0 - 0) % _ = a.getD p 0
    rw [Int.sub_zero, Int.emod_eq_of_lt z1 z2]
  · rw [if_neg c]
    by_cases c2 : j < i
    · rw [if_pos c2]
      obtain ⟨a, ha, e, oa⟩ := okP_look h c2 hi
      rw [e, sum_some (k := (j, i)) (a := a) _ L gn wj ha, sum_none (k := (i, j)) _ L wi (no i j c)]
      show (0 - a.getD p 0) % _ = (timesV lo (-1) a).getD p 0
      rw [timesV_at hp oa.len]
      congr 1
      omega
    · rw [if_neg c2, sum_none (k := (i, j)) _ L wi (no i j c), sum_none (k := (j, i)) _ L wj (no j i c2)]
      rw [zeroV_at]
      simp
/-- the kind of whole carries -/
def restsP (lo up : List Int) (ps : List (List Int)) : List (List Int) := (List.range up.length).map fun i => restV lo (up.getD i 0) (ps.getD i [])
def oddsP (lo up : List Int) (L : List ((Nat × Nat) × List Int)) : List (List Int) := (placePairs up.length).map fun p => oddV lo L p.1 p.2
theorem up_nn {up : List Int} (g : OkR up) {i : Nat} (hi : i < up.length) : 0 ≤ up.getD i 0 := by have := g.get hi; omega
theorem rests_whole {lo up : List Int} {ps : List (List Int)} {L : List ((Nat × Nat) × List Int)} {hf : List Int → List Int} (gl : OkR lo) (g : OkR up) (h : OkP lo up ps L) (hh : OkH lo up hf) : restsK lo up (wholeV lo up ps L hf) = restsP lo up ps := by
  unfold restsK restsP
  refine List.map_congr_left fun i hi => ?_
  have hi := List.mem_range.mp hi
  rw [weigh_whole h g hh hi]
  exact rest_shift gl (up_nn g hi) (h.ps i hi).len (hh _ (head_el g i)).len
theorem odds_whole {lo up : List Int} {ps : List (List Int)} {L : List ((Nat × Nat) × List Int)} {hf : List Int → List Int} (gl : OkR lo) (g : OkR up) (h : OkP lo up ps L) (hh : OkH lo up hf) : oddsK lo up (wholeV lo up ps L hf) = oddsP lo up L := by
  unfold oddsK oddsP
  refine List.map_congr_left fun p hp => ?_
  obtain ⟨h1, h2⟩ := mem_placePairs.mp hp
  exact whole_odds gl g h hh (by omega) h2
theorem put_zero {lo v : List Int} (h : OkE lo v) : putV lo v (zeroV lo) = v := by
  have lz : (zeroV lo).length = lo.length := by simp [zeroV]
  refine ext_getD (by rw [putV_len h.len lz, h.len]) fun i hi => ?_
  rw [h.len] at hi
  rw [putV_at hi h.len lz, zeroV_at, Int.add_zero, el_mod h hi]
theorem zero_times {lo : List Int} (s : Int) : timesV lo s (zeroV lo) = zeroV lo := by
  have lz : (zeroV lo).length = lo.length := by simp [zeroV]
  refine ext_getD (by rw [timesV_len lo _ s lz, lz]) fun i hi => ?_
  rw [lz] at hi
  rw [timesV_at hi lz, zeroV_at]
  simp
theorem own_zero {lo up x y : List Int} (gl : OkR lo) : ownV lo up (fun _ => zeroV lo) x y = zeroV lo := by
  unfold ownV
  rw [zero_times, put_zero (zero_el gl), put_zero (zero_el gl)]
/-- whole carries without labels, changed by labels -/
theorem whole_changed {lo up x y : List Int} {ps : List (List Int)} {L : List ((Nat × Nat) × List Int)} {hf : List Int → List Int} (gl : OkR lo) (h : OkP lo up ps L) : putV lo (wholeV lo up ps L (fun _ => zeroV lo) x y) (ownV lo up hf x y) = wholeV lo up ps L hf x y := by
  obtain ⟨a, b⟩ := carryV_mod (x := x) (y := y) h
  have e : wholeV lo up ps L (fun _ => zeroV lo) x y = carryV lo up ps L x y := by
    unfold wholeV
    rw [own_zero gl]
    exact put_zero (el_of_mod gl a fun p hp => ⟨_, b p hp⟩)
  rw [e]
  rfl
theorem put_back {lo v : List Int} (h : v.length = lo.length) : putV lo v (timesV lo (-1) v) = zeroV lo := by
  have t := timesV_len lo v (-1) h
  refine ext_getD (by rw [putV_len h t]; simp [zeroV]) fun i hi => ?_
  have hi : i < lo.length := by simpa [zeroV] using hi
  rw [putV_at hi h t, timesV_at hi h, zeroV_at, Int.add_emod_emod]
  have : v.getD i 0 + -1 * v.getD i 0 = 0 := by omega
  rw [this]; simp
theorem rest_gone {lo a b z : List Int} {n : Int} (gl : OkR lo) (hn : 0 ≤ n) (ha : a.length = lo.length) (hb : b.length = lo.length) (hz : z.length = lo.length) :
    restV lo n (putV lo (putV lo a (timesV lo n b)) (timesV lo (-1) (putV lo a (timesV lo n z)))) = zeroV lo := by
  have tb := timesV_len lo b n hb
  have tz := timesV_len lo z n hz
  have e : putV lo (putV lo a (timesV lo n b)) (timesV lo (-1) (putV lo a (timesV lo n z))) = putV lo (zeroV lo) (timesV lo n (putV lo b (timesV lo (-1) z))) := by
    rw [times_put ha tz, add_swap ha tb (timesV_len lo a _ ha) (timesV_len lo _ _ tz), put_back ha, times_times hz, times_put hb (timesV_len lo z _ hz)]
  rw [e, rest_shift gl hn (by simp [zeroV]) (putV_len hb (timesV_len lo z _ hz))]
  have lz : (zeroV lo).length = lo.length := by simp [zeroV]
  refine ext_getD (by simp [restV, lz]) fun i hi => ?_
  have hi : i < lo.length := by simpa [zeroV] using hi
  have r : (restV lo n (zeroV lo)).getD i 0 = (zeroV lo).getD i 0 % gcV n (lo.getD i 0) := getD_zip (f := fun p => p.1 % gcV n p.2) (by omega) hi
  rw [r, zeroV_at]; simp
theorem tabD_congr {lo up : List Int} {c e : List Int → List Int → List Int} (h : ∀ x y, OkE up x → OkE up y → c x y = e x y) : tabD lo up c = tabD lo up e := by
  unfold tabD
  have : (dicF pkD tuI (prs up) fun p => c p.1 p.2) = dicF pkD tuI (prs up) fun p => e p.1 p.2 := by
    show dicA pkD tuI ((prs up).map fun p => (p, c p.1 p.2)) = dicA pkD tuI ((prs up).map fun p => (p, e p.1 p.2))
    refine congrArg _ (List.map_congr_left fun p hp => ?_)
    obtain ⟨m1, m2⟩ := mem_prs.mp hp
    rw [h _ _ (mem_mems.mp m1) (mem_mems.mp m2)]
  rw [this]
end Mir

/-! list(range(n)). -/
namespace Mir
open PySem PySem.Spec PyProof.Rows L2
section
variable {X : Cx} {W : Wi}
theorem rgV_rep {G : GC} {F : Hp} : ∀ (n : Nat), RepAll G F (rgV 0 (n : Nat)) (rangeL 0 n) := fun n => by
  have e : ((n : Int) - 0).toNat = n := by omega
  unfold rgV rangeL
  rw [e]
  generalize List.range n = l
  induction l with
  | nil => exact .nil
  | cons a l ih => exact .cons (.int _) ih
theorem re_listRange {a : Expr} {p p' pos pos' : Pos} {fe : Env → Res D} (hc : X.calm = true) (h1 : X.mg "list" = none) (h2 : X.mg "range" = none) (ha : RE X W .R a fe) (hg1 : Gl X "list" := by rfl) (hg2 : Gl X "range" := by rfl)
    (na : starEach [.Call (.Name "range" p') [a] [] pos'] X.env = (false, eval (.Call (.Name "range" p') [a] [] pos') X.env) :: starEach [] X.env := by rfl) (na2 : starEach [a] X.env = (false, eval a X.env) :: starEach [] X.env := by rfl) :
    RE X W (.O .flat) (.Call (.Name "list" p) [.Call (.Name "range" p') [a] [] pos'] [] pos) (fun r => fe r >>= fun d => rng1 [d] >>= lstD) :=
  (pe_listRg hc hg1 h1 (prg_1 hg2 h2 ha na2) na).imp fun σ H Q ⟨H0, F0, fp, F, r, m, o⟩ => ⟨H0, F0, fp, F, r, m, o.bind fun F' H' d gr o2 v kv => by
    rcases rng1_inv (ds := [d]) with ⟨n, e0, hn, e⟩ | e
    · rw [e] at o2
      injection e0 with e0 _
      subst e0
      simp only [ok_bind, lstD] at o2
      split at o2
      · rename_i hl
        have hv : v = .int n := RdD.int kv
        have ll : n.toNat ≤ lim := by simpa [rangeL] using hl
        unfold lim at ll
        refine ⟨n, hv, ⟨by omega, by omega, by omega, by omega, by omega⟩, fun t ht => ?_⟩
        have re : RepAll (gOf X) F' (rgV 0 n) (rangeL 0 n.toNat) := by
          by_cases h0 : 0 ≤ n
          · have := rgV_rep (G := gOf X) (F := F') n.toNat
            rwa [Int.toNat_of_nonneg h0] at this
          · have e1 : n.toNat = 0 := by omega
            have e2 : (n - 0).toNat = 0 := by omega
            unfold rgV rangeL
            rw [e1, e2]
            exact .nil
        exact o2 _ _ (Grow.own gr.sub ht) _ ⟨[t], Own.lst rfl upd_same (gr.sub.free ht) (OwnAll.of_rep re) (by simp), fun a ha => by rw [List.mem_singleton.mp ha]; exact gr.h.free ht⟩
      · exact o2.elim
    · rw [e] at o2; exact o2.elim⟩
end
end Mir

/-! {k: v}. -/
namespace Mir
open PySem PySem.Spec PyProof.Rows L2
theorem dict_pairsE {prog : Program} {w : World} {A : Around} {E : Value → Shared → Prop} {s : Shared} {env : PySem.Env} {keys : List (Option Expr)} {values : List Expr} {pos : Pos} {pairs : List (Sem Value × Sem Value)} {Q : Value → Shared → Prop} (hu : (nestedKind prog w).room A)
    (hshape : (evalEachOpt keys env).zip ((evalEach values env).map fun v => do let x ← v; standAt pos; pure x) = pairs.map fun p => (some p.1, p.2)) (h0 : pairs ≠ []) (hlen : pairs.length ≤ 15)
    (h : wpAny (model prog w) A (evalPairs pairs) (fun vs s₁ => ∃ ps, CarriesH (nestedKind prog w) s₁.heap vs ps ∧ s₁.heap.DictOfH (nestedKind prog w) s.heap.objs.size [] ∧
      ∀ h' tk, h'.DictOfH (nestedKind prog w) s.heap.objs.size (storedAllH [] ps) → Heap.SameBut s.heap.objs.size s₁.heap h' → Q (.ref s.heap.objs.size) { s₁ with heap := h', toks := tk }) E
      { s with heap := s.heap.push { cls := .type "dict", data := .dict #[] } }) :
    wpAny (model prog w) A (eval (.Dict keys values pos) env) Q E s := by
  rw [arm_eval_Dict, hshape, dictDisplay_pairs pairs h0 (by omega)]
  exact wpAny_bind (wpAny_standAt (wpAny_bind (wpAny_subDictH (knd := nestedKind prog w) (Q := fun d s' => wpAny (model prog w) A (pure (Value.ref d)) Q E s') hu hlen
    (wpAny_mono h (fun vs s₁ h₁ => by obtain ⟨ps, hc, hm, hq⟩ := h₁; exact ⟨ps, hc, hm, fun h' tk a b => wpAny_pure (hq h' tk a b)⟩) fun _ _ e => e))))
/-- a dict of one pair -/
def dic1 (kd vd : D) : Res D := match keyT kd with
  | some _ => .ok (.dic [kd] [vd])
  | none => .bad
section
variable {X : Cx} {W : Wi} {k : Nat} {ke ve : Expr} {fk fv : Mir.Env → Res D} {pos : Pos}
theorem re_dic1 (hr : Room k X.A) (hk : RE X W .S ke fk) (hv : RE X W .S ve fv)
    (hsh : (evalEachOpt [some ke] X.env).zip ((evalEach [ve] X.env).map fun v => do let x ← v; standAt pos; pure x) = [(eval ke X.env, (do let x ← eval ve X.env; standAt pos; pure x : Sem Value))].map fun p => (some p.1, p.2) := by rfl) :
    RE X W (.O .flat) (.Dict [some ke] [ve] pos) (fun r => fk r >>= fun kd => fv r >>= fun vd => dic1 kd vd) := ⟨fun pins s σ H Q I ⟨H0, F0, fp, F, r, m, o⟩ => by
  have hn : (s.heap.objs.size == sysModules) = false := beq_eq_false_iff_ne.mpr (Ne.symm (Nat.ne_of_lt I.big))
  have hf : H s.heap.objs.size = none := I.hok.fresh (Nat.le_refl _)
  have hu : (nestedKind X.prog X.w).room X.A := by
    have := hr.un
    show X.A.units + 8 < cLine
    omega
  refine dict_pairsE hu hsh (by simp) (by show 1 ≤ 15; decide) ?_
  replace o : Out (gOf X) W σ F H (fun F' H' d => ∀ v, (Kd.O .flat).Rep (gOf X) H F' H' v d → Q v H') (fk r >>= fun kd => fv r >>= fun vd => dic1 kd vd) := o
  have I1 := I.laid (a := s.heap.objs.size) (o := .ext (isObj' s.heap.objs.size { cls := .type "dict", data := .dict #[] })) (h' := s.heap.push { cls := .type "dict", data := .dict #[] }) (t' := s.toks) (fun _ _ q => Heap.get?_push_of_some _ q) (Nat.le_refl _) (ext_ok (Heap.get?_push_size _ rfl))
  have g0 : Grow F H F (upd H s.heap.objs.size (.ext (isObj' s.heap.objs.size { cls := .type "dict", data := .dict #[] }))) := Grow.own m.sub hf
  have m1 := m.grow g0
  cases hfk : fk r with
  | bad => rw [hfk] at o; exact o.elim
  | er e =>
    rw [hfk] at o
    exact evalPairs_cons (thn (hk.run pins _ σ _ (fun _ _ => False) I1 ⟨H0, F0, fp, F, r, m1, by rw [hfk]; exact fun cls dd F' H' q => o cls dd F' H' (g0.trans q)⟩) fun _ _ ⟨_, _, _, _, f⟩ => f.elim)
  | ok kd =>
    rw [hfk] at o
    refine evalPairs_cons (thn (hk.run pins _ σ _ (fun y H2 => ∃ F2, Grow F (upd H s.heap.objs.size (.ext (isObj' s.heap.objs.size { cls := .type "dict", data := .dict #[] }))) F2 H2 ∧ Rep (gOf X) F2 y kd) I1 ⟨H0, F0, fp, F, r, m1, by rw [hfk]; exact fun F' H' q v kv => ⟨F', q, kv⟩⟩) fun uk s2 ⟨y, H2, I2, r2, F2, g2, ky⟩ => ?_)
    have m2 := m1.grow g2
    have gg := g0.trans g2
    refine wpAny_bind ?_
    cases hfv : fv r with
    | bad =>
      rw [ok_bind, hfv] at o; exact o.elim
    | er e =>
      rw [ok_bind, hfv] at o
      exact thn (hv.run pins _ σ _ (fun _ _ => False) I2 ⟨H0, F0, fp, F2, r, m2, by rw [hfv]; exact fun cls dd F' H' q => o cls dd F' H' (gg.trans q)⟩) fun _ _ ⟨_, _, _, _, f⟩ => f.elim
    | ok vd =>
      rw [ok_bind, hfv, ok_bind] at o
      refine thn (hv.run pins _ σ _ (fun z H3 => ∃ F3, Grow F2 H2 F3 H3 ∧ Rep (gOf X) F3 z vd) I2 ⟨H0, F0, fp, F2, r, m2, by rw [hfv]; exact fun F' H' q v kv => ⟨F', q, kv⟩⟩) fun uv s3 ⟨z, H3, I3, r3, F3, g3, kz⟩ => ?_
      refine wpAny_bind (wpAny_standAt (wpAny_pure (evalPairs_nil ?_)))
      have o' : Out (gOf X) W σ F H (fun F' H' d => ∀ v, (Kd.O .flat).Rep (gOf X) H F' H' v d → Q v H') (dic1 kd vd) := o
      unfold dic1 at o'
      split at o'
      · rename_i q hq
        obtain ⟨b, rfl, rb⟩ := key_ref (show RdD (gOf X) F2 H2 y kd from .inl ky) hq
        cases r2
        have rb3 := rb.mono g3.f
        have hp3 : H3 s.heap.objs.size = some (.ext (isObj' s.heap.objs.size { cls := .type "dict", data := .dict #[] })) := g3.h _ _ (g2.h _ _ upd_same)
        have dm := dr_of I3 g3.sub hp3 (dicO_nil rfl) (DR.nil (G := gOf X) (F := F3))
        have ki := key_is I3 g3.sub rb3 hq
        refine ⟨[(q, b, uv)], ⟨rfl, rfl, ki, trivial⟩, dm, fun h' tk hm hs => ?_⟩
        have e : storedAllH [] [(q, b, uv)] = [(q, b, uv)] := by simp [storedAllH, storedH, atKey]
        rw [e] at hm
        obtain ⟨ob, e1, e2⟩ := dicO_of hm (by rw [sizeLine_eq]; simp)
        have fr : F3 s.heap.objs.size = none := by
          cases z1 : F3 s.heap.objs.size with
          | none => rfl
          | some u =>
            rcases (g0.trans (g2.trans g3)).new _ u z1 with y | y
            · have := m.sub _ _ y
              rw [hf] at this; cases this
            · exfalso
              rcases g3.new _ u z1 with y2 | y2
              · rcases g2.new _ u y2 with y3 | y3
                · have := m.sub _ _ y3
                  rw [hf] at this; cases this
                · rw [upd_same] at y3; cases y3
              · have := g2.h _ _ (upd_same (H := H) (a := s.heap.objs.size) (o := .ext (isObj' s.heap.objs.size { cls := .type "dict", data := .dict #[] })))
                rw [this] at y2; cases y2
        have dr : DR (gOf X) F3 [(q, b, uv)] [z] [kd] [vd] := (DR.nil (G := gOf X) (F := F3)).cons r3 rb3 (keyT_some hq).2.1 kz
        refine ⟨.ref s.heap.objs.size, upd H3 s.heap.objs.size (.ext (isObj' s.heap.objs.size ob)), d_write (t' := tk) I3 (by rw [hp3]; exact True.intro) hs ⟨ob, e1⟩ (ext_ok e1), rfl, ?_⟩
        have g03 := g0.trans (g2.trans g3)
        refine o' F3 _ ⟨fun c u y => ?_, g03.f, fun c u y => ?_, fun c u y => ?_⟩ _ ⟨[_], Own.dr upd_same fr hn e2 dr, fun a ha => by rw [List.mem_singleton.mp ha]; exact hf⟩
        · have hc : c ≠ s.heap.objs.size := fun z => by rw [z, hf] at y; cases y
          rw [upd_ne hc]
          exact g03.h _ _ y
        · have hc : c ≠ s.heap.objs.size := fun z => by rw [z, fr] at y; cases y
          rw [upd_ne hc]
          exact g03.sub _ _ y
        · exact g03.new c u y
      · exact o'.elim⟩
end
end Mir

/-! Lending to a maker whose object is the caller's own. -/
namespace Mir
open PySem PySem.Spec PyProof.Rows L2
mutual
/-- nowhere within the shared parts of d stands a list (a dict) of n things -/
def apartO (b : Bool) (n : Nat) : D → Shape → Bool
  | .lst ds, s => match s with
    | .sh => apart b n (.lst ds)
    | s => apartOs b n ds s.kid 0
  | .tup ds, s => match s with
    | .sh => apart b n (.tup ds)
    | s => apartOs b n ds s.kid 0
  | .obj c ds, s => match s with
    | .sh => apart b n (.obj c ds)
    | s => apartOs b n ds s.kid 0
  | .dic ks vs, s => match s with
    | .sh => apart b n (.dic ks vs)
    | s => aparts b n ks && apartOs b n vs s.kid 0
  | d, _ => apart b n d
def apartOs (b : Bool) (n : Nat) : List D → (Nat → Shape) → Nat → Bool
  | [], _, _ => true
  | d :: ds, f, i => apartO b n d (f i) && apartOs b n ds f (i + 1)
end
theorem apartO_sh {b : Bool} {n : Nat} {d : D} (h : apartO b n d .sh = true) : apart b n d = true := by
  cases d <;> exact h
section
variable {G : GC} {F F2 H : Hp} {b : Addr} {k : Bool} {n : Nat}
mutual
theorem Own.thin (s : ∀ a o, a ≠ b → F a = some o → F2 a = some o) (z : ∀ a, F a = none → F2 a = none) (q : Hol G F b k n) : ∀ {sp : Shape} {v : V} {d : D} {A : List Addr}, Own G F H sp v d A → apartO k n d sp = true → Own G F2 H sp v d A
  | _, _, _, _, .sh r, p => .sh (Rep.thin s q r (apartO_sh p))
  | sp, _, _, _, .lst h0 h1 h2 h3 h4, p => .lst h0 h1 (z _ h2) (OwnAll.thin s z q h3 (by
      unfold apartO at p
      cases sp with
      | sh => cases h0
      | flat => exact p
      | parts l => exact p)) h4
  | sp, _, _, _, .tup h0 h1 h2 h3 h4, p => .tup h0 h1 (z _ h2) (OwnAll.thin s z q h3 (by
      unfold apartO at p
      cases sp with
      | sh => cases h0
      | flat => exact p
      | parts l => exact p)) h4
  | sp, _, _, _, .dic (ks := ks) (vs := vs) h0 h1 h2 z1 z2 z3 z4 z5 h3 h4, p => by
      have p2 : aparts k n ks = true ∧ apartOs k n vs sp.kid 0 = true := by
        unfold apartO at p
        cases sp with
        | sh => cases h0
        | flat => exact Bool.and_eq_true_iff.mp p
        | parts l => exact Bool.and_eq_true_iff.mp p
      exact .dic h0 h1 (z _ h2) z1 z2 z3 (RepAll.thin s q z4 p2.1) z5 (OwnAll.thin s z q h3 p2.2) h4
  | sp, _, _, _, .obj h0 h1 h2 zl h3 h4, p => .obj h0 h1 (z _ h2) zl (OwnAll.thin s z q h3 (by
      unfold apartO at p
      cases sp with
      | sh => cases h0
      | flat => exact p
      | parts l => exact p)) h4
theorem OwnAll.thin (s : ∀ a o, a ≠ b → F a = some o → F2 a = some o) (z : ∀ a, F a = none → F2 a = none) (q : Hol G F b k n) : ∀ {f : Nat → Shape} {i : Nat} {vs : List V} {ds : List D} {A : List Addr}, OwnAll G F H f i vs ds A → apartOs k n ds f i = true → OwnAll G F2 H f i vs ds A
  | _, _, _, _, _, .nil, _ => .nil
  | _, _, _, _, _, .cons r t x, p => by
    unfold apartOs at p
    rw [Bool.and_eq_true] at p
    exact .cons (Own.thin s z q r p.1) (OwnAll.thin s z q t p.2) x
end
end
section
variable {G : GC} {J : L2.St → Prop} {H0 F0 F H : Hp} {fp : Nat → List Addr} {σ : L2.St} {r : Env}
/-- behind what was worked out on the lent part the own part is as it was -/
theorem MS.lendO (m : MS G J H0 F0 fp F σ H r) {i : Nat} {o : D} {k : Bool} {n : Nat} (e : r[i]? = some (.ow .flat o)) (sz : sizeO o = some (k, n))
    (hx : ∀ b ob, H b = some (.ext (isObj' b ob)) → ∃ h : Heap, h.get? b = some ob) : ∃ F1, MS G J H0 F0 fp F1 σ H (Mir.freeze i r) ∧ ∀ F' H', Grow F1 H F' H' → ∃ F2, Grow F H F2 H' ∧ (∀ s v d A, Own G F' H' s v d A → apartO k n d s = true → Own G F2 H' s v d A) ∧
      ∀ cls dd x, ExcIs G F' cls dd x → apart k n x = true → ExcIs G F2 cls dd x := by
  refine ⟨_, m.freezeX e, fun F' H' g => ?_⟩
  obtain ⟨⟨v, h1, h2⟩, h3⟩ := m.ow i .flat o e
  obtain ⟨b, hA, O, hO, hol⟩ : ∃ b, fp i = [b] ∧ ∃ O, H b = some O ∧ ∀ F' : Hp, F' b = some O → Hol G F' b k n := by
    generalize fp i = A at h2 h3
    cases h2 with
    | lst h0 q1 q2 q3 q4 =>
      obtain ⟨rfl, rr⟩ := q3.to_rep
      rename_i a vs ds
      cases sz
      refine ⟨a, rfl, _, q1, fun F' hF => ?_⟩
      refine ⟨fun xs hh => ?_, fun xs hh => ?_, fun xs hk => ?_, fun o xs hh _ => ?_, fun C dx fs hh => ?_, fun C d hh => ?_, fun fs hh => ?_⟩
      · rcases hh with hh | ⟨_, hh⟩ <;> · rw [hF] at hh; cases hh
      · rw [hF] at hh
        cases hh
        exact ⟨rfl, RepAll.length rr⟩
      · cases hk
      · rw [hF] at hh; cases hh
      · rw [hF] at hh; cases hh
      · rw [hF] at hh; cases hh
      · rw [hF] at hh; cases hh
    | dic h0 q1 q2 z1 z2 z3 z4 z5 q3 q4 =>
      obtain ⟨rfl, rr⟩ := q3.to_rep
      rename_i a ob xs0 ws ks vs
      cases sz
      obtain ⟨hp, hpe⟩ := hx _ _ q1
      have hk : xs0.length = ks.length := by
        have := RepAll.length z4
        rw [List.length_map] at this
        exact this
      obtain ⟨es, ep, hd, hes⟩ := z2.dat
      refine ⟨a, rfl, _, q1, fun F' hF => ?_⟩
      refine ⟨fun xs hh => ?_, fun xs hh => ?_, fun xs _ hh => ?_, fun o2 xs hh dd => ?_, fun C dx fs hh => ?_, fun C d hh => ?_, fun fs hh => ?_⟩
      · rcases hh with hh | ⟨_, hh⟩ <;> · rw [hF] at hh; cases hh
      · rw [hF] at hh; cases hh
      · rcases hh with hh | ⟨_, hh⟩ <;> · rw [hF] at hh; cases hh
      · rw [hF] at hh
        have hh : isObj' a ob = isObj' a o2 := by
          have := Option.some.inj hh
          injection this
        have : hp.get? a = some o2 := by
          have q := congrFun hh hp
          exact q.mp hpe
        rw [hpe] at this
        cases this
        refine ⟨rfl, ?_⟩
        obtain ⟨es2, ep2, hd2, hes2⟩ := dd.dat
        rw [hd] at hd2
        cases hd2
        rw [hes] at hes2
        have := congrArg List.length hes2
        rw [List.length_map, List.length_map] at this
        omega
      · rw [hF] at hh; cases hh
      · rw [hF] at hh
        have hh : isObj' a ob = isExc a C d := by
          have := Option.some.inj hh
          injection this
        obtain ⟨oe, vs', w1, _, _, w2⟩ : isExc a C d hp := by rw [← hh]; exact hpe
        rw [hpe] at w1
        cases w1
        rw [hd] at w2
        cases w2
      · rw [hF] at hh; cases hh
    | obj => cases sz
    | tup => cases sz
  rw [hA] at g
  have s1 : share F H [b] b = some O := by unfold share; simp [hO]
  have hol := hol F' (g.f _ _ s1)
  have sF : F b = none := by
    have := (h2.there b (by rw [hA]; exact List.mem_cons_self)).1
    exact this
  let F2 : Hp := fun a => if a = b then none else F' a
  have sp : ∀ a o, a ≠ b → F' a = some o → F2 a = some o := fun a o ne h => by
    show (if a = b then none else F' a) = some o
    rw [if_neg ne]; exact h
  have nb : ∀ a, a ≠ b → share F H [b] a = F a := fun a ne => share_ne (by simpa using ne)
  refine ⟨F2, ⟨g.h, fun a o h => ?_, fun a o h => ?_, fun a o h => ?_⟩, fun s v d A hr p => Own.thin sp (fun a h => by show (if a = b then none else F' a) = none; split <;> first | rfl | exact h) hol hr p, fun cls dd x hr p => ExcIs.thin sp hol hr p⟩
  · have ne : a ≠ b := fun z => by subst z; rw [sF] at h; cases h
    exact sp a o ne (g.f a o (by rw [nb a ne]; exact h))
  · have h : (if a = b then none else F' a) = some o := h
    split at h
    · cases h
    · exact g.sub a o h
  · have h : (if a = b then none else F' a) = some o := h
    split at h
    · cases h
    · rename_i ne
      rcases g.new a o h with z | z
      · rw [nb a ne] at z; exact .inl z
      · exact .inr z
end
def lendO (i : Nat) (sp : Shape) (f : Env → Res D) (r : Env) : Res D := match r[i]? with
  | some (.ow .flat o) => match sizeO o with
    | some (k, n) => match f (freeze i r) with
      | .ok d => if apartO k n d sp = true then .ok d else .bad
      | .er e => if apart k n e = true then .er e else .bad
      | .bad => .bad
    | none => .bad
  | some (.ow _ _) => .bad
  | _ => f r
theorem re_lendO (i : Nat) {X : Cx} {W : Wi} {e : Expr} {sp : Shape} {f : Env → Res D} (h : RE X W (.O sp) e f) : RE X W (.O sp) e (lendO i sp f) := by
  refine ⟨fun pins s σ H Q I hw => h.run pins s σ H Q I ?_⟩
  have hx : ∀ b ob, H b = some (.ext (isObj' b ob)) → ∃ h : Heap, h.get? b = some ob := fun b ob q => by
    obtain ⟨z, _⟩ := (show ObjOk X.prog X.w H s.heap b (.ext (isObj' b ob)) from I.hok b _ q)
    exact ⟨s.heap, z⟩
  obtain ⟨H0, F0, fp, F, r, m, o⟩ := hw
  unfold lendO at o
  split at o
  · rename_i ob er
    split at o
    · rename_i k n sz
      obtain ⟨F1, m1, back⟩ := m.lendO er sz hx
      refine ⟨H0, F0, fp, F1, _, m1, ?_⟩
      cases hf : f (freeze i r) with
      | ok d =>
        rw [hf] at o
        intro F' H' g v ⟨A, hv, hn⟩
        obtain ⟨F2, g2, b1, _⟩ := back F' H' g
        dsimp only at o
        split at o
        · rename_i p
          exact o F2 H' g2 v ⟨A, b1 sp v d A hv p, hn⟩
        · exact o.elim
      | er x =>
        rw [hf] at o
        intro cls dd F' H' g hv
        obtain ⟨F2, g2, _, b2⟩ := back F' H' g
        dsimp only at o
        split at o
        · rename_i p
          exact o cls dd F2 H' g2 (b2 cls dd x hv p)
        · exact o.elim
      | bad => rw [hf] at o; exact o.elim
    · exact o.elim
  · exact o.elim
  · exact ⟨H0, F0, fp, F, r, m, o⟩
/-! ### objects made, the maker's own -/
def spIO (G : GC) (sp : Shape) (c : Nat) (g : List D → Res D) : Sp := fun vs H Q E => ∃ (x dx : Addr) (vs' : List V) (F H0 : Hp) (ds : List D), vs = .ref x :: vs' ∧ H x = some (.ins (G.ca c) dx []) ∧ Same H0 H ∧ H0 x = none ∧ Same F H0 ∧ RepAll G F vs' ds ∧
  OutC G E F H0 (fun F' H' d => (∃ A, Own G F' H' sp (.ref x) d A ∧ ∀ a ∈ A, H0 a = none) → Q .non H') (g ds)
def selfO (q : Shape → Bool) (r : Env) : Res D := match r[0]? with
  | some (Slot.ow s d) => if q s = true then .ok d else .bad
  | _ => .bad
def runIO (p n c : Nat) (q : Shape → Bool) (g : Env → Oc) (ds : List D) : Res D := if ds.length = p then (match g (startI n c ds) with
  | .nx r => selfO q r
  | .er e _ => .er e
  | _ => .bad) else .bad
structure MkMO (P : Program) (w : World) (K : PySem.W.Frag) (mg : Str → Option Value) (base : Heap) (j : Nat) (sp : Shape) (c : Nat) (g : List D → Res D) : Prop where
  ex : ∃ (f : Addr) (fd : FuncData) (ps : List Str), FnOk P w K mg base (L2.CX P w) j f fd ps (spIO ⟨P, w, K, mg⟩ sp c g) ∧ Mk K ((⟨P, w, K, mg⟩ : GC).ca c) f ∧ mg (cname c) = some (.ref ((⟨P, w, K, mg⟩ : GC).ca c)) ∧ Binds K fd ps []
theorem spIO_of {G : GC} {W : Wi} {σ : L2.St} {F H1 H : Hp} {sp : Shape} {c : Nat} {g : List D → Res D} {vs : List V} {ds : List D} {Q : VK} (s : Same F H) (hs : Same H1 H) (r : RepAll G F vs ds)
    (o : Out G W σ F H (fun F' H' d => ∀ v, (Kd.O sp).Rep G H1 F' H' v d → Q v H') (g ds)) : ∀ x dx, H x = none → H dx = none → dx ≠ x →
      spIO G sp c g (.ref x :: vs) (upd (upd H dx (.own x)) x (.ins (G.ca c) dx [])) (fun v H2 => v = .non ∧ Q (.ref x) H2) (WE W.w σ) := fun x dx nx ndx ne =>
  ⟨x, dx, vs, F, H, ds, rfl, upd_same, fun b o e => by rw [upd_ne (ne_of_none e nx), upd_ne (ne_of_none e ndx)]; exact e, nx, s, r, OutC.of (o.imp fun F' H' d _ q ⟨A, ow, fr⟩ => ⟨rfl, q (.ref x) ⟨A, ow, fun a ha => hs.free (fr a ha)⟩⟩)⟩
section
variable {X : Cx} {W : Wi} {e : Expr} {es : List Expr} {p pos : Pos}
theorem re_makeO {j c : Nat} {sp : Shape} {x : Str} {g : List D → Res D} {fa : Env → Res (List D)} (M : MkMO X.prog X.w X.K X.mg X.base j sp c g) (hr : Room (j + 1) X.A) (tk : Takes X W.w) (ha : RA X W (e :: es) fa) (hx : x = cname c := by rfl) (hg : Gl X x := by rfl)
    (hdb : (x == ("__debug__" : Str)) = false := by decide) (he : starEach (e :: es) X.env = (false, eval e X.env) :: starEach es X.env := by rfl) (hpl : (backTo pos (starEach es X.env)).any (·.1) = false := by rfl) :
    RE X W (.O sp) (.Call (.Name x p) (e :: es) [] pos) (fun r => fa r >>= g) := by
  subst hx
  obtain ⟨f, fd, ps, F, hmk, hm, hb⟩ := M.ex
  refine ⟨fun pins s σ H Q I ⟨H0, F0, fp, F1, r, m, o⟩ => ?_⟩
  refine wpAny_Call_Name_kw (ld_glob I hg hm ?_ hdb)
  have hw : tA (gOf X) W fa σ H fun vs H1 => ∀ x dx, H1 x = none → H1 dx = none → dx ≠ x → spIO (gOf X) sp c g (.ref x :: vs) (upd (upd H1 dx (.own x)) x (.ins ((gOf X).ca c) dx [])) (fun v H2 => v = .non ∧ Q (.ref x) H2) (WE W.w σ) :=
    ⟨H0, F0, fp, F1, r, m, o.bind fun F2 H2 ds gr o2 vs rv => spIO_of gr.sub gr.h rv o2⟩
  refine PySem.W.callWith_K (h₀ := X.base) I.ok.mod.kin hmk.kp (thn (ha.run pos pins s σ H _ I hw) fun us s1 ⟨vs, H1, I1, r1, q⟩ => ⟨I1.kIn, ?_⟩) he hpl
  exact run_makeS hmk F hr hb (passAt tk σ) I1 r1 q
end
theorem spIO_len {G : GC} {sp : Shape} {c n : Nat} {g : List D → Res D} (hg : ∀ ds, ds.length ≠ n → g ds = .bad) : ∀ vs H Q E, spIO G sp c g vs H Q E → vs.length = n + 1 := fun vs H Q E ⟨x, dx, vs', F, H0, ds, ev, _, _, _, _, r, o⟩ => by
  by_cases h : ds.length = n
  · rw [ev, List.length_cons, r.length, h]
  · rw [hg ds h] at o; exact o.elim
section
variable {P : Program} {w : World} {K : PySem.W.Frag} {mg : Str → Option Value} {base : Heap}
theorem fn_okIO {qual : Str} {st : Stmt} {f : Addr} {fd : FuncData} {N ps : List Str} {k c : Nat} {sp : Shape} {q : Shape → Bool} {g : Env → Oc} (hq : ∀ s, q s = true → s = sp) (F : Fun K "__init__" qual st f fd) (S : FnScope N ps (defScope st)) (hps : 0 < ps.length)
    (hb : ∀ (cdv : Value) (A : Around) (outer : List PySem.Env) (s : Shared) (H : Hp) (E : XK) (x : Addr), Room k (A.deeper (envOfC qual (defScope st) s.heap.objs.size f cdv)) →
      RSs (cxOf (L2.CX P w) P w K mg base N qual (defScope st) f cdv A outer s H E) (WI x E) .S (defBody st) g) : FnOk P w K mg base (L2.CX P w) (k + 1) f fd ps (spIO ⟨P, w, K, mg⟩ sp c (runIO (ps.length - 1) N.length c q g)) := by
  have hNl : ps.length ≤ N.length := by have := congrArg List.length S.pre; rw [List.length_take] at this; omega
  refine F.okX S (fun vs H Q E h => (spIO_len (n := ps.length - 1) (fun ds h => if_neg h) vs H Q E h).trans (by omega)) fun cdv A outer s H vs Q E hr ⟨x, dx, vs', F1, H0, ds, ev, hx, s0, nx, sF, r, o⟩ => ?_
  subst ev
  refine ⟨_, hb cdv A outer s H E x hr, H0, F1, _, F1, _, ms_startI hx s0 nx sF r (by omega), ?_⟩
  unfold runIO at o
  split at o
  case isFalse => exact o.elim
  cases e : g (startI N.length c ds) with
  | rt d => rw [e] at o; exact o.elim
  | er y r' =>
    rw [e] at o
    exact fun fp F' σ' H' cls dd _ m ex => o cls dd F' H' m.g0 ex
  | nx r' =>
    rw [e] at o
    intro fp F' σ' H' _ m
    have o' : OutC _ E F1 H0 _ (selfO q r') := o
    have j0 : σ'[0]? = some (some (.ref x)) := m.jo
    cases e2 : selfO q r' with
    | er y => unfold selfO at e2; split at e2 <;> (try split at e2) <;> cases e2
    | bad => rw [e2] at o'; exact o'.elim
    | ok d =>
      rw [e2] at o'
      obtain ⟨s', hs, hqs⟩ : ∃ s', r'[0]? = some (.ow s' d) ∧ q s' = true := by
        unfold selfO at e2
        split at e2
        · rename_i s' d' hd
          split at e2
          · rename_i hqs
            cases e2
            exact ⟨s', hd, hqs⟩
          · cases e2
        · cases e2
      have := hq s' hqs
      subst this
      obtain ⟨⟨v, hv, ow⟩, fr⟩ := m.ow 0 s' d hs
      rw [j0] at hv
      cases hv
      exact o' F' H' m.g0 ⟨_, ow, fr⟩
  | bk r' => rw [e] at o; exact o.elim
  | ct r' => rw [e] at o; exact o.elim
  | bad => rw [e] at o; exact o.elim
end
theorem runIO_nx {p n c : Nat} {q : Shape → Bool} {g : Env → Oc} {ds : List D} {r : Env} (h : ds.length = p) (e : g (startI n c ds) = .nx r) : runIO p n c q g ds = selfO q r := by
  unfold runIO
  rw [if_pos h, e]
theorem runIO_er {p n c : Nat} {q : Shape → Bool} {g : Env → Oc} {ds : List D} {r : Env} {d : D} (h : ds.length = p) (e : g (startI n c ds) = .er d r) : runIO p n c q g ds = .er d := by
  unfold runIO
  rw [if_pos h, e]
/-- two shared parts and one own flat one -/
abbrev shP3 : Shape := .parts [.sh, .sh, .flat]
def isP3 : Shape → Bool
  | .parts [.sh, .sh, .flat] => true
  | _ => false
theorem isP3_eq (s : Shape) (h : isP3 s = true) : s = shP3 := by
  unfold isP3 at h
  split at h
  · rfl
  · cases h
end Mir

/-! A for over an own list that stays one's own. -/
namespace Mir
open PySem PySem.Spec PyProof.Rows L2
theorem WalkD.zip2B {G : GC} {F B : Hp} {k1 k2 : Bool} {l1 l2 : Addr} {ys1 ys2 : List V} {d1 d2 : List D} (hs : SqS G.K B k1 l1 ys1 ∧ SqS G.K B k2 l2 ys2) (r1 : RepAll G F ys1 d1) (r2 : RepAll G F ys2 d2) : WalkD G F B (ItZ2 G.K k1 k2 l1 l2 ys1 ys2) (zipL2 d1 d2) where
  goes := fun i H hi s => by
    obtain ⟨q1, q2⟩ := hs
    have w1 := r1.length
    have w2 := r2.length
    simp only [zipL2, List.length_map, List.length_zip] at hi
    exact ⟨⟨q1.keep s, q2.keep s⟩, by omega, by omega⟩
  stops := fun H s => by
    obtain ⟨q1, q2⟩ := hs
    have w1 := r1.length
    have w2 := r2.length
    refine ⟨⟨q1.keep s, q2.keep s⟩, ?_⟩
    simp only [zipL2, List.length_map, List.length_zip]
    omega
  yields := fun i F2 H2 v H3 hi s1 s2 _ ⟨T, x1, x2, e1, e2, e3, g1, g2⟩ => by
    subst e1 e3
    obtain ⟨c1, t1, m1⟩ := r1.getV g1
    obtain ⟨c2, t2, m2⟩ := r2.getV g2
    refine ⟨_, .tup [c1, c2], Grow.mk1 s2 e2, ?_, Rep.tup (.of upd_same) (.cons ((m1.mono s1).mono (Grow.mk1 s2 e2).f) (.cons ((m2.mono s1).mono (Grow.mk1 s2 e2).f) (.nil)))⟩
    unfold zipL2
    have hz : (d1.zip d2)[i]? = some (c1, c2) := List.getElem?_zip_eq_some.mpr ⟨t1, t2⟩
    rw [List.getElem?_map, hz]
    rfl
theorem ri_zip2R {X : Cx} {W : Wi} {e1 e2 : Expr} {p pos tpos : Pos} {elts : List Expr} {kk : Nat} {fa : Env → Res (List D)} (hm : X.mg "zip" = none) (ha : RAR X W [e1, e2] fa) (hg : Gl X "zip" := by rfl)
    (hs : starEach [e1, e2] X.env = (false, eval e1 X.env) :: starEach [e2] X.env := by rfl) (hpl : (backTo pos (starEach [e2] X.env)).any (·.1) = false := by rfl) :
    RI X W false (.Tuple elts kk tpos) (.Call (.Name "zip" p) [e1, e2] [] pos) (fun r => fa r >>= zip2D) := by
  refine ⟨fun pins s σ H R I ⟨H0, F0, fp, F, r, m, o⟩ => (pi_z2 hg hm ha hs hpl).run pins s σ H R I ⟨H0, F0, fp, F, r, m, o.bind fun F' H' ds gr o2 vs rv => ?_⟩⟩
  rcases zip2D_inv ds with ⟨a, b, xs, ys, rfl, w1, w2, e⟩ | e
  · rw [e] at o2
    cases rv with
    | cons v1 rr =>
      cases rr with
      | cons v2 rr =>
        cases rr
        obtain ⟨k1, l1, ys1, rfl, q1, r1⟩ := seqQ_rd gr.sub v1 w1
        obtain ⟨k2, l2, ys2, rfl, q2, r2⟩ := seqQ_rd gr.sub v2 w2
        refine ⟨k1, k2, l1, l2, ys1, ys2, rfl, ⟨q1, q2⟩, o2 F' H' (Grow.refl gr.sub) _ (WalkD.zip2B ⟨q1, q2⟩ r1 r2)⟩
  · rw [e] at o2; exact o2.elim
/-- no other own slot -/
def onlyO (i : Nat) (r : Env) : Prop := ∀ j s d, r[j]? = some (.ow s d) → j = i
def isOw : Slot → Bool
  | .ow _ _ => true
  | _ => false
def soleO (i : Nat) (r : Env) : Bool := (r.set i .un).all fun s => !isOw s
theorem soleO_only {i : Nat} {r : Env} (h : soleO i r = true) {j : Nat} {s : Shape} {d : D} (e : r[j]? = some (.ow s d)) : j = i := by
  by_cases ne : i = j
  · exact ne.symm
  · unfold soleO at h
    rw [List.all_eq_true] at h
    have e2 : (r.set i .un)[j]? = some (.ow s d) := by rw [List.getElem?_set_ne ne]; exact e
    have := h _ (List.mem_of_getElem? e2)
    cases this
def wrapH (i : Nat) (x : Slot) : Oc → Oc
  | .nx r => .nx (r.set i x)
  | .rt d => .rt d
  | .er e r => .er e (r.set i x)
  | _ => .bad
def forH (i : Nat) (f : D → Env → Oc) (ds : List D) (r : Env) : Oc := match r[i]? with
  | some (.ow s o) => if soleO i r = true then wrapH i (.ow s o) (forD f ds (r.set i .un)) else .bad
  | _ => .bad
section
variable {G : GC} {J : L2.St → Prop} {H0 F0 F1 H1 : Hp} {fp : Nat → List Addr} {σ : L2.St} {r : Env}
/-- the own thing put by -/
theorem MS.put (m : MS G J H0 F0 fp F1 σ H1 r) {i : Nat} {v : V} (hv : σ[i]? = some (some v)) (so : soleO i r = true) : MS G (fun σ => σ[i]? = some (some v)) H1 F1 (fun _ => []) F1 σ H1 (r.set i .un) where
  jo := hv
  s0 := Same.refl _
  f0 := Same.refl _
  sub := m.sub
  new := fun _ _ e => .inl e
  len := by simpa using m.len
  sh := fun j d h => by
    rcases get_set_slot h with ⟨_, x, _⟩ | ⟨_, h⟩
    · cases x
    · exact m.sh j d h
  ow := fun j s d h => by
    rcases get_set_slot h with ⟨_, x, _⟩ | ⟨ne, h⟩
    · cases x
    · exact absurd (soleO_only so h).symm ne
  ap := fun j k s t d e _ h1 _ => by
    rcases get_set_slot h1 with ⟨_, x, _⟩ | ⟨ne, h⟩
    · cases x
    · exact absurd (soleO_only so h).symm ne
/-- and taken up again -/
theorem MS.take (hJ : ∀ σ, J σ) (m : MS G J H0 F0 fp F1 σ H1 r) {i : Nat} {v : V} {s : Shape} {o : D} (hv : σ[i]? = some (some v)) (ho : r[i]? = some (.ow s o)) {fp2 : Nat → List Addr} {F2 H2 : Hp} {σ2 : L2.St} {r2 : Env} (m2 : MS G (fun σ => σ[i]? = some (some v)) H1 F1 fp2 F2 σ2 H2 r2) :
    MS G J H0 F0 (fun j => if j = i then fp i else fp2 j) F2 σ2 H2 (r2.set i (.ow s o)) := by
  obtain ⟨⟨w, hw, ow⟩, fr⟩ := m.ow i s o ho
  rw [hv] at hw
  cases hw
  have th := fun a (ha : a ∈ fp i) => ow.there a ha
  have nf : ∀ a ∈ fp i, F2 a = none := fun a ha => by
    cases e : F2 a with
    | none => rfl
    | some u =>
      rcases m2.new a u e with z | z
      · have := (th a ha).1
        rw [this] at z; cases z
      · obtain ⟨u2, e2⟩ := (th a ha).2
        rw [z] at e2; cases e2
  have hi2 : ∀ a ∈ fp i, H1 a ≠ none := fun a ha z => by
    obtain ⟨u2, e2⟩ := (th a ha).2
    rw [z] at e2; cases e2
  refine ⟨hJ _, m.s0.trans m2.s0, m.f0.trans m2.f0, m2.sub, fun a u e => ?_, by simpa using m2.len, fun j d h => ?_, fun j t d h => ?_, fun j k t u d e ne h1 h2 => ?_⟩
  · rcases m2.new a u e with z | z
    · exact m.new a u z
    · exact .inr (m.s0.free z)
  · rcases get_set_slot h with ⟨_, x, _⟩ | ⟨_, h⟩
    · cases x
    · exact m2.sh j d h
  · rcases get_set_slot h with ⟨e1, x, _⟩ | ⟨ne, h⟩
    · subst e1
      cases x
      refine ⟨⟨v, m2.jo, ?_⟩, ?_⟩
      · show Own G F2 H2 s v o (if i = i then fp i else fp2 i)
        rw [if_pos rfl]
        exact ow.keep ⟨fun a _ u e => m2.s0 a u e, m2.f0, fun a ha _ => nf a ha⟩
      · show ∀ a ∈ (if i = i then fp i else fp2 i), H0 a = none
        rw [if_pos rfl]
        exact fr
    · have ne' : ¬ j = i := fun z => ne z.symm
      obtain ⟨⟨w, q1, q2⟩, q3⟩ := m2.ow j t d h
      refine ⟨⟨w, q1, ?_⟩, ?_⟩
      · show Own G F2 H2 t w d (if j = i then fp i else fp2 j)
        rw [if_neg ne']
        exact q2
      · show ∀ a ∈ (if j = i then fp i else fp2 j), H0 a = none
        rw [if_neg ne']
        exact fun a ha => m.s0.free (q3 a ha)
  · show ∀ a ∈ (if j = i then fp i else fp2 j), a ∉ (if k = i then fp i else fp2 k)
    rcases get_set_slot h1 with ⟨e1, _, _⟩ | ⟨n1, h1⟩
    · subst e1
      rcases get_set_slot h2 with ⟨e2, _, _⟩ | ⟨n2, h2⟩
      · exact absurd e2 ne
      · have n2' : ¬ k = i := fun z => n2 z.symm
        rw [if_pos rfl, if_neg n2']
        exact fun a ha hb => hi2 a ha ((m2.ow k u e h2).2 a hb)
    · have n1' : ¬ j = i := fun z => n1 z.symm
      rw [if_neg n1']
      rcases get_set_slot h2 with ⟨e2, _, _⟩ | ⟨n2, h2⟩
      · subst e2
        rw [if_pos rfl]
        exact fun a ha hb => hi2 a hb ((m2.ow j t d h1).2 a ha)
      · have n2' : ¬ k = i := fun z => n2 z.symm
        rw [if_neg n2']
        exact m2.ap j k t u d e ne h1 h2
end
section
variable {X : Cx} {W : Wi} {k : Kd}
abbrev Wi.pin (W : Wi) (i : Nat) (v : V) : Wi := ⟨W.w, fun σ => σ[i]? = some (some v)⟩
theorem out_hold {H0 F0 F1 H1 : Hp} {fp : Nat → List Addr} {σ : L2.St} {r : Env} (hJ : ∀ σ, W.J σ) (m : MS (gOf X) W.J H0 F0 fp F1 σ H1 r) {i : Nat} {v : V} {s : Shape} {o : D} (hv : σ[i]? = some (some v)) (ho : r[i]? = some (.ow s o)) {D : Ends} {F : Hp} (sF : Same F1 F) : ∀ oc : Oc,
    OutS (gOf X) W k H0 F0 F D (wrapH i (.ow s o) oc) → OutS (gOf X) (W.pin i v) k H1 F1 F D oc
  | .nx r', h => fun fp' F' σ' H' q m2 => h _ F' σ' H' q (m.take hJ hv ho m2)
  | .rt d, h => fun F' H' w q g kr => h F' H' w q (m.g0.trans g) (kr.later m.s0)
  | .er e r', h => fun fp' F' σ' H' cls dd q m2 ex => h _ F' σ' H' cls dd q (m.take hJ hv ho m2) ex
  | .bk _, h => h.elim
  | .ct _, h => h.elim
  | .bad, h => h.elim
theorem rs_forH (i : Nat) {tg iter : Expr} {body : List Stmt} {pos : Pos} {f : Env → Res (List D)} {g : D → Env → Res Env} {gb : Env → Oc} (hJ : ∀ σ, W.J σ) (hp : PassesOwn (model X.prog X.w) X.A X.env X.xe) (hc : X.calm = true) (hi : RI X W false tg iter f)
    (hg : ∀ v, RG X (W.pin i v).J tg g) (hb : ∀ v, RSs X (W.pin i v) k body gb)
    (hs : ∀ x, foldedSetIterable iter X.env x = pure x := by intro _; rfl) : RS X W k (.For tg iter body [] pos) (fun r => lift (f r) r fun ds => forH i (fun d r => (into (g d r)).seq gb) ds r) := by
  have hg' : PG X tg (fun w σ H Q => ∃ v, tGd (gOf X) (W.pin i v).J g w σ H Q) := ⟨fun pins s σ H w u Q I rw' ⟨v, h⟩ => (hg v).run pins s σ H w u Q I rw' h⟩
  have hb' : PSs X body (fun D σ H => ∃ v, tS (gOf X) (W.pin i v) k gb D σ H) := ⟨fun pins s σ H D I ⟨v, h⟩ => (hb v).run pins s σ H D I h⟩
  refine (ps_for hp hc hi hg' hb' hs).imp fun D σ H ⟨H0, F0, fp, F, r, m, o⟩ => ⟨H0, F0, fp, F, r, m, o.lift m fun F1 H1 ds gr o1 J w => ?_⟩
  rw [if_neg (by decide)] at w
  have m1 := m.grow gr
  unfold forH at o1
  split at o1
  case h_2 => exact o1.elim
  rename_i s ob ho
  split at o1
  case isFalse => exact o1.elim
  rename_i so
  obtain ⟨⟨v, hv, _⟩, _⟩ := m1.ow i s ob ho
  have mi := m1.put hv so
  have oi : OutS (gOf X) (W.pin i v) k H1 F1 F1 D (forD (fun d r => (into (g d r)).seq gb) ds (r.set i .un)) := out_hold hJ m1 hv ho (Same.refl _) _ o1
  refine ⟨fun n j σ H => j = ds.length - n ∧ n ≤ ds.length ∧ ∃ fp F r, Same F1 F ∧ MS (gOf X) (W.pin i v).J H1 F1 fp F σ H r ∧ OutS (gOf X) (W.pin i v) k H1 F1 F D (forD (fun d r => (into (g d r)).seq gb) (ds.drop n) r),
    ⟨ds.length, by simp, Nat.zero_le _, _, F1, _, Same.refl _, mi, by simpa using oi⟩, ?_⟩
  rintro n j σ H ⟨rfl, hi, fp, F, r, sF, m, o⟩
  by_cases hlt : n < ds.length
  · refine .inr ⟨w.goes n H hlt m.s0, fun σ' H' => n + 1 ≤ ds.length ∧ ∃ fp F r, Same F1 F ∧ MS (gOf X) (W.pin i v).J H1 F1 fp F σ' H' r ∧ OutS (gOf X) (W.pin i v) k H1 F1 F D (forD (fun d r => (into (g d r)).seq gb) (ds.drop (n + 1)) r),
      fun σ' H' ⟨h1, h2⟩ => ⟨ds.length - (n + 1), by omega, rfl, h1, h2⟩, fun x H' y => ?_⟩
    obtain ⟨F3, d, g3, ed, rx⟩ := w.yields n F H x H' hlt sF m.sub m.s0 y
    have e : ds.drop n = d :: ds.drop (n + 1) := by
      rw [List.drop_eq_getElem_cons hlt]
      rw [List.getElem?_eq_getElem hlt] at ed
      rw [Option.some.inj ed]
    rw [e, forD_cons] at o
    cases e1 : g d r with
    | ok r1 =>
      rw [e1] at o
      refine ⟨v, H1, F1, fp, F3, r, d, m.grow g3, rx, r1, e1, fun fp' σ' m' => ⟨v, H1, F1, fp', F3, r1, m', ?_⟩⟩
      have o' : OutS (gOf X) (W.pin i v) k H1 F1 F3 D _ := OutS.same o g3.f
      simp only [into_ok, nx_seq] at o'
      cases e2 : gb r1 with
      | nx r2 => rw [e2] at o'; exact fun fp2 F2 σ2 H2 q m2 => ⟨hlt, fp2, F2, r2, (sF.trans g3.f).trans q, m2, o'.same q⟩
      | ct r2 => rw [e2] at o'; exact fun fp2 F2 σ2 H2 q m2 => ⟨hlt, fp2, F2, r2, (sF.trans g3.f).trans q, m2, o'.same q⟩
      | bk r2 => rw [e2] at o'; exact o'
      | rt d2 => rw [e2] at o'; exact o'
      | er x2 r2 => rw [e2] at o'; exact o'
      | bad => rw [e2] at o'; exact o'
    | er x2 => rw [e1] at o; exact o.elim
    | bad => rw [e1] at o; exact o.elim
  · have e : n = ds.length := by omega
    subst e
    rw [List.drop_length] at o
    exact .inl ⟨w.stops H m.s0, o fp F σ H (Same.refl _) m⟩
end
end Mir

set_option maxHeartbeats 0
namespace Mir.K47
open PySem PySem.Spec PyProof.Rows L2
def top (i : Nat) : Stmt := PySem.Challenge.pw_carrytower_k47_kinds_listed.main.body.getD i (.Pass ⟨0, 0, 0, 0⟩)
abbrev isC : List Nat := [10, 11, 12, 13, 14, 15, 16, 17, 18, 19, 23, 24, 27, 28, 0]
abbrev isU : List Nat := [0, 10, 12, 13, 14, 15, 16, 17, 18, 19, 23, 24, 27, 28]
abbrev ctC : List Nat := [10, 11, 12, 13, 14, 15, 16, 17, 18, 19, 23, 24, 27, 28]
abbrev ctU : List Nat := [10]
abbrev s_q_lower : Stmt := top 46
abbrev N_q_lower : List Str := ["_law_cell", "_law_some"]
theorem sc_q_lower : FnScope N_q_lower ["_law_cell"] (defScope s_q_lower) := ⟨rfl, rfl, rfl, by decide +kernel, rfl, by decide +kernel, by decide +kernel⟩
abbrev s_q_spread : Stmt := top 40
abbrev N_q_spread : List Str := ["_law_script", "_law_k", "_law_beyond", "_law_cell", "_law_number_here"]
theorem sc_q_spread : FnScope N_q_spread ["_law_script", "_law_k"] (defScope s_q_spread) := ⟨rfl, rfl, rfl, by decide +kernel, rfl, by decide +kernel, by decide +kernel⟩
abbrev s_q_upper : Stmt := top 47
abbrev N_q_upper : List Str := ["_law_cell", "_law_some"]
theorem sc_q_upper : FnScope N_q_upper ["_law_cell"] (defScope s_q_upper) := ⟨rfl, rfl, rfl, by decide +kernel, rfl, by decide +kernel, by decide +kernel⟩
abbrev s_Rounds_members : Stmt := inClass (top 22) 1
abbrev N_Rounds_members : List Str := ["self", "found", "number", "longer", "x", "here"]
theorem sc_Rounds_members : FnScope N_Rounds_members ["self"] (defScope s_Rounds_members) := ⟨rfl, rfl, rfl, by decide +kernel, rfl, by decide +kernel, by decide +kernel⟩
abbrev s_Group_size : Stmt := inClass (top 21) 0
abbrev N_Group_size : List Str := ["self"]
theorem sc_Group_size : FnScope N_Group_size ["self"] (defScope s_Group_size) := ⟨rfl, rfl, rfl, by decide +kernel, rfl, by decide +kernel, by decide +kernel⟩
abbrev s_Rounds_is_even : Stmt := inClass (top 22) 7
abbrev N_Rounds_is_even : List Str := ["self"]
theorem sc_Rounds_is_even : FnScope N_Rounds_is_even ["self"] (defScope s_Rounds_is_even) := ⟨rfl, rfl, rfl, by decide +kernel, rfl, by decide +kernel, by decide +kernel⟩
abbrev s_look_at_groups : Stmt := top 26
abbrev N_look_at_groups : List Str := ["lower", "upper"]
theorem sc_look_at_groups : FnScope N_look_at_groups ["lower", "upper"] (defScope s_look_at_groups) := ⟨rfl, rfl, rfl, by decide +kernel, rfl, by decide +kernel, by decide +kernel⟩
abbrev s_is_whole : Stmt := top 19
abbrev N_is_whole : List Str := ["thing"]
theorem sc_is_whole : FnScope N_is_whole ["thing"] (defScope s_is_whole) := ⟨rfl, rfl, rfl, by decide +kernel, rfl, by decide +kernel, by decide +kernel⟩
abbrev s_Rounds_has : Stmt := inClass (top 22) 2
abbrev N_Rounds_has : List Str := ["self", "thing", "number", "most"]
theorem sc_Rounds_has : FnScope N_Rounds_has ["self", "thing"] (defScope s_Rounds_has) := ⟨rfl, rfl, rfl, by decide +kernel, rfl, by decide +kernel, by decide +kernel⟩
abbrev s_greatest_shared : Stmt := top 28
abbrev N_greatest_shared : List Str := ["one", "other"]
theorem sc_greatest_shared : FnScope N_greatest_shared ["one", "other"] (defScope s_greatest_shared) := ⟨rfl, rfl, rfl, by decide +kernel, rfl, by decide +kernel, by decide +kernel⟩
abbrev s_rest_but_for : Stmt := top 29
abbrev N_rest_but_for : List Str := ["group", "n", "a", "number", "most"]
theorem sc_rest_but_for : FnScope N_rest_but_for ["group", "n", "a"] (defScope s_rest_but_for) := ⟨rfl, rfl, rfl, by decide +kernel, rfl, by decide +kernel, by decide +kernel⟩
abbrev s_rests_for : Stmt := top 33
abbrev N_rests_for : List Str := ["lower", "n", "a"]
theorem sc_rests_for : FnScope N_rests_for ["lower", "n"] (defScope s_rests_for) := ⟨rfl, rfl, rfl, by decide +kernel, rfl, by decide +kernel, by decide +kernel⟩
abbrev s_pairs_of : Stmt := top 32
abbrev N_pairs_of : List Str := ["upper", "found", "i", "j"]
theorem sc_pairs_of : FnScope N_pairs_of ["upper"] (defScope s_pairs_of) := ⟨rfl, rfl, rfl, by decide +kernel, rfl, by decide +kernel, by decide +kernel⟩
abbrev s_Rounds_nought : Stmt := inClass (top 22) 3
abbrev N_Rounds_nought : List Str := ["self", "number"]
theorem sc_Rounds_nought : FnScope N_Rounds_nought ["self"] (defScope s_Rounds_nought) := ⟨rfl, rfl, rfl, by decide +kernel, rfl, by decide +kernel, by decide +kernel⟩
abbrev s_Group_look_at : Stmt := inClass (top 21) 1
abbrev N_Group_look_at : List Str := ["self", "thing"]
theorem sc_Group_look_at : FnScope N_Group_look_at ["self", "thing"] (defScope s_Group_look_at) := ⟨rfl, rfl, rfl, by decide +kernel, rfl, by decide +kernel, by decide +kernel⟩
abbrev s_Rounds_backed : Stmt := inClass (top 22) 5
abbrev N_Rounds_backed : List Str := ["self", "x", "a", "number"]
theorem sc_Rounds_backed : FnScope N_Rounds_backed ["self", "x"] (defScope s_Rounds_backed) := ⟨rfl, rfl, rfl, by decide +kernel, rfl, by decide +kernel, by decide +kernel⟩
abbrev s_Rounds_put : Stmt := inClass (top 22) 4
abbrev N_Rounds_put : List Str := ["self", "x", "y", "a", "b", "number"]
theorem sc_Rounds_put : FnScope N_Rounds_put ["self", "x", "y"] (defScope s_Rounds_put) := ⟨rfl, rfl, rfl, by decide +kernel, rfl, by decide +kernel, by decide +kernel⟩
abbrev s_Group_times : Stmt := inClass (top 21) 4
abbrev N_Group_times : List Str := ["self", "n", "x", "found"]
theorem sc_Group_times : FnScope N_Group_times ["self", "n", "x"] (defScope s_Group_times) := ⟨rfl, rfl, rfl, by decide +kernel, rfl, by decide +kernel, by decide +kernel⟩
abbrev s_odds_for : Stmt := top 34
abbrev N_odds_for : List Str := ["lower", "n", "m", "nought", "a"]
theorem sc_odds_for : FnScope N_odds_for ["lower", "n", "m"] (defScope s_odds_for) := ⟨rfl, rfl, rfl, by decide +kernel, rfl, by decide +kernel, by decide +kernel⟩
abbrev s_places_of : Stmt := top 35
abbrev N_places_of : List Str := ["lower", "upper", "rests", "n", "i", "j"]
theorem sc_places_of : FnScope N_places_of ["lower", "upper"] (defScope s_places_of) := ⟨rfl, rfl, rfl, by decide +kernel, rfl, by decide +kernel, by decide +kernel⟩
abbrev s_how_many : Stmt := top 36
abbrev N_how_many : List Str := ["lower", "upper", "many", "rests", "odds", "some"]
theorem sc_how_many : FnScope N_how_many ["lower", "upper"] (defScope s_how_many) := ⟨rfl, rfl, rfl, by decide +kernel, rfl, by decide +kernel, by decide +kernel⟩
abbrev s_are_rounds : Stmt := top 20
abbrev N_are_rounds : List Str := ["thing", "many", "number"]
theorem sc_are_rounds : FnScope N_are_rounds ["thing"] (defScope s_are_rounds) := ⟨rfl, rfl, rfl, by decide +kernel, rfl, by decide +kernel, by decide +kernel⟩
abbrev s_Rounds_init : Stmt := inClass (top 22) 0
abbrev N_Rounds_init : List Str := ["self", "rounds"]
theorem sc_Rounds_init : FnScope N_Rounds_init ["self", "rounds"] (defScope s_Rounds_init) := ⟨rfl, rfl, rfl, by decide +kernel, rfl, by decide +kernel, by decide +kernel⟩
abbrev s_TooMany_init : Stmt := inClass (top 14) 0
abbrev s_rows_by : Stmt := top 37
abbrev N_rows_by : List Str := ["places", "rows", "some", "longer", "row", "one"]
theorem sc_rows_by : FnScope N_rows_by ["places"] (defScope s_rows_by) := ⟨rfl, rfl, rfl, by decide +kernel, rfl, by decide +kernel, by decide +kernel⟩
abbrev s_kinds_of : Stmt := top 38
abbrev N_kinds_of : List Str := ["lower", "upper", "many", "rests", "odds", "found", "one", "other"]
theorem sc_kinds_of : FnScope N_kinds_of ["lower", "upper"] (defScope s_kinds_of) := ⟨rfl, rfl, rfl, by decide +kernel, rfl, by decide +kernel, by decide +kernel⟩
abbrev s_q_kinds : Stmt := top 51
abbrev N_q_kinds : List Str := ["_law_e", "_law_kinds_here"]
theorem sc_q_kinds : FnScope N_q_kinds ["_law_e"] (defScope s_q_kinds) := ⟨rfl, rfl, rfl, by decide +kernel, rfl, by decide +kernel, by decide +kernel⟩
abbrev s_q_class : Stmt := top 52
abbrev N_q_class : List Str := ["_law_word", "_law_some", "_law_one"]
theorem sc_q_class : FnScope N_q_class ["_law_word"] (defScope s_q_class) := ⟨rfl, rfl, rfl, by decide +kernel, rfl, by decide +kernel, by decide +kernel⟩
abbrev s_q_whole : Stmt := top 41
abbrev N_q_whole : List Str := ["_law_found"]
theorem sc_q_whole : FnScope N_q_whole ["_law_found"] (defScope s_q_whole) := ⟨rfl, rfl, rfl, by decide +kernel, rfl, by decide +kernel, by decide +kernel⟩
abbrev s_q_refused : Stmt := top 56
abbrev N_q_refused : List Str := ["_law_way", "_law_lower_here", "_law_upper_here", "_law_word", "_law_many_here", "_law_met", "_law_e"]
theorem sc_q_refused : FnScope N_q_refused ["_law_way", "_law_lower_here", "_law_upper_here", "_law_word", "_law_many_here"] (defScope s_q_refused) := ⟨rfl, rfl, rfl, by decide +kernel, rfl, by decide +kernel, by decide +kernel⟩
abbrev s_q_pairs : Stmt := top 48
abbrev N_q_pairs : List Str := ["_law_upper_here", "_law_found", "_law_i", "_law_j"]
theorem sc_q_pairs : FnScope N_q_pairs ["_law_upper_here"] (defScope s_q_pairs) := ⟨rfl, rfl, rfl, by decide +kernel, rfl, by decide +kernel, by decide +kernel⟩
abbrev s_q_divisor : Stmt := top 44
abbrev N_q_divisor : List Str := ["_law_one", "_law_other"]
theorem sc_q_divisor : FnScope N_q_divisor ["_law_one", "_law_other"] (defScope s_q_divisor) := ⟨rfl, rfl, rfl, by decide +kernel, rfl, by decide +kernel, by decide +kernel⟩
abbrev s_q_number : Stmt := top 55
abbrev N_q_number : List Str := ["_law_lower_here", "_law_upper_here", "_law_many_here", "_law_n", "_law_number_here", "_law_i", "_law_j"]
theorem sc_q_number : FnScope N_q_number ["_law_lower_here", "_law_upper_here"] (defScope s_q_number) := ⟨rfl, rfl, rfl, by decide +kernel, rfl, by decide +kernel, by decide +kernel⟩
abbrev s_q_all : Stmt := top 42
abbrev N_q_all : List Str := ["_law_rounds", "_law_found", "_law_number_here", "_law_longer", "_law_x", "_law_here"]
theorem sc_q_all : FnScope N_q_all ["_law_rounds"] (defScope s_q_all) := ⟨rfl, rfl, rfl, by decide +kernel, rfl, by decide +kernel, by decide +kernel⟩
abbrev s_q_rest : Stmt := top 45
abbrev N_q_rest : List Str := ["_law_rounds", "_law_n", "_law_a", "_law_one", "_law_number_here"]
theorem sc_q_rest : FnScope N_q_rest ["_law_rounds", "_law_n", "_law_a"] (defScope s_q_rest) := ⟨rfl, rfl, rfl, by decide +kernel, rfl, by decide +kernel, by decide +kernel⟩
abbrev s_q_many : Stmt := top 43
abbrev N_q_many : List Str := ["_law_rounds", "_law_n", "_law_a", "_law_one", "_law_number_here"]
theorem sc_q_many : FnScope N_q_many ["_law_rounds", "_law_n", "_law_a"] (defScope s_q_many) := ⟨rfl, rfl, rfl, by decide +kernel, rfl, by decide +kernel, by decide +kernel⟩
abbrev s_q_rows : Stmt := top 53
abbrev N_q_rows : List Str := ["_law_places", "_law_found", "_law_some", "_law_longer", "_law_row", "_law_one"]
theorem sc_q_rows : FnScope N_q_rows ["_law_places"] (defScope s_q_rows) := ⟨rfl, rfl, rfl, by decide +kernel, rfl, by decide +kernel, by decide +kernel⟩
abbrev s_q_due : Stmt := top 54
abbrev N_q_due : List Str := ["_law_lower_here", "_law_upper_here", "_law_nought", "_law_rests", "_law_n", "_law_twists", "_law_i", "_law_j", "_law_found", "_law_row", "_law_number_here", "_law_a", "_law_other"]
theorem sc_q_due : FnScope N_q_due ["_law_lower_here", "_law_upper_here"] (defScope s_q_due) := ⟨rfl, rfl, rfl, by decide +kernel, rfl, by decide +kernel, by decide +kernel⟩
abbrev s_q_is : Stmt := top 49
abbrev N_q_is : List Str := ["_law_rounds", "_law_found", "_law_due_here", "_law_one"]
theorem sc_q_is : FnScope N_q_is ["_law_rounds", "_law_found", "_law_due_here"] (defScope s_q_is) := ⟨rfl, rfl, rfl, by decide +kernel, rfl, by decide +kernel, by decide +kernel⟩
abbrev s_q_kind_is : Stmt := top 50
abbrev N_q_kind_is : List Str := ["_law_lower_here", "_law_found", "_law_due_here", "_law_row", "_law_due_row", "_law_one", "_law_other"]
theorem sc_q_kind_is : FnScope N_q_kind_is ["_law_lower_here", "_law_found", "_law_due_here"] (defScope s_q_kind_is) := ⟨rfl, rfl, rfl, by decide +kernel, rfl, by decide +kernel, by decide +kernel⟩
abbrev s_q_list_right : Stmt := top 57
abbrev N_q_list_right : List Str := ["_law_lower_here", "_law_upper_here", "_law_due_here", "_law_found", "_law_one", "_law_other"]
theorem sc_q_list_right : FnScope N_q_list_right ["_law_lower_here", "_law_upper_here", "_law_due_here"] (defScope s_q_list_right) := ⟨rfl, rfl, rfl, by decide +kernel, rfl, by decide +kernel, by decide +kernel⟩
abbrev s_law : Stmt := top 58
abbrev N_law : List Str := ["_law_script", "_law_lower_here", "_law_upper_here", "_law_wrong", "_law_many_here", "_law_found", "_law_due_here", "_law_way"]
theorem sc_law : FnScope N_law ["_law_script"] (defScope s_law) := ⟨rfl, rfl, rfl, by decide +kernel, rfl, by decide +kernel, by decide +kernel⟩
def e_q_lower : Env → Oc := fun r => (lift (((((.ok (.int 2)) >>= fun d => (.ok []) >>= fun ds => .ok (d :: ds)) >>= tupD) >>= fun d => ((((.ok (.int 4)) >>= fun d => (.ok []) >>= fun ds => .ok (d :: ds)) >>= tupD) >>= fun d => ((((.ok (.int 2)) >>= fun d => ((.ok (.int 2)) >>= fun d => (.ok []) >>= fun ds => .ok (d :: ds)) >>= fun ds => .ok (d :: ds)) >>= tupD) >>= fun d => ((((.ok (.int 3)) >>= fun d => (.ok []) >>= fun ds => .ok (d :: ds)) >>= tupD) >>= fun d => ((((.ok (.int 6)) >>= fun d => (.ok []) >>= fun ds => .ok (d :: ds)) >>= tupD) >>= fun d => ((((.ok (.int 2)) >>= fun d => ((.ok (.int 4)) >>= fun d => (.ok []) >>= fun ds => .ok (d :: ds)) >>= fun ds => .ok (d :: ds)) >>= tupD) >>= fun d => ((((.ok (.int 8)) >>= fun d => (.ok []) >>= fun ds => .ok (d :: ds)) >>= tupD) >>= fun d => ((((.ok (.int 9)) >>= fun d => (.ok []) >>= fun ds => .ok (d :: ds)) >>= tupD) >>= fun d => ((((.ok (.int 4)) >>= fun d => ((.ok (.int 4)) >>= fun d => (.ok []) >>= fun ds => .ok (d :: ds)) >>= fun ds => .ok (d :: ds)) >>= tupD) >>= fun d => ((((.ok (.int 16)) >>= fun d => (.ok []) >>= fun ds => .ok (d :: ds)) >>= tupD) >>= fun d => ((((.ok (.int 2)) >>= fun d => ((.ok (.int 2)) >>= fun d => ((.ok (.int 2)) >>= fun d => (.ok []) >>= fun ds => .ok (d :: ds)) >>= fun ds => .ok (d :: ds)) >>= fun ds => .ok (d :: ds)) >>= tupD) >>= fun d => (((.ok []) >>= tupD) >>= fun d => ((((.ok (.int 12)) >>= fun d => (.ok []) >>= fun ds => .ok (d :: ds)) >>= tupD) >>= fun d => ((((.ok (.int 3)) >>= fun d => ((.ok (.int 3)) >>= fun d => (.ok []) >>= fun ds => .ok (d :: ds)) >>= fun ds => .ok (d :: ds)) >>= tupD) >>= fun d => ((((.ok (.int 2)) >>= fun d => ((.ok (.int 6)) >>= fun d => (.ok []) >>= fun ds => .ok (d :: ds)) >>= fun ds => .ok (d :: ds)) >>= tupD) >>= fun d => (.ok []) >>= fun ds => .ok (d :: ds)) >>= fun ds => .ok (d :: ds)) >>= fun ds => .ok (d :: ds)) >>= fun ds => .ok (d :: ds)) >>= fun ds => .ok (d :: ds)) >>= fun ds => .ok (d :: ds)) >>= fun ds => .ok (d :: ds)) >>= fun ds => .ok (d :: ds)) >>= fun ds => .ok (d :: ds)) >>= fun ds => .ok (d :: ds)) >>= fun ds => .ok (d :: ds)) >>= fun ds => .ok (d :: ds)) >>= fun ds => .ok (d :: ds)) >>= fun ds => .ok (d :: ds)) >>= fun ds => .ok (d :: ds)) >>= lstD) r fun d => .nx (r.set 1 (.sh d))).seq fun r => (lift ((getS 1 r) >>= fun x => ((getS 0 r) >>= fun x => (.ok (.int 15)) >>= fun y => modD x y) >>= fun y => ixD x y) r fun d => .rt d)
def d_q_lower : List D → Res D := runD 1 N_q_lower.length e_q_lower
def e_q_spread : Env → Oc := fun r => (lift ((((getS 0 r) >>= fun d => (.ok []) >>= fun ds => .ok (d :: ds)) >>= one lenD) >>= fun x => (.ok (.int 1)) >>= fun y => subD x y) r fun d => .nx (r.set 2 (.sh d))).seq fun r => ((lift ((((getS 2 r) >>= fun x => (.ok (.int 0)) >>= fun y => gtD x y) >>= asB) >>= fun t => if t = true then (((((getS 0 r) >>= fun x => (.ok (.int 0)) >>= fun y => ixD x y) >>= fun x => (.ok (.int 2)) >>= fun y => modD x y) >>= fun x => (.ok (.int 1)) >>= fun y => eqD x y) >>= asB) else .ok false) r fun t => if t = true then (lift ((((getS 0 r) >>= fun x => ((.ok (.int 1)) >>= fun x => ((getS 1 r) >>= fun x => (getS 2 r) >>= fun y => modD x y) >>= fun y => addD x y) >>= fun y => ixD x y) >>= fun x => ((.ok (.int 31)) >>= fun x => ((getS 1 r) >>= fun x => (getS 2 r) >>= fun y => divD x y) >>= fun y => mulD x y) >>= fun y => shrD x y) >>= fun x => (.ok (.int 2147483648)) >>= fun y => modD x y) r fun d => .rt d) else (.nx r)).seq fun r => ((lift (.ok (.int 0)) r fun d => .nx (r.set 3 (.sh d))).seq fun r => ((lift (((((getS 0 r) >>= fun d => (.ok []) >>= fun ds => .ok (d :: ds)) >>= one lenD) >>= fun x => (.ok (.int 0)) >>= fun y => gtD x y) >>= asB) r fun t => if t = true then (lift ((getS 0 r) >>= fun x => ((getS 1 r) >>= fun x => (((getS 0 r) >>= fun d => (.ok []) >>= fun ds => .ok (d :: ds)) >>= one lenD) >>= fun y => modD x y) >>= fun y => ixD x y) r fun d => .nx (r.set 3 (.sh d))) else (.nx r)).seq fun r => ((lift (((((getS 3 r) >>= fun x => (.ok (.int 1000000007)) >>= fun y => modD x y) >>= fun x => (.ok (.int 48271)) >>= fun y => mulD x y) >>= fun x => ((((getS 1 r) >>= fun x => (.ok (.int 3)) >>= fun y => addD x y) >>= fun x => ((getS 1 r) >>= fun x => (.ok (.int 5)) >>= fun y => addD x y) >>= fun y => mulD x y) >>= fun x => (.ok (.int 69621)) >>= fun y => mulD x y) >>= fun y => addD x y) >>= fun x => (.ok (.int 2147483647)) >>= fun y => modD x y) r fun d => .nx (r.set 4 (.sh d))).seq fun r => (lift (((getS 4 r) >>= fun x => (.ok (.int 16807)) >>= fun y => mulD x y) >>= fun x => (.ok (.int 2147483629)) >>= fun y => modD x y) r fun d => .rt d)))))
def d_q_spread : List D → Res D := runD 2 N_q_spread.length e_q_spread
def e_q_upper : Env → Oc := fun r => (lift (((((.ok (.int 2)) >>= fun d => (.ok []) >>= fun ds => .ok (d :: ds)) >>= tupD) >>= fun d => ((((.ok (.int 4)) >>= fun d => (.ok []) >>= fun ds => .ok (d :: ds)) >>= tupD) >>= fun d => ((((.ok (.int 2)) >>= fun d => ((.ok (.int 2)) >>= fun d => (.ok []) >>= fun ds => .ok (d :: ds)) >>= fun ds => .ok (d :: ds)) >>= tupD) >>= fun d => ((((.ok (.int 3)) >>= fun d => (.ok []) >>= fun ds => .ok (d :: ds)) >>= tupD) >>= fun d => ((((.ok (.int 6)) >>= fun d => (.ok []) >>= fun ds => .ok (d :: ds)) >>= tupD) >>= fun d => ((((.ok (.int 2)) >>= fun d => ((.ok (.int 3)) >>= fun d => (.ok []) >>= fun ds => .ok (d :: ds)) >>= fun ds => .ok (d :: ds)) >>= tupD) >>= fun d => ((((.ok (.int 2)) >>= fun d => ((.ok (.int 2)) >>= fun d => (.ok []) >>= fun ds => .ok (d :: ds)) >>= fun ds => .ok (d :: ds)) >>= tupD) >>= fun d => ((((.ok (.int 3)) >>= fun d => (.ok []) >>= fun ds => .ok (d :: ds)) >>= tupD) >>= fun d => ((((.ok (.int 5)) >>= fun d => (.ok []) >>= fun ds => .ok (d :: ds)) >>= tupD) >>= fun d => ((((.ok (.int 4)) >>= fun d => (.ok []) >>= fun ds => .ok (d :: ds)) >>= tupD) >>= fun d => ((((.ok (.int 2)) >>= fun d => ((.ok (.int 4)) >>= fun d => (.ok []) >>= fun ds => .ok (d :: ds)) >>= fun ds => .ok (d :: ds)) >>= tupD) >>= fun d => ((((.ok (.int 3)) >>= fun d => ((.ok (.int 3)) >>= fun d => (.ok []) >>= fun ds => .ok (d :: ds)) >>= fun ds => .ok (d :: ds)) >>= tupD) >>= fun d => ((((.ok (.int 8)) >>= fun d => (.ok []) >>= fun ds => .ok (d :: ds)) >>= tupD) >>= fun d => (((.ok []) >>= tupD) >>= fun d => ((((.ok (.int 2)) >>= fun d => ((.ok (.int 2)) >>= fun d => ((.ok (.int 2)) >>= fun d => (.ok []) >>= fun ds => .ok (d :: ds)) >>= fun ds => .ok (d :: ds)) >>= fun ds => .ok (d :: ds)) >>= tupD) >>= fun d => (.ok []) >>= fun ds => .ok (d :: ds)) >>= fun ds => .ok (d :: ds)) >>= fun ds => .ok (d :: ds)) >>= fun ds => .ok (d :: ds)) >>= fun ds => .ok (d :: ds)) >>= fun ds => .ok (d :: ds)) >>= fun ds => .ok (d :: ds)) >>= fun ds => .ok (d :: ds)) >>= fun ds => .ok (d :: ds)) >>= fun ds => .ok (d :: ds)) >>= fun ds => .ok (d :: ds)) >>= fun ds => .ok (d :: ds)) >>= fun ds => .ok (d :: ds)) >>= fun ds => .ok (d :: ds)) >>= fun ds => .ok (d :: ds)) >>= lstD) r fun d => .nx (r.set 1 (.sh d))).seq fun r => (lift ((getS 1 r) >>= fun x => ((getS 0 r) >>= fun x => (.ok (.int 15)) >>= fun y => modD x y) >>= fun y => ixD x y) r fun d => .rt d)
def d_q_upper : List D → Res D := runD 1 N_q_upper.length e_q_upper
def Rounds_members_c1 (r : Env) (ds : List D) : Res (List D) := lcD (nameG 5)
  (fun r => .ok true)
  (fun r => (getS 4 r) >>= fun x => (((getS 5 r) >>= fun d => (.ok []) >>= fun ds => .ok (d :: ds)) >>= tupD) >>= fun y => addD x y)
  (wipeR r [5]) ds
def Rounds_members_l2 : D → Env → Oc := fun d r => (into ((nameG 4) d r)).seq fun r => (extG 3 (fun r => (((getS 2 r) >>= fun d => (.ok []) >>= fun ds => .ok (d :: ds)) >>= rng1) >>= fun ds => Rounds_members_c1 r ds >>= lstD) r)
def Rounds_members_l3 : D → Env → Oc := fun d r => (into ((nameG 2) d r)).seq fun r => ((lift ((.ok []) >>= lstD) r fun d => .nx (r.set 3 (.ow .flat d))).seq fun r => ((lift ((getS 1 r) >>= itemsD) r fun ds => forD Rounds_members_l2 ds r).seq fun r => (frzAt 3 (fun r => lift (getS 3 r) r fun d => .nx (r.set 1 (.sh d))) r)))
def e_Rounds_members : Env → Oc := fun r => (lift ((((.ok []) >>= tupD) >>= fun d => (.ok []) >>= fun ds => .ok (d :: ds)) >>= lstD) r fun d => .nx (r.set 1 (.sh d))).seq fun r => ((lift (((getS 0 r) >>= fldD (plOf [0] "rounds")) >>= itemsD) r fun ds => forD Rounds_members_l3 ds r).seq fun r => (lift (getS 1 r) r fun d => .rt d))
def d_Rounds_members : List D → Res D := runD 1 N_Rounds_members.length e_Rounds_members
def mt_members (c : Nat) : Option (List D → Res D) := if c = 0 then some d_Rounds_members else none
def e_Group_size : Env → Oc := fun r => lift ((((getS 0 r) >>= fun d => mthD mt_members d >>= fun g => g []) >>= fun d => (.ok []) >>= fun ds => .ok (d :: ds)) >>= one lenD) r fun d => .rt d
def d_Group_size : List D → Res D := runD 1 N_Group_size.length e_Group_size
def mt_size (c : Nat) : Option (List D → Res D) := if c = 0 then some d_Group_size else none
def e_Rounds_is_even : Env → Oc := fun r => lift (.ok (.bl true)) r fun d => .rt d
def d_Rounds_is_even : List D → Res D := runD 1 N_Rounds_is_even.length e_Rounds_is_even
def mt_is_even (c : Nat) : Option (List D → Res D) := if c = 0 then some d_Rounds_is_even else none
def e_look_at_groups : Env → Oc := fun r => (lift (((((getS 0 r) >>= fun d => mthD mt_size d >>= fun g => g []) >>= fun x => (.ok (.int 16)) >>= fun y => gtD x y) >>= asB) >>= fun t => if t = true then .ok true else ((((getS 0 r) >>= fun d => mthD mt_is_even d >>= fun g => g []) >>= asB) >>= fun t => .ok (!t))) r fun t => if t = true then (.er (.exc 13 []) r) else (.nx r)).seq fun r => (lift ((((((getS 1 r) >>= fun d => ((.ok (.cls 0)) >>= fun d => (.ok []) >>= fun ds => .ok (d :: ds)) >>= fun ds => .ok (d :: ds)) >>= two (isD isC isU)) >>= asB) >>= fun t => .ok (!t)) >>= fun t => if t = true then .ok true else ((((getS 1 r) >>= fun d => mthD mt_size d >>= fun g => g []) >>= fun x => (.ok (.int 9)) >>= fun y => gtD x y) >>= asB)) r fun t => if t = true then (.er (.exc 14 []) r) else (.nx r))
def d_look_at_groups : List D → Res D := runD 2 N_look_at_groups.length e_look_at_groups
def e_is_whole : Env → Oc := fun r => lift (((((getS 0 r) >>= fun d => ((.ok (.ty "int")) >>= fun d => (.ok []) >>= fun ds => .ok (d :: ds)) >>= fun ds => .ok (d :: ds)) >>= two (isD isC isU)) >>= asB) >>= fun t => if t = true then (((((getS 0 r) >>= fun d => ((.ok (.ty "bool")) >>= fun d => (.ok []) >>= fun ds => .ok (d :: ds)) >>= fun ds => .ok (d :: ds)) >>= two (isD isC isU)) >>= asB) >>= fun t => .ok (.bl (!t))) else .ok (.bl false)) r fun d => .rt d
def d_is_whole : List D → Res D := runD 1 N_is_whole.length e_is_whole
def Rounds_has_l1 : D → Env → Oc := fun d r => (into ((tupG 2 (consG (nameG 2) (consG (nameG 3) (nilG)))) d r)).seq fun r => (lift ((((((getS 2 r) >>= fun d => (.ok []) >>= fun ds => .ok (d :: ds)) >>= d_is_whole) >>= asB) >>= fun t => .ok (!t)) >>= fun t => if t = true then .ok true else ((((getS 2 r) >>= fun x => (.ok (.int 0)) >>= fun y => ltD x y) >>= asB) >>= fun t => if t = true then .ok true else (((getS 2 r) >>= fun x => (getS 3 r) >>= fun y => geD x y) >>= asB))) r fun t => if t = true then (lift (.ok (.bl false)) r fun d => .rt d) else (.nx r))
def e_Rounds_has : Env → Oc := fun r => (lift ((((((getS 1 r) >>= fun d => ((.ok (.ty "tuple")) >>= fun d => (.ok []) >>= fun ds => .ok (d :: ds)) >>= fun ds => .ok (d :: ds)) >>= two (isD isC isU)) >>= asB) >>= fun t => .ok (!t)) >>= fun t => if t = true then .ok true else (((((getS 1 r) >>= fun d => (.ok []) >>= fun ds => .ok (d :: ds)) >>= one lenD) >>= fun x => ((((getS 0 r) >>= fldD (plOf [0] "rounds")) >>= fun d => (.ok []) >>= fun ds => .ok (d :: ds)) >>= one lenD) >>= fun y => neD x y) >>= asB)) r fun t => if t = true then (lift (.ok (.bl false)) r fun d => .rt d) else (.nx r)).seq fun r => ((lift (((getS 1 r) >>= fun d => (((getS 0 r) >>= fldD (plOf [0] "rounds")) >>= fun d => (.ok []) >>= fun ds => .ok (d :: ds)) >>= fun ds => .ok (d :: ds)) >>= zip2D) r fun ds => forD Rounds_has_l1 ds r).seq fun r => (lift (.ok (.bl true)) r fun d => .rt d))
def d_Rounds_has : List D → Res D := runD 2 N_Rounds_has.length e_Rounds_has
def mt_has (c : Nat) : Option (List D → Res D) := if c = 0 then some d_Rounds_has else none
def greatest_shared_w1c : Env → Res Bool := fun r => ((getS 1 r) >>= fun x => (.ok (.int 0)) >>= fun y => neD x y) >>= asB
def greatest_shared_w1 : Env → Oc := fun r => (lift ((getS 1 r) >>= fun d => (((getS 0 r) >>= fun x => (getS 1 r) >>= fun y => modD x y) >>= fun d => (.ok []) >>= fun ds => .ok (d :: ds)) >>= fun ds => .ok (d :: ds)) r fun ds => parG 0 1 ds r)
def e_greatest_shared : Env → Oc := fun r => (loopD greatest_shared_w1c greatest_shared_w1 r).seq fun r => (lift (getS 0 r) r fun d => .rt d)
def d_greatest_shared : List D → Res D := runD 2 N_greatest_shared.length e_greatest_shared
def rest_but_for_c1 (r : Env) (ds : List D) : Res (List D) := lcD (tupG 2 (consG (nameG 3) (consG (nameG 4) (nilG))))
  (fun r => .ok true)
  (fun r => (getS 3 r) >>= fun x => (((getS 4 r) >>= fun d => ((getS 1 r) >>= fun d => (.ok []) >>= fun ds => .ok (d :: ds)) >>= fun ds => .ok (d :: ds)) >>= d_greatest_shared) >>= fun y => modD x y)
  (wipeR r [3, 4]) ds
def e_rest_but_for : Env → Oc := fun r => (lift ((((getS 0 r) >>= fun d => mthD mt_has d >>= fun g => ((getS 2 r) >>= fun d => (.ok []) >>= fun ds => .ok (d :: ds)) >>= g) >>= asB) >>= fun t => .ok (!t)) r fun t => if t = true then (.er (.exc 12 []) r) else (.nx r)).seq fun r => (lift ((((((getS 2 r) >>= fun d => (((getS 0 r) >>= fldD (plOf [0] "rounds")) >>= fun d => (.ok []) >>= fun ds => .ok (d :: ds)) >>= fun ds => .ok (d :: ds)) >>= zip2D) >>= fun ds => rest_but_for_c1 r ds >>= lstD) >>= fun d => (.ok []) >>= fun ds => .ok (d :: ds)) >>= one tupleD) r fun d => .rt d)
def d_rest_but_for : List D → Res D := runD 3 N_rest_but_for.length e_rest_but_for
def rests_for_c1 (r : Env) (ds : List D) : Res (List D) := lcD (nameG 2)
  (fun r => ((((getS 0 r) >>= fun d => ((getS 1 r) >>= fun d => ((getS 2 r) >>= fun d => (.ok []) >>= fun ds => .ok (d :: ds)) >>= fun ds => .ok (d :: ds)) >>= fun ds => .ok (d :: ds)) >>= d_rest_but_for) >>= fun x => (getS 2 r) >>= fun y => eqD x y) >>= asB)
  (fun r => getS 2 r)
  (wipeR r [2]) ds
def e_rests_for : Env → Oc := fun r => lift ((((getS 0 r) >>= fun d => mthD mt_members d >>= fun g => g []) >>= itemsD) >>= fun ds => rests_for_c1 r ds >>= lstD) r fun d => .rt d
def d_rests_for : List D → Res D := runD 2 N_rests_for.length e_rests_for
def pairs_of_c1 (r : Env) (ds : List D) : Res (List D) := lcD (nameG 3)
  (fun r => .ok true)
  (fun r => ((getS 2 r) >>= fun d => ((getS 3 r) >>= fun d => (.ok []) >>= fun ds => .ok (d :: ds)) >>= fun ds => .ok (d :: ds)) >>= tupD)
  (wipeR r [3]) ds
def pairs_of_l2 : D → Env → Oc := fun d r => (into ((nameG 2) d r)).seq fun r => (extG 1 (fun r => ((((getS 2 r) >>= fun x => (.ok (.int 1)) >>= fun y => addD x y) >>= fun d => (((((getS 0 r) >>= fldD (plOf [0] "rounds")) >>= fun d => (.ok []) >>= fun ds => .ok (d :: ds)) >>= one lenD) >>= fun d => (.ok []) >>= fun ds => .ok (d :: ds)) >>= fun ds => .ok (d :: ds)) >>= rng2) >>= fun ds => pairs_of_c1 r ds >>= lstD) r)
def e_pairs_of : Env → Oc := fun r => (lift ((.ok []) >>= lstD) r fun d => .nx (r.set 1 (.ow .flat d))).seq fun r => ((lift ((((((getS 0 r) >>= fldD (plOf [0] "rounds")) >>= fun d => (.ok []) >>= fun ds => .ok (d :: ds)) >>= one lenD) >>= fun d => (.ok []) >>= fun ds => .ok (d :: ds)) >>= rng1) r fun ds => forD pairs_of_l2 ds r).seq fun r => (frzAt 1 (fun r => lift (getS 1 r) r fun d => .rt d) r))
def d_pairs_of : List D → Res D := runD 1 N_pairs_of.length e_pairs_of
def Rounds_nought_c1 (r : Env) (ds : List D) : Res (List D) := lcD (nameG 1)
  (fun r => .ok true)
  (fun r => .ok (.int 0))
  (wipeR r [1]) ds
def e_Rounds_nought : Env → Oc := fun r => lift ((((((getS 0 r) >>= fldD (plOf [0] "rounds")) >>= itemsD) >>= fun ds => Rounds_nought_c1 r ds >>= lstD) >>= fun d => (.ok []) >>= fun ds => .ok (d :: ds)) >>= one tupleD) r fun d => .rt d
def d_Rounds_nought : List D → Res D := runD 1 N_Rounds_nought.length e_Rounds_nought
def mt_nought (c : Nat) : Option (List D → Res D) := if c = 0 then some d_Rounds_nought else none
def e_Group_look_at : Env → Oc := fun r => lift ((((getS 0 r) >>= fun d => mthD mt_has d >>= fun g => ((getS 1 r) >>= fun d => (.ok []) >>= fun ds => .ok (d :: ds)) >>= g) >>= asB) >>= fun t => .ok (!t)) r fun t => if t = true then (.er (.exc 12 []) r) else (.nx r)
def d_Group_look_at : List D → Res D := runD 2 N_Group_look_at.length e_Group_look_at
def mt_look_at (c : Nat) : Option (List D → Res D) := if c = 0 then some d_Group_look_at else none
def Rounds_backed_c1 (r : Env) (ds : List D) : Res (List D) := lcD (tupG 2 (consG (nameG 2) (consG (nameG 3) (nilG))))
  (fun r => .ok true)
  (fun r => ((.ok (.int 0)) >>= fun x => (getS 2 r) >>= fun y => subD x y) >>= fun x => (getS 3 r) >>= fun y => modD x y)
  (wipeR r [2, 3]) ds
def e_Rounds_backed : Env → Oc := fun r => lift ((((((getS 1 r) >>= fun d => (((getS 0 r) >>= fldD (plOf [0] "rounds")) >>= fun d => (.ok []) >>= fun ds => .ok (d :: ds)) >>= fun ds => .ok (d :: ds)) >>= zip2D) >>= fun ds => Rounds_backed_c1 r ds >>= lstD) >>= fun d => (.ok []) >>= fun ds => .ok (d :: ds)) >>= one tupleD) r fun d => .rt d
def d_Rounds_backed : List D → Res D := runD 2 N_Rounds_backed.length e_Rounds_backed
def mt_backed (c : Nat) : Option (List D → Res D) := if c = 0 then some d_Rounds_backed else none
def Rounds_put_c1 (r : Env) (ds : List D) : Res (List D) := lcD (tupG 3 (consG (nameG 3) (consG (nameG 4) (consG (nameG 5) (nilG)))))
  (fun r => .ok true)
  (fun r => ((getS 3 r) >>= fun x => (getS 4 r) >>= fun y => addD x y) >>= fun x => (getS 5 r) >>= fun y => modD x y)
  (wipeR r [3, 4, 5]) ds
def e_Rounds_put : Env → Oc := fun r => lift ((((((getS 1 r) >>= fun d => ((getS 2 r) >>= fun d => (((getS 0 r) >>= fldD (plOf [0] "rounds")) >>= fun d => (.ok []) >>= fun ds => .ok (d :: ds)) >>= fun ds => .ok (d :: ds)) >>= fun ds => .ok (d :: ds)) >>= zip3D) >>= fun ds => Rounds_put_c1 r ds >>= lstD) >>= fun d => (.ok []) >>= fun ds => .ok (d :: ds)) >>= one tupleD) r fun d => .rt d
def d_Rounds_put : List D → Res D := runD 3 N_Rounds_put.length e_Rounds_put
def mt_put (c : Nat) : Option (List D → Res D) := if c = 0 then some d_Rounds_put else none
def Group_times_w1c : Env → Res Bool := fun r => ((getS 1 r) >>= fun x => (.ok (.int 0)) >>= fun y => gtD x y) >>= asB
def Group_times_w1 : Env → Oc := fun r => ((lift ((((getS 1 r) >>= fun x => (.ok (.int 2)) >>= fun y => modD x y) >>= fun x => (.ok (.int 1)) >>= fun y => eqD x y) >>= asB) r fun t => if t = true then (lift ((getS 0 r) >>= fun d => mthD mt_put d >>= fun g => ((getS 3 r) >>= fun d => ((getS 2 r) >>= fun d => (.ok []) >>= fun ds => .ok (d :: ds)) >>= fun ds => .ok (d :: ds)) >>= g) r fun d => .nx (r.set 3 (.sh d))) else (.nx r)).seq fun r => ((lift ((getS 0 r) >>= fun d => mthD mt_put d >>= fun g => ((getS 2 r) >>= fun d => ((getS 2 r) >>= fun d => (.ok []) >>= fun ds => .ok (d :: ds)) >>= fun ds => .ok (d :: ds)) >>= g) r fun d => .nx (r.set 2 (.sh d))).seq fun r => (lift ((getS 1 r) >>= fun x => (.ok (.int 2)) >>= fun y => divD x y) r fun d => .nx (r.set 1 (.sh d)))))
def e_Group_times : Env → Oc := fun r => (lift ((getS 0 r) >>= fun d => mthD mt_look_at d >>= fun g => ((getS 2 r) >>= fun d => (.ok []) >>= fun ds => .ok (d :: ds)) >>= g) r fun _ => .nx r).seq fun r => ((lift (((getS 1 r) >>= fun x => (.ok (.int 0)) >>= fun y => ltD x y) >>= asB) r fun t => if t = true then ((lift ((getS 0 r) >>= fun d => mthD mt_backed d >>= fun g => ((getS 2 r) >>= fun d => (.ok []) >>= fun ds => .ok (d :: ds)) >>= g) r fun d => .nx (r.set 2 (.sh d))).seq fun r => (lift ((.ok (.int 0)) >>= fun x => (getS 1 r) >>= fun y => subD x y) r fun d => .nx (r.set 1 (.sh d)))) else (.nx r)).seq fun r => ((lift ((getS 0 r) >>= fun d => mthD mt_nought d >>= fun g => g []) r fun d => .nx (r.set 3 (.sh d))).seq fun r => ((loopD Group_times_w1c Group_times_w1 r).seq fun r => (lift (getS 3 r) r fun d => .rt d))))
def d_Group_times : List D → Res D := runD 3 N_Group_times.length e_Group_times
def mt_times (c : Nat) : Option (List D → Res D) := if c = 0 then some d_Group_times else none
def odds_for_c1 (r : Env) (ds : List D) : Res (List D) := lcD (nameG 4)
  (fun r => ((((getS 0 r) >>= fun d => mthD mt_times d >>= fun g => ((getS 1 r) >>= fun d => ((getS 4 r) >>= fun d => (.ok []) >>= fun ds => .ok (d :: ds)) >>= fun ds => .ok (d :: ds)) >>= g) >>= fun x => (getS 3 r) >>= fun y => eqD x y) >>= asB) >>= fun t => if t = true then ((((getS 0 r) >>= fun d => mthD mt_times d >>= fun g => ((getS 2 r) >>= fun d => ((getS 4 r) >>= fun d => (.ok []) >>= fun ds => .ok (d :: ds)) >>= fun ds => .ok (d :: ds)) >>= g) >>= fun x => (getS 3 r) >>= fun y => eqD x y) >>= asB) else .ok false)
  (fun r => getS 4 r)
  (wipeR r [4]) ds
def e_odds_for : Env → Oc := fun r => (lift ((getS 0 r) >>= fun d => mthD mt_nought d >>= fun g => g []) r fun d => .nx (r.set 3 (.sh d))).seq fun r => (lift ((((getS 0 r) >>= fun d => mthD mt_members d >>= fun g => g []) >>= itemsD) >>= fun ds => odds_for_c1 r ds >>= lstD) r fun d => .rt d)
def d_odds_for : List D → Res D := runD 3 N_odds_for.length e_odds_for
def places_of_c1 (r : Env) (ds : List D) : Res (List D) := lcD (nameG 3)
  (fun r => .ok true)
  (fun r => ((getS 0 r) >>= fun d => ((getS 3 r) >>= fun d => (.ok []) >>= fun ds => .ok (d :: ds)) >>= fun ds => .ok (d :: ds)) >>= d_rests_for)
  (wipeR r [3]) ds
def places_of_c2 (r : Env) (ds : List D) : Res (List D) := lcD (tupG 2 (consG (nameG 4) (consG (nameG 5) (nilG))))
  (fun r => .ok true)
  (fun r => ((getS 0 r) >>= fun d => ((((getS 1 r) >>= fldD (plOf [0] "rounds")) >>= fun x => (getS 4 r) >>= fun y => ixD x y) >>= fun d => ((((getS 1 r) >>= fldD (plOf [0] "rounds")) >>= fun x => (getS 5 r) >>= fun y => ixD x y) >>= fun d => (.ok []) >>= fun ds => .ok (d :: ds)) >>= fun ds => .ok (d :: ds)) >>= fun ds => .ok (d :: ds)) >>= d_odds_for)
  (wipeR r [4, 5]) ds
def e_places_of : Env → Oc := fun r => (shareAt 2 (lift ((((getS 1 r) >>= fldD (plOf [0] "rounds")) >>= itemsD) >>= fun ds => places_of_c1 r ds >>= lstD) r fun d => .nx (r.set 2 (.ow .flat d)))).seq fun r => (lift (((getS 2 r) >>= fun d => ((((((getS 1 r) >>= fun d => (.ok []) >>= fun ds => .ok (d :: ds)) >>= d_pairs_of) >>= itemsD) >>= fun ds => places_of_c2 r ds >>= lstD) >>= fun d => (.ok []) >>= fun ds => .ok (d :: ds)) >>= fun ds => .ok (d :: ds)) >>= tupD) r fun d => .rt d)
def d_places_of : List D → Res D := runD 2 N_places_of.length e_places_of
def how_many_l1 : D → Env → Oc := fun d r => (into ((nameG 5) d r)).seq fun r => (lift ((getS 2 r) >>= fun x => (((getS 5 r) >>= fun d => (.ok []) >>= fun ds => .ok (d :: ds)) >>= one lenD) >>= fun y => mulD x y) r fun d => .nx (r.set 2 (.sh d)))
def e_how_many : Env → Oc := fun r => (lift (((getS 0 r) >>= fun d => ((getS 1 r) >>= fun d => (.ok []) >>= fun ds => .ok (d :: ds)) >>= fun ds => .ok (d :: ds)) >>= d_look_at_groups) r fun _ => .nx r).seq fun r => ((lift (.ok (.int 1)) r fun d => .nx (r.set 2 (.sh d))).seq fun r => ((lift (((getS 0 r) >>= fun d => ((getS 1 r) >>= fun d => (.ok []) >>= fun ds => .ok (d :: ds)) >>= fun ds => .ok (d :: ds)) >>= d_places_of) r fun d => into ((tupG 2 (consG (nameG 3) (consG (nameG 4) (nilG)))) d r)).seq fun r => ((lift (((getS 3 r) >>= fun x => (getS 4 r) >>= fun y => addD x y) >>= itemsD) r fun ds => forD how_many_l1 ds r).seq fun r => (lift (getS 2 r) r fun d => .rt d))))
def d_how_many : List D → Res D := runD 2 N_how_many.length e_how_many
def are_rounds_l1 : D → Env → Oc := fun d r => (into ((nameG 2) d r)).seq fun r => ((lift ((((((getS 2 r) >>= fun d => (.ok []) >>= fun ds => .ok (d :: ds)) >>= d_is_whole) >>= asB) >>= fun t => .ok (!t)) >>= fun t => if t = true then .ok true else ((((getS 2 r) >>= fun x => (.ok (.int 2)) >>= fun y => ltD x y) >>= asB) >>= fun t => if t = true then .ok true else (((getS 2 r) >>= fun x => (.ok (.int 144)) >>= fun y => gtD x y) >>= asB))) r fun t => if t = true then (lift (.ok (.bl false)) r fun d => .rt d) else (.nx r)).seq fun r => (lift ((getS 1 r) >>= fun x => (getS 2 r) >>= fun y => mulD x y) r fun d => .nx (r.set 1 (.sh d))))
def e_are_rounds : Env → Oc := fun r => (lift ((((((getS 0 r) >>= fun d => ((((.ok (.ty "list")) >>= fun d => ((.ok (.ty "tuple")) >>= fun d => (.ok []) >>= fun ds => .ok (d :: ds)) >>= fun ds => .ok (d :: ds)) >>= tupD) >>= fun d => (.ok []) >>= fun ds => .ok (d :: ds)) >>= fun ds => .ok (d :: ds)) >>= two (isD isC isU)) >>= asB) >>= fun t => .ok (!t)) >>= fun t => if t = true then .ok true else (((((getS 0 r) >>= fun d => (.ok []) >>= fun ds => .ok (d :: ds)) >>= one lenD) >>= fun x => (.ok (.int 7)) >>= fun y => gtD x y) >>= asB)) r fun t => if t = true then (lift (.ok (.bl false)) r fun d => .rt d) else (.nx r)).seq fun r => ((lift (.ok (.int 1)) r fun d => .nx (r.set 1 (.sh d))).seq fun r => ((lift ((getS 0 r) >>= itemsD) r fun ds => forD are_rounds_l1 ds r).seq fun r => (lift ((getS 1 r) >>= fun x => (.ok (.int 144)) >>= fun y => leD x y) r fun d => .rt d)))
def d_are_rounds : List D → Res D := runD 1 N_are_rounds.length e_are_rounds
def e_Rounds_init : Env → Oc := fun r => (lift (((((getS 1 r) >>= fun d => (.ok []) >>= fun ds => .ok (d :: ds)) >>= d_are_rounds) >>= asB) >>= fun t => .ok (!t)) r fun t => if t = true then (.er (.exc 11 []) r) else (.nx r)).seq fun r => (lift (((getS 1 r) >>= fun d => (.ok []) >>= fun ds => .ok (d :: ds)) >>= one tupleD) r fun d => setF 0 0 "rounds" .sh d r)
def d_Rounds_init : List D → Res D := runI 1 N_Rounds_init.length 0 e_Rounds_init
def rows_by_c1 (r : Env) (ds : List D) : Res (List D) := lcD (nameG 5)
  (fun r => .ok true)
  (fun r => (getS 4 r) >>= fun x => (((getS 5 r) >>= fun d => (.ok []) >>= fun ds => .ok (d :: ds)) >>= tupD) >>= fun y => addD x y)
  (wipeR r [5]) ds
def rows_by_l2 : D → Env → Oc := fun d r => (into ((nameG 4) d r)).seq fun r => (extG 3 (fun r => ((getS 2 r) >>= itemsD) >>= fun ds => rows_by_c1 r ds >>= lstD) r)
def rows_by_l3 : D → Env → Oc := fun d r => (into ((nameG 2) d r)).seq fun r => ((lift ((.ok []) >>= lstD) r fun d => .nx (r.set 3 (.ow .flat d))).seq fun r => ((lift ((getS 1 r) >>= itemsD) r fun ds => forD rows_by_l2 ds r).seq fun r => (frzAt 3 (fun r => lift (getS 3 r) r fun d => .nx (r.set 1 (.sh d))) r)))
def e_rows_by : Env → Oc := fun r => (lift ((((.ok []) >>= tupD) >>= fun d => (.ok []) >>= fun ds => .ok (d :: ds)) >>= lstD) r fun d => .nx (r.set 1 (.sh d))).seq fun r => ((lift ((getS 0 r) >>= itemsD) r fun ds => forD rows_by_l3 ds r).seq fun r => (lift (getS 1 r) r fun d => .rt d))
def d_rows_by : List D → Res D := runD 1 N_rows_by.length e_rows_by
def kinds_of_c1 (r : Env) (ds : List D) : Res (List D) := lcD (nameG 7)
  (fun r => .ok true)
  (fun r => ((getS 6 r) >>= fun d => ((getS 7 r) >>= fun d => (.ok []) >>= fun ds => .ok (d :: ds)) >>= fun ds => .ok (d :: ds)) >>= tupD)
  (wipeR r [7]) ds
def kinds_of_l2 : D → Env → Oc := fun d r => (into ((nameG 6) d r)).seq fun r => (extG 5 (fun r => ((((getS 4 r) >>= fun d => (.ok []) >>= fun ds => .ok (d :: ds)) >>= d_rows_by) >>= itemsD) >>= fun ds => kinds_of_c1 r ds >>= lstD) r)
def e_kinds_of : Env → Oc := fun r => (lift (((getS 0 r) >>= fun d => ((getS 1 r) >>= fun d => (.ok []) >>= fun ds => .ok (d :: ds)) >>= fun ds => .ok (d :: ds)) >>= d_how_many) r fun d => .nx (r.set 2 (.sh d))).seq fun r => ((lift (((getS 2 r) >>= fun x => (.ok (.int 300)) >>= fun y => gtD x y) >>= asB) r fun t => if t = true then (lift ((getS 2 r) >>= fun d => (.ok []) >>= fun ds => .ok (d :: ds)) r fun ds => raiseD 27 ds r) else (.nx r)).seq fun r => ((lift (((getS 0 r) >>= fun d => ((getS 1 r) >>= fun d => (.ok []) >>= fun ds => .ok (d :: ds)) >>= fun ds => .ok (d :: ds)) >>= d_places_of) r fun d => into ((tupG 2 (consG (nameG 3) (consG (nameG 4) (nilG)))) d r)).seq fun r => ((lift ((.ok []) >>= lstD) r fun d => .nx (r.set 5 (.ow .flat d))).seq fun r => ((lift ((((getS 3 r) >>= fun d => (.ok []) >>= fun ds => .ok (d :: ds)) >>= d_rows_by) >>= itemsD) r fun ds => forD kinds_of_l2 ds r).seq fun r => (giveG 5 r)))))
def d_kinds_of : List D → Res D := runO 2 N_kinds_of.length e_kinds_of
def e_q_kinds : Env → Oc := fun r => (lift (((((getS 0 r) >>= fun d => ((.ok (.cls 16)) >>= fun d => (.ok []) >>= fun ds => .ok (d :: ds)) >>= fun ds => .ok (d :: ds)) >>= two (isD isC isU)) >>= fun d => ((((getS 0 r) >>= fun d => ((.ok (.cls 17)) >>= fun d => (.ok []) >>= fun ds => .ok (d :: ds)) >>= fun ds => .ok (d :: ds)) >>= two (isD isC isU)) >>= fun d => ((((getS 0 r) >>= fun d => ((.ok (.cls 12)) >>= fun d => (.ok []) >>= fun ds => .ok (d :: ds)) >>= fun ds => .ok (d :: ds)) >>= two (isD isC isU)) >>= fun d => ((((getS 0 r) >>= fun d => ((.ok (.cls 15)) >>= fun d => (.ok []) >>= fun ds => .ok (d :: ds)) >>= fun ds => .ok (d :: ds)) >>= two (isD isC isU)) >>= fun d => (.ok []) >>= fun ds => .ok (d :: ds)) >>= fun ds => .ok (d :: ds)) >>= fun ds => .ok (d :: ds)) >>= fun ds => .ok (d :: ds)) >>= lstD) r fun d => .nx (r.set 1 (.sh d))).seq fun r => ((lift ((getS 1 r) >>= fun x => (((((getS 0 r) >>= fun d => ((.ok (.cls 18)) >>= fun d => (.ok []) >>= fun ds => .ok (d :: ds)) >>= fun ds => .ok (d :: ds)) >>= two (isD isC isU)) >>= fun d => ((((getS 0 r) >>= fun d => ((.ok (.cls 19)) >>= fun d => (.ok []) >>= fun ds => .ok (d :: ds)) >>= fun ds => .ok (d :: ds)) >>= two (isD isC isU)) >>= fun d => ((((getS 0 r) >>= fun d => ((.ok (.cls 27)) >>= fun d => (.ok []) >>= fun ds => .ok (d :: ds)) >>= fun ds => .ok (d :: ds)) >>= two (isD isC isU)) >>= fun d => ((((getS 0 r) >>= fun d => ((.ok (.cls 13)) >>= fun d => (.ok []) >>= fun ds => .ok (d :: ds)) >>= fun ds => .ok (d :: ds)) >>= two (isD isC isU)) >>= fun d => (.ok []) >>= fun ds => .ok (d :: ds)) >>= fun ds => .ok (d :: ds)) >>= fun ds => .ok (d :: ds)) >>= fun ds => .ok (d :: ds)) >>= lstD) >>= fun y => addD x y) r fun d => .nx (r.set 1 (.sh d))).seq fun r => ((lift ((getS 1 r) >>= fun x => (((((getS 0 r) >>= fun d => ((.ok (.cls 14)) >>= fun d => (.ok []) >>= fun ds => .ok (d :: ds)) >>= fun ds => .ok (d :: ds)) >>= two (isD isC isU)) >>= fun d => ((((getS 0 r) >>= fun d => ((.ok (.cls 28)) >>= fun d => (.ok []) >>= fun ds => .ok (d :: ds)) >>= fun ds => .ok (d :: ds)) >>= two (isD isC isU)) >>= fun d => ((((getS 0 r) >>= fun d => ((.ok (.cls 24)) >>= fun d => (.ok []) >>= fun ds => .ok (d :: ds)) >>= fun ds => .ok (d :: ds)) >>= two (isD isC isU)) >>= fun d => ((((getS 0 r) >>= fun d => ((.ok (.cls 23)) >>= fun d => (.ok []) >>= fun ds => .ok (d :: ds)) >>= fun ds => .ok (d :: ds)) >>= two (isD isC isU)) >>= fun d => (.ok []) >>= fun ds => .ok (d :: ds)) >>= fun ds => .ok (d :: ds)) >>= fun ds => .ok (d :: ds)) >>= fun ds => .ok (d :: ds)) >>= lstD) >>= fun y => addD x y) r fun d => .nx (r.set 1 (.sh d))).seq fun r => (lift ((getS 1 r) >>= fun x => (((((getS 0 r) >>= fun d => ((.ok (.cls 10)) >>= fun d => (.ok []) >>= fun ds => .ok (d :: ds)) >>= fun ds => .ok (d :: ds)) >>= two (isD isC isU)) >>= fun d => ((((getS 0 r) >>= fun d => ((.ok (.ty "ValueError")) >>= fun d => (.ok []) >>= fun ds => .ok (d :: ds)) >>= fun ds => .ok (d :: ds)) >>= two (isD isC isU)) >>= fun d => (.ok []) >>= fun ds => .ok (d :: ds)) >>= fun ds => .ok (d :: ds)) >>= lstD) >>= fun y => addD x y) r fun d => .rt d)))
def d_q_kinds : List D → Res D := runD 1 N_q_kinds.length e_q_kinds
def q_class_c1 (r : Env) (ds : List D) : Res (List D) := lcD (nameG 2)
  (fun r => .ok true)
  (fun r => (getS 0 r) >>= fun x => (getS 2 r) >>= fun y => eqD x y)
  (wipeR r [2]) ds
def e_q_class : Env → Oc := fun r => (lift (((.ok (.str "NotLike")) >>= fun d => ((.ok (.str "NoCount")) >>= fun d => ((.ok (.str "NoElement")) >>= fun d => ((.ok (.str "NoHead")) >>= fun d => ((.ok (.str "NoPair")) >>= fun d => ((.ok (.str "NoKind")) >>= fun d => ((.ok (.str "TooMany")) >>= fun d => ((.ok (.str "NoLower")) >>= fun d => ((.ok (.str "NoUpper")) >>= fun d => ((.ok (.str "NoMap")) >>= fun d => (.ok []) >>= fun ds => .ok (d :: ds)) >>= fun ds => .ok (d :: ds)) >>= fun ds => .ok (d :: ds)) >>= fun ds => .ok (d :: ds)) >>= fun ds => .ok (d :: ds)) >>= fun ds => .ok (d :: ds)) >>= fun ds => .ok (d :: ds)) >>= fun ds => .ok (d :: ds)) >>= fun ds => .ok (d :: ds)) >>= fun ds => .ok (d :: ds)) >>= lstD) r fun d => .nx (r.set 1 (.sh d))).seq fun r => ((lift ((getS 1 r) >>= fun x => (((.ok (.str "NoTower")) >>= fun d => ((.ok (.str "NoCarry")) >>= fun d => (.ok []) >>= fun ds => .ok (d :: ds)) >>= fun ds => .ok (d :: ds)) >>= lstD) >>= fun y => addD x y) r fun d => .nx (r.set 1 (.sh d))).seq fun r => (lift ((((getS 1 r) >>= itemsD) >>= fun ds => q_class_c1 r ds >>= lstD) >>= fun x => (((.ok (.bl true)) >>= fun d => ((.ok (.bl true)) >>= fun d => (.ok []) >>= fun ds => .ok (d :: ds)) >>= fun ds => .ok (d :: ds)) >>= lstD) >>= fun y => addD x y) r fun d => .rt d))
def d_q_class : List D → Res D := runD 1 N_q_class.length e_q_class
def e_q_whole : Env → Oc := fun r => lift (((((getS 0 r) >>= fun d => ((.ok (.ty "int")) >>= fun d => (.ok []) >>= fun ds => .ok (d :: ds)) >>= fun ds => .ok (d :: ds)) >>= two (isD isC isU)) >>= asB) >>= fun t => if t = true then (((((getS 0 r) >>= fun d => ((.ok (.ty "bool")) >>= fun d => (.ok []) >>= fun ds => .ok (d :: ds)) >>= fun ds => .ok (d :: ds)) >>= two (isD isC isU)) >>= asB) >>= fun t => .ok (.bl (!t))) else .ok (.bl false)) r fun d => .rt d
def d_q_whole : List D → Res D := runD 1 N_q_whole.length e_q_whole
def e_q_refused : Env → Oc := fun r => (lift (.ok .non) r fun d => .nx (r.set 5 (.sh d))).seq fun r => ((tryD ctC ctU (fun r => lift (((getS 0 r) >>= fun x => (.ok (.int 0)) >>= fun y => eqD x y) >>= asB) r fun t => if t = true then (lift (((((getS 1 r) >>= fun d => (.ok []) >>= fun ds => .ok (d :: ds)) >>= d_Rounds_init) >>= fun d => ((((getS 2 r) >>= fun d => (.ok []) >>= fun ds => .ok (d :: ds)) >>= d_Rounds_init) >>= fun d => (.ok []) >>= fun ds => .ok (d :: ds)) >>= fun ds => .ok (d :: ds)) >>= d_how_many) r fun _ => .nx r) else (lift (((((getS 1 r) >>= fun d => (.ok []) >>= fun ds => .ok (d :: ds)) >>= d_Rounds_init) >>= fun d => ((((getS 2 r) >>= fun d => (.ok []) >>= fun ds => .ok (d :: ds)) >>= d_Rounds_init) >>= fun d => (.ok []) >>= fun ds => .ok (d :: ds)) >>= fun ds => .ok (d :: ds)) >>= d_kinds_of) r fun _ => .nx r)) [⟨10, some 6, fun r => lift (getS 6 r) r fun d => .nx (r.set 5 (.sh d))⟩] r).seq fun r => ((lift ((((getS 5 r) >>= fun x => (.ok .non) >>= fun y => isN x y) >>= asB) >>= fun t => if t = true then .ok true else (((((getS 5 r) >>= fun d => (.ok []) >>= fun ds => .ok (d :: ds)) >>= d_q_kinds) >>= fun x => (((getS 3 r) >>= fun d => (.ok []) >>= fun ds => .ok (d :: ds)) >>= d_q_class) >>= fun y => neD x y) >>= asB)) r fun t => if t = true then (lift (.ok (.bl false)) r fun d => .rt d) else (.nx r)).seq fun r => (lift ((((getS 3 r) >>= fun x => (.ok (.str "TooMany")) >>= fun y => neD x y) >>= asB) >>= fun t => if t = true then .ok (.bl true) else ((((((getS 5 r) >>= fldE (plOf [27] "many")) >>= fun d => (.ok []) >>= fun ds => .ok (d :: ds)) >>= d_q_whole) >>= asB) >>= fun t => if t = true then (((getS 5 r) >>= fldE (plOf [27] "many")) >>= fun x => (getS 4 r) >>= fun y => eqD x y) else .ok (.bl false))) r fun d => .rt d)))
def d_q_refused : List D → Res D := runD 5 N_q_refused.length e_q_refused
def q_pairs_c1 (r : Env) (ds : List D) : Res (List D) := lcD (nameG 3)
  (fun r => .ok true)
  (fun r => ((getS 2 r) >>= fun d => ((getS 3 r) >>= fun d => (.ok []) >>= fun ds => .ok (d :: ds)) >>= fun ds => .ok (d :: ds)) >>= tupD)
  (wipeR r [3]) ds
def q_pairs_l2 : D → Env → Oc := fun d r => (into ((nameG 2) d r)).seq fun r => (extG 1 (fun r => ((((getS 2 r) >>= fun x => (.ok (.int 1)) >>= fun y => addD x y) >>= fun d => ((((getS 0 r) >>= fun d => (.ok []) >>= fun ds => .ok (d :: ds)) >>= one lenD) >>= fun d => (.ok []) >>= fun ds => .ok (d :: ds)) >>= fun ds => .ok (d :: ds)) >>= rng2) >>= fun ds => q_pairs_c1 r ds >>= lstD) r)
def e_q_pairs : Env → Oc := fun r => (lift ((.ok []) >>= lstD) r fun d => .nx (r.set 1 (.ow .flat d))).seq fun r => ((lift (((((getS 0 r) >>= fun d => (.ok []) >>= fun ds => .ok (d :: ds)) >>= one lenD) >>= fun d => (.ok []) >>= fun ds => .ok (d :: ds)) >>= rng1) r fun ds => forD q_pairs_l2 ds r).seq fun r => (frzAt 1 (fun r => lift (getS 1 r) r fun d => .rt d) r))
def d_q_pairs : List D → Res D := runD 1 N_q_pairs.length e_q_pairs
def q_divisor_w1c : Env → Res Bool := fun r => ((getS 1 r) >>= fun x => (.ok (.int 0)) >>= fun y => neD x y) >>= asB
def q_divisor_w1 : Env → Oc := fun r => (lift ((getS 1 r) >>= fun d => (((getS 0 r) >>= fun x => (getS 1 r) >>= fun y => modD x y) >>= fun d => (.ok []) >>= fun ds => .ok (d :: ds)) >>= fun ds => .ok (d :: ds)) r fun ds => parG 0 1 ds r)
def e_q_divisor : Env → Oc := fun r => (loopD q_divisor_w1c q_divisor_w1 r).seq fun r => (lift (getS 0 r) r fun d => .rt d)
def d_q_divisor : List D → Res D := runD 2 N_q_divisor.length e_q_divisor
def q_number_c1 (r : Env) (ds : List D) : Res (List D) := lcD (tupG 2 (consG (nameG 5) (consG (nameG 6) (nilG))))
  (fun r => .ok true)
  (fun r => (((getS 1 r) >>= fun x => (getS 5 r) >>= fun y => ixD x y) >>= fun d => (((getS 1 r) >>= fun x => (getS 6 r) >>= fun y => ixD x y) >>= fun d => (.ok []) >>= fun ds => .ok (d :: ds)) >>= fun ds => .ok (d :: ds)) >>= d_q_divisor)
  (wipeR r [5, 6]) ds
def q_number_l2 : D → Env → Oc := fun d r => (into ((nameG 4) d r)).seq fun r => (lift ((getS 2 r) >>= fun x => (((getS 4 r) >>= fun d => ((getS 3 r) >>= fun d => (.ok []) >>= fun ds => .ok (d :: ds)) >>= fun ds => .ok (d :: ds)) >>= d_q_divisor) >>= fun y => mulD x y) r fun d => .nx (r.set 2 (.sh d)))
def q_number_l3 : D → Env → Oc := fun d r => (into ((nameG 3) d r)).seq fun r => (lift ((getS 0 r) >>= itemsD) r fun ds => forD q_number_l2 ds r)
def e_q_number : Env → Oc := fun r => (lift (.ok (.int 1)) r fun d => .nx (r.set 2 (.sh d))).seq fun r => ((lift (((getS 1 r) >>= fun x => (((((((getS 1 r) >>= fun d => (.ok []) >>= fun ds => .ok (d :: ds)) >>= d_q_pairs) >>= itemsD) >>= fun ds => q_number_c1 r ds >>= lstD) >>= fun d => (.ok []) >>= fun ds => .ok (d :: ds)) >>= one tupleD) >>= fun y => addD x y) >>= itemsD) r fun ds => forD q_number_l3 ds r).seq fun r => (lift (getS 2 r) r fun d => .rt d))
def d_q_number : List D → Res D := runD 2 N_q_number.length e_q_number
def q_all_c1 (r : Env) (ds : List D) : Res (List D) := lcD (nameG 5)
  (fun r => .ok true)
  (fun r => (getS 4 r) >>= fun x => (((getS 5 r) >>= fun d => (.ok []) >>= fun ds => .ok (d :: ds)) >>= tupD) >>= fun y => addD x y)
  (wipeR r [5]) ds
def q_all_l2 : D → Env → Oc := fun d r => (into ((nameG 4) d r)).seq fun r => (extG 3 (fun r => (((getS 2 r) >>= fun d => (.ok []) >>= fun ds => .ok (d :: ds)) >>= rng1) >>= fun ds => q_all_c1 r ds >>= lstD) r)
def q_all_l3 : D → Env → Oc := fun d r => (into ((nameG 2) d r)).seq fun r => ((lift ((.ok []) >>= lstD) r fun d => .nx (r.set 3 (.ow .flat d))).seq fun r => ((lift ((getS 1 r) >>= itemsD) r fun ds => forD q_all_l2 ds r).seq fun r => (frzAt 3 (fun r => lift (getS 3 r) r fun d => .nx (r.set 1 (.sh d))) r)))
def e_q_all : Env → Oc := fun r => (lift ((((.ok []) >>= tupD) >>= fun d => (.ok []) >>= fun ds => .ok (d :: ds)) >>= lstD) r fun d => .nx (r.set 1 (.sh d))).seq fun r => ((lift ((getS 0 r) >>= itemsD) r fun ds => forD q_all_l3 ds r).seq fun r => (lift (getS 1 r) r fun d => .rt d))
def d_q_all : List D → Res D := runD 1 N_q_all.length e_q_all
def q_rest_c1 (r : Env) (ds : List D) : Res (List D) := lcD (tupG 2 (consG (nameG 3) (consG (nameG 4) (nilG))))
  (fun r => .ok true)
  (fun r => (getS 3 r) >>= fun x => (((getS 4 r) >>= fun d => ((getS 1 r) >>= fun d => (.ok []) >>= fun ds => .ok (d :: ds)) >>= fun ds => .ok (d :: ds)) >>= d_q_divisor) >>= fun y => modD x y)
  (wipeR r [3, 4]) ds
def e_q_rest : Env → Oc := fun r => lift ((((((getS 2 r) >>= fun d => ((getS 0 r) >>= fun d => (.ok []) >>= fun ds => .ok (d :: ds)) >>= fun ds => .ok (d :: ds)) >>= zip2D) >>= fun ds => q_rest_c1 r ds >>= lstD) >>= fun d => (.ok []) >>= fun ds => .ok (d :: ds)) >>= one tupleD) r fun d => .rt d
def d_q_rest : List D → Res D := runD 3 N_q_rest.length e_q_rest
def q_many_c1 (r : Env) (ds : List D) : Res (List D) := lcD (tupG 2 (consG (nameG 3) (consG (nameG 4) (nilG))))
  (fun r => .ok true)
  (fun r => ((getS 1 r) >>= fun x => (getS 3 r) >>= fun y => mulD x y) >>= fun x => (getS 4 r) >>= fun y => modD x y)
  (wipeR r [3, 4]) ds
def e_q_many : Env → Oc := fun r => lift ((((((getS 2 r) >>= fun d => ((getS 0 r) >>= fun d => (.ok []) >>= fun ds => .ok (d :: ds)) >>= fun ds => .ok (d :: ds)) >>= zip2D) >>= fun ds => q_many_c1 r ds >>= lstD) >>= fun d => (.ok []) >>= fun ds => .ok (d :: ds)) >>= one tupleD) r fun d => .rt d
def d_q_many : List D → Res D := runD 3 N_q_many.length e_q_many
def q_rows_c1 (r : Env) (ds : List D) : Res (List D) := lcD (nameG 5)
  (fun r => .ok true)
  (fun r => (getS 4 r) >>= fun x => (((getS 5 r) >>= fun d => (.ok []) >>= fun ds => .ok (d :: ds)) >>= tupD) >>= fun y => addD x y)
  (wipeR r [5]) ds
def q_rows_l2 : D → Env → Oc := fun d r => (into ((nameG 4) d r)).seq fun r => (extG 3 (fun r => ((getS 2 r) >>= itemsD) >>= fun ds => q_rows_c1 r ds >>= lstD) r)
def q_rows_l3 : D → Env → Oc := fun d r => (into ((nameG 2) d r)).seq fun r => ((lift ((.ok []) >>= lstD) r fun d => .nx (r.set 3 (.ow .flat d))).seq fun r => ((lift ((getS 1 r) >>= itemsD) r fun ds => forD q_rows_l2 ds r).seq fun r => (frzAt 3 (fun r => lift (getS 3 r) r fun d => .nx (r.set 1 (.sh d))) r)))
def e_q_rows : Env → Oc := fun r => (lift ((((.ok []) >>= tupD) >>= fun d => (.ok []) >>= fun ds => .ok (d :: ds)) >>= lstD) r fun d => .nx (r.set 1 (.sh d))).seq fun r => ((lift ((getS 0 r) >>= itemsD) r fun ds => forD q_rows_l3 ds r).seq fun r => (lift (getS 1 r) r fun d => .rt d))
def d_q_rows : List D → Res D := runD 1 N_q_rows.length e_q_rows
def q_due_c1 (r : Env) (ds : List D) : Res (List D) := lcD (nameG 10)
  (fun r => .ok true)
  (fun r => .ok (.int 0))
  (wipeR r [10]) ds
def q_due_c2 (r : Env) (ds : List D) : Res (List D) := lcD (nameG 11)
  (fun r => ((((getS 0 r) >>= fun d => ((getS 4 r) >>= fun d => ((getS 11 r) >>= fun d => (.ok []) >>= fun ds => .ok (d :: ds)) >>= fun ds => .ok (d :: ds)) >>= fun ds => .ok (d :: ds)) >>= d_q_rest) >>= fun x => (getS 11 r) >>= fun y => eqD x y) >>= asB)
  (fun r => getS 11 r)
  (wipeR r [11]) ds
def q_due_l3 : D → Env → Oc := fun d r => (into ((nameG 4) d r)).seq fun r => (appG 3 (fun r => ((((getS 0 r) >>= fun d => (.ok []) >>= fun ds => .ok (d :: ds)) >>= d_q_all) >>= itemsD) >>= fun ds => q_due_c2 r ds >>= lstD) r)
def q_due_c4 (r : Env) (ds : List D) : Res (List D) := lcD (nameG 11)
  (fun r => ((((getS 0 r) >>= fun d => ((getS 4 r) >>= fun d => ((getS 11 r) >>= fun d => (.ok []) >>= fun ds => .ok (d :: ds)) >>= fun ds => .ok (d :: ds)) >>= fun ds => .ok (d :: ds)) >>= d_q_many) >>= fun x => (getS 2 r) >>= fun y => eqD x y) >>= asB)
  (fun r => getS 11 r)
  (wipeR r [11]) ds
def q_due_l5 : D → Env → Oc := fun d r => (into ((tupG 2 (consG (nameG 6) (consG (nameG 7) (nilG)))) d r)).seq fun r => ((lift ((((getS 1 r) >>= fun x => (getS 6 r) >>= fun y => ixD x y) >>= fun d => (((getS 1 r) >>= fun x => (getS 7 r) >>= fun y => ixD x y) >>= fun d => (.ok []) >>= fun ds => .ok (d :: ds)) >>= fun ds => .ok (d :: ds)) >>= d_q_divisor) r fun d => .nx (r.set 4 (.sh d))).seq fun r => (appG 5 (fun r => ((((getS 0 r) >>= fun d => (.ok []) >>= fun ds => .ok (d :: ds)) >>= d_q_all) >>= itemsD) >>= fun ds => q_due_c4 r ds >>= lstD) r))
def q_due_c6 (r : Env) (ds : List D) : Res (List D) := lcD (nameG 12)
  (fun r => .ok true)
  (fun r => ((getS 9 r) >>= fun d => ((getS 12 r) >>= fun d => (.ok []) >>= fun ds => .ok (d :: ds)) >>= fun ds => .ok (d :: ds)) >>= tupD)
  (wipeR r [12]) ds
def q_due_l7 : D → Env → Oc := fun d r => (into ((nameG 9) d r)).seq fun r => (frzAt 5 (fun r => lift ((getS 8 r) >>= fun x => (((((getS 5 r) >>= fun d => (.ok []) >>= fun ds => .ok (d :: ds)) >>= d_q_rows) >>= itemsD) >>= fun ds => q_due_c6 r ds >>= lstD) >>= fun y => addD x y) r fun d => .nx (r.set 8 (.sh d))) r)
def e_q_due : Env → Oc := fun r => (lift (((((getS 0 r) >>= itemsD) >>= fun ds => q_due_c1 r ds >>= lstD) >>= fun d => (.ok []) >>= fun ds => .ok (d :: ds)) >>= one tupleD) r fun d => .nx (r.set 2 (.sh d))).seq fun r => ((lift ((.ok []) >>= lstD) r fun d => .nx (r.set 3 (.ow .flat d))).seq fun r => ((lift ((getS 1 r) >>= itemsD) r fun ds => forD q_due_l3 ds r).seq fun r => ((lift ((.ok []) >>= lstD) r fun d => .nx (r.set 5 (.ow .flat d))).seq fun r => ((lift ((((getS 1 r) >>= fun d => (.ok []) >>= fun ds => .ok (d :: ds)) >>= d_q_pairs) >>= itemsD) r fun ds => forD q_due_l5 ds r).seq fun r => ((lift ((.ok []) >>= lstD) r fun d => .nx (r.set 8 (.sh d))).seq fun r => ((frzAt 3 (fun r => lift ((((getS 3 r) >>= fun d => (.ok []) >>= fun ds => .ok (d :: ds)) >>= d_q_rows) >>= itemsD) r fun ds => forD q_due_l7 ds r) r).seq fun r => (lift (getS 8 r) r fun d => .rt d)))))))
def d_q_due : List D → Res D := runD 2 N_q_due.length e_q_due
def q_is_c1 (r : Env) (ds : List D) : Res (List D) := lcD (nameG 3)
  (fun r => .ok true)
  (fun r => ((getS 3 r) >>= fun d => (.ok []) >>= fun ds => .ok (d :: ds)) >>= d_q_whole)
  (wipeR r [3]) ds
def e_q_is : Env → Oc := fun r => (lift ((((((getS 1 r) >>= fun d => ((.ok (.ty "tuple")) >>= fun d => (.ok []) >>= fun ds => .ok (d :: ds)) >>= fun ds => .ok (d :: ds)) >>= two (isD isC isU)) >>= asB) >>= fun t => .ok (!t)) >>= fun t => if t = true then .ok true else (((((getS 1 r) >>= fun d => (.ok []) >>= fun ds => .ok (d :: ds)) >>= one lenD) >>= fun x => (((getS 0 r) >>= fun d => (.ok []) >>= fun ds => .ok (d :: ds)) >>= one lenD) >>= fun y => neD x y) >>= asB)) r fun t => if t = true then (lift (.ok (.bl false)) r fun d => .rt d) else (.nx r)).seq fun r => (lift (((((((getS 1 r) >>= itemsD) >>= fun ds => q_is_c1 r ds >>= lstD) >>= fun d => (.ok []) >>= fun ds => .ok (d :: ds)) >>= one allT) >>= asB) >>= fun t => if t = true then ((getS 1 r) >>= fun x => (getS 2 r) >>= fun y => eqD x y) else .ok (.bl false)) r fun d => .rt d)
def d_q_is : List D → Res D := runD 3 N_q_is.length e_q_is
def q_kind_is_l1 : D → Env → Oc := fun d r => (into ((tupG 2 (consG (nameG 5) (consG (nameG 6) (nilG)))) d r)).seq fun r => (lift (((((getS 0 r) >>= fun d => ((getS 5 r) >>= fun d => ((getS 6 r) >>= fun d => (.ok []) >>= fun ds => .ok (d :: ds)) >>= fun ds => .ok (d :: ds)) >>= fun ds => .ok (d :: ds)) >>= d_q_is) >>= asB) >>= fun t => .ok (!t)) r fun t => if t = true then (lift (.ok (.bl false)) r fun d => .rt d) else (.nx r))
def q_kind_is_l2 : D → Env → Oc := fun d r => (into ((tupG 2 (consG (nameG 3) (consG (nameG 4) (nilG)))) d r)).seq fun r => ((lift ((((((getS 3 r) >>= fun d => ((.ok (.ty "tuple")) >>= fun d => (.ok []) >>= fun ds => .ok (d :: ds)) >>= fun ds => .ok (d :: ds)) >>= two (isD isC isU)) >>= asB) >>= fun t => .ok (!t)) >>= fun t => if t = true then .ok true else (((((getS 3 r) >>= fun d => (.ok []) >>= fun ds => .ok (d :: ds)) >>= one lenD) >>= fun x => (((getS 4 r) >>= fun d => (.ok []) >>= fun ds => .ok (d :: ds)) >>= one lenD) >>= fun y => neD x y) >>= asB)) r fun t => if t = true then (lift (.ok (.bl false)) r fun d => .rt d) else (.nx r)).seq fun r => (lift (((getS 3 r) >>= fun d => ((getS 4 r) >>= fun d => (.ok []) >>= fun ds => .ok (d :: ds)) >>= fun ds => .ok (d :: ds)) >>= zip2D) r fun ds => forD q_kind_is_l1 ds r))
def e_q_kind_is : Env → Oc := fun r => (lift ((((((getS 1 r) >>= fun d => ((.ok (.ty "tuple")) >>= fun d => (.ok []) >>= fun ds => .ok (d :: ds)) >>= fun ds => .ok (d :: ds)) >>= two (isD isC isU)) >>= asB) >>= fun t => .ok (!t)) >>= fun t => if t = true then .ok true else (((((getS 1 r) >>= fun d => (.ok []) >>= fun ds => .ok (d :: ds)) >>= one lenD) >>= fun x => (.ok (.int 2)) >>= fun y => neD x y) >>= asB)) r fun t => if t = true then (lift (.ok (.bl false)) r fun d => .rt d) else (.nx r)).seq fun r => ((lift (((getS 1 r) >>= fun d => ((getS 2 r) >>= fun d => (.ok []) >>= fun ds => .ok (d :: ds)) >>= fun ds => .ok (d :: ds)) >>= zip2D) r fun ds => forD q_kind_is_l2 ds r).seq fun r => (lift (.ok (.bl true)) r fun d => .rt d))
def d_q_kind_is : List D → Res D := runD 3 N_q_kind_is.length e_q_kind_is
def q_list_right_l1 : D → Env → Oc := fun d r => (into ((tupG 2 (consG (nameG 4) (consG (nameG 5) (nilG)))) d r)).seq fun r => (lift (((((getS 0 r) >>= fun d => ((getS 4 r) >>= fun d => ((getS 5 r) >>= fun d => (.ok []) >>= fun ds => .ok (d :: ds)) >>= fun ds => .ok (d :: ds)) >>= fun ds => .ok (d :: ds)) >>= d_q_kind_is) >>= asB) >>= fun t => .ok (!t)) r fun t => if t = true then (lift (.ok (.bl false)) r fun d => .rt d) else (.nx r))
def e_q_list_right : Env → Oc := fun r => (lift (((((getS 0 r) >>= fun d => (.ok []) >>= fun ds => .ok (d :: ds)) >>= d_Rounds_init) >>= fun d => ((((getS 1 r) >>= fun d => (.ok []) >>= fun ds => .ok (d :: ds)) >>= d_Rounds_init) >>= fun d => (.ok []) >>= fun ds => .ok (d :: ds)) >>= fun ds => .ok (d :: ds)) >>= d_kinds_of) r fun d => .nx (r.set 3 (.ow .flat d))).seq fun r => ((lift ((((((getR 3 r) >>= fun d => ((.ok (.ty "list")) >>= fun d => (.ok []) >>= fun ds => .ok (d :: ds)) >>= fun ds => .ok (d :: ds)) >>= two (isD isC isU)) >>= asB) >>= fun t => .ok (!t)) >>= fun t => if t = true then .ok true else (((((getR 3 r) >>= fun d => (.ok []) >>= fun ds => .ok (d :: ds)) >>= one lenD) >>= fun x => (((getS 2 r) >>= fun d => (.ok []) >>= fun ds => .ok (d :: ds)) >>= one lenD) >>= fun y => neD x y) >>= asB)) r fun t => if t = true then (lift (.ok (.bl false)) r fun d => .rt d) else (.nx r)).seq fun r => ((lift (((getR 3 r) >>= fun d => ((getS 2 r) >>= fun d => (.ok []) >>= fun ds => .ok (d :: ds)) >>= fun ds => .ok (d :: ds)) >>= zip2D) r fun ds => forH 3 q_list_right_l1 ds r).seq fun r => ((appG 3 (fun r => (.ok []) >>= tupD) r).seq fun r => (lift (.ok (.bl true)) r fun d => .rt d))))
def d_q_list_right : List D → Res D := runD 3 N_q_list_right.length e_q_list_right
def law_c1 (r : Env) (ds : List D) : Res (List D) := lcD (nameG 7)
  (fun r => .ok true)
  (fun r => ((getS 7 r) >>= fun d => ((((.ok (.int 17)) >>= fun d => (.ok []) >>= fun ds => .ok (d :: ds)) >>= tupD) >>= fun d => (((((getS 2 r) >>= fun d => ((((.ok (.int 10)) >>= fun d => (.ok []) >>= fun ds => .ok (d :: ds)) >>= tupD) >>= fun d => (.ok []) >>= fun ds => .ok (d :: ds)) >>= fun ds => .ok (d :: ds)) >>= lstD) >>= fun x => (getS 7 r) >>= fun y => ixD x y) >>= fun d => ((.ok (.str "NoLower")) >>= fun d => ((.ok (.int 0)) >>= fun d => (.ok []) >>= fun ds => .ok (d :: ds)) >>= fun ds => .ok (d :: ds)) >>= fun ds => .ok (d :: ds)) >>= fun ds => .ok (d :: ds)) >>= fun ds => .ok (d :: ds)) >>= d_q_refused)
  (wipeR r [7]) ds
def law_c2 (r : Env) (ds : List D) : Res (List D) := lcD (nameG 7)
  (fun r => .ok true)
  (fun r => ((getS 7 r) >>= fun d => ((getS 1 r) >>= fun d => (((((((.ok (.int 10)) >>= fun d => (.ok []) >>= fun ds => .ok (d :: ds)) >>= tupD) >>= fun d => ((((.ok (.int 2)) >>= fun d => ((.ok (.int 5)) >>= fun d => (.ok []) >>= fun ds => .ok (d :: ds)) >>= fun ds => .ok (d :: ds)) >>= tupD) >>= fun d => (.ok []) >>= fun ds => .ok (d :: ds)) >>= fun ds => .ok (d :: ds)) >>= lstD) >>= fun x => (getS 7 r) >>= fun y => ixD x y) >>= fun d => ((.ok (.str "NoUpper")) >>= fun d => ((.ok (.int 0)) >>= fun d => (.ok []) >>= fun ds => .ok (d :: ds)) >>= fun ds => .ok (d :: ds)) >>= fun ds => .ok (d :: ds)) >>= fun ds => .ok (d :: ds)) >>= fun ds => .ok (d :: ds)) >>= d_q_refused)
  (wipeR r [7]) ds
def e_law : Env → Oc := fun r => (lift (((((getS 0 r) >>= fun d => ((.ok (.int 0)) >>= fun d => (.ok []) >>= fun ds => .ok (d :: ds)) >>= fun ds => .ok (d :: ds)) >>= d_q_spread) >>= fun d => (.ok []) >>= fun ds => .ok (d :: ds)) >>= d_q_lower) r fun d => .nx (r.set 1 (.sh d))).seq fun r => ((lift (((((getS 0 r) >>= fun d => ((.ok (.int 1)) >>= fun d => (.ok []) >>= fun ds => .ok (d :: ds)) >>= fun ds => .ok (d :: ds)) >>= d_q_spread) >>= fun d => (.ok []) >>= fun ds => .ok (d :: ds)) >>= d_q_upper) r fun d => .nx (r.set 2 (.sh d))).seq fun r => ((lift ((((((getS 0 r) >>= fun d => ((.ok (.int 2)) >>= fun d => (.ok []) >>= fun ds => .ok (d :: ds)) >>= fun ds => .ok (d :: ds)) >>= d_q_spread) >>= fun x => (.ok (.int 8)) >>= fun y => modD x y) >>= fun x => (.ok (.int 1)) >>= fun y => eqD x y) >>= asB) r fun t => if t = true then ((lift ((((((.ok (.int 4)) >>= fun d => ((.ok (.int 4)) >>= fun d => (.ok []) >>= fun ds => .ok (d :: ds)) >>= fun ds => .ok (d :: ds)) >>= tupD) >>= fun d => ((((.ok (.int 2)) >>= fun d => ((.ok (.int 2)) >>= fun d => ((.ok (.int 4)) >>= fun d => (.ok []) >>= fun ds => .ok (d :: ds)) >>= fun ds => .ok (d :: ds)) >>= fun ds => .ok (d :: ds)) >>= tupD) >>= fun d => ((((.ok (.int 2)) >>= fun d => ((.ok (.int 2)) >>= fun d => ((.ok (.int 2)) >>= fun d => ((.ok (.int 2)) >>= fun d => (.ok []) >>= fun ds => .ok (d :: ds)) >>= fun ds => .ok (d :: ds)) >>= fun ds => .ok (d :: ds)) >>= fun ds => .ok (d :: ds)) >>= tupD) >>= fun d => ((((.ok (.int 2)) >>= fun d => ((.ok (.int 8)) >>= fun d => (.ok []) >>= fun ds => .ok (d :: ds)) >>= fun ds => .ok (d :: ds)) >>= tupD) >>= fun d => (.ok []) >>= fun ds => .ok (d :: ds)) >>= fun ds => .ok (d :: ds)) >>= fun ds => .ok (d :: ds)) >>= fun ds => .ok (d :: ds)) >>= lstD) >>= fun x => ((((getS 0 r) >>= fun d => ((.ok (.int 3)) >>= fun d => (.ok []) >>= fun ds => .ok (d :: ds)) >>= fun ds => .ok (d :: ds)) >>= d_q_spread) >>= fun x => (.ok (.int 4)) >>= fun y => modD x y) >>= fun y => ixD x y) r fun d => .nx (r.set 1 (.sh d))).seq fun r => (lift ((((((.ok (.int 2)) >>= fun d => ((.ok (.int 2)) >>= fun d => ((.ok (.int 2)) >>= fun d => (.ok []) >>= fun ds => .ok (d :: ds)) >>= fun ds => .ok (d :: ds)) >>= fun ds => .ok (d :: ds)) >>= tupD) >>= fun d => ((((.ok (.int 2)) >>= fun d => ((.ok (.int 4)) >>= fun d => (.ok []) >>= fun ds => .ok (d :: ds)) >>= fun ds => .ok (d :: ds)) >>= tupD) >>= fun d => ((((.ok (.int 4)) >>= fun d => ((.ok (.int 2)) >>= fun d => (.ok []) >>= fun ds => .ok (d :: ds)) >>= fun ds => .ok (d :: ds)) >>= tupD) >>= fun d => ((((.ok (.int 2)) >>= fun d => ((.ok (.int 2)) >>= fun d => (.ok []) >>= fun ds => .ok (d :: ds)) >>= fun ds => .ok (d :: ds)) >>= tupD) >>= fun d => (.ok []) >>= fun ds => .ok (d :: ds)) >>= fun ds => .ok (d :: ds)) >>= fun ds => .ok (d :: ds)) >>= fun ds => .ok (d :: ds)) >>= lstD) >>= fun x => ((((getS 0 r) >>= fun d => ((.ok (.int 4)) >>= fun d => (.ok []) >>= fun ds => .ok (d :: ds)) >>= fun ds => .ok (d :: ds)) >>= d_q_spread) >>= fun x => (.ok (.int 4)) >>= fun y => modD x y) >>= fun y => ixD x y) r fun d => .nx (r.set 2 (.sh d)))) else (.nx r)).seq fun r => ((lift (((((getS 0 r) >>= fun d => ((.ok (.int 2)) >>= fun d => (.ok []) >>= fun ds => .ok (d :: ds)) >>= fun ds => .ok (d :: ds)) >>= d_q_spread) >>= fun x => (.ok (.int 8)) >>= fun y => divD x y) >>= fun x => (.ok (.int 6)) >>= fun y => modD x y) r fun d => .nx (r.set 3 (.sh d))).seq fun r => ((lift (((getS 3 r) >>= fun x => (.ok (.int 1)) >>= fun y => eqD x y) >>= asB) r fun t => if t = true then (lift (((((((.ok (.int 0)) >>= fun d => ((.ok (.int 1)) >>= fun d => (.ok []) >>= fun ds => .ok (d :: ds)) >>= fun ds => .ok (d :: ds)) >>= tupD) >>= itemsD) >>= fun ds => law_c1 r ds >>= lstD) >>= fun d => (.ok []) >>= fun ds => .ok (d :: ds)) >>= one allT) r fun d => .rt d) else (.nx r)).seq fun r => ((lift (((getS 3 r) >>= fun x => (.ok (.int 2)) >>= fun y => eqD x y) >>= asB) r fun t => if t = true then (lift (((((((.ok (.int 0)) >>= fun d => ((.ok (.int 1)) >>= fun d => (.ok []) >>= fun ds => .ok (d :: ds)) >>= fun ds => .ok (d :: ds)) >>= tupD) >>= itemsD) >>= fun ds => law_c2 r ds >>= lstD) >>= fun d => (.ok []) >>= fun ds => .ok (d :: ds)) >>= one allT) r fun d => .rt d) else (.nx r)).seq fun r => ((lift (((getS 1 r) >>= fun d => ((getS 2 r) >>= fun d => (.ok []) >>= fun ds => .ok (d :: ds)) >>= fun ds => .ok (d :: ds)) >>= d_q_number) r fun d => .nx (r.set 4 (.sh d))).seq fun r => ((lift (((((getS 1 r) >>= fun d => (.ok []) >>= fun ds => .ok (d :: ds)) >>= d_Rounds_init) >>= fun d => ((((getS 2 r) >>= fun d => (.ok []) >>= fun ds => .ok (d :: ds)) >>= d_Rounds_init) >>= fun d => (.ok []) >>= fun ds => .ok (d :: ds)) >>= fun ds => .ok (d :: ds)) >>= d_how_many) r fun d => .nx (r.set 5 (.sh d))).seq fun r => ((lift ((((((getS 5 r) >>= fun d => (.ok []) >>= fun ds => .ok (d :: ds)) >>= d_q_whole) >>= asB) >>= fun t => .ok (!t)) >>= fun t => if t = true then .ok true else (((getS 5 r) >>= fun x => (getS 4 r) >>= fun y => neD x y) >>= asB)) r fun t => if t = true then (lift (.ok (.bl false)) r fun d => .rt d) else (.nx r)).seq fun r => ((lift (((getS 4 r) >>= fun x => (.ok (.int 300)) >>= fun y => gtD x y) >>= asB) r fun t => if t = true then (lift (((.ok (.int 1)) >>= fun d => ((getS 1 r) >>= fun d => ((getS 2 r) >>= fun d => ((.ok (.str "TooMany")) >>= fun d => ((getS 4 r) >>= fun d => (.ok []) >>= fun ds => .ok (d :: ds)) >>= fun ds => .ok (d :: ds)) >>= fun ds => .ok (d :: ds)) >>= fun ds => .ok (d :: ds)) >>= fun ds => .ok (d :: ds)) >>= d_q_refused) r fun d => .rt d) else (.nx r)).seq fun r => ((lift (((getS 1 r) >>= fun d => ((getS 2 r) >>= fun d => (.ok []) >>= fun ds => .ok (d :: ds)) >>= fun ds => .ok (d :: ds)) >>= d_q_due) r fun d => .nx (r.set 6 (.sh d))).seq fun r => ((lift (((((getS 6 r) >>= fun d => (.ok []) >>= fun ds => .ok (d :: ds)) >>= one lenD) >>= fun x => (getS 4 r) >>= fun y => neD x y) >>= asB) r fun t => if t = true then (lift (.ok (.bl false)) r fun d => .rt d) else (.nx r)).seq fun r => (lift (((((getS 1 r) >>= fun d => ((getS 2 r) >>= fun d => ((getS 6 r) >>= fun d => (.ok []) >>= fun ds => .ok (d :: ds)) >>= fun ds => .ok (d :: ds)) >>= fun ds => .ok (d :: ds)) >>= d_q_list_right) >>= asB) >>= fun t => if t = true then (((getS 1 r) >>= fun d => ((getS 2 r) >>= fun d => ((getS 6 r) >>= fun d => (.ok []) >>= fun ds => .ok (d :: ds)) >>= fun ds => .ok (d :: ds)) >>= fun ds => .ok (d :: ds)) >>= d_q_list_right) else .ok (.bl false)) r fun d => .rt d))))))))))))
def d_law : List D → Res D := runD 1 N_law.length e_law
structure Txt (P : Program) (w : World) (K : PySem.W.Frag) (mg : Str → Option Value) (base : Heap) : Prop where
  zz : True
  n_len : mg "len" = none
  n_all : mg "all" = none
  f_rounds : FldM K (⟨P, w, K, mg⟩ : GC).ca "rounds" (plOf [0] "rounds")
  n_range : mg "range" = none
  g_MOST_LOWER : ∃ t, mg "MOST_LOWER" = some (.int 16 t)
  c_NoLower : mg (cname 13) = some (.ref ((⟨P, w, K, mg⟩ : GC).ca 13))
  e_NoLower : ExM0 K mg ((⟨P, w, K, mg⟩ : GC).ca 13) 13
  n_isinstance : mg "isinstance" = none
  c_Rounds : mg (cname 0) = some (.ref ((⟨P, w, K, mg⟩ : GC).ca 0))
  g_MOST_UPPER : ∃ t, mg "MOST_UPPER" = some (.int 9 t)
  c_NoUpper : mg (cname 14) = some (.ref ((⟨P, w, K, mg⟩ : GC).ca 14))
  e_NoUpper : ExM0 K mg ((⟨P, w, K, mg⟩ : GC).ca 14) 14
  n_tuple : mg "tuple" = none
  n_zip : mg "zip" = none
  n_int : mg "int" = none
  n_bool : mg "bool" = none
  c_NoElement : mg (cname 12) = some (.ref ((⟨P, w, K, mg⟩ : GC).ca 12))
  e_NoElement : ExM0 K mg ((⟨P, w, K, mg⟩ : GC).ca 12) 12
  n_list : mg "list" = none
  g_MOST_ROUNDS : ∃ t, mg "MOST_ROUNDS" = some (.int 7 t)
  g_MOST_ELEMENTS : ∃ t, mg "MOST_ELEMENTS" = some (.int 144 t)
  c_NoRounds : mg (cname 11) = some (.ref ((⟨P, w, K, mg⟩ : GC).ca 11))
  e_NoRounds : ExM0 K mg ((⟨P, w, K, mg⟩ : GC).ca 11) 11
  cl_Rounds_rounds : ClM K (⟨P, w, K, mg⟩ : GC).ca "rounds" 0
  g_MOST : ∃ t, mg "MOST" = some (.int 300 t)
  c_TooMany : mg (cname 27) = some (.ref ((⟨P, w, K, mg⟩ : GC).ca 27))
  e_TooMany : ExMA P w K mg base ((⟨P, w, K, mg⟩ : GC).ca 27) 27
  c_CarryError : mg (cname 10) = some (.ref ((⟨P, w, K, mg⟩ : GC).ca 10))
  c_NotLike : mg (cname 16) = some (.ref ((⟨P, w, K, mg⟩ : GC).ca 16))
  c_NoCount : mg (cname 17) = some (.ref ((⟨P, w, K, mg⟩ : GC).ca 17))
  c_NoHead : mg (cname 15) = some (.ref ((⟨P, w, K, mg⟩ : GC).ca 15))
  c_NoPair : mg (cname 18) = some (.ref ((⟨P, w, K, mg⟩ : GC).ca 18))
  c_NoKind : mg (cname 19) = some (.ref ((⟨P, w, K, mg⟩ : GC).ca 19))
  c_NoMap : mg (cname 28) = some (.ref ((⟨P, w, K, mg⟩ : GC).ca 28))
  c_NoTower : mg (cname 24) = some (.ref ((⟨P, w, K, mg⟩ : GC).ca 24))
  c_NoCarry : mg (cname 23) = some (.ref ((⟨P, w, K, mg⟩ : GC).ca 23))
  n_ValueError : mg "ValueError" = none
  x_many : FldX K (⟨P, w, K, mg⟩ : GC).ca "many" (plOf [27] "many")
  isM : IsM K (⟨P, w, K, mg⟩ : GC).ca isC isU
  ctM : CtM K (⟨P, w, K, mg⟩ : GC).ca ctC ctU
section
variable {P : Program} {w : World} {K : PySem.W.Frag} {mg : Str → Option Value} {base : Heap}
theorem b_q_lower (T : Txt P w K mg base) {f : Addr} (cdv : Value) (A : Around) (outer : List PySem.Env) (s : Shared) (H : Hp) (E : XK) (hr : Room 0 (A.deeper (envOfC "_law_lower" (defScope s_q_lower) s.heap.objs.size f cdv))) :
    RSs (cxOf (L2.CX P w) P w K mg base N_q_lower "_law_lower" (defScope s_q_lower) f cdv A outer s H E) (WD E) .S (defBody s_q_lower) e_q_lower :=
  rss_cons (rs_set 1 sc_q_lower.nd (re_share (re_lst (ra_cons (re_tup (ra_cons (re_int) (ra_nil))) (ra_cons (re_tup (ra_cons (re_int) (ra_nil))) (ra_cons (re_tup (ra_cons (re_int) (ra_cons (re_int) (ra_nil)))) (ra_cons (re_tup (ra_cons (re_int) (ra_nil))) (ra_cons (re_tup (ra_cons (re_int) (ra_nil))) (ra_cons (re_tup (ra_cons (re_int) (ra_cons (re_int) (ra_nil)))) (ra_cons (re_tup (ra_cons (re_int) (ra_nil))) (ra_cons (re_tup (ra_cons (re_int) (ra_nil))) (ra_cons (re_tup (ra_cons (re_int) (ra_cons (re_int) (ra_nil)))) (ra_cons (re_tup (ra_cons (re_int) (ra_nil))) (ra_cons (re_tup (ra_cons (re_int) (ra_cons (re_int) (ra_cons (re_int) (ra_nil))))) (ra_cons (re_tup (ra_nil)) (ra_cons (re_tup (ra_cons (re_int) (ra_nil))) (ra_cons (re_tup (ra_cons (re_int) (ra_cons (re_int) (ra_nil)))) (ra_cons (re_tup (ra_cons (re_int) (ra_cons (re_int) (ra_nil)))) (ra_nil)))))))))))))))))))
    (rss_one (rs_ret (re_ix hr (re_rd (re_var 1)) (re_rd (re_mod (re_rd (re_var 0)) (re_rd (re_int)))))))
theorem b_q_spread (T : Txt P w K mg base) {f : Addr} (cdv : Value) (A : Around) (outer : List PySem.Env) (s : Shared) (H : Hp) (E : XK) (hr : Room 0 (A.deeper (envOfC "_law_spread" (defScope s_q_spread) s.heap.objs.size f cdv))) :
    RSs (cxOf (L2.CX P w) P w K mg base N_q_spread "_law_spread" (defScope s_q_spread) f cdv A outer s H E) (WD E) .S (defBody s_q_spread) e_q_spread :=
  rss_cons (rs_set 2 sc_q_spread.nd (re_sub (re_rd (re_blt (b_len T.n_len) (rar_cons (re_rd (re_var 0)) (rar_nil)))) (re_rd (re_int))))
    (rss_cons (rs_if (rt_pw (rw_and (rt_cp (c_gt) (re_rd (re_var 2)) (re_rd (re_int))) (rw_and1 (rt_cp (c_eq hr) (re_rd (re_mod (re_rd (re_ix hr (re_rd (re_var 0)) (re_rd (re_int)))) (re_rd (re_int)))) (re_rd (re_int))))))
    (rss_one (rs_ret (re_mod (re_rd (re_shr (re_rd (re_ix hr (re_rd (re_var 0)) (re_rd (re_add (re_rd (re_int)) (re_rd (re_mod (re_rd (re_var 1)) (re_rd (re_var 2)))))))) (re_rd (re_mul (re_rd (re_int)) (re_rd (re_div (re_rd (re_var 1)) (re_rd (re_var 2)))))))) (re_rd (re_int)))))
    (rss_nil))
    (rss_cons (rs_set 3 sc_q_spread.nd (re_int))
    (rss_cons (rs_if (rt_cp (c_gt) (re_rd (re_blt (b_len T.n_len) (rar_cons (re_rd (re_var 0)) (rar_nil)))) (re_rd (re_int)))
    (rss_one (rs_set 3 sc_q_spread.nd (re_ix hr (re_rd (re_var 0)) (re_rd (re_mod (re_rd (re_var 1)) (re_rd (re_blt (b_len T.n_len) (rar_cons (re_rd (re_var 0)) (rar_nil)))))))))
    (rss_nil))
    (rss_cons (rs_set 4 sc_q_spread.nd (re_mod (re_rd (re_add (re_rd (re_mul (re_rd (re_mod (re_rd (re_var 3)) (re_rd (re_int)))) (re_rd (re_int)))) (re_rd (re_mul (re_rd (re_mul (re_rd (re_add (re_rd (re_var 1)) (re_rd (re_int)))) (re_rd (re_add (re_rd (re_var 1)) (re_rd (re_int)))))) (re_rd (re_int)))))) (re_rd (re_int))))
    (rss_one (rs_ret (re_mod (re_rd (re_mul (re_rd (re_var 4)) (re_rd (re_int)))) (re_rd (re_int)))))))))
theorem b_q_upper (T : Txt P w K mg base) {f : Addr} (cdv : Value) (A : Around) (outer : List PySem.Env) (s : Shared) (H : Hp) (E : XK) (hr : Room 0 (A.deeper (envOfC "_law_upper" (defScope s_q_upper) s.heap.objs.size f cdv))) :
    RSs (cxOf (L2.CX P w) P w K mg base N_q_upper "_law_upper" (defScope s_q_upper) f cdv A outer s H E) (WD E) .S (defBody s_q_upper) e_q_upper :=
  rss_cons (rs_set 1 sc_q_upper.nd (re_share (re_lst (ra_cons (re_tup (ra_cons (re_int) (ra_nil))) (ra_cons (re_tup (ra_cons (re_int) (ra_nil))) (ra_cons (re_tup (ra_cons (re_int) (ra_cons (re_int) (ra_nil)))) (ra_cons (re_tup (ra_cons (re_int) (ra_nil))) (ra_cons (re_tup (ra_cons (re_int) (ra_nil))) (ra_cons (re_tup (ra_cons (re_int) (ra_cons (re_int) (ra_nil)))) (ra_cons (re_tup (ra_cons (re_int) (ra_cons (re_int) (ra_nil)))) (ra_cons (re_tup (ra_cons (re_int) (ra_nil))) (ra_cons (re_tup (ra_cons (re_int) (ra_nil))) (ra_cons (re_tup (ra_cons (re_int) (ra_nil))) (ra_cons (re_tup (ra_cons (re_int) (ra_cons (re_int) (ra_nil)))) (ra_cons (re_tup (ra_cons (re_int) (ra_cons (re_int) (ra_nil)))) (ra_cons (re_tup (ra_cons (re_int) (ra_nil))) (ra_cons (re_tup (ra_nil)) (ra_cons (re_tup (ra_cons (re_int) (ra_cons (re_int) (ra_cons (re_int) (ra_nil))))) (ra_nil)))))))))))))))))))
    (rss_one (rs_ret (re_ix hr (re_rd (re_var 1)) (re_rd (re_mod (re_rd (re_var 0)) (re_rd (re_int)))))))
theorem b_Rounds_members (T : Txt P w K mg base) {f : Addr} (cdv : Value) (A : Around) (outer : List PySem.Env) (s : Shared) (H : Hp) (E : XK) (hr : Room 0 (A.deeper (envOfC "Rounds.members" (defScope s_Rounds_members) s.heap.objs.size f cdv))) :
    RSs (cxOf (L2.CX P w) P w K mg base N_Rounds_members "Rounds.members" (defScope s_Rounds_members) f cdv A outer s H E) (WD E) .S (defBody s_Rounds_members) e_Rounds_members :=
  rss_cons (rs_set 1 sc_Rounds_members.nd (re_share (re_lst (ra_cons (re_tup (ra_nil)) (ra_nil)))))
    (rss_cons (rs_for (passes_of rfl) rfl (by exact (re_iter (re_fld T.f_rounds (re_var 0)))) (by exact (gN 2 sc_Rounds_members.nd))
    (by exact (rss_cons (rs_setO 3 sc_Rounds_members.nd (re_lst (ra_nil)))
    (rss_cons (rs_for (passes_of rfl) rfl (by exact (re_iter (re_var 1))) (by exact (gN 4 sc_Rounds_members.nd))
    (by exact (rss_one (rs_extend 3 (re_share (re_lc [("here", 5)] rfl sc_Rounds_members.nd (ri_range1 (b := true) T.n_range (rar_cons (re_rd (re_var 2)) (rar_nil))) (blkOk_by (N := N_Rounds_members) (sc := defScope s_Rounds_members) (by decide +kernel)) (fun _ _ _ _ _ _ => by exact (gN 5 sc_Rounds_members.nd)) (fun _ _ _ _ _ => by exact (rts_nil)) (fun _ _ _ _ _ => by exact (re_add (re_rd (re_var 4)) (re_rd (re_tup (ra_cons (re_var 5) (ra_nil))))))))))))
    (rss_one (rs_frz 3 (rs_set 1 sc_Rounds_members.nd (re_var 3))))))))
    (rss_one (rs_ret (re_var 1))))
theorem b_Group_size (T : Txt P w K mg base) (MT_members : ∀ c g, mt_members c = some g → MtM P w K mg base 1 "members" c .S g) {f : Addr} (cdv : Value) (A : Around) (outer : List PySem.Env) (s : Shared) (H : Hp) (E : XK) (hr : Room 1 (A.deeper (envOfC "Group.size" (defScope s_Group_size) s.heap.objs.size f cdv))) :
    RSs (cxOf (L2.CX P w) P w K mg base N_Group_size "Group.size" (defScope s_Group_size) f cdv A outer s H E) (WD E) .S (defBody s_Group_size) e_Group_size :=
  rss_one (rs_ret (re_blt (b_len T.n_len) (rar_cons (re_rd (re_meth0 MT_members (hr.mono (by decide)) (takes_of rfl rfl rfl rfl) (re_var 0))) (rar_nil))))
theorem b_Rounds_is_even (T : Txt P w K mg base) {f : Addr} (cdv : Value) (A : Around) (outer : List PySem.Env) (s : Shared) (H : Hp) (E : XK) (hr : Room 0 (A.deeper (envOfC "Rounds.is_even" (defScope s_Rounds_is_even) s.heap.objs.size f cdv))) :
    RSs (cxOf (L2.CX P w) P w K mg base N_Rounds_is_even "Rounds.is_even" (defScope s_Rounds_is_even) f cdv A outer s H E) (WD E) .S (defBody s_Rounds_is_even) e_Rounds_is_even :=
  rss_one (rs_ret (re_bl))
theorem b_look_at_groups (T : Txt P w K mg base) (MT_size : ∀ c g, mt_size c = some g → MtM P w K mg base 2 "size" c .S g) (MT_is_even : ∀ c g, mt_is_even c = some g → MtM P w K mg base 1 "is_even" c .S g) {f : Addr} (cdv : Value) (A : Around) (outer : List PySem.Env) (s : Shared) (H : Hp) (E : XK) (hr : Room 2 (A.deeper (envOfC "look_at_groups" (defScope s_look_at_groups) s.heap.objs.size f cdv))) :
    RSs (cxOf (L2.CX P w) P w K mg base N_look_at_groups "look_at_groups" (defScope s_look_at_groups) f cdv A outer s H E) (WD E) .S (defBody s_look_at_groups) e_look_at_groups :=
  rss_cons (rs_if (rt_pw (rw_or (rt_cp (c_gt) (re_rd (re_meth0 MT_size (hr.mono (by decide)) (takes_of rfl rfl rfl rfl) (re_var 0))) (re_rd (re_gI T.g_MOST_LOWER))) (rw_or1 (rt_not (rt_val (re_meth0 MT_is_even (hr.mono (by decide)) (takes_of rfl rfl rfl rfl) (re_var 0)))))))
    (rss_one (rs_raise0 T.e_NoLower rfl (takes_of rfl rfl rfl rfl)))
    (rss_nil))
    (rss_one (rs_if (rt_pw (rw_or (rt_not (rt_val (re_blt (b_is T.isM T.n_isinstance) (rar_cons (re_rd (re_var 1)) (rar_cons (re_rd (re_cls (c := 0) T.c_Rounds)) (rar_nil)))))) (rw_or1 (rt_cp (c_gt) (re_rd (re_meth0 MT_size (hr.mono (by decide)) (takes_of rfl rfl rfl rfl) (re_var 1))) (re_rd (re_gI T.g_MOST_UPPER))))))
    (rss_one (rs_raise0 T.e_NoUpper rfl (takes_of rfl rfl rfl rfl)))
    (rss_nil)))
theorem b_is_whole (T : Txt P w K mg base) {f : Addr} (cdv : Value) (A : Around) (outer : List PySem.Env) (s : Shared) (H : Hp) (E : XK) (hr : Room 0 (A.deeper (envOfC "is_whole" (defScope s_is_whole) s.heap.objs.size f cdv))) :
    RSs (cxOf (L2.CX P w) P w K mg base N_is_whole "is_whole" (defScope s_is_whole) f cdv A outer s H E) (WD E) .S (defBody s_is_whole) e_is_whole :=
  rss_one (rs_ret (re_and (re_blt (b_is T.isM T.n_isinstance) (rar_cons (re_rd (re_var 0)) (rar_cons (re_rd (re_ty T.n_int boot_ty_int)) (rar_nil)))) (re_one (re_not (re_blt (b_is T.isM T.n_isinstance) (rar_cons (re_rd (re_var 0)) (rar_cons (re_rd (re_ty T.n_bool boot_ty_bool)) (rar_nil))))))))
theorem b_Rounds_has (T : Txt P w K mg base) (M_is_whole : FnM P w K mg base 1 "is_whole" .S d_is_whole) {f : Addr} (cdv : Value) (A : Around) (outer : List PySem.Env) (s : Shared) (H : Hp) (E : XK) (hr : Room 1 (A.deeper (envOfC "Rounds.has" (defScope s_Rounds_has) s.heap.objs.size f cdv))) :
    RSs (cxOf (L2.CX P w) P w K mg base N_Rounds_has "Rounds.has" (defScope s_Rounds_has) f cdv A outer s H E) (WD E) .S (defBody s_Rounds_has) e_Rounds_has :=
  rss_cons (rs_if (rt_pw (rw_or (rt_not (rt_val (re_blt (b_is T.isM T.n_isinstance) (rar_cons (re_rd (re_var 1)) (rar_cons (re_rd (re_ty T.n_tuple boot_ty_tuple)) (rar_nil)))))) (rw_or1 (rt_cp (c_ne hr) (re_rd (re_blt (b_len T.n_len) (rar_cons (re_rd (re_var 1)) (rar_nil)))) (re_rd (re_blt (b_len T.n_len) (rar_cons (re_rd (re_fld T.f_rounds (re_var 0))) (rar_nil))))))))
    (rss_one (rs_ret (re_bl)))
    (rss_nil))
    (rss_cons (rs_for (passes_of rfl) rfl (by exact (ri_zip2 T.n_zip (ra_cons (re_var 1) (ra_cons (re_fld T.f_rounds (re_var 0)) (ra_nil))))) (by exact (gT 2 rfl (gsc (gN 2 sc_Rounds_has.nd) (gsc (gN 3 sc_Rounds_has.nd) (gs0)))))
    (by exact (rss_one (rs_if (rt_pw (rw_or (rt_not (rt_val (re_call M_is_whole (hr.mono (by decide)) (takes_of rfl rfl rfl rfl) (ra_cons (re_var 2) (ra_nil))))) (rw_or (rt_cp (c_lt) (re_rd (re_var 2)) (re_rd (re_int))) (rw_or1 (rt_cp (c_ge) (re_rd (re_var 2)) (re_rd (re_var 3)))))))
    (rss_one (rs_ret (re_bl)))
    (rss_nil)))))
    (rss_one (rs_ret (re_bl))))
theorem b_greatest_shared (T : Txt P w K mg base) {f : Addr} (cdv : Value) (A : Around) (outer : List PySem.Env) (s : Shared) (H : Hp) (E : XK) (hr : Room 0 (A.deeper (envOfC "greatest_shared" (defScope s_greatest_shared) s.heap.objs.size f cdv))) :
    RSs (cxOf (L2.CX P w) P w K mg base N_greatest_shared "greatest_shared" (defScope s_greatest_shared) f cdv A outer s H E) (WD E) .S (defBody s_greatest_shared) e_greatest_shared :=
  rss_cons (rs_loop (passes_of rfl) (by exact (rt_cp (c_ne hr) (re_rd (re_var 1)) (re_rd (re_int)))) (by exact (rss_one (rs_par 0 1 rfl sc_greatest_shared.nd (ra_cons (re_var 1) (ra_cons (re_mod (re_rd (re_var 0)) (re_rd (re_var 1))) (ra_nil)))))))
    (rss_one (rs_ret (re_var 0)))
theorem b_rest_but_for (T : Txt P w K mg base) (MT_has : ∀ c g, mt_has c = some g → MtM P w K mg base 2 "has" c .S g) (M_greatest_shared : FnM P w K mg base 1 "greatest_shared" .S d_greatest_shared) {f : Addr} (cdv : Value) (A : Around) (outer : List PySem.Env) (s : Shared) (H : Hp) (E : XK) (hr : Room 2 (A.deeper (envOfC "rest_but_for" (defScope s_rest_but_for) s.heap.objs.size f cdv))) :
    RSs (cxOf (L2.CX P w) P w K mg base N_rest_but_for "rest_but_for" (defScope s_rest_but_for) f cdv A outer s H E) (WD E) .S (defBody s_rest_but_for) e_rest_but_for :=
  rss_cons (rs_if (rt_not (rt_val (re_meth MT_has (hr.mono (by decide)) (takes_of rfl rfl rfl rfl) (re_var 0) (ra_cons (re_var 2) (ra_nil)))))
    (rss_one (rs_raise0 T.e_NoElement rfl (takes_of rfl rfl rfl rfl)))
    (rss_nil))
    (rss_one (rs_ret (re_blt (b_tuple T.n_tuple) (rar_cons (re_rd (re_lc [("number", 3), ("most", 4)] rfl sc_rest_but_for.nd (ri_zip2 T.n_zip (ra_cons (re_var 2) (ra_cons (re_fld T.f_rounds (re_var 0)) (ra_nil)))) (blkOk_by (N := N_rest_but_for) (sc := defScope s_rest_but_for) (by decide +kernel)) (fun _ _ _ _ _ _ => by exact (gT 2 rfl (gsc (gN 3 sc_rest_but_for.nd) (gsc (gN 4 sc_rest_but_for.nd) (gs0))))) (fun _ _ _ _ _ => by exact (rts_nil)) (fun _ _ _ _ _ => by exact (re_mod (re_rd (re_var 3)) (re_rd (re_call M_greatest_shared (hr.mono (by decide)) (takes0) (ra_cons (re_var 4) (ra_cons (re_var 1) (ra_nil))))))))) (rar_nil)))))
theorem b_rests_for (T : Txt P w K mg base) (MT_members : ∀ c g, mt_members c = some g → MtM P w K mg base 1 "members" c .S g) (M_rest_but_for : FnM P w K mg base 3 "rest_but_for" .S d_rest_but_for) {f : Addr} (cdv : Value) (A : Around) (outer : List PySem.Env) (s : Shared) (H : Hp) (E : XK) (hr : Room 3 (A.deeper (envOfC "rests_for" (defScope s_rests_for) s.heap.objs.size f cdv))) :
    RSs (cxOf (L2.CX P w) P w K mg base N_rests_for "rests_for" (defScope s_rests_for) f cdv A outer s H E) (WD E) .S (defBody s_rests_for) e_rests_for :=
  rss_one (rs_ret (re_share (re_lc [("a", 2)] rfl sc_rests_for.nd (re_iter (re_meth0 MT_members (hr.mono (by decide)) (takes_of rfl rfl rfl rfl) (re_var 0))) (blkOk_by (N := N_rests_for) (sc := defScope s_rests_for) (by decide +kernel)) (fun _ _ _ _ _ _ => by exact (gN 2 sc_rests_for.nd)) (fun _ _ _ _ _ => by exact (rts_one (rt_cp (c_eq hr) (re_rd (re_call M_rest_but_for (hr.mono (by decide)) (takes0) (ra_cons (re_var 0) (ra_cons (re_var 1) (ra_cons (re_var 2) (ra_nil)))))) (re_rd (re_var 2))))) (fun _ _ _ _ _ => by exact (re_var 2)))))
theorem b_pairs_of (T : Txt P w K mg base) {f : Addr} (cdv : Value) (A : Around) (outer : List PySem.Env) (s : Shared) (H : Hp) (E : XK) (hr : Room 0 (A.deeper (envOfC "pairs_of" (defScope s_pairs_of) s.heap.objs.size f cdv))) :
    RSs (cxOf (L2.CX P w) P w K mg base N_pairs_of "pairs_of" (defScope s_pairs_of) f cdv A outer s H E) (WD E) .S (defBody s_pairs_of) e_pairs_of :=
  rss_cons (rs_setO 1 sc_pairs_of.nd (re_lst (ra_nil)))
    (rss_cons (rs_for (passes_of rfl) rfl (by exact (ri_range1 (b := true) T.n_range (rar_cons (re_rd (re_blt (b_len T.n_len) (rar_cons (re_rd (re_fld T.f_rounds (re_var 0))) (rar_nil)))) (rar_nil)))) (by exact (gN 2 sc_pairs_of.nd))
    (by exact (rss_one (rs_extend 1 (re_share (re_lc [("j", 3)] rfl sc_pairs_of.nd (ri_range2 (b := true) T.n_range (rar_cons (re_rd (re_add (re_rd (re_var 2)) (re_rd (re_int)))) (rar_cons (re_rd (re_blt (b_len T.n_len) (rar_cons (re_rd (re_fld T.f_rounds (re_var 0))) (rar_nil)))) (rar_nil)))) (blkOk_by (N := N_pairs_of) (sc := defScope s_pairs_of) (by decide +kernel)) (fun _ _ _ _ _ _ => by exact (gN 3 sc_pairs_of.nd)) (fun _ _ _ _ _ => by exact (rts_nil)) (fun _ _ _ _ _ => by exact (re_tup (ra_cons (re_var 2) (ra_cons (re_var 3) (ra_nil)))))))))))
    (rss_one (rs_frz 1 (rs_ret (re_var 1)))))
theorem b_Rounds_nought (T : Txt P w K mg base) {f : Addr} (cdv : Value) (A : Around) (outer : List PySem.Env) (s : Shared) (H : Hp) (E : XK) (hr : Room 0 (A.deeper (envOfC "Rounds.nought" (defScope s_Rounds_nought) s.heap.objs.size f cdv))) :
    RSs (cxOf (L2.CX P w) P w K mg base N_Rounds_nought "Rounds.nought" (defScope s_Rounds_nought) f cdv A outer s H E) (WD E) .S (defBody s_Rounds_nought) e_Rounds_nought :=
  rss_one (rs_ret (re_blt (b_tuple T.n_tuple) (rar_cons (re_rd (re_lc [("number", 1)] rfl sc_Rounds_nought.nd (re_iter (re_fld T.f_rounds (re_var 0))) (blkOk_by (N := N_Rounds_nought) (sc := defScope s_Rounds_nought) (by decide +kernel)) (fun _ _ _ _ _ _ => by exact (gN 1 sc_Rounds_nought.nd)) (fun _ _ _ _ _ => by exact (rts_nil)) (fun _ _ _ _ _ => by exact (re_int)))) (rar_nil))))
theorem b_Group_look_at (T : Txt P w K mg base) (MT_has : ∀ c g, mt_has c = some g → MtM P w K mg base 2 "has" c .S g) {f : Addr} (cdv : Value) (A : Around) (outer : List PySem.Env) (s : Shared) (H : Hp) (E : XK) (hr : Room 2 (A.deeper (envOfC "Group.look_at" (defScope s_Group_look_at) s.heap.objs.size f cdv))) :
    RSs (cxOf (L2.CX P w) P w K mg base N_Group_look_at "Group.look_at" (defScope s_Group_look_at) f cdv A outer s H E) (WD E) .S (defBody s_Group_look_at) e_Group_look_at :=
  rss_one (rs_if (rt_not (rt_val (re_meth MT_has (hr.mono (by decide)) (takes_of rfl rfl rfl rfl) (re_var 0) (ra_cons (re_var 1) (ra_nil)))))
    (rss_one (rs_raise0 T.e_NoElement rfl (takes_of rfl rfl rfl rfl)))
    (rss_nil))
theorem b_Rounds_backed (T : Txt P w K mg base) {f : Addr} (cdv : Value) (A : Around) (outer : List PySem.Env) (s : Shared) (H : Hp) (E : XK) (hr : Room 0 (A.deeper (envOfC "Rounds.backed" (defScope s_Rounds_backed) s.heap.objs.size f cdv))) :
    RSs (cxOf (L2.CX P w) P w K mg base N_Rounds_backed "Rounds.backed" (defScope s_Rounds_backed) f cdv A outer s H E) (WD E) .S (defBody s_Rounds_backed) e_Rounds_backed :=
  rss_one (rs_ret (re_blt (b_tuple T.n_tuple) (rar_cons (re_rd (re_lc [("a", 2), ("number", 3)] rfl sc_Rounds_backed.nd (ri_zip2 T.n_zip (ra_cons (re_var 1) (ra_cons (re_fld T.f_rounds (re_var 0)) (ra_nil)))) (blkOk_by (N := N_Rounds_backed) (sc := defScope s_Rounds_backed) (by decide +kernel)) (fun _ _ _ _ _ _ => by exact (gT 2 rfl (gsc (gN 2 sc_Rounds_backed.nd) (gsc (gN 3 sc_Rounds_backed.nd) (gs0))))) (fun _ _ _ _ _ => by exact (rts_nil)) (fun _ _ _ _ _ => by exact (re_mod (re_rd (re_sub (re_rd (re_int)) (re_rd (re_var 2)))) (re_rd (re_var 3)))))) (rar_nil))))
theorem b_Rounds_put (T : Txt P w K mg base) {f : Addr} (cdv : Value) (A : Around) (outer : List PySem.Env) (s : Shared) (H : Hp) (E : XK) (hr : Room 0 (A.deeper (envOfC "Rounds.put" (defScope s_Rounds_put) s.heap.objs.size f cdv))) :
    RSs (cxOf (L2.CX P w) P w K mg base N_Rounds_put "Rounds.put" (defScope s_Rounds_put) f cdv A outer s H E) (WD E) .S (defBody s_Rounds_put) e_Rounds_put :=
  rss_one (rs_ret (re_blt (b_tuple T.n_tuple) (rar_cons (re_rd (re_lc [("a", 3), ("b", 4), ("number", 5)] rfl sc_Rounds_put.nd (ri_zip3 T.n_zip (ra_cons (re_var 1) (ra_cons (re_var 2) (ra_cons (re_fld T.f_rounds (re_var 0)) (ra_nil))))) (blkOk_by (N := N_Rounds_put) (sc := defScope s_Rounds_put) (by decide +kernel)) (fun _ _ _ _ _ _ => by exact (gT 3 rfl (gsc (gN 3 sc_Rounds_put.nd) (gsc (gN 4 sc_Rounds_put.nd) (gsc (gN 5 sc_Rounds_put.nd) (gs0)))))) (fun _ _ _ _ _ => by exact (rts_nil)) (fun _ _ _ _ _ => by exact (re_mod (re_rd (re_add (re_rd (re_var 3)) (re_rd (re_var 4)))) (re_rd (re_var 5)))))) (rar_nil))))
theorem b_Group_times (T : Txt P w K mg base) (MT_look_at : ∀ c g, mt_look_at c = some g → MtM P w K mg base 3 "look_at" c .S g) (MT_backed : ∀ c g, mt_backed c = some g → MtM P w K mg base 1 "backed" c .S g) (MT_nought : ∀ c g, mt_nought c = some g → MtM P w K mg base 1 "nought" c .S g) (MT_put : ∀ c g, mt_put c = some g → MtM P w K mg base 1 "put" c .S g) {f : Addr} (cdv : Value) (A : Around) (outer : List PySem.Env) (s : Shared) (H : Hp) (E : XK) (hr : Room 3 (A.deeper (envOfC "Group.times" (defScope s_Group_times) s.heap.objs.size f cdv))) :
    RSs (cxOf (L2.CX P w) P w K mg base N_Group_times "Group.times" (defScope s_Group_times) f cdv A outer s H E) (WD E) .S (defBody s_Group_times) e_Group_times :=
  rss_cons (rs_expr (re_meth MT_look_at (hr.mono (by decide)) (takes_of rfl rfl rfl rfl) (re_var 0) (ra_cons (re_var 2) (ra_nil))))
    (rss_cons (rs_if (rt_cp (c_lt) (re_rd (re_var 1)) (re_rd (re_int)))
    (rss_cons (rs_set 2 sc_Group_times.nd (re_meth MT_backed (hr.mono (by decide)) (takes_of rfl rfl rfl rfl) (re_var 0) (ra_cons (re_var 2) (ra_nil))))
    (rss_one (rs_set 1 sc_Group_times.nd (re_sub (re_rd (re_int)) (re_rd (re_var 1))))))
    (rss_nil))
    (rss_cons (rs_set 3 sc_Group_times.nd (re_meth0 MT_nought (hr.mono (by decide)) (takes_of rfl rfl rfl rfl) (re_var 0)))
    (rss_cons (rs_loop (passes_of rfl) (by exact (rt_cp (c_gt) (re_rd (re_var 1)) (re_rd (re_int)))) (by exact (rss_cons (rs_if (rt_cp (c_eq hr) (re_rd (re_mod (re_rd (re_var 1)) (re_rd (re_int)))) (re_rd (re_int)))
    (rss_one (rs_set 3 sc_Group_times.nd (re_meth MT_put (hr.mono (by decide)) (takes_of rfl rfl rfl rfl) (re_var 0) (ra_cons (re_var 3) (ra_cons (re_var 2) (ra_nil))))))
    (rss_nil))
    (rss_cons (rs_set 2 sc_Group_times.nd (re_meth MT_put (hr.mono (by decide)) (takes_of rfl rfl rfl rfl) (re_var 0) (ra_cons (re_var 2) (ra_cons (re_var 2) (ra_nil)))))
    (rss_one (rs_set 1 sc_Group_times.nd (re_div (re_rd (re_var 1)) (re_rd (re_int)))))))))
    (rss_one (rs_ret (re_var 3))))))
theorem b_odds_for (T : Txt P w K mg base) (MT_nought : ∀ c g, mt_nought c = some g → MtM P w K mg base 1 "nought" c .S g) (MT_members : ∀ c g, mt_members c = some g → MtM P w K mg base 1 "members" c .S g) (MT_times : ∀ c g, mt_times c = some g → MtM P w K mg base 4 "times" c .S g) {f : Addr} (cdv : Value) (A : Around) (outer : List PySem.Env) (s : Shared) (H : Hp) (E : XK) (hr : Room 4 (A.deeper (envOfC "odds_for" (defScope s_odds_for) s.heap.objs.size f cdv))) :
    RSs (cxOf (L2.CX P w) P w K mg base N_odds_for "odds_for" (defScope s_odds_for) f cdv A outer s H E) (WD E) .S (defBody s_odds_for) e_odds_for :=
  rss_cons (rs_set 3 sc_odds_for.nd (re_meth0 MT_nought (hr.mono (by decide)) (takes_of rfl rfl rfl rfl) (re_var 0)))
    (rss_one (rs_ret (re_share (re_lc [("a", 4)] rfl sc_odds_for.nd (re_iter (re_meth0 MT_members (hr.mono (by decide)) (takes_of rfl rfl rfl rfl) (re_var 0))) (blkOk_by (N := N_odds_for) (sc := defScope s_odds_for) (by decide +kernel)) (fun _ _ _ _ _ _ => by exact (gN 4 sc_odds_for.nd)) (fun _ _ _ _ _ => by exact (rts_one (rt_pw (rw_and (rt_cp (c_eq hr) (re_rd (re_meth MT_times (hr.mono (by decide)) (takes0) (re_var 0) (ra_cons (re_var 1) (ra_cons (re_var 4) (ra_nil))))) (re_rd (re_var 3))) (rw_and1 (rt_cp (c_eq hr) (re_rd (re_meth MT_times (hr.mono (by decide)) (takes0) (re_var 0) (ra_cons (re_var 2) (ra_cons (re_var 4) (ra_nil))))) (re_rd (re_var 3)))))))) (fun _ _ _ _ _ => by exact (re_var 4))))))
theorem b_places_of (T : Txt P w K mg base) (M_rests_for : FnM P w K mg base 4 "rests_for" .S d_rests_for) (M_pairs_of : FnM P w K mg base 1 "pairs_of" .S d_pairs_of) (M_odds_for : FnM P w K mg base 5 "odds_for" .S d_odds_for) {f : Addr} (cdv : Value) (A : Around) (outer : List PySem.Env) (s : Shared) (H : Hp) (E : XK) (hr : Room 5 (A.deeper (envOfC "places_of" (defScope s_places_of) s.heap.objs.size f cdv))) :
    RSs (cxOf (L2.CX P w) P w K mg base N_places_of "places_of" (defScope s_places_of) f cdv A outer s H E) (WD E) .S (defBody s_places_of) e_places_of :=
  rss_cons (rs_shareLc 2 (rs_setLc 2 [("n", 3)] rfl sc_places_of.nd (re_iter (re_fld T.f_rounds (re_var 1))) (blkOk_by (N := N_places_of) (sc := defScope s_places_of) (by decide +kernel)) (fun _ _ _ _ _ _ => by exact (gN 3 sc_places_of.nd)) (fun _ _ _ _ _ => by exact (rts_nil)) (fun _ _ _ _ _ => by exact (re_call M_rests_for (hr.mono (by decide)) (takes0) (ra_cons (re_var 0) (ra_cons (re_var 3) (ra_nil)))))))
    (rss_one (rs_ret (re_tup (ra_cons (re_var 2) (ra_cons (re_share (re_lc [("i", 4), ("j", 5)] rfl sc_places_of.nd (re_iter (re_call M_pairs_of (hr.mono (by decide)) (takes_of rfl rfl rfl rfl) (ra_cons (re_var 1) (ra_nil)))) (blkOk_by (N := N_places_of) (sc := defScope s_places_of) (by decide +kernel)) (fun _ _ _ _ _ _ => by exact (gT 2 rfl (gsc (gN 4 sc_places_of.nd) (gsc (gN 5 sc_places_of.nd) (gs0))))) (fun _ _ _ _ _ => by exact (rts_nil)) (fun _ _ _ _ _ => by exact (re_call M_odds_for (hr.mono (by decide)) (takes0) (ra_cons (re_var 0) (ra_cons (re_ix hr (re_rd (re_fld T.f_rounds (re_var 1))) (re_rd (re_var 4))) (ra_cons (re_ix hr (re_rd (re_fld T.f_rounds (re_var 1))) (re_rd (re_var 5))) (ra_nil)))))))) (ra_nil))))))
theorem b_how_many (T : Txt P w K mg base) (M_look_at_groups : FnM P w K mg base 3 "look_at_groups" .S d_look_at_groups) (M_places_of : FnM P w K mg base 6 "places_of" .S d_places_of) {f : Addr} (cdv : Value) (A : Around) (outer : List PySem.Env) (s : Shared) (H : Hp) (E : XK) (hr : Room 6 (A.deeper (envOfC "how_many" (defScope s_how_many) s.heap.objs.size f cdv))) :
    RSs (cxOf (L2.CX P w) P w K mg base N_how_many "how_many" (defScope s_how_many) f cdv A outer s H E) (WD E) .S (defBody s_how_many) e_how_many :=
  rss_cons (rs_expr (re_call M_look_at_groups (hr.mono (by decide)) (takes_of rfl rfl rfl rfl) (ra_cons (re_var 0) (ra_cons (re_var 1) (ra_nil)))))
    (rss_cons (rs_set 2 sc_how_many.nd (re_int))
    (rss_cons (rs_asg (re_call M_places_of (hr.mono (by decide)) (takes_of rfl rfl rfl rfl) (ra_cons (re_var 0) (ra_cons (re_var 1) (ra_nil)))) (gT 2 rfl (gsc (gN 3 sc_how_many.nd) (gsc (gN 4 sc_how_many.nd) (gs0)))))
    (rss_cons (rs_for (passes_of rfl) rfl (by exact (re_iter (re_add (re_rd (re_var 3)) (re_rd (re_var 4))))) (by exact (gN 5 sc_how_many.nd))
    (by exact (rss_one (rs_set 2 sc_how_many.nd (re_mul (re_rd (re_var 2)) (re_rd (re_blt (b_len T.n_len) (rar_cons (re_rd (re_var 5)) (rar_nil)))))))))
    (rss_one (rs_ret (re_var 2))))))
theorem b_are_rounds (T : Txt P w K mg base) (M_is_whole : FnM P w K mg base 1 "is_whole" .S d_is_whole) {f : Addr} (cdv : Value) (A : Around) (outer : List PySem.Env) (s : Shared) (H : Hp) (E : XK) (hr : Room 1 (A.deeper (envOfC "are_rounds" (defScope s_are_rounds) s.heap.objs.size f cdv))) :
    RSs (cxOf (L2.CX P w) P w K mg base N_are_rounds "are_rounds" (defScope s_are_rounds) f cdv A outer s H E) (WD E) .S (defBody s_are_rounds) e_are_rounds :=
  rss_cons (rs_if (rt_pw (rw_or (rt_not (rt_val (re_blt (b_is T.isM T.n_isinstance) (rar_cons (re_rd (re_var 0)) (rar_cons (re_rd (re_tup (ra_cons (re_ty T.n_list boot_ty_list) (ra_cons (re_ty T.n_tuple boot_ty_tuple) (ra_nil))))) (rar_nil)))))) (rw_or1 (rt_cp (c_gt) (re_rd (re_blt (b_len T.n_len) (rar_cons (re_rd (re_var 0)) (rar_nil)))) (re_rd (re_gI T.g_MOST_ROUNDS))))))
    (rss_one (rs_ret (re_bl)))
    (rss_nil))
    (rss_cons (rs_set 1 sc_are_rounds.nd (re_int))
    (rss_cons (rs_for (passes_of rfl) rfl (by exact (re_iter (re_var 0))) (by exact (gN 2 sc_are_rounds.nd))
    (by exact (rss_cons (rs_if (rt_pw (rw_or (rt_not (rt_val (re_call M_is_whole (hr.mono (by decide)) (takes_of rfl rfl rfl rfl) (ra_cons (re_var 2) (ra_nil))))) (rw_or (rt_cp (c_lt) (re_rd (re_var 2)) (re_rd (re_int))) (rw_or1 (rt_cp (c_gt) (re_rd (re_var 2)) (re_rd (re_gI T.g_MOST_ELEMENTS)))))))
    (rss_one (rs_ret (re_bl)))
    (rss_nil))
    (rss_one (rs_set 1 sc_are_rounds.nd (re_mul (re_rd (re_var 1)) (re_rd (re_var 2))))))))
    (rss_one (rs_ret (re_cp (c_le) (re_rd (re_var 1)) (re_rd (re_gI T.g_MOST_ELEMENTS)))))))
theorem b_Rounds_init (T : Txt P w K mg base) (M_are_rounds : FnM P w K mg base 2 "are_rounds" .S d_are_rounds) {f : Addr} (cdv : Value) (A : Around) (outer : List PySem.Env) (s : Shared) (H : Hp) (E : XK) (x : Addr) (hr : Room 2 (A.deeper (envOfC "Rounds.__init__" (defScope s_Rounds_init) s.heap.objs.size f cdv))) :
    RSs (cxOf (L2.CX P w) P w K mg base N_Rounds_init "Rounds.__init__" (defScope s_Rounds_init) f cdv A outer s H E) (WI x E) .S (defBody s_Rounds_init) e_Rounds_init :=
  rss_cons (rs_if (rt_not (rt_val (re_call M_are_rounds (hr.mono (by decide)) (takes_of rfl rfl rfl rfl) (ra_cons (re_var 1) (ra_nil)))))
    (rss_one (rs_raise0 T.e_NoRounds rfl (takes_of rfl rfl rfl rfl)))
    (rss_nil))
    (rss_one (rs_fldS 0 0 T.cl_Rounds_rounds (re_blt (b_tuple T.n_tuple) (rar_cons (re_rd (re_var 1)) (rar_nil)))))
theorem b_rows_by (T : Txt P w K mg base) {f : Addr} (cdv : Value) (A : Around) (outer : List PySem.Env) (s : Shared) (H : Hp) (E : XK) (hr : Room 0 (A.deeper (envOfC "rows_by" (defScope s_rows_by) s.heap.objs.size f cdv))) :
    RSs (cxOf (L2.CX P w) P w K mg base N_rows_by "rows_by" (defScope s_rows_by) f cdv A outer s H E) (WD E) .S (defBody s_rows_by) e_rows_by :=
  rss_cons (rs_set 1 sc_rows_by.nd (re_share (re_lst (ra_cons (re_tup (ra_nil)) (ra_nil)))))
    (rss_cons (rs_for (passes_of rfl) rfl (by exact (re_iter (re_var 0))) (by exact (gN 2 sc_rows_by.nd))
    (by exact (rss_cons (rs_setO 3 sc_rows_by.nd (re_lst (ra_nil)))
    (rss_cons (rs_for (passes_of rfl) rfl (by exact (re_iter (re_var 1))) (by exact (gN 4 sc_rows_by.nd))
    (by exact (rss_one (rs_extend 3 (re_share (re_lc [("one", 5)] rfl sc_rows_by.nd (re_iter (re_var 2)) (blkOk_by (N := N_rows_by) (sc := defScope s_rows_by) (by decide +kernel)) (fun _ _ _ _ _ _ => by exact (gN 5 sc_rows_by.nd)) (fun _ _ _ _ _ => by exact (rts_nil)) (fun _ _ _ _ _ => by exact (re_add (re_rd (re_var 4)) (re_rd (re_tup (ra_cons (re_var 5) (ra_nil))))))))))))
    (rss_one (rs_frz 3 (rs_set 1 sc_rows_by.nd (re_var 3))))))))
    (rss_one (rs_ret (re_var 1))))
theorem b_kinds_of (T : Txt P w K mg base) (M_how_many : FnM P w K mg base 7 "how_many" .S d_how_many) (M_places_of : FnM P w K mg base 6 "places_of" .S d_places_of) (M_rows_by : FnM P w K mg base 1 "rows_by" .S d_rows_by) {f : Addr} (cdv : Value) (A : Around) (outer : List PySem.Env) (s : Shared) (H : Hp) (E : XK) (hr : Room 7 (A.deeper (envOfC "kinds_of" (defScope s_kinds_of) s.heap.objs.size f cdv))) :
    RSs (cxOf (L2.CX P w) P w K mg base N_kinds_of "kinds_of" (defScope s_kinds_of) f cdv A outer s H E) (WD E) (.O .flat) (defBody s_kinds_of) e_kinds_of :=
  rss_cons (rs_set 2 sc_kinds_of.nd (re_call M_how_many (hr.mono (by decide)) (takes_of rfl rfl rfl rfl) (ra_cons (re_var 0) (ra_cons (re_var 1) (ra_nil)))))
    (rss_cons (rs_if (rt_cp (c_gt) (re_rd (re_var 2)) (re_rd (re_gI T.g_MOST)))
    (rss_one (rs_raise T.e_TooMany rfl (takes_of rfl rfl rfl rfl) (hr.mono (by decide)) (ra_cons (re_var 2) (ra_nil))))
    (rss_nil))
    (rss_cons (rs_asg (re_call M_places_of (hr.mono (by decide)) (takes_of rfl rfl rfl rfl) (ra_cons (re_var 0) (ra_cons (re_var 1) (ra_nil)))) (gT 2 rfl (gsc (gN 3 sc_kinds_of.nd) (gsc (gN 4 sc_kinds_of.nd) (gs0)))))
    (rss_cons (rs_setO 5 sc_kinds_of.nd (re_lst (ra_nil)))
    (rss_cons (rs_for (passes_of rfl) rfl (by exact (re_iter (re_call M_rows_by (hr.mono (by decide)) (takes_of rfl rfl rfl rfl) (ra_cons (re_var 3) (ra_nil))))) (by exact (gN 6 sc_kinds_of.nd))
    (by exact (rss_one (rs_extend 5 (re_share (re_lc [("other", 7)] rfl sc_kinds_of.nd (re_iter (re_call M_rows_by (hr.mono (by decide)) (takes_of rfl rfl rfl rfl) (ra_cons (re_var 4) (ra_nil)))) (blkOk_by (N := N_kinds_of) (sc := defScope s_kinds_of) (by decide +kernel)) (fun _ _ _ _ _ _ => by exact (gN 7 sc_kinds_of.nd)) (fun _ _ _ _ _ => by exact (rts_nil)) (fun _ _ _ _ _ => by exact (re_tup (ra_cons (re_var 6) (ra_cons (re_var 7) (ra_nil)))))))))))
    (rss_one (rs_retO 5))))))
theorem b_q_kinds (T : Txt P w K mg base) {f : Addr} (cdv : Value) (A : Around) (outer : List PySem.Env) (s : Shared) (H : Hp) (E : XK) (hr : Room 0 (A.deeper (envOfC "_law_kinds" (defScope s_q_kinds) s.heap.objs.size f cdv))) :
    RSs (cxOf (L2.CX P w) P w K mg base N_q_kinds "_law_kinds" (defScope s_q_kinds) f cdv A outer s H E) (WD E) .S (defBody s_q_kinds) e_q_kinds :=
  rss_cons (rs_set 1 sc_q_kinds.nd (re_share (re_lst (ra_cons (re_blt (b_is T.isM T.n_isinstance) (rar_cons (re_rd (re_var 0)) (rar_cons (re_rd (re_cls (c := 16) T.c_NotLike)) (rar_nil)))) (ra_cons (re_blt (b_is T.isM T.n_isinstance) (rar_cons (re_rd (re_var 0)) (rar_cons (re_rd (re_cls (c := 17) T.c_NoCount)) (rar_nil)))) (ra_cons (re_blt (b_is T.isM T.n_isinstance) (rar_cons (re_rd (re_var 0)) (rar_cons (re_rd (re_cls (c := 12) T.c_NoElement)) (rar_nil)))) (ra_cons (re_blt (b_is T.isM T.n_isinstance) (rar_cons (re_rd (re_var 0)) (rar_cons (re_rd (re_cls (c := 15) T.c_NoHead)) (rar_nil)))) (ra_nil))))))))
    (rss_cons (rs_set 1 sc_q_kinds.nd (re_add (re_rd (re_var 1)) (re_rd (re_lst (ra_cons (re_blt (b_is T.isM T.n_isinstance) (rar_cons (re_rd (re_var 0)) (rar_cons (re_rd (re_cls (c := 18) T.c_NoPair)) (rar_nil)))) (ra_cons (re_blt (b_is T.isM T.n_isinstance) (rar_cons (re_rd (re_var 0)) (rar_cons (re_rd (re_cls (c := 19) T.c_NoKind)) (rar_nil)))) (ra_cons (re_blt (b_is T.isM T.n_isinstance) (rar_cons (re_rd (re_var 0)) (rar_cons (re_rd (re_cls (c := 27) T.c_TooMany)) (rar_nil)))) (ra_cons (re_blt (b_is T.isM T.n_isinstance) (rar_cons (re_rd (re_var 0)) (rar_cons (re_rd (re_cls (c := 13) T.c_NoLower)) (rar_nil)))) (ra_nil)))))))))
    (rss_cons (rs_set 1 sc_q_kinds.nd (re_add (re_rd (re_var 1)) (re_rd (re_lst (ra_cons (re_blt (b_is T.isM T.n_isinstance) (rar_cons (re_rd (re_var 0)) (rar_cons (re_rd (re_cls (c := 14) T.c_NoUpper)) (rar_nil)))) (ra_cons (re_blt (b_is T.isM T.n_isinstance) (rar_cons (re_rd (re_var 0)) (rar_cons (re_rd (re_cls (c := 28) T.c_NoMap)) (rar_nil)))) (ra_cons (re_blt (b_is T.isM T.n_isinstance) (rar_cons (re_rd (re_var 0)) (rar_cons (re_rd (re_cls (c := 24) T.c_NoTower)) (rar_nil)))) (ra_cons (re_blt (b_is T.isM T.n_isinstance) (rar_cons (re_rd (re_var 0)) (rar_cons (re_rd (re_cls (c := 23) T.c_NoCarry)) (rar_nil)))) (ra_nil)))))))))
    (rss_one (rs_ret (re_add (re_rd (re_var 1)) (re_rd (re_lst (ra_cons (re_blt (b_is T.isM T.n_isinstance) (rar_cons (re_rd (re_var 0)) (rar_cons (re_rd (re_cls (c := 10) T.c_CarryError)) (rar_nil)))) (ra_cons (re_blt (b_is T.isM T.n_isinstance) (rar_cons (re_rd (re_var 0)) (rar_cons (re_rd (re_ty T.n_ValueError boot_ty_ValueError)) (rar_nil)))) (ra_nil))))))))))
theorem b_q_class (T : Txt P w K mg base) {f : Addr} (cdv : Value) (A : Around) (outer : List PySem.Env) (s : Shared) (H : Hp) (E : XK) (hr : Room 0 (A.deeper (envOfC "_law_class" (defScope s_q_class) s.heap.objs.size f cdv))) :
    RSs (cxOf (L2.CX P w) P w K mg base N_q_class "_law_class" (defScope s_q_class) f cdv A outer s H E) (WD E) .S (defBody s_q_class) e_q_class :=
  rss_cons (rs_set 1 sc_q_class.nd (re_share (re_lst (ra_cons (re_str) (ra_cons (re_str) (ra_cons (re_str) (ra_cons (re_str) (ra_cons (re_str) (ra_cons (re_str) (ra_cons (re_str) (ra_cons (re_str) (ra_cons (re_str) (ra_cons (re_str) (ra_nil))))))))))))))
    (rss_cons (rs_set 1 sc_q_class.nd (re_add (re_rd (re_var 1)) (re_rd (re_lst (ra_cons (re_str) (ra_cons (re_str) (ra_nil)))))))
    (rss_one (rs_ret (re_add (re_rd (re_lc [("_law_one", 2)] rfl sc_q_class.nd (re_iter (re_var 1)) (blkOk_by (N := N_q_class) (sc := defScope s_q_class) (by decide +kernel)) (fun _ _ _ _ _ _ => by exact (gN 2 sc_q_class.nd)) (fun _ _ _ _ _ => by exact (rts_nil)) (fun _ _ _ _ _ => by exact (re_cp (c_eq hr) (re_rd (re_var 0)) (re_rd (re_var 2)))))) (re_rd (re_lst (ra_cons (re_bl) (ra_cons (re_bl) (ra_nil)))))))))
theorem b_q_whole (T : Txt P w K mg base) {f : Addr} (cdv : Value) (A : Around) (outer : List PySem.Env) (s : Shared) (H : Hp) (E : XK) (hr : Room 0 (A.deeper (envOfC "_law_whole" (defScope s_q_whole) s.heap.objs.size f cdv))) :
    RSs (cxOf (L2.CX P w) P w K mg base N_q_whole "_law_whole" (defScope s_q_whole) f cdv A outer s H E) (WD E) .S (defBody s_q_whole) e_q_whole :=
  rss_one (rs_ret (re_and (re_blt (b_is T.isM T.n_isinstance) (rar_cons (re_rd (re_var 0)) (rar_cons (re_rd (re_ty T.n_int boot_ty_int)) (rar_nil)))) (re_one (re_not (re_blt (b_is T.isM T.n_isinstance) (rar_cons (re_rd (re_var 0)) (rar_cons (re_rd (re_ty T.n_bool boot_ty_bool)) (rar_nil))))))))
theorem b_q_refused (T : Txt P w K mg base) (M_how_many : FnM P w K mg base 7 "how_many" .S d_how_many) (MK_Rounds : MkM P w K mg base 3 0 d_Rounds_init) (M_kinds_of : FnM P w K mg base 8 "kinds_of" (.O .flat) d_kinds_of) (M_q_kinds : FnM P w K mg base 1 "_law_kinds" .S d_q_kinds) (M_q_class : FnM P w K mg base 1 "_law_class" .S d_q_class) (M_q_whole : FnM P w K mg base 1 "_law_whole" .S d_q_whole) {f : Addr} (cdv : Value) (A : Around) (outer : List PySem.Env) (s : Shared) (H : Hp) (E : XK) (hr : Room 8 (A.deeper (envOfC "_law_refused" (defScope s_q_refused) s.heap.objs.size f cdv))) :
    RSs (cxOf (L2.CX P w) P w K mg base N_q_refused "_law_refused" (defScope s_q_refused) f cdv A outer s H E) (WD E) .S (defBody s_q_refused) e_q_refused :=
  rss_cons (rs_set 5 sc_q_refused.nd (re_non))
    (rss_cons (rs_try T.ctM sc_q_refused.nd (takes_of rfl rfl rfl rfl) (fun _ _ _ tk1 po1 => by exact (rss_one (rs_if (rt_cp (c_eq hr) (re_rd (re_var 0)) (re_rd (re_int)))
    (rss_one (rs_expr (re_call M_how_many (hr.mono (by decide)) (tk1) (ra_cons (re_make MK_Rounds (hr.mono (by decide)) (tk1) (ra_cons (re_var 1) (ra_nil))) (ra_cons (re_make MK_Rounds (hr.mono (by decide)) (tk1) (ra_cons (re_var 2) (ra_nil))) (ra_nil))))))
    (rss_one (rs_expr (re_share (re_call M_kinds_of (hr.mono (by decide)) (tk1) (ra_cons (re_make MK_Rounds (hr.mono (by decide)) (tk1) (ra_cons (re_var 1) (ra_nil))) (ra_cons (re_make MK_Rounds (hr.mono (by decide)) (tk1) (ra_cons (re_var 2) (ra_nil))) (ra_nil)))))))))) (by exact (ClsD.as (i := 6) (names_own (u := 10) T.c_CarryError) rfl rfl rfl (by first | exact fun _ _ h => h | exact jset (by decide)) (fun _ _ => by exact (rss_one (rs_set 5 sc_q_refused.nd (re_var 6)))) (by exact (ClsD.nil)))))
    (rss_cons (rs_if (rt_pw (rw_or (rt_cp (c_isN) (re_rd (re_var 5)) (re_rd (re_non))) (rw_or1 (rt_cp (c_ne hr) (re_rd (re_call M_q_kinds (hr.mono (by decide)) (takes_of rfl rfl rfl rfl) (ra_cons (re_var 5) (ra_nil)))) (re_rd (re_call M_q_class (hr.mono (by decide)) (takes_of rfl rfl rfl rfl) (ra_cons (re_var 3) (ra_nil))))))))
    (rss_one (rs_ret (re_bl)))
    (rss_nil))
    (rss_one (rs_ret (re_or (re_cp (c_ne hr) (re_rd (re_var 3)) (re_rd (re_str))) (re_one (re_and (re_call M_q_whole (hr.mono (by decide)) (takes_of rfl rfl rfl rfl) (ra_cons (re_exf T.x_many (re_var 5)) (ra_nil))) (re_one (re_cp (c_eq hr) (re_rd (re_exf T.x_many (re_var 5))) (re_rd (re_var 4)))))))))))
theorem b_q_pairs (T : Txt P w K mg base) {f : Addr} (cdv : Value) (A : Around) (outer : List PySem.Env) (s : Shared) (H : Hp) (E : XK) (hr : Room 0 (A.deeper (envOfC "_law_pairs" (defScope s_q_pairs) s.heap.objs.size f cdv))) :
    RSs (cxOf (L2.CX P w) P w K mg base N_q_pairs "_law_pairs" (defScope s_q_pairs) f cdv A outer s H E) (WD E) .S (defBody s_q_pairs) e_q_pairs :=
  rss_cons (rs_setO 1 sc_q_pairs.nd (re_lst (ra_nil)))
    (rss_cons (rs_for (passes_of rfl) rfl (by exact (ri_range1 (b := true) T.n_range (rar_cons (re_rd (re_blt (b_len T.n_len) (rar_cons (re_rd (re_var 0)) (rar_nil)))) (rar_nil)))) (by exact (gN 2 sc_q_pairs.nd))
    (by exact (rss_one (rs_extend 1 (re_share (re_lc [("_law_j", 3)] rfl sc_q_pairs.nd (ri_range2 (b := true) T.n_range (rar_cons (re_rd (re_add (re_rd (re_var 2)) (re_rd (re_int)))) (rar_cons (re_rd (re_blt (b_len T.n_len) (rar_cons (re_rd (re_var 0)) (rar_nil)))) (rar_nil)))) (blkOk_by (N := N_q_pairs) (sc := defScope s_q_pairs) (by decide +kernel)) (fun _ _ _ _ _ _ => by exact (gN 3 sc_q_pairs.nd)) (fun _ _ _ _ _ => by exact (rts_nil)) (fun _ _ _ _ _ => by exact (re_tup (ra_cons (re_var 2) (ra_cons (re_var 3) (ra_nil)))))))))))
    (rss_one (rs_frz 1 (rs_ret (re_var 1)))))
theorem b_q_divisor (T : Txt P w K mg base) {f : Addr} (cdv : Value) (A : Around) (outer : List PySem.Env) (s : Shared) (H : Hp) (E : XK) (hr : Room 0 (A.deeper (envOfC "_law_divisor" (defScope s_q_divisor) s.heap.objs.size f cdv))) :
    RSs (cxOf (L2.CX P w) P w K mg base N_q_divisor "_law_divisor" (defScope s_q_divisor) f cdv A outer s H E) (WD E) .S (defBody s_q_divisor) e_q_divisor :=
  rss_cons (rs_loop (passes_of rfl) (by exact (rt_cp (c_ne hr) (re_rd (re_var 1)) (re_rd (re_int)))) (by exact (rss_one (rs_par 0 1 rfl sc_q_divisor.nd (ra_cons (re_var 1) (ra_cons (re_mod (re_rd (re_var 0)) (re_rd (re_var 1))) (ra_nil)))))))
    (rss_one (rs_ret (re_var 0)))
theorem b_q_number (T : Txt P w K mg base) (M_q_pairs : FnM P w K mg base 1 "_law_pairs" .S d_q_pairs) (M_q_divisor : FnM P w K mg base 1 "_law_divisor" .S d_q_divisor) {f : Addr} (cdv : Value) (A : Around) (outer : List PySem.Env) (s : Shared) (H : Hp) (E : XK) (hr : Room 1 (A.deeper (envOfC "_law_number" (defScope s_q_number) s.heap.objs.size f cdv))) :
    RSs (cxOf (L2.CX P w) P w K mg base N_q_number "_law_number" (defScope s_q_number) f cdv A outer s H E) (WD E) .S (defBody s_q_number) e_q_number :=
  rss_cons (rs_set 2 sc_q_number.nd (re_int))
    (rss_cons (rs_for (passes_of rfl) rfl (by exact (re_iter (re_add (re_rd (re_var 1)) (re_rd (re_blt (b_tuple T.n_tuple) (rar_cons (re_rd (re_lc [("_law_i", 5), ("_law_j", 6)] rfl sc_q_number.nd (re_iter (re_call M_q_pairs (hr.mono (by decide)) (takes_of rfl rfl rfl rfl) (ra_cons (re_var 1) (ra_nil)))) (blkOk_by (N := N_q_number) (sc := defScope s_q_number) (by decide +kernel)) (fun _ _ _ _ _ _ => by exact (gT 2 rfl (gsc (gN 5 sc_q_number.nd) (gsc (gN 6 sc_q_number.nd) (gs0))))) (fun _ _ _ _ _ => by exact (rts_nil)) (fun _ _ _ _ _ => by exact (re_call M_q_divisor (hr.mono (by decide)) (takes0) (ra_cons (re_ix hr (re_rd (re_var 1)) (re_rd (re_var 5))) (ra_cons (re_ix hr (re_rd (re_var 1)) (re_rd (re_var 6))) (ra_nil))))))) (rar_nil))))))) (by exact (gN 3 sc_q_number.nd))
    (by exact (rss_one (rs_for (passes_of rfl) rfl (by exact (re_iter (re_var 0))) (by exact (gN 4 sc_q_number.nd))
    (by exact (rss_one (rs_set 2 sc_q_number.nd (re_mul (re_rd (re_var 2)) (re_rd (re_call M_q_divisor (hr.mono (by decide)) (takes_of rfl rfl rfl rfl) (ra_cons (re_var 4) (ra_cons (re_var 3) (ra_nil)))))))))))))
    (rss_one (rs_ret (re_var 2))))
theorem b_q_all (T : Txt P w K mg base) {f : Addr} (cdv : Value) (A : Around) (outer : List PySem.Env) (s : Shared) (H : Hp) (E : XK) (hr : Room 0 (A.deeper (envOfC "_law_all" (defScope s_q_all) s.heap.objs.size f cdv))) :
    RSs (cxOf (L2.CX P w) P w K mg base N_q_all "_law_all" (defScope s_q_all) f cdv A outer s H E) (WD E) .S (defBody s_q_all) e_q_all :=
  rss_cons (rs_set 1 sc_q_all.nd (re_share (re_lst (ra_cons (re_tup (ra_nil)) (ra_nil)))))
    (rss_cons (rs_for (passes_of rfl) rfl (by exact (re_iter (re_var 0))) (by exact (gN 2 sc_q_all.nd))
    (by exact (rss_cons (rs_setO 3 sc_q_all.nd (re_lst (ra_nil)))
    (rss_cons (rs_for (passes_of rfl) rfl (by exact (re_iter (re_var 1))) (by exact (gN 4 sc_q_all.nd))
    (by exact (rss_one (rs_extend 3 (re_share (re_lc [("_law_here", 5)] rfl sc_q_all.nd (ri_range1 (b := true) T.n_range (rar_cons (re_rd (re_var 2)) (rar_nil))) (blkOk_by (N := N_q_all) (sc := defScope s_q_all) (by decide +kernel)) (fun _ _ _ _ _ _ => by exact (gN 5 sc_q_all.nd)) (fun _ _ _ _ _ => by exact (rts_nil)) (fun _ _ _ _ _ => by exact (re_add (re_rd (re_var 4)) (re_rd (re_tup (ra_cons (re_var 5) (ra_nil))))))))))))
    (rss_one (rs_frz 3 (rs_set 1 sc_q_all.nd (re_var 3))))))))
    (rss_one (rs_ret (re_var 1))))
theorem b_q_rest (T : Txt P w K mg base) (M_q_divisor : FnM P w K mg base 1 "_law_divisor" .S d_q_divisor) {f : Addr} (cdv : Value) (A : Around) (outer : List PySem.Env) (s : Shared) (H : Hp) (E : XK) (hr : Room 1 (A.deeper (envOfC "_law_rest" (defScope s_q_rest) s.heap.objs.size f cdv))) :
    RSs (cxOf (L2.CX P w) P w K mg base N_q_rest "_law_rest" (defScope s_q_rest) f cdv A outer s H E) (WD E) .S (defBody s_q_rest) e_q_rest :=
  rss_one (rs_ret (re_blt (b_tuple T.n_tuple) (rar_cons (re_rd (re_lc [("_law_one", 3), ("_law_number_here", 4)] rfl sc_q_rest.nd (ri_zip2 T.n_zip (ra_cons (re_var 2) (ra_cons (re_var 0) (ra_nil)))) (blkOk_by (N := N_q_rest) (sc := defScope s_q_rest) (by decide +kernel)) (fun _ _ _ _ _ _ => by exact (gT 2 rfl (gsc (gN 3 sc_q_rest.nd) (gsc (gN 4 sc_q_rest.nd) (gs0))))) (fun _ _ _ _ _ => by exact (rts_nil)) (fun _ _ _ _ _ => by exact (re_mod (re_rd (re_var 3)) (re_rd (re_call M_q_divisor (hr.mono (by decide)) (takes0) (ra_cons (re_var 4) (ra_cons (re_var 1) (ra_nil))))))))) (rar_nil))))
theorem b_q_many (T : Txt P w K mg base) {f : Addr} (cdv : Value) (A : Around) (outer : List PySem.Env) (s : Shared) (H : Hp) (E : XK) (hr : Room 0 (A.deeper (envOfC "_law_many" (defScope s_q_many) s.heap.objs.size f cdv))) :
    RSs (cxOf (L2.CX P w) P w K mg base N_q_many "_law_many" (defScope s_q_many) f cdv A outer s H E) (WD E) .S (defBody s_q_many) e_q_many :=
  rss_one (rs_ret (re_blt (b_tuple T.n_tuple) (rar_cons (re_rd (re_lc [("_law_one", 3), ("_law_number_here", 4)] rfl sc_q_many.nd (ri_zip2 T.n_zip (ra_cons (re_var 2) (ra_cons (re_var 0) (ra_nil)))) (blkOk_by (N := N_q_many) (sc := defScope s_q_many) (by decide +kernel)) (fun _ _ _ _ _ _ => by exact (gT 2 rfl (gsc (gN 3 sc_q_many.nd) (gsc (gN 4 sc_q_many.nd) (gs0))))) (fun _ _ _ _ _ => by exact (rts_nil)) (fun _ _ _ _ _ => by exact (re_mod (re_rd (re_mul (re_rd (re_var 1)) (re_rd (re_var 3)))) (re_rd (re_var 4)))))) (rar_nil))))
theorem b_q_rows (T : Txt P w K mg base) {f : Addr} (cdv : Value) (A : Around) (outer : List PySem.Env) (s : Shared) (H : Hp) (E : XK) (hr : Room 0 (A.deeper (envOfC "_law_rows" (defScope s_q_rows) s.heap.objs.size f cdv))) :
    RSs (cxOf (L2.CX P w) P w K mg base N_q_rows "_law_rows" (defScope s_q_rows) f cdv A outer s H E) (WD E) .S (defBody s_q_rows) e_q_rows :=
  rss_cons (rs_set 1 sc_q_rows.nd (re_share (re_lst (ra_cons (re_tup (ra_nil)) (ra_nil)))))
    (rss_cons (rs_for (passes_of rfl) rfl (by exact (re_iter (re_var 0))) (by exact (gN 2 sc_q_rows.nd))
    (by exact (rss_cons (rs_setO 3 sc_q_rows.nd (re_lst (ra_nil)))
    (rss_cons (rs_for (passes_of rfl) rfl (by exact (re_iter (re_var 1))) (by exact (gN 4 sc_q_rows.nd))
    (by exact (rss_one (rs_extend 3 (re_share (re_lc [("_law_one", 5)] rfl sc_q_rows.nd (re_iter (re_var 2)) (blkOk_by (N := N_q_rows) (sc := defScope s_q_rows) (by decide +kernel)) (fun _ _ _ _ _ _ => by exact (gN 5 sc_q_rows.nd)) (fun _ _ _ _ _ => by exact (rts_nil)) (fun _ _ _ _ _ => by exact (re_add (re_rd (re_var 4)) (re_rd (re_tup (ra_cons (re_var 5) (ra_nil))))))))))))
    (rss_one (rs_frz 3 (rs_set 1 sc_q_rows.nd (re_var 3))))))))
    (rss_one (rs_ret (re_var 1))))
theorem b_q_due (T : Txt P w K mg base) (M_q_all : FnM P w K mg base 1 "_law_all" .S d_q_all) (M_q_rest : FnM P w K mg base 2 "_law_rest" .S d_q_rest) (M_q_pairs : FnM P w K mg base 1 "_law_pairs" .S d_q_pairs) (M_q_divisor : FnM P w K mg base 1 "_law_divisor" .S d_q_divisor) (M_q_many : FnM P w K mg base 1 "_law_many" .S d_q_many) (M_q_rows : FnM P w K mg base 1 "_law_rows" .S d_q_rows) {f : Addr} (cdv : Value) (A : Around) (outer : List PySem.Env) (s : Shared) (H : Hp) (E : XK) (hr : Room 2 (A.deeper (envOfC "_law_due" (defScope s_q_due) s.heap.objs.size f cdv))) :
    RSs (cxOf (L2.CX P w) P w K mg base N_q_due "_law_due" (defScope s_q_due) f cdv A outer s H E) (WD E) .S (defBody s_q_due) e_q_due :=
  rss_cons (rs_set 2 sc_q_due.nd (re_blt (b_tuple T.n_tuple) (rar_cons (re_rd (re_lc [("_law_number_here", 10)] rfl sc_q_due.nd (re_iter (re_var 0)) (blkOk_by (N := N_q_due) (sc := defScope s_q_due) (by decide +kernel)) (fun _ _ _ _ _ _ => by exact (gN 10 sc_q_due.nd)) (fun _ _ _ _ _ => by exact (rts_nil)) (fun _ _ _ _ _ => by exact (re_int)))) (rar_nil))))
    (rss_cons (rs_setO 3 sc_q_due.nd (re_lst (ra_nil)))
    (rss_cons (rs_for (passes_of rfl) rfl (by exact (re_iter (re_var 1))) (by exact (gN 4 sc_q_due.nd))
    (by exact (rss_one (rs_append 3 (re_share (re_lc [("_law_a", 11)] rfl sc_q_due.nd (re_iter (re_call M_q_all (hr.mono (by decide)) (takes_of rfl rfl rfl rfl) (ra_cons (re_var 0) (ra_nil)))) (blkOk_by (N := N_q_due) (sc := defScope s_q_due) (by decide +kernel)) (fun _ _ _ _ _ _ => by exact (gN 11 sc_q_due.nd)) (fun _ _ _ _ _ => by exact (rts_one (rt_cp (c_eq hr) (re_rd (re_call M_q_rest (hr.mono (by decide)) (takes0) (ra_cons (re_var 0) (ra_cons (re_var 4) (ra_cons (re_var 11) (ra_nil)))))) (re_rd (re_var 11))))) (fun _ _ _ _ _ => by exact (re_var 11))))))))
    (rss_cons (rs_setO 5 sc_q_due.nd (re_lst (ra_nil)))
    (rss_cons (rs_for (passes_of rfl) rfl (by exact (re_iter (re_call M_q_pairs (hr.mono (by decide)) (takes_of rfl rfl rfl rfl) (ra_cons (re_var 1) (ra_nil))))) (by exact (gT 2 rfl (gsc (gN 6 sc_q_due.nd) (gsc (gN 7 sc_q_due.nd) (gs0)))))
    (by exact (rss_cons (rs_set 4 sc_q_due.nd (re_call M_q_divisor (hr.mono (by decide)) (takes_of rfl rfl rfl rfl) (ra_cons (re_ix hr (re_rd (re_var 1)) (re_rd (re_var 6))) (ra_cons (re_ix hr (re_rd (re_var 1)) (re_rd (re_var 7))) (ra_nil)))))
    (rss_one (rs_append 5 (re_share (re_lc [("_law_a", 11)] rfl sc_q_due.nd (re_iter (re_call M_q_all (hr.mono (by decide)) (takes_of rfl rfl rfl rfl) (ra_cons (re_var 0) (ra_nil)))) (blkOk_by (N := N_q_due) (sc := defScope s_q_due) (by decide +kernel)) (fun _ _ _ _ _ _ => by exact (gN 11 sc_q_due.nd)) (fun _ _ _ _ _ => by exact (rts_one (rt_cp (c_eq hr) (re_rd (re_call M_q_many (hr.mono (by decide)) (takes0) (ra_cons (re_var 0) (ra_cons (re_var 4) (ra_cons (re_var 11) (ra_nil)))))) (re_rd (re_var 2))))) (fun _ _ _ _ _ => by exact (re_var 11)))))))))
    (rss_cons (rs_set 8 sc_q_due.nd (re_share (re_lst (ra_nil))))
    (rss_cons (rs_frz 3 (rs_for (passes_of rfl) rfl (by exact (re_iter (re_call M_q_rows (hr.mono (by decide)) (takes_of rfl rfl rfl rfl) (ra_cons (re_var 3) (ra_nil))))) (by exact (gN 9 sc_q_due.nd))
    (by exact (rss_one (rs_frz 5 (rs_set 8 sc_q_due.nd (re_add (re_rd (re_var 8)) (re_rd (re_lc [("_law_other", 12)] rfl sc_q_due.nd (re_iter (re_call M_q_rows (hr.mono (by decide)) (takes_of rfl rfl rfl rfl) (ra_cons (re_var 5) (ra_nil)))) (blkOk_by (N := N_q_due) (sc := defScope s_q_due) (by decide +kernel)) (fun _ _ _ _ _ _ => by exact (gN 12 sc_q_due.nd)) (fun _ _ _ _ _ => by exact (rts_nil)) (fun _ _ _ _ _ => by exact (re_tup (ra_cons (re_var 9) (ra_cons (re_var 12) (ra_nil))))))))))))))
    (rss_one (rs_ret (re_var 8)))))))))
theorem b_q_is (T : Txt P w K mg base) (M_q_whole : FnM P w K mg base 1 "_law_whole" .S d_q_whole) {f : Addr} (cdv : Value) (A : Around) (outer : List PySem.Env) (s : Shared) (H : Hp) (E : XK) (hr : Room 1 (A.deeper (envOfC "_law_is" (defScope s_q_is) s.heap.objs.size f cdv))) :
    RSs (cxOf (L2.CX P w) P w K mg base N_q_is "_law_is" (defScope s_q_is) f cdv A outer s H E) (WD E) .S (defBody s_q_is) e_q_is :=
  rss_cons (rs_if (rt_pw (rw_or (rt_not (rt_val (re_blt (b_is T.isM T.n_isinstance) (rar_cons (re_rd (re_var 1)) (rar_cons (re_rd (re_ty T.n_tuple boot_ty_tuple)) (rar_nil)))))) (rw_or1 (rt_cp (c_ne hr) (re_rd (re_blt (b_len T.n_len) (rar_cons (re_rd (re_var 1)) (rar_nil)))) (re_rd (re_blt (b_len T.n_len) (rar_cons (re_rd (re_var 0)) (rar_nil))))))))
    (rss_one (rs_ret (re_bl)))
    (rss_nil))
    (rss_one (rs_ret (re_and (re_blt (b_allT rfl T.n_all) (rar_cons (re_rd (re_lc [("_law_one", 3)] rfl sc_q_is.nd (re_iter (re_var 1)) (blkOk_by (N := N_q_is) (sc := defScope s_q_is) (by decide +kernel)) (fun _ _ _ _ _ _ => by exact (gN 3 sc_q_is.nd)) (fun _ _ _ _ _ => by exact (rts_nil)) (fun _ _ _ _ _ => by exact (re_call M_q_whole (hr.mono (by decide)) (takes0) (ra_cons (re_var 3) (ra_nil)))))) (rar_nil))) (re_one (re_cp (c_eq hr) (re_rd (re_var 1)) (re_rd (re_var 2)))))))
theorem b_q_kind_is (T : Txt P w K mg base) (M_q_is : FnM P w K mg base 2 "_law_is" .S d_q_is) {f : Addr} (cdv : Value) (A : Around) (outer : List PySem.Env) (s : Shared) (H : Hp) (E : XK) (hr : Room 2 (A.deeper (envOfC "_law_kind_is" (defScope s_q_kind_is) s.heap.objs.size f cdv))) :
    RSs (cxOf (L2.CX P w) P w K mg base N_q_kind_is "_law_kind_is" (defScope s_q_kind_is) f cdv A outer s H E) (WD E) .S (defBody s_q_kind_is) e_q_kind_is :=
  rss_cons (rs_if (rt_pw (rw_or (rt_not (rt_val (re_blt (b_is T.isM T.n_isinstance) (rar_cons (re_rd (re_var 1)) (rar_cons (re_rd (re_ty T.n_tuple boot_ty_tuple)) (rar_nil)))))) (rw_or1 (rt_cp (c_ne hr) (re_rd (re_blt (b_len T.n_len) (rar_cons (re_rd (re_var 1)) (rar_nil)))) (re_rd (re_int))))))
    (rss_one (rs_ret (re_bl)))
    (rss_nil))
    (rss_cons (rs_for (passes_of rfl) rfl (by exact (ri_zip2 T.n_zip (ra_cons (re_var 1) (ra_cons (re_var 2) (ra_nil))))) (by exact (gT 2 rfl (gsc (gN 3 sc_q_kind_is.nd) (gsc (gN 4 sc_q_kind_is.nd) (gs0)))))
    (by exact (rss_cons (rs_if (rt_pw (rw_or (rt_not (rt_val (re_blt (b_is T.isM T.n_isinstance) (rar_cons (re_rd (re_var 3)) (rar_cons (re_rd (re_ty T.n_tuple boot_ty_tuple)) (rar_nil)))))) (rw_or1 (rt_cp (c_ne hr) (re_rd (re_blt (b_len T.n_len) (rar_cons (re_rd (re_var 3)) (rar_nil)))) (re_rd (re_blt (b_len T.n_len) (rar_cons (re_rd (re_var 4)) (rar_nil))))))))
    (rss_one (rs_ret (re_bl)))
    (rss_nil))
    (rss_one (rs_for (passes_of rfl) rfl (by exact (ri_zip2 T.n_zip (ra_cons (re_var 3) (ra_cons (re_var 4) (ra_nil))))) (by exact (gT 2 rfl (gsc (gN 5 sc_q_kind_is.nd) (gsc (gN 6 sc_q_kind_is.nd) (gs0)))))
    (by exact (rss_one (rs_if (rt_not (rt_val (re_call M_q_is (hr.mono (by decide)) (takes_of rfl rfl rfl rfl) (ra_cons (re_var 0) (ra_cons (re_var 5) (ra_cons (re_var 6) (ra_nil)))))))
    (rss_one (rs_ret (re_bl)))
    (rss_nil)))))))))
    (rss_one (rs_ret (re_bl))))
theorem b_q_list_right (T : Txt P w K mg base) (M_kinds_of : FnM P w K mg base 8 "kinds_of" (.O .flat) d_kinds_of) (MK_Rounds : MkM P w K mg base 3 0 d_Rounds_init) (M_q_kind_is : FnM P w K mg base 3 "_law_kind_is" .S d_q_kind_is) {f : Addr} (cdv : Value) (A : Around) (outer : List PySem.Env) (s : Shared) (H : Hp) (E : XK) (hr : Room 8 (A.deeper (envOfC "_law_list_right" (defScope s_q_list_right) s.heap.objs.size f cdv))) :
    RSs (cxOf (L2.CX P w) P w K mg base N_q_list_right "_law_list_right" (defScope s_q_list_right) f cdv A outer s H E) (WD E) .S (defBody s_q_list_right) e_q_list_right :=
  rss_cons (rs_setO 3 sc_q_list_right.nd (re_call M_kinds_of (hr.mono (by decide)) (takes_of rfl rfl rfl rfl) (ra_cons (re_make MK_Rounds (hr.mono (by decide)) (takes_of rfl rfl rfl rfl) (ra_cons (re_var 0) (ra_nil))) (ra_cons (re_make MK_Rounds (hr.mono (by decide)) (takes_of rfl rfl rfl rfl) (ra_cons (re_var 1) (ra_nil))) (ra_nil)))))
    (rss_cons (rs_if (rt_pw (rw_or (rt_not (rt_val (re_blt (b_is T.isM T.n_isinstance) (rar_cons (re_varR 3) (rar_cons (re_rd (re_ty T.n_list boot_ty_list)) (rar_nil)))))) (rw_or1 (rt_cp (c_ne hr) (re_rd (re_blt (b_len T.n_len) (rar_cons (re_varR 3) (rar_nil)))) (re_rd (re_blt (b_len T.n_len) (rar_cons (re_rd (re_var 2)) (rar_nil))))))))
    (rss_one (rs_ret (re_bl)))
    (rss_nil))
    (rss_cons (rs_forH 3 (fun _ => trivial) (passes_of rfl) rfl (by exact (ri_zip2R T.n_zip (rar_cons (re_varR 3) (rar_cons (re_rd (re_var 2)) (rar_nil))))) (fun v => by exact (gT 2 rfl (gsc (gN 4 sc_q_list_right.nd) (gsc (gN 5 sc_q_list_right.nd) (gs0)))))
    (fun v => by exact (rss_one (rs_if (rt_not (rt_val (re_call M_q_kind_is (hr.mono (by decide)) (takes_of rfl rfl rfl rfl) (ra_cons (re_var 0) (ra_cons (re_var 4) (ra_cons (re_var 5) (ra_nil)))))))
    (rss_one (rs_ret (re_bl)))
    (rss_nil)))))
    (rss_cons (rs_append 3 (re_tup (ra_nil)))
    (rss_one (rs_ret (re_bl))))))
theorem b_law (T : Txt P w K mg base) (M_q_lower : FnM P w K mg base 1 "_law_lower" .S d_q_lower) (M_q_spread : FnM P w K mg base 1 "_law_spread" .S d_q_spread) (M_q_upper : FnM P w K mg base 1 "_law_upper" .S d_q_upper) (M_q_refused : FnM P w K mg base 9 "_law_refused" .S d_q_refused) (M_q_number : FnM P w K mg base 2 "_law_number" .S d_q_number) (M_how_many : FnM P w K mg base 7 "how_many" .S d_how_many) (MK_Rounds : MkM P w K mg base 3 0 d_Rounds_init) (M_q_whole : FnM P w K mg base 1 "_law_whole" .S d_q_whole) (M_q_due : FnM P w K mg base 3 "_law_due" .S d_q_due) (M_q_list_right : FnM P w K mg base 9 "_law_list_right" .S d_q_list_right) {f : Addr} (cdv : Value) (A : Around) (outer : List PySem.Env) (s : Shared) (H : Hp) (E : XK) (hr : Room 9 (A.deeper (envOfC "law" (defScope s_law) s.heap.objs.size f cdv))) :
    RSs (cxOf (L2.CX P w) P w K mg base N_law "law" (defScope s_law) f cdv A outer s H E) (WD E) .S (defBody s_law) e_law :=
  rss_cons (rs_set 1 sc_law.nd (re_call M_q_lower (hr.mono (by decide)) (takes_of rfl rfl rfl rfl) (ra_cons (re_call M_q_spread (hr.mono (by decide)) (takes_of rfl rfl rfl rfl) (ra_cons (re_var 0) (ra_cons (re_int) (ra_nil)))) (ra_nil))))
    (rss_cons (rs_set 2 sc_law.nd (re_call M_q_upper (hr.mono (by decide)) (takes_of rfl rfl rfl rfl) (ra_cons (re_call M_q_spread (hr.mono (by decide)) (takes_of rfl rfl rfl rfl) (ra_cons (re_var 0) (ra_cons (re_int) (ra_nil)))) (ra_nil))))
    (rss_cons (rs_if (rt_cp (c_eq hr) (re_rd (re_mod (re_rd (re_call M_q_spread (hr.mono (by decide)) (takes_of rfl rfl rfl rfl) (ra_cons (re_var 0) (ra_cons (re_int) (ra_nil))))) (re_rd (re_int)))) (re_rd (re_int)))
    (rss_cons (rs_set 1 sc_law.nd (re_ix hr (re_rd (re_lst (ra_cons (re_tup (ra_cons (re_int) (ra_cons (re_int) (ra_nil)))) (ra_cons (re_tup (ra_cons (re_int) (ra_cons (re_int) (ra_cons (re_int) (ra_nil))))) (ra_cons (re_tup (ra_cons (re_int) (ra_cons (re_int) (ra_cons (re_int) (ra_cons (re_int) (ra_nil)))))) (ra_cons (re_tup (ra_cons (re_int) (ra_cons (re_int) (ra_nil)))) (ra_nil))))))) (re_rd (re_mod (re_rd (re_call M_q_spread (hr.mono (by decide)) (takes_of rfl rfl rfl rfl) (ra_cons (re_var 0) (ra_cons (re_int) (ra_nil))))) (re_rd (re_int))))))
    (rss_one (rs_set 2 sc_law.nd (re_ix hr (re_rd (re_lst (ra_cons (re_tup (ra_cons (re_int) (ra_cons (re_int) (ra_cons (re_int) (ra_nil))))) (ra_cons (re_tup (ra_cons (re_int) (ra_cons (re_int) (ra_nil)))) (ra_cons (re_tup (ra_cons (re_int) (ra_cons (re_int) (ra_nil)))) (ra_cons (re_tup (ra_cons (re_int) (ra_cons (re_int) (ra_nil)))) (ra_nil))))))) (re_rd (re_mod (re_rd (re_call M_q_spread (hr.mono (by decide)) (takes_of rfl rfl rfl rfl) (ra_cons (re_var 0) (ra_cons (re_int) (ra_nil))))) (re_rd (re_int))))))))
    (rss_nil))
    (rss_cons (rs_set 3 sc_law.nd (re_mod (re_rd (re_div (re_rd (re_call M_q_spread (hr.mono (by decide)) (takes_of rfl rfl rfl rfl) (ra_cons (re_var 0) (ra_cons (re_int) (ra_nil))))) (re_rd (re_int)))) (re_rd (re_int))))
    (rss_cons (rs_if (rt_cp (c_eq hr) (re_rd (re_var 3)) (re_rd (re_int)))
    (rss_one (rs_ret (re_blt (b_allT rfl T.n_all) (rar_cons (re_rd (re_lc [("_law_way", 7)] rfl sc_law.nd (re_iter (re_tup (ra_cons (re_int) (ra_cons (re_int) (ra_nil))))) (blkOk_by (N := N_law) (sc := defScope s_law) (by decide +kernel)) (fun _ _ _ _ _ _ => by exact (gN 7 sc_law.nd)) (fun _ _ _ _ _ => by exact (rts_nil)) (fun _ _ _ _ _ => by exact (re_call M_q_refused (hr.mono (by decide)) (takes0) (ra_cons (re_var 7) (ra_cons (re_tup (ra_cons (re_int) (ra_nil))) (ra_cons (re_ix hr (re_rd (re_lst (ra_cons (re_var 2) (ra_cons (re_tup (ra_cons (re_int) (ra_nil))) (ra_nil))))) (re_rd (re_var 7))) (ra_cons (re_str) (ra_cons (re_int) (ra_nil)))))))))) (rar_nil)))))
    (rss_nil))
    (rss_cons (rs_if (rt_cp (c_eq hr) (re_rd (re_var 3)) (re_rd (re_int)))
    (rss_one (rs_ret (re_blt (b_allT rfl T.n_all) (rar_cons (re_rd (re_lc [("_law_way", 7)] rfl sc_law.nd (re_iter (re_tup (ra_cons (re_int) (ra_cons (re_int) (ra_nil))))) (blkOk_by (N := N_law) (sc := defScope s_law) (by decide +kernel)) (fun _ _ _ _ _ _ => by exact (gN 7 sc_law.nd)) (fun _ _ _ _ _ => by exact (rts_nil)) (fun _ _ _ _ _ => by exact (re_call M_q_refused (hr.mono (by decide)) (takes0) (ra_cons (re_var 7) (ra_cons (re_var 1) (ra_cons (re_ix hr (re_rd (re_lst (ra_cons (re_tup (ra_cons (re_int) (ra_nil))) (ra_cons (re_tup (ra_cons (re_int) (ra_cons (re_int) (ra_nil)))) (ra_nil))))) (re_rd (re_var 7))) (ra_cons (re_str) (ra_cons (re_int) (ra_nil)))))))))) (rar_nil)))))
    (rss_nil))
    (rss_cons (rs_set 4 sc_law.nd (re_call M_q_number (hr.mono (by decide)) (takes_of rfl rfl rfl rfl) (ra_cons (re_var 1) (ra_cons (re_var 2) (ra_nil)))))
    (rss_cons (rs_set 5 sc_law.nd (re_call M_how_many (hr.mono (by decide)) (takes_of rfl rfl rfl rfl) (ra_cons (re_make MK_Rounds (hr.mono (by decide)) (takes_of rfl rfl rfl rfl) (ra_cons (re_var 1) (ra_nil))) (ra_cons (re_make MK_Rounds (hr.mono (by decide)) (takes_of rfl rfl rfl rfl) (ra_cons (re_var 2) (ra_nil))) (ra_nil)))))
    (rss_cons (rs_if (rt_pw (rw_or (rt_not (rt_val (re_call M_q_whole (hr.mono (by decide)) (takes_of rfl rfl rfl rfl) (ra_cons (re_var 5) (ra_nil))))) (rw_or1 (rt_cp (c_ne hr) (re_rd (re_var 5)) (re_rd (re_var 4))))))
    (rss_one (rs_ret (re_bl)))
    (rss_nil))
    (rss_cons (rs_if (rt_cp (c_gt) (re_rd (re_var 4)) (re_rd (re_int)))
    (rss_one (rs_ret (re_call M_q_refused (hr.mono (by decide)) (takes_of rfl rfl rfl rfl) (ra_cons (re_int) (ra_cons (re_var 1) (ra_cons (re_var 2) (ra_cons (re_str) (ra_cons (re_var 4) (ra_nil)))))))))
    (rss_nil))
    (rss_cons (rs_set 6 sc_law.nd (re_call M_q_due (hr.mono (by decide)) (takes_of rfl rfl rfl rfl) (ra_cons (re_var 1) (ra_cons (re_var 2) (ra_nil)))))
    (rss_cons (rs_if (rt_cp (c_ne hr) (re_rd (re_blt (b_len T.n_len) (rar_cons (re_rd (re_var 6)) (rar_nil)))) (re_rd (re_var 4)))
    (rss_one (rs_ret (re_bl)))
    (rss_nil))
    (rss_one (rs_ret (re_and (re_call M_q_list_right (hr.mono (by decide)) (takes_of rfl rfl rfl rfl) (ra_cons (re_var 1) (ra_cons (re_var 2) (ra_cons (re_var 6) (ra_nil))))) (re_one (re_call M_q_list_right (hr.mono (by decide)) (takes_of rfl rfl rfl rfl) (ra_cons (re_var 1) (ra_cons (re_var 2) (ra_cons (re_var 6) (ra_nil))))))))))))))))))))
end
theorem all_mk {P : Program} {w : World} {K : PySem.W.Frag} {h : Heap} {mg : Str → Option Value} {fa C_CarryError C_NoRounds C_NoElement C_NoLower C_NoUpper C_NoHead C_NotLike C_NoCount C_NoPair C_NoKind C_NoCarry C_NoTower C_TooMany C_NoMap C_Group C_Rounds f_q_lower f_q_spread f_q_upper f_Rounds_members f_Group_size f_Rounds_is_even f_look_at_groups f_is_whole f_Rounds_has f_greatest_shared f_rest_but_for f_rests_for f_pairs_of f_Rounds_nought f_Group_look_at f_Rounds_backed f_Rounds_put f_Group_times f_odds_for f_places_of f_how_many f_are_rounds f_Rounds_init f_TooMany_init f_rows_by f_kinds_of f_q_kinds f_q_class f_q_whole f_q_refused f_q_pairs f_q_divisor f_q_number f_q_all f_q_rest f_q_many f_q_rows f_q_due f_q_is f_q_kind_is f_q_list_right f_law : Addr} (X : K.In h) (G : h.Ns mainGlobals mg) (hfa : mg "law" = some (.ref fa))
    {oc_q_lower kV_q_lower dc_q_lower pm_q_lower cd_q_lower ct_q_lower : Value} {od_q_lower an_q_lower : Option Addr} {sl_q_lower : Array (Option Value)}
    {oc_q_spread kV_q_spread dc_q_spread pm_q_spread cd_q_spread ct_q_spread : Value} {od_q_spread an_q_spread : Option Addr} {sl_q_spread : Array (Option Value)}
    {oc_q_upper kV_q_upper dc_q_upper pm_q_upper cd_q_upper ct_q_upper : Value} {od_q_upper an_q_upper : Option Addr} {sl_q_upper : Array (Option Value)}
    {oc_Rounds_members kV_Rounds_members dc_Rounds_members pm_Rounds_members cd_Rounds_members ct_Rounds_members : Value} {od_Rounds_members an_Rounds_members : Option Addr} {sl_Rounds_members : Array (Option Value)}
    {oc_Group_size kV_Group_size dc_Group_size pm_Group_size cd_Group_size ct_Group_size : Value} {od_Group_size an_Group_size : Option Addr} {sl_Group_size : Array (Option Value)}
    {oc_Rounds_is_even kV_Rounds_is_even dc_Rounds_is_even pm_Rounds_is_even cd_Rounds_is_even ct_Rounds_is_even : Value} {od_Rounds_is_even an_Rounds_is_even : Option Addr} {sl_Rounds_is_even : Array (Option Value)}
    {oc_look_at_groups kV_look_at_groups dc_look_at_groups pm_look_at_groups cd_look_at_groups ct_look_at_groups : Value} {od_look_at_groups an_look_at_groups : Option Addr} {sl_look_at_groups : Array (Option Value)}
    {oc_is_whole kV_is_whole dc_is_whole pm_is_whole cd_is_whole ct_is_whole : Value} {od_is_whole an_is_whole : Option Addr} {sl_is_whole : Array (Option Value)}
    {oc_Rounds_has kV_Rounds_has dc_Rounds_has pm_Rounds_has cd_Rounds_has ct_Rounds_has : Value} {od_Rounds_has an_Rounds_has : Option Addr} {sl_Rounds_has : Array (Option Value)}
    {oc_greatest_shared kV_greatest_shared dc_greatest_shared pm_greatest_shared cd_greatest_shared ct_greatest_shared : Value} {od_greatest_shared an_greatest_shared : Option Addr} {sl_greatest_shared : Array (Option Value)}
    {oc_rest_but_for kV_rest_but_for dc_rest_but_for pm_rest_but_for cd_rest_but_for ct_rest_but_for : Value} {od_rest_but_for an_rest_but_for : Option Addr} {sl_rest_but_for : Array (Option Value)}
    {oc_rests_for kV_rests_for dc_rests_for pm_rests_for cd_rests_for ct_rests_for : Value} {od_rests_for an_rests_for : Option Addr} {sl_rests_for : Array (Option Value)}
    {oc_pairs_of kV_pairs_of dc_pairs_of pm_pairs_of cd_pairs_of ct_pairs_of : Value} {od_pairs_of an_pairs_of : Option Addr} {sl_pairs_of : Array (Option Value)}
    {oc_Rounds_nought kV_Rounds_nought dc_Rounds_nought pm_Rounds_nought cd_Rounds_nought ct_Rounds_nought : Value} {od_Rounds_nought an_Rounds_nought : Option Addr} {sl_Rounds_nought : Array (Option Value)}
    {oc_Group_look_at kV_Group_look_at dc_Group_look_at pm_Group_look_at cd_Group_look_at ct_Group_look_at : Value} {od_Group_look_at an_Group_look_at : Option Addr} {sl_Group_look_at : Array (Option Value)}
    {oc_Rounds_backed kV_Rounds_backed dc_Rounds_backed pm_Rounds_backed cd_Rounds_backed ct_Rounds_backed : Value} {od_Rounds_backed an_Rounds_backed : Option Addr} {sl_Rounds_backed : Array (Option Value)}
    {oc_Rounds_put kV_Rounds_put dc_Rounds_put pm_Rounds_put cd_Rounds_put ct_Rounds_put : Value} {od_Rounds_put an_Rounds_put : Option Addr} {sl_Rounds_put : Array (Option Value)}
    {oc_Group_times kV_Group_times dc_Group_times pm_Group_times cd_Group_times ct_Group_times : Value} {od_Group_times an_Group_times : Option Addr} {sl_Group_times : Array (Option Value)}
    {oc_odds_for kV_odds_for dc_odds_for pm_odds_for cd_odds_for ct_odds_for : Value} {od_odds_for an_odds_for : Option Addr} {sl_odds_for : Array (Option Value)}
    {oc_places_of kV_places_of dc_places_of pm_places_of cd_places_of ct_places_of : Value} {od_places_of an_places_of : Option Addr} {sl_places_of : Array (Option Value)}
    {oc_how_many kV_how_many dc_how_many pm_how_many cd_how_many ct_how_many : Value} {od_how_many an_how_many : Option Addr} {sl_how_many : Array (Option Value)}
    {oc_are_rounds kV_are_rounds dc_are_rounds pm_are_rounds cd_are_rounds ct_are_rounds : Value} {od_are_rounds an_are_rounds : Option Addr} {sl_are_rounds : Array (Option Value)}
    {oc_Rounds_init kV_Rounds_init dc_Rounds_init pm_Rounds_init cd_Rounds_init ct_Rounds_init : Value} {od_Rounds_init an_Rounds_init : Option Addr} {sl_Rounds_init : Array (Option Value)}
    {oc_TooMany_init kV_TooMany_init dc_TooMany_init pm_TooMany_init cd_TooMany_init ct_TooMany_init : Value} {od_TooMany_init an_TooMany_init : Option Addr} {sl_TooMany_init : Array (Option Value)}
    {oc_rows_by kV_rows_by dc_rows_by pm_rows_by cd_rows_by ct_rows_by : Value} {od_rows_by an_rows_by : Option Addr} {sl_rows_by : Array (Option Value)}
    {oc_kinds_of kV_kinds_of dc_kinds_of pm_kinds_of cd_kinds_of ct_kinds_of : Value} {od_kinds_of an_kinds_of : Option Addr} {sl_kinds_of : Array (Option Value)}
    {oc_q_kinds kV_q_kinds dc_q_kinds pm_q_kinds cd_q_kinds ct_q_kinds : Value} {od_q_kinds an_q_kinds : Option Addr} {sl_q_kinds : Array (Option Value)}
    {oc_q_class kV_q_class dc_q_class pm_q_class cd_q_class ct_q_class : Value} {od_q_class an_q_class : Option Addr} {sl_q_class : Array (Option Value)}
    {oc_q_whole kV_q_whole dc_q_whole pm_q_whole cd_q_whole ct_q_whole : Value} {od_q_whole an_q_whole : Option Addr} {sl_q_whole : Array (Option Value)}
    {oc_q_refused kV_q_refused dc_q_refused pm_q_refused cd_q_refused ct_q_refused : Value} {od_q_refused an_q_refused : Option Addr} {sl_q_refused : Array (Option Value)}
    {oc_q_pairs kV_q_pairs dc_q_pairs pm_q_pairs cd_q_pairs ct_q_pairs : Value} {od_q_pairs an_q_pairs : Option Addr} {sl_q_pairs : Array (Option Value)}
    {oc_q_divisor kV_q_divisor dc_q_divisor pm_q_divisor cd_q_divisor ct_q_divisor : Value} {od_q_divisor an_q_divisor : Option Addr} {sl_q_divisor : Array (Option Value)}
    {oc_q_number kV_q_number dc_q_number pm_q_number cd_q_number ct_q_number : Value} {od_q_number an_q_number : Option Addr} {sl_q_number : Array (Option Value)}
    {oc_q_all kV_q_all dc_q_all pm_q_all cd_q_all ct_q_all : Value} {od_q_all an_q_all : Option Addr} {sl_q_all : Array (Option Value)}
    {oc_q_rest kV_q_rest dc_q_rest pm_q_rest cd_q_rest ct_q_rest : Value} {od_q_rest an_q_rest : Option Addr} {sl_q_rest : Array (Option Value)}
    {oc_q_many kV_q_many dc_q_many pm_q_many cd_q_many ct_q_many : Value} {od_q_many an_q_many : Option Addr} {sl_q_many : Array (Option Value)}
    {oc_q_rows kV_q_rows dc_q_rows pm_q_rows cd_q_rows ct_q_rows : Value} {od_q_rows an_q_rows : Option Addr} {sl_q_rows : Array (Option Value)}
    {oc_q_due kV_q_due dc_q_due pm_q_due cd_q_due ct_q_due : Value} {od_q_due an_q_due : Option Addr} {sl_q_due : Array (Option Value)}
    {oc_q_is kV_q_is dc_q_is pm_q_is cd_q_is ct_q_is : Value} {od_q_is an_q_is : Option Addr} {sl_q_is : Array (Option Value)}
    {oc_q_kind_is kV_q_kind_is dc_q_kind_is pm_q_kind_is cd_q_kind_is ct_q_kind_is : Value} {od_q_kind_is an_q_kind_is : Option Addr} {sl_q_kind_is : Array (Option Value)}
    {oc_q_list_right kV_q_list_right dc_q_list_right pm_q_list_right cd_q_list_right ct_q_list_right : Value} {od_q_list_right an_q_list_right : Option Addr} {sl_q_list_right : Array (Option Value)}
    {oc_law kV_law dc_law pm_law cd_law ct_law : Value} {od_law an_law : Option Addr} {sl_law : Array (Option Value)}
    {t_MOST_LOWER : Tok}
    {t_MOST_UPPER : Tok}
    {t_MOST_ROUNDS : Tok}
    {t_MOST_ELEMENTS : Tok}
    {t_MOST : Tok}
    {nm_TooMany q_TooMany : Str} {NA_TooMany : Addr} {bs_TooMany bm_TooMany : List Value} {sn_TooMany : List Str} {sub_TooMany : List Value} {ab_TooMany : Bool} {col_TooMany : Option Bool} {dd_TooMany : Option Addr} {k0_TooMany k1_TooMany k2_TooMany k3_TooMany k5_TooMany : Option Value}
    (aC_CarryError : PySem.W.nsIn K mainGlobals "CarryError" = some (some (.ref C_CarryError)))
    (aC_NoRounds : PySem.W.nsIn K mainGlobals "NoRounds" = some (some (.ref C_NoRounds)))
    (aC_NoElement : PySem.W.nsIn K mainGlobals "NoElement" = some (some (.ref C_NoElement)))
    (aC_NoLower : PySem.W.nsIn K mainGlobals "NoLower" = some (some (.ref C_NoLower)))
    (aC_NoUpper : PySem.W.nsIn K mainGlobals "NoUpper" = some (some (.ref C_NoUpper)))
    (aC_NoHead : PySem.W.nsIn K mainGlobals "NoHead" = some (some (.ref C_NoHead)))
    (aC_NotLike : PySem.W.nsIn K mainGlobals "NotLike" = some (some (.ref C_NotLike)))
    (aC_NoCount : PySem.W.nsIn K mainGlobals "NoCount" = some (some (.ref C_NoCount)))
    (aC_NoPair : PySem.W.nsIn K mainGlobals "NoPair" = some (some (.ref C_NoPair)))
    (aC_NoKind : PySem.W.nsIn K mainGlobals "NoKind" = some (some (.ref C_NoKind)))
    (aC_NoCarry : PySem.W.nsIn K mainGlobals "NoCarry" = some (some (.ref C_NoCarry)))
    (aC_NoTower : PySem.W.nsIn K mainGlobals "NoTower" = some (some (.ref C_NoTower)))
    (aC_TooMany : PySem.W.nsIn K mainGlobals "TooMany" = some (some (.ref C_TooMany)))
    (aC_NoMap : PySem.W.nsIn K mainGlobals "NoMap" = some (some (.ref C_NoMap)))
    (aC_Group : PySem.W.nsIn K mainGlobals "Group" = some (some (.ref C_Group)))
    (aC_Rounds : PySem.W.nsIn K mainGlobals "Rounds" = some (some (.ref C_Rounds)))
    (a_q_lower : PySem.W.nsIn K mainGlobals "_law_lower" = some (some (.ref f_q_lower)))
    (l_q_lower : K.lookup f_q_lower = some ⟨oc_q_lower, od_q_lower, .func (PySem.W.fnOf "_law_lower" "_law_lower" (defArgs s_q_lower) (defBody s_q_lower) (defScope s_q_lower) .none kV_q_lower dc_q_lower pm_q_lower an_q_lower cd_q_lower ct_q_lower), sl_q_lower⟩)
    (c_q_lower : PySem.W.codeIn K cd_q_lower "_law_lower" = true) (k_q_lower : PySem.W.keepIn K (.ref f_q_lower) = true)
    (a_q_spread : PySem.W.nsIn K mainGlobals "_law_spread" = some (some (.ref f_q_spread)))
    (l_q_spread : K.lookup f_q_spread = some ⟨oc_q_spread, od_q_spread, .func (PySem.W.fnOf "_law_spread" "_law_spread" (defArgs s_q_spread) (defBody s_q_spread) (defScope s_q_spread) .none kV_q_spread dc_q_spread pm_q_spread an_q_spread cd_q_spread ct_q_spread), sl_q_spread⟩)
    (c_q_spread : PySem.W.codeIn K cd_q_spread "_law_spread" = true) (k_q_spread : PySem.W.keepIn K (.ref f_q_spread) = true)
    (a_q_upper : PySem.W.nsIn K mainGlobals "_law_upper" = some (some (.ref f_q_upper)))
    (l_q_upper : K.lookup f_q_upper = some ⟨oc_q_upper, od_q_upper, .func (PySem.W.fnOf "_law_upper" "_law_upper" (defArgs s_q_upper) (defBody s_q_upper) (defScope s_q_upper) .none kV_q_upper dc_q_upper pm_q_upper an_q_upper cd_q_upper ct_q_upper), sl_q_upper⟩)
    (c_q_upper : PySem.W.codeIn K cd_q_upper "_law_upper" = true) (k_q_upper : PySem.W.keepIn K (.ref f_q_upper) = true)
    (a_Rounds_members : PySem.W.findIn K (.ref C_Rounds) "members" = some (some (.ref f_Rounds_members)))
    (l_Rounds_members : K.lookup f_Rounds_members = some ⟨oc_Rounds_members, od_Rounds_members, .func (PySem.W.fnOf "members" "Rounds.members" (defArgs s_Rounds_members) (defBody s_Rounds_members) (defScope s_Rounds_members) .none kV_Rounds_members dc_Rounds_members pm_Rounds_members an_Rounds_members cd_Rounds_members ct_Rounds_members), sl_Rounds_members⟩)
    (c_Rounds_members : PySem.W.codeIn K cd_Rounds_members "Rounds.members" = true) (k_Rounds_members : PySem.W.keepIn K (.ref f_Rounds_members) = true)
    (i_Rounds_members : PySem.W.isFn K (.ref f_Rounds_members) = true)
    (a_Group_size : PySem.W.findIn K (.ref C_Group) "size" = some (some (.ref f_Group_size)))
    (l_Group_size : K.lookup f_Group_size = some ⟨oc_Group_size, od_Group_size, .func (PySem.W.fnOf "size" "Group.size" (defArgs s_Group_size) (defBody s_Group_size) (defScope s_Group_size) .none kV_Group_size dc_Group_size pm_Group_size an_Group_size cd_Group_size ct_Group_size), sl_Group_size⟩)
    (c_Group_size : PySem.W.codeIn K cd_Group_size "Group.size" = true) (k_Group_size : PySem.W.keepIn K (.ref f_Group_size) = true)
    (i_Group_size : PySem.W.isFn K (.ref f_Group_size) = true)
    (a_Rounds_is_even : PySem.W.findIn K (.ref C_Rounds) "is_even" = some (some (.ref f_Rounds_is_even)))
    (l_Rounds_is_even : K.lookup f_Rounds_is_even = some ⟨oc_Rounds_is_even, od_Rounds_is_even, .func (PySem.W.fnOf "is_even" "Rounds.is_even" (defArgs s_Rounds_is_even) (defBody s_Rounds_is_even) (defScope s_Rounds_is_even) .none kV_Rounds_is_even dc_Rounds_is_even pm_Rounds_is_even an_Rounds_is_even cd_Rounds_is_even ct_Rounds_is_even), sl_Rounds_is_even⟩)
    (c_Rounds_is_even : PySem.W.codeIn K cd_Rounds_is_even "Rounds.is_even" = true) (k_Rounds_is_even : PySem.W.keepIn K (.ref f_Rounds_is_even) = true)
    (i_Rounds_is_even : PySem.W.isFn K (.ref f_Rounds_is_even) = true)
    (a_look_at_groups : PySem.W.nsIn K mainGlobals "look_at_groups" = some (some (.ref f_look_at_groups)))
    (l_look_at_groups : K.lookup f_look_at_groups = some ⟨oc_look_at_groups, od_look_at_groups, .func (PySem.W.fnOf "look_at_groups" "look_at_groups" (defArgs s_look_at_groups) (defBody s_look_at_groups) (defScope s_look_at_groups) .none kV_look_at_groups dc_look_at_groups pm_look_at_groups an_look_at_groups cd_look_at_groups ct_look_at_groups), sl_look_at_groups⟩)
    (c_look_at_groups : PySem.W.codeIn K cd_look_at_groups "look_at_groups" = true) (k_look_at_groups : PySem.W.keepIn K (.ref f_look_at_groups) = true)
    (a_is_whole : PySem.W.nsIn K mainGlobals "is_whole" = some (some (.ref f_is_whole)))
    (l_is_whole : K.lookup f_is_whole = some ⟨oc_is_whole, od_is_whole, .func (PySem.W.fnOf "is_whole" "is_whole" (defArgs s_is_whole) (defBody s_is_whole) (defScope s_is_whole) .none kV_is_whole dc_is_whole pm_is_whole an_is_whole cd_is_whole ct_is_whole), sl_is_whole⟩)
    (c_is_whole : PySem.W.codeIn K cd_is_whole "is_whole" = true) (k_is_whole : PySem.W.keepIn K (.ref f_is_whole) = true)
    (a_Rounds_has : PySem.W.findIn K (.ref C_Rounds) "has" = some (some (.ref f_Rounds_has)))
    (l_Rounds_has : K.lookup f_Rounds_has = some ⟨oc_Rounds_has, od_Rounds_has, .func (PySem.W.fnOf "has" "Rounds.has" (defArgs s_Rounds_has) (defBody s_Rounds_has) (defScope s_Rounds_has) .none kV_Rounds_has dc_Rounds_has pm_Rounds_has an_Rounds_has cd_Rounds_has ct_Rounds_has), sl_Rounds_has⟩)
    (c_Rounds_has : PySem.W.codeIn K cd_Rounds_has "Rounds.has" = true) (k_Rounds_has : PySem.W.keepIn K (.ref f_Rounds_has) = true)
    (i_Rounds_has : PySem.W.isFn K (.ref f_Rounds_has) = true)
    (a_greatest_shared : PySem.W.nsIn K mainGlobals "greatest_shared" = some (some (.ref f_greatest_shared)))
    (l_greatest_shared : K.lookup f_greatest_shared = some ⟨oc_greatest_shared, od_greatest_shared, .func (PySem.W.fnOf "greatest_shared" "greatest_shared" (defArgs s_greatest_shared) (defBody s_greatest_shared) (defScope s_greatest_shared) .none kV_greatest_shared dc_greatest_shared pm_greatest_shared an_greatest_shared cd_greatest_shared ct_greatest_shared), sl_greatest_shared⟩)
    (c_greatest_shared : PySem.W.codeIn K cd_greatest_shared "greatest_shared" = true) (k_greatest_shared : PySem.W.keepIn K (.ref f_greatest_shared) = true)
    (a_rest_but_for : PySem.W.nsIn K mainGlobals "rest_but_for" = some (some (.ref f_rest_but_for)))
    (l_rest_but_for : K.lookup f_rest_but_for = some ⟨oc_rest_but_for, od_rest_but_for, .func (PySem.W.fnOf "rest_but_for" "rest_but_for" (defArgs s_rest_but_for) (defBody s_rest_but_for) (defScope s_rest_but_for) .none kV_rest_but_for dc_rest_but_for pm_rest_but_for an_rest_but_for cd_rest_but_for ct_rest_but_for), sl_rest_but_for⟩)
    (c_rest_but_for : PySem.W.codeIn K cd_rest_but_for "rest_but_for" = true) (k_rest_but_for : PySem.W.keepIn K (.ref f_rest_but_for) = true)
    (a_rests_for : PySem.W.nsIn K mainGlobals "rests_for" = some (some (.ref f_rests_for)))
    (l_rests_for : K.lookup f_rests_for = some ⟨oc_rests_for, od_rests_for, .func (PySem.W.fnOf "rests_for" "rests_for" (defArgs s_rests_for) (defBody s_rests_for) (defScope s_rests_for) .none kV_rests_for dc_rests_for pm_rests_for an_rests_for cd_rests_for ct_rests_for), sl_rests_for⟩)
    (c_rests_for : PySem.W.codeIn K cd_rests_for "rests_for" = true) (k_rests_for : PySem.W.keepIn K (.ref f_rests_for) = true)
    (a_pairs_of : PySem.W.nsIn K mainGlobals "pairs_of" = some (some (.ref f_pairs_of)))
    (l_pairs_of : K.lookup f_pairs_of = some ⟨oc_pairs_of, od_pairs_of, .func (PySem.W.fnOf "pairs_of" "pairs_of" (defArgs s_pairs_of) (defBody s_pairs_of) (defScope s_pairs_of) .none kV_pairs_of dc_pairs_of pm_pairs_of an_pairs_of cd_pairs_of ct_pairs_of), sl_pairs_of⟩)
    (c_pairs_of : PySem.W.codeIn K cd_pairs_of "pairs_of" = true) (k_pairs_of : PySem.W.keepIn K (.ref f_pairs_of) = true)
    (a_Rounds_nought : PySem.W.findIn K (.ref C_Rounds) "nought" = some (some (.ref f_Rounds_nought)))
    (l_Rounds_nought : K.lookup f_Rounds_nought = some ⟨oc_Rounds_nought, od_Rounds_nought, .func (PySem.W.fnOf "nought" "Rounds.nought" (defArgs s_Rounds_nought) (defBody s_Rounds_nought) (defScope s_Rounds_nought) .none kV_Rounds_nought dc_Rounds_nought pm_Rounds_nought an_Rounds_nought cd_Rounds_nought ct_Rounds_nought), sl_Rounds_nought⟩)
    (c_Rounds_nought : PySem.W.codeIn K cd_Rounds_nought "Rounds.nought" = true) (k_Rounds_nought : PySem.W.keepIn K (.ref f_Rounds_nought) = true)
    (i_Rounds_nought : PySem.W.isFn K (.ref f_Rounds_nought) = true)
    (a_Group_look_at : PySem.W.findIn K (.ref C_Group) "look_at" = some (some (.ref f_Group_look_at)))
    (l_Group_look_at : K.lookup f_Group_look_at = some ⟨oc_Group_look_at, od_Group_look_at, .func (PySem.W.fnOf "look_at" "Group.look_at" (defArgs s_Group_look_at) (defBody s_Group_look_at) (defScope s_Group_look_at) .none kV_Group_look_at dc_Group_look_at pm_Group_look_at an_Group_look_at cd_Group_look_at ct_Group_look_at), sl_Group_look_at⟩)
    (c_Group_look_at : PySem.W.codeIn K cd_Group_look_at "Group.look_at" = true) (k_Group_look_at : PySem.W.keepIn K (.ref f_Group_look_at) = true)
    (i_Group_look_at : PySem.W.isFn K (.ref f_Group_look_at) = true)
    (a_Rounds_backed : PySem.W.findIn K (.ref C_Rounds) "backed" = some (some (.ref f_Rounds_backed)))
    (l_Rounds_backed : K.lookup f_Rounds_backed = some ⟨oc_Rounds_backed, od_Rounds_backed, .func (PySem.W.fnOf "backed" "Rounds.backed" (defArgs s_Rounds_backed) (defBody s_Rounds_backed) (defScope s_Rounds_backed) .none kV_Rounds_backed dc_Rounds_backed pm_Rounds_backed an_Rounds_backed cd_Rounds_backed ct_Rounds_backed), sl_Rounds_backed⟩)
    (c_Rounds_backed : PySem.W.codeIn K cd_Rounds_backed "Rounds.backed" = true) (k_Rounds_backed : PySem.W.keepIn K (.ref f_Rounds_backed) = true)
    (i_Rounds_backed : PySem.W.isFn K (.ref f_Rounds_backed) = true)
    (a_Rounds_put : PySem.W.findIn K (.ref C_Rounds) "put" = some (some (.ref f_Rounds_put)))
    (l_Rounds_put : K.lookup f_Rounds_put = some ⟨oc_Rounds_put, od_Rounds_put, .func (PySem.W.fnOf "put" "Rounds.put" (defArgs s_Rounds_put) (defBody s_Rounds_put) (defScope s_Rounds_put) .none kV_Rounds_put dc_Rounds_put pm_Rounds_put an_Rounds_put cd_Rounds_put ct_Rounds_put), sl_Rounds_put⟩)
    (c_Rounds_put : PySem.W.codeIn K cd_Rounds_put "Rounds.put" = true) (k_Rounds_put : PySem.W.keepIn K (.ref f_Rounds_put) = true)
    (i_Rounds_put : PySem.W.isFn K (.ref f_Rounds_put) = true)
    (a_Group_times : PySem.W.findIn K (.ref C_Group) "times" = some (some (.ref f_Group_times)))
    (l_Group_times : K.lookup f_Group_times = some ⟨oc_Group_times, od_Group_times, .func (PySem.W.fnOf "times" "Group.times" (defArgs s_Group_times) (defBody s_Group_times) (defScope s_Group_times) .none kV_Group_times dc_Group_times pm_Group_times an_Group_times cd_Group_times ct_Group_times), sl_Group_times⟩)
    (c_Group_times : PySem.W.codeIn K cd_Group_times "Group.times" = true) (k_Group_times : PySem.W.keepIn K (.ref f_Group_times) = true)
    (i_Group_times : PySem.W.isFn K (.ref f_Group_times) = true)
    (a_odds_for : PySem.W.nsIn K mainGlobals "odds_for" = some (some (.ref f_odds_for)))
    (l_odds_for : K.lookup f_odds_for = some ⟨oc_odds_for, od_odds_for, .func (PySem.W.fnOf "odds_for" "odds_for" (defArgs s_odds_for) (defBody s_odds_for) (defScope s_odds_for) .none kV_odds_for dc_odds_for pm_odds_for an_odds_for cd_odds_for ct_odds_for), sl_odds_for⟩)
    (c_odds_for : PySem.W.codeIn K cd_odds_for "odds_for" = true) (k_odds_for : PySem.W.keepIn K (.ref f_odds_for) = true)
    (a_places_of : PySem.W.nsIn K mainGlobals "places_of" = some (some (.ref f_places_of)))
    (l_places_of : K.lookup f_places_of = some ⟨oc_places_of, od_places_of, .func (PySem.W.fnOf "places_of" "places_of" (defArgs s_places_of) (defBody s_places_of) (defScope s_places_of) .none kV_places_of dc_places_of pm_places_of an_places_of cd_places_of ct_places_of), sl_places_of⟩)
    (c_places_of : PySem.W.codeIn K cd_places_of "places_of" = true) (k_places_of : PySem.W.keepIn K (.ref f_places_of) = true)
    (a_how_many : PySem.W.nsIn K mainGlobals "how_many" = some (some (.ref f_how_many)))
    (l_how_many : K.lookup f_how_many = some ⟨oc_how_many, od_how_many, .func (PySem.W.fnOf "how_many" "how_many" (defArgs s_how_many) (defBody s_how_many) (defScope s_how_many) .none kV_how_many dc_how_many pm_how_many an_how_many cd_how_many ct_how_many), sl_how_many⟩)
    (c_how_many : PySem.W.codeIn K cd_how_many "how_many" = true) (k_how_many : PySem.W.keepIn K (.ref f_how_many) = true)
    (a_are_rounds : PySem.W.nsIn K mainGlobals "are_rounds" = some (some (.ref f_are_rounds)))
    (l_are_rounds : K.lookup f_are_rounds = some ⟨oc_are_rounds, od_are_rounds, .func (PySem.W.fnOf "are_rounds" "are_rounds" (defArgs s_are_rounds) (defBody s_are_rounds) (defScope s_are_rounds) .none kV_are_rounds dc_are_rounds pm_are_rounds an_are_rounds cd_are_rounds ct_are_rounds), sl_are_rounds⟩)
    (c_are_rounds : PySem.W.codeIn K cd_are_rounds "are_rounds" = true) (k_are_rounds : PySem.W.keepIn K (.ref f_are_rounds) = true)
    (a_Rounds_init : PySem.W.findIn K (.ref C_Rounds) "__init__" = some (some (.ref f_Rounds_init)))
    (l_Rounds_init : K.lookup f_Rounds_init = some ⟨oc_Rounds_init, od_Rounds_init, .func (PySem.W.fnOf "__init__" "Rounds.__init__" (defArgs s_Rounds_init) (defBody s_Rounds_init) (defScope s_Rounds_init) .none kV_Rounds_init dc_Rounds_init pm_Rounds_init an_Rounds_init cd_Rounds_init ct_Rounds_init), sl_Rounds_init⟩)
    (c_Rounds_init : PySem.W.codeIn K cd_Rounds_init "Rounds.__init__" = true) (k_Rounds_init : PySem.W.keepIn K (.ref f_Rounds_init) = true)
    (i_Rounds_init : PySem.W.isFn K (.ref f_Rounds_init) = true)
    (a_TooMany_init : PySem.W.findIn K (.ref C_TooMany) "__init__" = some (some (.ref f_TooMany_init)))
    (l_TooMany_init : K.lookup f_TooMany_init = some ⟨oc_TooMany_init, od_TooMany_init, .func (PySem.W.fnOf "__init__" "TooMany.__init__" (defArgs s_TooMany_init) (defBody s_TooMany_init) (defScope s_TooMany_init) .none kV_TooMany_init dc_TooMany_init pm_TooMany_init an_TooMany_init cd_TooMany_init ct_TooMany_init), sl_TooMany_init⟩)
    (c_TooMany_init : PySem.W.codeIn K cd_TooMany_init "TooMany.__init__" = true) (k_TooMany_init : PySem.W.keepIn K (.ref f_TooMany_init) = true)
    (a_rows_by : PySem.W.nsIn K mainGlobals "rows_by" = some (some (.ref f_rows_by)))
    (l_rows_by : K.lookup f_rows_by = some ⟨oc_rows_by, od_rows_by, .func (PySem.W.fnOf "rows_by" "rows_by" (defArgs s_rows_by) (defBody s_rows_by) (defScope s_rows_by) .none kV_rows_by dc_rows_by pm_rows_by an_rows_by cd_rows_by ct_rows_by), sl_rows_by⟩)
    (c_rows_by : PySem.W.codeIn K cd_rows_by "rows_by" = true) (k_rows_by : PySem.W.keepIn K (.ref f_rows_by) = true)
    (a_kinds_of : PySem.W.nsIn K mainGlobals "kinds_of" = some (some (.ref f_kinds_of)))
    (l_kinds_of : K.lookup f_kinds_of = some ⟨oc_kinds_of, od_kinds_of, .func (PySem.W.fnOf "kinds_of" "kinds_of" (defArgs s_kinds_of) (defBody s_kinds_of) (defScope s_kinds_of) .none kV_kinds_of dc_kinds_of pm_kinds_of an_kinds_of cd_kinds_of ct_kinds_of), sl_kinds_of⟩)
    (c_kinds_of : PySem.W.codeIn K cd_kinds_of "kinds_of" = true) (k_kinds_of : PySem.W.keepIn K (.ref f_kinds_of) = true)
    (a_q_kinds : PySem.W.nsIn K mainGlobals "_law_kinds" = some (some (.ref f_q_kinds)))
    (l_q_kinds : K.lookup f_q_kinds = some ⟨oc_q_kinds, od_q_kinds, .func (PySem.W.fnOf "_law_kinds" "_law_kinds" (defArgs s_q_kinds) (defBody s_q_kinds) (defScope s_q_kinds) .none kV_q_kinds dc_q_kinds pm_q_kinds an_q_kinds cd_q_kinds ct_q_kinds), sl_q_kinds⟩)
    (c_q_kinds : PySem.W.codeIn K cd_q_kinds "_law_kinds" = true) (k_q_kinds : PySem.W.keepIn K (.ref f_q_kinds) = true)
    (a_q_class : PySem.W.nsIn K mainGlobals "_law_class" = some (some (.ref f_q_class)))
    (l_q_class : K.lookup f_q_class = some ⟨oc_q_class, od_q_class, .func (PySem.W.fnOf "_law_class" "_law_class" (defArgs s_q_class) (defBody s_q_class) (defScope s_q_class) .none kV_q_class dc_q_class pm_q_class an_q_class cd_q_class ct_q_class), sl_q_class⟩)
    (c_q_class : PySem.W.codeIn K cd_q_class "_law_class" = true) (k_q_class : PySem.W.keepIn K (.ref f_q_class) = true)
    (a_q_whole : PySem.W.nsIn K mainGlobals "_law_whole" = some (some (.ref f_q_whole)))
    (l_q_whole : K.lookup f_q_whole = some ⟨oc_q_whole, od_q_whole, .func (PySem.W.fnOf "_law_whole" "_law_whole" (defArgs s_q_whole) (defBody s_q_whole) (defScope s_q_whole) .none kV_q_whole dc_q_whole pm_q_whole an_q_whole cd_q_whole ct_q_whole), sl_q_whole⟩)
    (c_q_whole : PySem.W.codeIn K cd_q_whole "_law_whole" = true) (k_q_whole : PySem.W.keepIn K (.ref f_q_whole) = true)
    (a_q_refused : PySem.W.nsIn K mainGlobals "_law_refused" = some (some (.ref f_q_refused)))
    (l_q_refused : K.lookup f_q_refused = some ⟨oc_q_refused, od_q_refused, .func (PySem.W.fnOf "_law_refused" "_law_refused" (defArgs s_q_refused) (defBody s_q_refused) (defScope s_q_refused) .none kV_q_refused dc_q_refused pm_q_refused an_q_refused cd_q_refused ct_q_refused), sl_q_refused⟩)
    (c_q_refused : PySem.W.codeIn K cd_q_refused "_law_refused" = true) (k_q_refused : PySem.W.keepIn K (.ref f_q_refused) = true)
    (a_q_pairs : PySem.W.nsIn K mainGlobals "_law_pairs" = some (some (.ref f_q_pairs)))
    (l_q_pairs : K.lookup f_q_pairs = some ⟨oc_q_pairs, od_q_pairs, .func (PySem.W.fnOf "_law_pairs" "_law_pairs" (defArgs s_q_pairs) (defBody s_q_pairs) (defScope s_q_pairs) .none kV_q_pairs dc_q_pairs pm_q_pairs an_q_pairs cd_q_pairs ct_q_pairs), sl_q_pairs⟩)
    (c_q_pairs : PySem.W.codeIn K cd_q_pairs "_law_pairs" = true) (k_q_pairs : PySem.W.keepIn K (.ref f_q_pairs) = true)
    (a_q_divisor : PySem.W.nsIn K mainGlobals "_law_divisor" = some (some (.ref f_q_divisor)))
    (l_q_divisor : K.lookup f_q_divisor = some ⟨oc_q_divisor, od_q_divisor, .func (PySem.W.fnOf "_law_divisor" "_law_divisor" (defArgs s_q_divisor) (defBody s_q_divisor) (defScope s_q_divisor) .none kV_q_divisor dc_q_divisor pm_q_divisor an_q_divisor cd_q_divisor ct_q_divisor), sl_q_divisor⟩)
    (c_q_divisor : PySem.W.codeIn K cd_q_divisor "_law_divisor" = true) (k_q_divisor : PySem.W.keepIn K (.ref f_q_divisor) = true)
    (a_q_number : PySem.W.nsIn K mainGlobals "_law_number" = some (some (.ref f_q_number)))
    (l_q_number : K.lookup f_q_number = some ⟨oc_q_number, od_q_number, .func (PySem.W.fnOf "_law_number" "_law_number" (defArgs s_q_number) (defBody s_q_number) (defScope s_q_number) .none kV_q_number dc_q_number pm_q_number an_q_number cd_q_number ct_q_number), sl_q_number⟩)
    (c_q_number : PySem.W.codeIn K cd_q_number "_law_number" = true) (k_q_number : PySem.W.keepIn K (.ref f_q_number) = true)
    (a_q_all : PySem.W.nsIn K mainGlobals "_law_all" = some (some (.ref f_q_all)))
    (l_q_all : K.lookup f_q_all = some ⟨oc_q_all, od_q_all, .func (PySem.W.fnOf "_law_all" "_law_all" (defArgs s_q_all) (defBody s_q_all) (defScope s_q_all) .none kV_q_all dc_q_all pm_q_all an_q_all cd_q_all ct_q_all), sl_q_all⟩)
    (c_q_all : PySem.W.codeIn K cd_q_all "_law_all" = true) (k_q_all : PySem.W.keepIn K (.ref f_q_all) = true)
    (a_q_rest : PySem.W.nsIn K mainGlobals "_law_rest" = some (some (.ref f_q_rest)))
    (l_q_rest : K.lookup f_q_rest = some ⟨oc_q_rest, od_q_rest, .func (PySem.W.fnOf "_law_rest" "_law_rest" (defArgs s_q_rest) (defBody s_q_rest) (defScope s_q_rest) .none kV_q_rest dc_q_rest pm_q_rest an_q_rest cd_q_rest ct_q_rest), sl_q_rest⟩)
    (c_q_rest : PySem.W.codeIn K cd_q_rest "_law_rest" = true) (k_q_rest : PySem.W.keepIn K (.ref f_q_rest) = true)
    (a_q_many : PySem.W.nsIn K mainGlobals "_law_many" = some (some (.ref f_q_many)))
    (l_q_many : K.lookup f_q_many = some ⟨oc_q_many, od_q_many, .func (PySem.W.fnOf "_law_many" "_law_many" (defArgs s_q_many) (defBody s_q_many) (defScope s_q_many) .none kV_q_many dc_q_many pm_q_many an_q_many cd_q_many ct_q_many), sl_q_many⟩)
    (c_q_many : PySem.W.codeIn K cd_q_many "_law_many" = true) (k_q_many : PySem.W.keepIn K (.ref f_q_many) = true)
    (a_q_rows : PySem.W.nsIn K mainGlobals "_law_rows" = some (some (.ref f_q_rows)))
    (l_q_rows : K.lookup f_q_rows = some ⟨oc_q_rows, od_q_rows, .func (PySem.W.fnOf "_law_rows" "_law_rows" (defArgs s_q_rows) (defBody s_q_rows) (defScope s_q_rows) .none kV_q_rows dc_q_rows pm_q_rows an_q_rows cd_q_rows ct_q_rows), sl_q_rows⟩)
    (c_q_rows : PySem.W.codeIn K cd_q_rows "_law_rows" = true) (k_q_rows : PySem.W.keepIn K (.ref f_q_rows) = true)
    (a_q_due : PySem.W.nsIn K mainGlobals "_law_due" = some (some (.ref f_q_due)))
    (l_q_due : K.lookup f_q_due = some ⟨oc_q_due, od_q_due, .func (PySem.W.fnOf "_law_due" "_law_due" (defArgs s_q_due) (defBody s_q_due) (defScope s_q_due) .none kV_q_due dc_q_due pm_q_due an_q_due cd_q_due ct_q_due), sl_q_due⟩)
    (c_q_due : PySem.W.codeIn K cd_q_due "_law_due" = true) (k_q_due : PySem.W.keepIn K (.ref f_q_due) = true)
    (a_q_is : PySem.W.nsIn K mainGlobals "_law_is" = some (some (.ref f_q_is)))
    (l_q_is : K.lookup f_q_is = some ⟨oc_q_is, od_q_is, .func (PySem.W.fnOf "_law_is" "_law_is" (defArgs s_q_is) (defBody s_q_is) (defScope s_q_is) .none kV_q_is dc_q_is pm_q_is an_q_is cd_q_is ct_q_is), sl_q_is⟩)
    (c_q_is : PySem.W.codeIn K cd_q_is "_law_is" = true) (k_q_is : PySem.W.keepIn K (.ref f_q_is) = true)
    (a_q_kind_is : PySem.W.nsIn K mainGlobals "_law_kind_is" = some (some (.ref f_q_kind_is)))
    (l_q_kind_is : K.lookup f_q_kind_is = some ⟨oc_q_kind_is, od_q_kind_is, .func (PySem.W.fnOf "_law_kind_is" "_law_kind_is" (defArgs s_q_kind_is) (defBody s_q_kind_is) (defScope s_q_kind_is) .none kV_q_kind_is dc_q_kind_is pm_q_kind_is an_q_kind_is cd_q_kind_is ct_q_kind_is), sl_q_kind_is⟩)
    (c_q_kind_is : PySem.W.codeIn K cd_q_kind_is "_law_kind_is" = true) (k_q_kind_is : PySem.W.keepIn K (.ref f_q_kind_is) = true)
    (a_q_list_right : PySem.W.nsIn K mainGlobals "_law_list_right" = some (some (.ref f_q_list_right)))
    (l_q_list_right : K.lookup f_q_list_right = some ⟨oc_q_list_right, od_q_list_right, .func (PySem.W.fnOf "_law_list_right" "_law_list_right" (defArgs s_q_list_right) (defBody s_q_list_right) (defScope s_q_list_right) .none kV_q_list_right dc_q_list_right pm_q_list_right an_q_list_right cd_q_list_right ct_q_list_right), sl_q_list_right⟩)
    (c_q_list_right : PySem.W.codeIn K cd_q_list_right "_law_list_right" = true) (k_q_list_right : PySem.W.keepIn K (.ref f_q_list_right) = true)
    (a_law : PySem.W.nsIn K mainGlobals "law" = some (some (.ref f_law)))
    (l_law : K.lookup f_law = some ⟨oc_law, od_law, .func (PySem.W.fnOf "law" "law" (defArgs s_law) (defBody s_law) (defScope s_law) .none kV_law dc_law pm_law an_law cd_law ct_law), sl_law⟩)
    (c_law : PySem.W.codeIn K cd_law "law" = true) (k_law : PySem.W.keepIn K (.ref f_law) = true)
    (z_len : PySem.W.nsIn K mainGlobals "len" = some none)
    (z_all : PySem.W.nsIn K mainGlobals "all" = some none)
    (fl_rounds : flB K "rounds" [(0, C_Rounds)] = true)
    (z_range : PySem.W.nsIn K mainGlobals "range" = some none)
    (z_MOST_LOWER : PySem.W.nsIn K mainGlobals "MOST_LOWER" = some (some (.int (16) t_MOST_LOWER)))
    (ob_NoLower : e0B K C_NoLower = true)
    (z_isinstance : PySem.W.nsIn K mainGlobals "isinstance" = some none)
    (z_MOST_UPPER : PySem.W.nsIn K mainGlobals "MOST_UPPER" = some (some (.int (9) t_MOST_UPPER)))
    (ob_NoUpper : e0B K C_NoUpper = true)
    (z_tuple : PySem.W.nsIn K mainGlobals "tuple" = some none)
    (z_zip : PySem.W.nsIn K mainGlobals "zip" = some none)
    (z_int : PySem.W.nsIn K mainGlobals "int" = some none)
    (z_bool : PySem.W.nsIn K mainGlobals "bool" = some none)
    (ob_NoElement : e0B K C_NoElement = true)
    (z_list : PySem.W.nsIn K mainGlobals "list" = some none)
    (z_MOST_ROUNDS : PySem.W.nsIn K mainGlobals "MOST_ROUNDS" = some (some (.int (7) t_MOST_ROUNDS)))
    (z_MOST_ELEMENTS : PySem.W.nsIn K mainGlobals "MOST_ELEMENTS" = some (some (.int (144) t_MOST_ELEMENTS)))
    (ob_NoRounds : e0B K C_NoRounds = true)
    (z_MOST : PySem.W.nsIn K mainGlobals "MOST" = some (some (.int (300) t_MOST)))
    (xL_TooMany : K.lookup C_TooMany = some (excClassObj nm_TooMany q_TooMany C_TooMany NA_TooMany bs_TooMany bm_TooMany true sn_TooMany sub_TooMany ab_TooMany col_TooMany dd_TooMany k0_TooMany k1_TooMany k2_TooMany k3_TooMany k5_TooMany "ValueError.__new__")) (rv_TooMany : PySem.HandSPX.refsVE bm_TooMany = true) (ob_TooMany : oexB K C_TooMany = true) (tI_TooMany : PySem.W.typeIn K (.ref f_TooMany_init) = some (.type "function"))
    (no_TooMany_many : PySem.W.findIn K (.ref C_TooMany) "many" = some none)
    (z_ValueError : PySem.W.nsIn K mainGlobals "ValueError" = some none)
    (xl_many : xlB K "many" [(27, C_TooMany)] = true)
    (hIs : isTab K [(10, C_CarryError), (11, C_NoRounds), (12, C_NoElement), (13, C_NoLower), (14, C_NoUpper), (15, C_NoHead), (16, C_NotLike), (17, C_NoCount), (18, C_NoPair), (19, C_NoKind), (23, C_NoCarry), (24, C_NoTower), (27, C_TooMany), (28, C_NoMap), (0, C_Rounds)] [(0, C_Rounds), (10, C_CarryError), (12, C_NoElement), (13, C_NoLower), (14, C_NoUpper), (15, C_NoHead), (16, C_NotLike), (17, C_NoCount), (18, C_NoPair), (19, C_NoKind), (23, C_NoCarry), (24, C_NoTower), (27, C_TooMany), (28, C_NoMap)] = true)
    (hCt : ctB K [(10, C_CarryError), (11, C_NoRounds), (12, C_NoElement), (13, C_NoLower), (14, C_NoUpper), (15, C_NoHead), (16, C_NotLike), (17, C_NoCount), (18, C_NoPair), (19, C_NoKind), (23, C_NoCarry), (24, C_NoTower), (27, C_TooMany), (28, C_NoMap)] [(10, C_CarryError)] = true)
    (mk_Rounds : PySem.W.makesIn K C_Rounds = true) (kc_Rounds : PySem.W.keepIn K (.ref C_Rounds) = true)
    (am_Rounds_size : PySem.W.findIn K (.ref C_Rounds) "size" = some (some (.ref f_Group_size)))
    (am_Rounds_look_at : PySem.W.findIn K (.ref C_Rounds) "look_at" = some (some (.ref f_Group_look_at)))
    (am_Rounds_times : PySem.W.findIn K (.ref C_Rounds) "times" = some (some (.ref f_Group_times)))
    (oB : ([C_Rounds] : List Addr).all (objB K) = true)
    : ∃ fd : FuncData, (∀ (s : Shared) (u : Value), BindsTo s fd ⟨[u], []⟩ [("_law_script", u)]) ∧ ∀ base : Heap, K.In base → base.Ns mainGlobals mg → FnOk P w K mg base (L2.CX P w) 10 fa fd ["_law_script"] (spM ⟨P, w, K, mg⟩ .S d_law) := by
  have e := hfa.symm.trans (PySem.W.mg_of X G a_law)
  cases e
  have m_CarryError : mg (cname 10) = some (.ref C_CarryError) := PySem.W.mg_of X G aC_CarryError
  have ca_CarryError : (⟨P, w, K, mg⟩ : GC).ca 10 = C_CarryError := ca_of (G := ⟨P, w, K, mg⟩) m_CarryError
  have m_NoRounds : mg (cname 11) = some (.ref C_NoRounds) := PySem.W.mg_of X G aC_NoRounds
  have ca_NoRounds : (⟨P, w, K, mg⟩ : GC).ca 11 = C_NoRounds := ca_of (G := ⟨P, w, K, mg⟩) m_NoRounds
  have m_NoElement : mg (cname 12) = some (.ref C_NoElement) := PySem.W.mg_of X G aC_NoElement
  have ca_NoElement : (⟨P, w, K, mg⟩ : GC).ca 12 = C_NoElement := ca_of (G := ⟨P, w, K, mg⟩) m_NoElement
  have m_NoLower : mg (cname 13) = some (.ref C_NoLower) := PySem.W.mg_of X G aC_NoLower
  have ca_NoLower : (⟨P, w, K, mg⟩ : GC).ca 13 = C_NoLower := ca_of (G := ⟨P, w, K, mg⟩) m_NoLower
  have m_NoUpper : mg (cname 14) = some (.ref C_NoUpper) := PySem.W.mg_of X G aC_NoUpper
  have ca_NoUpper : (⟨P, w, K, mg⟩ : GC).ca 14 = C_NoUpper := ca_of (G := ⟨P, w, K, mg⟩) m_NoUpper
  have m_NoHead : mg (cname 15) = some (.ref C_NoHead) := PySem.W.mg_of X G aC_NoHead
  have ca_NoHead : (⟨P, w, K, mg⟩ : GC).ca 15 = C_NoHead := ca_of (G := ⟨P, w, K, mg⟩) m_NoHead
  have m_NotLike : mg (cname 16) = some (.ref C_NotLike) := PySem.W.mg_of X G aC_NotLike
  have ca_NotLike : (⟨P, w, K, mg⟩ : GC).ca 16 = C_NotLike := ca_of (G := ⟨P, w, K, mg⟩) m_NotLike
  have m_NoCount : mg (cname 17) = some (.ref C_NoCount) := PySem.W.mg_of X G aC_NoCount
  have ca_NoCount : (⟨P, w, K, mg⟩ : GC).ca 17 = C_NoCount := ca_of (G := ⟨P, w, K, mg⟩) m_NoCount
  have m_NoPair : mg (cname 18) = some (.ref C_NoPair) := PySem.W.mg_of X G aC_NoPair
  have ca_NoPair : (⟨P, w, K, mg⟩ : GC).ca 18 = C_NoPair := ca_of (G := ⟨P, w, K, mg⟩) m_NoPair
  have m_NoKind : mg (cname 19) = some (.ref C_NoKind) := PySem.W.mg_of X G aC_NoKind
  have ca_NoKind : (⟨P, w, K, mg⟩ : GC).ca 19 = C_NoKind := ca_of (G := ⟨P, w, K, mg⟩) m_NoKind
  have m_NoCarry : mg (cname 23) = some (.ref C_NoCarry) := PySem.W.mg_of X G aC_NoCarry
  have ca_NoCarry : (⟨P, w, K, mg⟩ : GC).ca 23 = C_NoCarry := ca_of (G := ⟨P, w, K, mg⟩) m_NoCarry
  have m_NoTower : mg (cname 24) = some (.ref C_NoTower) := PySem.W.mg_of X G aC_NoTower
  have ca_NoTower : (⟨P, w, K, mg⟩ : GC).ca 24 = C_NoTower := ca_of (G := ⟨P, w, K, mg⟩) m_NoTower
  have m_TooMany : mg (cname 27) = some (.ref C_TooMany) := PySem.W.mg_of X G aC_TooMany
  have ca_TooMany : (⟨P, w, K, mg⟩ : GC).ca 27 = C_TooMany := ca_of (G := ⟨P, w, K, mg⟩) m_TooMany
  have m_NoMap : mg (cname 28) = some (.ref C_NoMap) := PySem.W.mg_of X G aC_NoMap
  have ca_NoMap : (⟨P, w, K, mg⟩ : GC).ca 28 = C_NoMap := ca_of (G := ⟨P, w, K, mg⟩) m_NoMap
  have m_Group : mg (cname 5) = some (.ref C_Group) := PySem.W.mg_of X G aC_Group
  have ca_Group : (⟨P, w, K, mg⟩ : GC).ca 5 = C_Group := ca_of (G := ⟨P, w, K, mg⟩) m_Group
  have m_Rounds : mg (cname 0) = some (.ref C_Rounds) := PySem.W.mg_of X G aC_Rounds
  have ca_Rounds : (⟨P, w, K, mg⟩ : GC).ca 0 = C_Rounds := ca_of (G := ⟨P, w, K, mg⟩) m_Rounds
  have F_q_lower := fun_mk (st := s_q_lower) l_q_lower c_q_lower k_q_lower
  have B_q_lower := F_q_lower.binds (ps := ["_law_cell"]) fun _ _ _ _ _ _ us hl => match us, hl with | [_], _ => rfl
  have F_q_spread := fun_mk (st := s_q_spread) l_q_spread c_q_spread k_q_spread
  have B_q_spread := F_q_spread.binds (ps := ["_law_script", "_law_k"]) fun _ _ _ _ _ _ us hl => match us, hl with | [_, _], _ => rfl
  have F_q_upper := fun_mk (st := s_q_upper) l_q_upper c_q_upper k_q_upper
  have B_q_upper := F_q_upper.binds (ps := ["_law_cell"]) fun _ _ _ _ _ _ us hl => match us, hl with | [_], _ => rfl
  have F_Rounds_members := fun_mk (st := s_Rounds_members) l_Rounds_members c_Rounds_members k_Rounds_members
  have B_Rounds_members := F_Rounds_members.binds (ps := ["self"]) fun _ _ _ _ _ _ us hl => match us, hl with | [_], _ => rfl
  have F_Group_size := fun_mk (st := s_Group_size) l_Group_size c_Group_size k_Group_size
  have B_Group_size := F_Group_size.binds (ps := ["self"]) fun _ _ _ _ _ _ us hl => match us, hl with | [_], _ => rfl
  have F_Rounds_is_even := fun_mk (st := s_Rounds_is_even) l_Rounds_is_even c_Rounds_is_even k_Rounds_is_even
  have B_Rounds_is_even := F_Rounds_is_even.binds (ps := ["self"]) fun _ _ _ _ _ _ us hl => match us, hl with | [_], _ => rfl
  have F_look_at_groups := fun_mk (st := s_look_at_groups) l_look_at_groups c_look_at_groups k_look_at_groups
  have B_look_at_groups := F_look_at_groups.binds (ps := ["lower", "upper"]) fun _ _ _ _ _ _ us hl => match us, hl with | [_, _], _ => rfl
  have F_is_whole := fun_mk (st := s_is_whole) l_is_whole c_is_whole k_is_whole
  have B_is_whole := F_is_whole.binds (ps := ["thing"]) fun _ _ _ _ _ _ us hl => match us, hl with | [_], _ => rfl
  have F_Rounds_has := fun_mk (st := s_Rounds_has) l_Rounds_has c_Rounds_has k_Rounds_has
  have B_Rounds_has := F_Rounds_has.binds (ps := ["self", "thing"]) fun _ _ _ _ _ _ us hl => match us, hl with | [_, _], _ => rfl
  have F_greatest_shared := fun_mk (st := s_greatest_shared) l_greatest_shared c_greatest_shared k_greatest_shared
  have B_greatest_shared := F_greatest_shared.binds (ps := ["one", "other"]) fun _ _ _ _ _ _ us hl => match us, hl with | [_, _], _ => rfl
  have F_rest_but_for := fun_mk (st := s_rest_but_for) l_rest_but_for c_rest_but_for k_rest_but_for
  have B_rest_but_for := F_rest_but_for.binds (ps := ["group", "n", "a"]) fun _ _ _ _ _ _ us hl => match us, hl with | [_, _, _], _ => rfl
  have F_rests_for := fun_mk (st := s_rests_for) l_rests_for c_rests_for k_rests_for
  have B_rests_for := F_rests_for.binds (ps := ["lower", "n"]) fun _ _ _ _ _ _ us hl => match us, hl with | [_, _], _ => rfl
  have F_pairs_of := fun_mk (st := s_pairs_of) l_pairs_of c_pairs_of k_pairs_of
  have B_pairs_of := F_pairs_of.binds (ps := ["upper"]) fun _ _ _ _ _ _ us hl => match us, hl with | [_], _ => rfl
  have F_Rounds_nought := fun_mk (st := s_Rounds_nought) l_Rounds_nought c_Rounds_nought k_Rounds_nought
  have B_Rounds_nought := F_Rounds_nought.binds (ps := ["self"]) fun _ _ _ _ _ _ us hl => match us, hl with | [_], _ => rfl
  have F_Group_look_at := fun_mk (st := s_Group_look_at) l_Group_look_at c_Group_look_at k_Group_look_at
  have B_Group_look_at := F_Group_look_at.binds (ps := ["self", "thing"]) fun _ _ _ _ _ _ us hl => match us, hl with | [_, _], _ => rfl
  have F_Rounds_backed := fun_mk (st := s_Rounds_backed) l_Rounds_backed c_Rounds_backed k_Rounds_backed
  have B_Rounds_backed := F_Rounds_backed.binds (ps := ["self", "x"]) fun _ _ _ _ _ _ us hl => match us, hl with | [_, _], _ => rfl
  have F_Rounds_put := fun_mk (st := s_Rounds_put) l_Rounds_put c_Rounds_put k_Rounds_put
  have B_Rounds_put := F_Rounds_put.binds (ps := ["self", "x", "y"]) fun _ _ _ _ _ _ us hl => match us, hl with | [_, _, _], _ => rfl
  have F_Group_times := fun_mk (st := s_Group_times) l_Group_times c_Group_times k_Group_times
  have B_Group_times := F_Group_times.binds (ps := ["self", "n", "x"]) fun _ _ _ _ _ _ us hl => match us, hl with | [_, _, _], _ => rfl
  have F_odds_for := fun_mk (st := s_odds_for) l_odds_for c_odds_for k_odds_for
  have B_odds_for := F_odds_for.binds (ps := ["lower", "n", "m"]) fun _ _ _ _ _ _ us hl => match us, hl with | [_, _, _], _ => rfl
  have F_places_of := fun_mk (st := s_places_of) l_places_of c_places_of k_places_of
  have B_places_of := F_places_of.binds (ps := ["lower", "upper"]) fun _ _ _ _ _ _ us hl => match us, hl with | [_, _], _ => rfl
  have F_how_many := fun_mk (st := s_how_many) l_how_many c_how_many k_how_many
  have B_how_many := F_how_many.binds (ps := ["lower", "upper"]) fun _ _ _ _ _ _ us hl => match us, hl with | [_, _], _ => rfl
  have F_are_rounds := fun_mk (st := s_are_rounds) l_are_rounds c_are_rounds k_are_rounds
  have B_are_rounds := F_are_rounds.binds (ps := ["thing"]) fun _ _ _ _ _ _ us hl => match us, hl with | [_], _ => rfl
  have F_Rounds_init := fun_mk (st := s_Rounds_init) l_Rounds_init c_Rounds_init k_Rounds_init
  have B_Rounds_init := F_Rounds_init.binds (ps := ["self", "rounds"]) fun _ _ _ _ _ _ us hl => match us, hl with | [_, _], _ => rfl
  have F_TooMany_init := fun_mk (st := s_TooMany_init) l_TooMany_init c_TooMany_init k_TooMany_init
  have B_TooMany_init := F_TooMany_init.binds (ps := ["self", "many"]) fun _ _ _ _ _ _ us hl => match us, hl with | [_, _], _ => rfl
  have F_rows_by := fun_mk (st := s_rows_by) l_rows_by c_rows_by k_rows_by
  have B_rows_by := F_rows_by.binds (ps := ["places"]) fun _ _ _ _ _ _ us hl => match us, hl with | [_], _ => rfl
  have F_kinds_of := fun_mk (st := s_kinds_of) l_kinds_of c_kinds_of k_kinds_of
  have B_kinds_of := F_kinds_of.binds (ps := ["lower", "upper"]) fun _ _ _ _ _ _ us hl => match us, hl with | [_, _], _ => rfl
  have F_q_kinds := fun_mk (st := s_q_kinds) l_q_kinds c_q_kinds k_q_kinds
  have B_q_kinds := F_q_kinds.binds (ps := ["_law_e"]) fun _ _ _ _ _ _ us hl => match us, hl with | [_], _ => rfl
  have F_q_class := fun_mk (st := s_q_class) l_q_class c_q_class k_q_class
  have B_q_class := F_q_class.binds (ps := ["_law_word"]) fun _ _ _ _ _ _ us hl => match us, hl with | [_], _ => rfl
  have F_q_whole := fun_mk (st := s_q_whole) l_q_whole c_q_whole k_q_whole
  have B_q_whole := F_q_whole.binds (ps := ["_law_found"]) fun _ _ _ _ _ _ us hl => match us, hl with | [_], _ => rfl
  have F_q_refused := fun_mk (st := s_q_refused) l_q_refused c_q_refused k_q_refused
  have B_q_refused := F_q_refused.binds (ps := ["_law_way", "_law_lower_here", "_law_upper_here", "_law_word", "_law_many_here"]) fun _ _ _ _ _ _ us hl => match us, hl with | [_, _, _, _, _], _ => rfl
  have F_q_pairs := fun_mk (st := s_q_pairs) l_q_pairs c_q_pairs k_q_pairs
  have B_q_pairs := F_q_pairs.binds (ps := ["_law_upper_here"]) fun _ _ _ _ _ _ us hl => match us, hl with | [_], _ => rfl
  have F_q_divisor := fun_mk (st := s_q_divisor) l_q_divisor c_q_divisor k_q_divisor
  have B_q_divisor := F_q_divisor.binds (ps := ["_law_one", "_law_other"]) fun _ _ _ _ _ _ us hl => match us, hl with | [_, _], _ => rfl
  have F_q_number := fun_mk (st := s_q_number) l_q_number c_q_number k_q_number
  have B_q_number := F_q_number.binds (ps := ["_law_lower_here", "_law_upper_here"]) fun _ _ _ _ _ _ us hl => match us, hl with | [_, _], _ => rfl
  have F_q_all := fun_mk (st := s_q_all) l_q_all c_q_all k_q_all
  have B_q_all := F_q_all.binds (ps := ["_law_rounds"]) fun _ _ _ _ _ _ us hl => match us, hl with | [_], _ => rfl
  have F_q_rest := fun_mk (st := s_q_rest) l_q_rest c_q_rest k_q_rest
  have B_q_rest := F_q_rest.binds (ps := ["_law_rounds", "_law_n", "_law_a"]) fun _ _ _ _ _ _ us hl => match us, hl with | [_, _, _], _ => rfl
  have F_q_many := fun_mk (st := s_q_many) l_q_many c_q_many k_q_many
  have B_q_many := F_q_many.binds (ps := ["_law_rounds", "_law_n", "_law_a"]) fun _ _ _ _ _ _ us hl => match us, hl with | [_, _, _], _ => rfl
  have F_q_rows := fun_mk (st := s_q_rows) l_q_rows c_q_rows k_q_rows
  have B_q_rows := F_q_rows.binds (ps := ["_law_places"]) fun _ _ _ _ _ _ us hl => match us, hl with | [_], _ => rfl
  have F_q_due := fun_mk (st := s_q_due) l_q_due c_q_due k_q_due
  have B_q_due := F_q_due.binds (ps := ["_law_lower_here", "_law_upper_here"]) fun _ _ _ _ _ _ us hl => match us, hl with | [_, _], _ => rfl
  have F_q_is := fun_mk (st := s_q_is) l_q_is c_q_is k_q_is
  have B_q_is := F_q_is.binds (ps := ["_law_rounds", "_law_found", "_law_due_here"]) fun _ _ _ _ _ _ us hl => match us, hl with | [_, _, _], _ => rfl
  have F_q_kind_is := fun_mk (st := s_q_kind_is) l_q_kind_is c_q_kind_is k_q_kind_is
  have B_q_kind_is := F_q_kind_is.binds (ps := ["_law_lower_here", "_law_found", "_law_due_here"]) fun _ _ _ _ _ _ us hl => match us, hl with | [_, _, _], _ => rfl
  have F_q_list_right := fun_mk (st := s_q_list_right) l_q_list_right c_q_list_right k_q_list_right
  have B_q_list_right := F_q_list_right.binds (ps := ["_law_lower_here", "_law_upper_here", "_law_due_here"]) fun _ _ _ _ _ _ us hl => match us, hl with | [_, _, _], _ => rfl
  have F_law := fun_mk (st := s_law) l_law c_law k_law
  refine ⟨PySem.W.fnOf "law" "law" (defArgs s_law) (defBody s_law) (defScope s_law) .none kV_law dc_law pm_law an_law cd_law ct_law, fun s u => .of_eq rfl, fun base _ _ => ?_⟩
  have hca : ∀ p ∈ ([(10, C_CarryError), (11, C_NoRounds), (12, C_NoElement), (13, C_NoLower), (14, C_NoUpper), (15, C_NoHead), (16, C_NotLike), (17, C_NoCount), (18, C_NoPair), (19, C_NoKind), (23, C_NoCarry), (24, C_NoTower), (27, C_TooMany), (28, C_NoMap), (5, C_Group), (0, C_Rounds)] : List (Nat × Addr)), (⟨P, w, K, mg⟩ : GC).ca p.1 = p.2 := by
    intro p hp
    simp only [List.mem_cons, List.not_mem_nil, or_false] at hp
    rcases hp with rfl | rfl | rfl | rfl | rfl | rfl | rfl | rfl | rfl | rfl | rfl | rfl | rfl | rfl | rfl | rfl
    · exact ca_CarryError
    · exact ca_NoRounds
    · exact ca_NoElement
    · exact ca_NoLower
    · exact ca_NoUpper
    · exact ca_NoHead
    · exact ca_NotLike
    · exact ca_NoCount
    · exact ca_NoPair
    · exact ca_NoKind
    · exact ca_NoCarry
    · exact ca_NoTower
    · exact ca_TooMany
    · exact ca_NoMap
    · exact ca_Group
    · exact ca_Rounds
  have O_TooMany : OexC K C_TooMany := oexC_by xL_TooMany rv_TooMany ob_TooMany
  have X_TooMany : ExMA P w K mg base C_TooMany 27 := ⟨m_TooMany, O_TooMany, f_TooMany_init, _, _, exc1_ok (pn := "many") (fn := "many") F_TooMany_init ⟨rfl, rfl, rfl, by decide +kernel, rfl, by decide +kernel, by decide +kernel⟩ O_TooMany no_TooMany_many (fun X hN hs => pss_one (ps_ost (pe_var (i := 0) (by rw [hN]; rfl) (by rw [hs]; exact Or.inl rfl)) (pe_var (i := 1) (by rw [hN]; rfl) (by rw [hs]; exact Or.inl rfl)))), a_TooMany_init, tI_TooMany, B_TooMany_init⟩
  have T : Txt P w K mg base := {
      zz := trivial,
      n_len := PySem.W.mg_none_of X G z_len,
      n_all := PySem.W.mg_none_of X G z_all,
      f_rounds := fldM_by (fun p hp => hca p (by simp only [List.mem_cons, List.not_mem_nil, or_false] at hp ⊢; rcases hp with rfl <;> simp)) fl_rounds,
      n_range := PySem.W.mg_none_of X G z_range,
      g_MOST_LOWER := ⟨_, PySem.W.mg_of X G z_MOST_LOWER⟩,
      c_NoLower := cg_by m_NoLower,
      e_NoLower := by rw [ca_NoLower]; exact exM0_by m_NoLower ob_NoLower,
      n_isinstance := PySem.W.mg_none_of X G z_isinstance,
      c_Rounds := cg_by m_Rounds,
      g_MOST_UPPER := ⟨_, PySem.W.mg_of X G z_MOST_UPPER⟩,
      c_NoUpper := cg_by m_NoUpper,
      e_NoUpper := by rw [ca_NoUpper]; exact exM0_by m_NoUpper ob_NoUpper,
      n_tuple := PySem.W.mg_none_of X G z_tuple,
      n_zip := PySem.W.mg_none_of X G z_zip,
      n_int := PySem.W.mg_none_of X G z_int,
      n_bool := PySem.W.mg_none_of X G z_bool,
      c_NoElement := cg_by m_NoElement,
      e_NoElement := by rw [ca_NoElement]; exact exM0_by m_NoElement ob_NoElement,
      n_list := PySem.W.mg_none_of X G z_list,
      g_MOST_ROUNDS := ⟨_, PySem.W.mg_of X G z_MOST_ROUNDS⟩,
      g_MOST_ELEMENTS := ⟨_, PySem.W.mg_of X G z_MOST_ELEMENTS⟩,
      c_NoRounds := cg_by m_NoRounds,
      e_NoRounds := by rw [ca_NoRounds]; exact exM0_by m_NoRounds ob_NoRounds,
      cl_Rounds_rounds := clM_by (fun p hp => hca p (by simp only [List.mem_cons, List.not_mem_nil, or_false] at hp ⊢; rcases hp with rfl <;> simp)) fl_rounds (by simp),
      g_MOST := ⟨_, PySem.W.mg_of X G z_MOST⟩,
      c_TooMany := cg_by m_TooMany,
      e_TooMany := by rw [ca_TooMany]; exact X_TooMany,
      c_CarryError := cg_by m_CarryError,
      c_NotLike := cg_by m_NotLike,
      c_NoCount := cg_by m_NoCount,
      c_NoHead := cg_by m_NoHead,
      c_NoPair := cg_by m_NoPair,
      c_NoKind := cg_by m_NoKind,
      c_NoMap := cg_by m_NoMap,
      c_NoTower := cg_by m_NoTower,
      c_NoCarry := cg_by m_NoCarry,
      n_ValueError := PySem.W.mg_none_of X G z_ValueError,
      x_many := fldX_by (fun p hp => hca p (by simp only [List.mem_cons, List.not_mem_nil, or_false] at hp ⊢; rcases hp with rfl <;> simp)) xl_many,
      isM := isM_of (fun p hp => hca p (by simp only [List.mem_cons, List.not_mem_nil, or_false] at hp ⊢; rcases hp with rfl | rfl | rfl | rfl | rfl | rfl | rfl | rfl | rfl | rfl | rfl | rfl | rfl | rfl | rfl <;> simp)) (fun p hp => hca p (by simp only [List.mem_cons, List.not_mem_nil, or_false] at hp ⊢; rcases hp with rfl | rfl | rfl | rfl | rfl | rfl | rfl | rfl | rfl | rfl | rfl | rfl | rfl | rfl <;> simp)) hIs,
      ctM := ctM_of (fun p hp => hca p (by simp only [List.mem_cons, List.not_mem_nil, or_false] at hp ⊢; rcases hp with rfl | rfl | rfl | rfl | rfl | rfl | rfl | rfl | rfl | rfl | rfl | rfl | rfl | rfl <;> simp)) (fun p hp => hca p (by simp only [List.mem_cons, List.not_mem_nil, or_false] at hp ⊢; rcases hp with rfl <;> simp)) hCt }
  have G_q_lower : FnOk P w K mg base (L2.CX P w) 1 f_q_lower _ ["_law_cell"] (spM ⟨P, w, K, mg⟩ .S d_q_lower) := fn_ok F_q_lower sc_q_lower (fun cdv A outer s H E hr => b_q_lower T cdv A outer s H E hr)
  have M_q_lower : FnM P w K mg base 1 "_law_lower" .S d_q_lower := ⟨f_q_lower, _, _, G_q_lower, PySem.W.mg_of X G a_q_lower, k_q_lower, B_q_lower⟩
  have G_q_spread : FnOk P w K mg base (L2.CX P w) 1 f_q_spread _ ["_law_script", "_law_k"] (spM ⟨P, w, K, mg⟩ .S d_q_spread) := fn_ok F_q_spread sc_q_spread (fun cdv A outer s H E hr => b_q_spread T cdv A outer s H E hr)
  have M_q_spread : FnM P w K mg base 1 "_law_spread" .S d_q_spread := ⟨f_q_spread, _, _, G_q_spread, PySem.W.mg_of X G a_q_spread, k_q_spread, B_q_spread⟩
  have G_q_upper : FnOk P w K mg base (L2.CX P w) 1 f_q_upper _ ["_law_cell"] (spM ⟨P, w, K, mg⟩ .S d_q_upper) := fn_ok F_q_upper sc_q_upper (fun cdv A outer s H E hr => b_q_upper T cdv A outer s H E hr)
  have M_q_upper : FnM P w K mg base 1 "_law_upper" .S d_q_upper := ⟨f_q_upper, _, _, G_q_upper, PySem.W.mg_of X G a_q_upper, k_q_upper, B_q_upper⟩
  have G_Rounds_members : FnOk P w K mg base (L2.CX P w) 1 f_Rounds_members _ ["self"] (spM ⟨P, w, K, mg⟩ .S d_Rounds_members) := fn_ok F_Rounds_members sc_Rounds_members (fun cdv A outer s H E hr => b_Rounds_members T cdv A outer s H E hr)
  have MT_members : ∀ c g, mt_members c = some g → MtM P w K mg base 1 "members" c .S g := by
    intro c g h
    unfold mt_members at h
    split at h
    · rename_i hc; subst hc; cases h
      refine ⟨⟨f_Rounds_members, _, _, G_Rounds_members.mono (by decide), (by rw [ca_Rounds]; exact ⟨a_Rounds_members, i_Rounds_members, k_Rounds_members⟩), B_Rounds_members⟩, (by rw [ca_Rounds]; exact (objB_ok (List.all_eq_true.mp oB C_Rounds (by simp))).cl), by decide +kernel⟩
    · cases h
  have G_Group_size : FnOk P w K mg base (L2.CX P w) 2 f_Group_size _ ["self"] (spM ⟨P, w, K, mg⟩ .S d_Group_size) := fn_ok F_Group_size sc_Group_size (fun cdv A outer s H E hr => b_Group_size T MT_members cdv A outer s H E hr)
  have MT_size : ∀ c g, mt_size c = some g → MtM P w K mg base 2 "size" c .S g := by
    intro c g h
    unfold mt_size at h
    split at h
    · rename_i hc; subst hc; cases h
      refine ⟨⟨f_Group_size, _, _, G_Group_size.mono (by decide), (by rw [ca_Rounds]; exact ⟨am_Rounds_size, i_Group_size, k_Group_size⟩), B_Group_size⟩, (by rw [ca_Rounds]; exact (objB_ok (List.all_eq_true.mp oB C_Rounds (by simp))).cl), by decide +kernel⟩
    · cases h
  have G_Rounds_is_even : FnOk P w K mg base (L2.CX P w) 1 f_Rounds_is_even _ ["self"] (spM ⟨P, w, K, mg⟩ .S d_Rounds_is_even) := fn_ok F_Rounds_is_even sc_Rounds_is_even (fun cdv A outer s H E hr => b_Rounds_is_even T cdv A outer s H E hr)
  have MT_is_even : ∀ c g, mt_is_even c = some g → MtM P w K mg base 1 "is_even" c .S g := by
    intro c g h
    unfold mt_is_even at h
    split at h
    · rename_i hc; subst hc; cases h
      refine ⟨⟨f_Rounds_is_even, _, _, G_Rounds_is_even.mono (by decide), (by rw [ca_Rounds]; exact ⟨a_Rounds_is_even, i_Rounds_is_even, k_Rounds_is_even⟩), B_Rounds_is_even⟩, (by rw [ca_Rounds]; exact (objB_ok (List.all_eq_true.mp oB C_Rounds (by simp))).cl), by decide +kernel⟩
    · cases h
  have G_look_at_groups : FnOk P w K mg base (L2.CX P w) 3 f_look_at_groups _ ["lower", "upper"] (spM ⟨P, w, K, mg⟩ .S d_look_at_groups) := fn_ok F_look_at_groups sc_look_at_groups (fun cdv A outer s H E hr => b_look_at_groups T MT_size MT_is_even cdv A outer s H E hr)
  have M_look_at_groups : FnM P w K mg base 3 "look_at_groups" .S d_look_at_groups := ⟨f_look_at_groups, _, _, G_look_at_groups, PySem.W.mg_of X G a_look_at_groups, k_look_at_groups, B_look_at_groups⟩
  have G_is_whole : FnOk P w K mg base (L2.CX P w) 1 f_is_whole _ ["thing"] (spM ⟨P, w, K, mg⟩ .S d_is_whole) := fn_ok F_is_whole sc_is_whole (fun cdv A outer s H E hr => b_is_whole T cdv A outer s H E hr)
  have M_is_whole : FnM P w K mg base 1 "is_whole" .S d_is_whole := ⟨f_is_whole, _, _, G_is_whole, PySem.W.mg_of X G a_is_whole, k_is_whole, B_is_whole⟩
  have G_Rounds_has : FnOk P w K mg base (L2.CX P w) 2 f_Rounds_has _ ["self", "thing"] (spM ⟨P, w, K, mg⟩ .S d_Rounds_has) := fn_ok F_Rounds_has sc_Rounds_has (fun cdv A outer s H E hr => b_Rounds_has T M_is_whole cdv A outer s H E hr)
  have MT_has : ∀ c g, mt_has c = some g → MtM P w K mg base 2 "has" c .S g := by
    intro c g h
    unfold mt_has at h
    split at h
    · rename_i hc; subst hc; cases h
      refine ⟨⟨f_Rounds_has, _, _, G_Rounds_has.mono (by decide), (by rw [ca_Rounds]; exact ⟨a_Rounds_has, i_Rounds_has, k_Rounds_has⟩), B_Rounds_has⟩, (by rw [ca_Rounds]; exact (objB_ok (List.all_eq_true.mp oB C_Rounds (by simp))).cl), by decide +kernel⟩
    · cases h
  have G_greatest_shared : FnOk P w K mg base (L2.CX P w) 1 f_greatest_shared _ ["one", "other"] (spM ⟨P, w, K, mg⟩ .S d_greatest_shared) := fn_ok F_greatest_shared sc_greatest_shared (fun cdv A outer s H E hr => b_greatest_shared T cdv A outer s H E hr)
  have M_greatest_shared : FnM P w K mg base 1 "greatest_shared" .S d_greatest_shared := ⟨f_greatest_shared, _, _, G_greatest_shared, PySem.W.mg_of X G a_greatest_shared, k_greatest_shared, B_greatest_shared⟩
  have G_rest_but_for : FnOk P w K mg base (L2.CX P w) 3 f_rest_but_for _ ["group", "n", "a"] (spM ⟨P, w, K, mg⟩ .S d_rest_but_for) := fn_ok F_rest_but_for sc_rest_but_for (fun cdv A outer s H E hr => b_rest_but_for T MT_has M_greatest_shared cdv A outer s H E hr)
  have M_rest_but_for : FnM P w K mg base 3 "rest_but_for" .S d_rest_but_for := ⟨f_rest_but_for, _, _, G_rest_but_for, PySem.W.mg_of X G a_rest_but_for, k_rest_but_for, B_rest_but_for⟩
  have G_rests_for : FnOk P w K mg base (L2.CX P w) 4 f_rests_for _ ["lower", "n"] (spM ⟨P, w, K, mg⟩ .S d_rests_for) := fn_ok F_rests_for sc_rests_for (fun cdv A outer s H E hr => b_rests_for T MT_members M_rest_but_for cdv A outer s H E hr)
  have M_rests_for : FnM P w K mg base 4 "rests_for" .S d_rests_for := ⟨f_rests_for, _, _, G_rests_for, PySem.W.mg_of X G a_rests_for, k_rests_for, B_rests_for⟩
  have G_pairs_of : FnOk P w K mg base (L2.CX P w) 1 f_pairs_of _ ["upper"] (spM ⟨P, w, K, mg⟩ .S d_pairs_of) := fn_ok F_pairs_of sc_pairs_of (fun cdv A outer s H E hr => b_pairs_of T cdv A outer s H E hr)
  have M_pairs_of : FnM P w K mg base 1 "pairs_of" .S d_pairs_of := ⟨f_pairs_of, _, _, G_pairs_of, PySem.W.mg_of X G a_pairs_of, k_pairs_of, B_pairs_of⟩
  have G_Rounds_nought : FnOk P w K mg base (L2.CX P w) 1 f_Rounds_nought _ ["self"] (spM ⟨P, w, K, mg⟩ .S d_Rounds_nought) := fn_ok F_Rounds_nought sc_Rounds_nought (fun cdv A outer s H E hr => b_Rounds_nought T cdv A outer s H E hr)
  have MT_nought : ∀ c g, mt_nought c = some g → MtM P w K mg base 1 "nought" c .S g := by
    intro c g h
    unfold mt_nought at h
    split at h
    · rename_i hc; subst hc; cases h
      refine ⟨⟨f_Rounds_nought, _, _, G_Rounds_nought.mono (by decide), (by rw [ca_Rounds]; exact ⟨a_Rounds_nought, i_Rounds_nought, k_Rounds_nought⟩), B_Rounds_nought⟩, (by rw [ca_Rounds]; exact (objB_ok (List.all_eq_true.mp oB C_Rounds (by simp))).cl), by decide +kernel⟩
    · cases h
  have G_Group_look_at : FnOk P w K mg base (L2.CX P w) 3 f_Group_look_at _ ["self", "thing"] (spM ⟨P, w, K, mg⟩ .S d_Group_look_at) := fn_ok F_Group_look_at sc_Group_look_at (fun cdv A outer s H E hr => b_Group_look_at T MT_has cdv A outer s H E hr)
  have MT_look_at : ∀ c g, mt_look_at c = some g → MtM P w K mg base 3 "look_at" c .S g := by
    intro c g h
    unfold mt_look_at at h
    split at h
    · rename_i hc; subst hc; cases h
      refine ⟨⟨f_Group_look_at, _, _, G_Group_look_at.mono (by decide), (by rw [ca_Rounds]; exact ⟨am_Rounds_look_at, i_Group_look_at, k_Group_look_at⟩), B_Group_look_at⟩, (by rw [ca_Rounds]; exact (objB_ok (List.all_eq_true.mp oB C_Rounds (by simp))).cl), by decide +kernel⟩
    · cases h
  have G_Rounds_backed : FnOk P w K mg base (L2.CX P w) 1 f_Rounds_backed _ ["self", "x"] (spM ⟨P, w, K, mg⟩ .S d_Rounds_backed) := fn_ok F_Rounds_backed sc_Rounds_backed (fun cdv A outer s H E hr => b_Rounds_backed T cdv A outer s H E hr)
  have MT_backed : ∀ c g, mt_backed c = some g → MtM P w K mg base 1 "backed" c .S g := by
    intro c g h
    unfold mt_backed at h
    split at h
    · rename_i hc; subst hc; cases h
      refine ⟨⟨f_Rounds_backed, _, _, G_Rounds_backed.mono (by decide), (by rw [ca_Rounds]; exact ⟨a_Rounds_backed, i_Rounds_backed, k_Rounds_backed⟩), B_Rounds_backed⟩, (by rw [ca_Rounds]; exact (objB_ok (List.all_eq_true.mp oB C_Rounds (by simp))).cl), by decide +kernel⟩
    · cases h
  have G_Rounds_put : FnOk P w K mg base (L2.CX P w) 1 f_Rounds_put _ ["self", "x", "y"] (spM ⟨P, w, K, mg⟩ .S d_Rounds_put) := fn_ok F_Rounds_put sc_Rounds_put (fun cdv A outer s H E hr => b_Rounds_put T cdv A outer s H E hr)
  have MT_put : ∀ c g, mt_put c = some g → MtM P w K mg base 1 "put" c .S g := by
    intro c g h
    unfold mt_put at h
    split at h
    · rename_i hc; subst hc; cases h
      refine ⟨⟨f_Rounds_put, _, _, G_Rounds_put.mono (by decide), (by rw [ca_Rounds]; exact ⟨a_Rounds_put, i_Rounds_put, k_Rounds_put⟩), B_Rounds_put⟩, (by rw [ca_Rounds]; exact (objB_ok (List.all_eq_true.mp oB C_Rounds (by simp))).cl), by decide +kernel⟩
    · cases h
  have G_Group_times : FnOk P w K mg base (L2.CX P w) 4 f_Group_times _ ["self", "n", "x"] (spM ⟨P, w, K, mg⟩ .S d_Group_times) := fn_ok F_Group_times sc_Group_times (fun cdv A outer s H E hr => b_Group_times T MT_look_at MT_backed MT_nought MT_put cdv A outer s H E hr)
  have MT_times : ∀ c g, mt_times c = some g → MtM P w K mg base 4 "times" c .S g := by
    intro c g h
    unfold mt_times at h
    split at h
    · rename_i hc; subst hc; cases h
      refine ⟨⟨f_Group_times, _, _, G_Group_times.mono (by decide), (by rw [ca_Rounds]; exact ⟨am_Rounds_times, i_Group_times, k_Group_times⟩), B_Group_times⟩, (by rw [ca_Rounds]; exact (objB_ok (List.all_eq_true.mp oB C_Rounds (by simp))).cl), by decide +kernel⟩
    · cases h
  have G_odds_for : FnOk P w K mg base (L2.CX P w) 5 f_odds_for _ ["lower", "n", "m"] (spM ⟨P, w, K, mg⟩ .S d_odds_for) := fn_ok F_odds_for sc_odds_for (fun cdv A outer s H E hr => b_odds_for T MT_nought MT_members MT_times cdv A outer s H E hr)
  have M_odds_for : FnM P w K mg base 5 "odds_for" .S d_odds_for := ⟨f_odds_for, _, _, G_odds_for, PySem.W.mg_of X G a_odds_for, k_odds_for, B_odds_for⟩
  have G_places_of : FnOk P w K mg base (L2.CX P w) 6 f_places_of _ ["lower", "upper"] (spM ⟨P, w, K, mg⟩ .S d_places_of) := fn_ok F_places_of sc_places_of (fun cdv A outer s H E hr => b_places_of T M_rests_for M_pairs_of M_odds_for cdv A outer s H E hr)
  have M_places_of : FnM P w K mg base 6 "places_of" .S d_places_of := ⟨f_places_of, _, _, G_places_of, PySem.W.mg_of X G a_places_of, k_places_of, B_places_of⟩
  have G_how_many : FnOk P w K mg base (L2.CX P w) 7 f_how_many _ ["lower", "upper"] (spM ⟨P, w, K, mg⟩ .S d_how_many) := fn_ok F_how_many sc_how_many (fun cdv A outer s H E hr => b_how_many T M_look_at_groups M_places_of cdv A outer s H E hr)
  have M_how_many : FnM P w K mg base 7 "how_many" .S d_how_many := ⟨f_how_many, _, _, G_how_many, PySem.W.mg_of X G a_how_many, k_how_many, B_how_many⟩
  have G_are_rounds : FnOk P w K mg base (L2.CX P w) 2 f_are_rounds _ ["thing"] (spM ⟨P, w, K, mg⟩ .S d_are_rounds) := fn_ok F_are_rounds sc_are_rounds (fun cdv A outer s H E hr => b_are_rounds T M_is_whole cdv A outer s H E hr)
  have M_are_rounds : FnM P w K mg base 2 "are_rounds" .S d_are_rounds := ⟨f_are_rounds, _, _, G_are_rounds, PySem.W.mg_of X G a_are_rounds, k_are_rounds, B_are_rounds⟩
  have G_Rounds_init := fn_okI (P := P) (w := w) (mg := mg) (base := base) (c := 0) (g := e_Rounds_init) F_Rounds_init sc_Rounds_init (by decide) (fun cdv A outer s H E x hr => b_Rounds_init T M_are_rounds cdv A outer s H E x hr)
  have MK_Rounds : MkM P w K mg base 3 0 d_Rounds_init := ⟨f_Rounds_init, _, _, G_Rounds_init, (by rw [ca_Rounds]; exact ⟨mk_Rounds, a_Rounds_init, i_Rounds_init, kc_Rounds⟩), cg_by m_Rounds, B_Rounds_init⟩
  have G_rows_by : FnOk P w K mg base (L2.CX P w) 1 f_rows_by _ ["places"] (spM ⟨P, w, K, mg⟩ .S d_rows_by) := fn_ok F_rows_by sc_rows_by (fun cdv A outer s H E hr => b_rows_by T cdv A outer s H E hr)
  have M_rows_by : FnM P w K mg base 1 "rows_by" .S d_rows_by := ⟨f_rows_by, _, _, G_rows_by, PySem.W.mg_of X G a_rows_by, k_rows_by, B_rows_by⟩
  have G_kinds_of : FnOk P w K mg base (L2.CX P w) 8 f_kinds_of _ ["lower", "upper"] (spM ⟨P, w, K, mg⟩ (.O .flat) d_kinds_of) := fn_okO F_kinds_of sc_kinds_of (fun cdv A outer s H E hr => b_kinds_of T M_how_many M_places_of M_rows_by cdv A outer s H E hr)
  have M_kinds_of : FnM P w K mg base 8 "kinds_of" (.O .flat) d_kinds_of := ⟨f_kinds_of, _, _, G_kinds_of, PySem.W.mg_of X G a_kinds_of, k_kinds_of, B_kinds_of⟩
  have G_q_kinds : FnOk P w K mg base (L2.CX P w) 1 f_q_kinds _ ["_law_e"] (spM ⟨P, w, K, mg⟩ .S d_q_kinds) := fn_ok F_q_kinds sc_q_kinds (fun cdv A outer s H E hr => b_q_kinds T cdv A outer s H E hr)
  have M_q_kinds : FnM P w K mg base 1 "_law_kinds" .S d_q_kinds := ⟨f_q_kinds, _, _, G_q_kinds, PySem.W.mg_of X G a_q_kinds, k_q_kinds, B_q_kinds⟩
  have G_q_class : FnOk P w K mg base (L2.CX P w) 1 f_q_class _ ["_law_word"] (spM ⟨P, w, K, mg⟩ .S d_q_class) := fn_ok F_q_class sc_q_class (fun cdv A outer s H E hr => b_q_class T cdv A outer s H E hr)
  have M_q_class : FnM P w K mg base 1 "_law_class" .S d_q_class := ⟨f_q_class, _, _, G_q_class, PySem.W.mg_of X G a_q_class, k_q_class, B_q_class⟩
  have G_q_whole : FnOk P w K mg base (L2.CX P w) 1 f_q_whole _ ["_law_found"] (spM ⟨P, w, K, mg⟩ .S d_q_whole) := fn_ok F_q_whole sc_q_whole (fun cdv A outer s H E hr => b_q_whole T cdv A outer s H E hr)
  have M_q_whole : FnM P w K mg base 1 "_law_whole" .S d_q_whole := ⟨f_q_whole, _, _, G_q_whole, PySem.W.mg_of X G a_q_whole, k_q_whole, B_q_whole⟩
  have G_q_refused : FnOk P w K mg base (L2.CX P w) 9 f_q_refused _ ["_law_way", "_law_lower_here", "_law_upper_here", "_law_word", "_law_many_here"] (spM ⟨P, w, K, mg⟩ .S d_q_refused) := fn_ok F_q_refused sc_q_refused (fun cdv A outer s H E hr => b_q_refused T M_how_many MK_Rounds M_kinds_of M_q_kinds M_q_class M_q_whole cdv A outer s H E hr)
  have M_q_refused : FnM P w K mg base 9 "_law_refused" .S d_q_refused := ⟨f_q_refused, _, _, G_q_refused, PySem.W.mg_of X G a_q_refused, k_q_refused, B_q_refused⟩
  have G_q_pairs : FnOk P w K mg base (L2.CX P w) 1 f_q_pairs _ ["_law_upper_here"] (spM ⟨P, w, K, mg⟩ .S d_q_pairs) := fn_ok F_q_pairs sc_q_pairs (fun cdv A outer s H E hr => b_q_pairs T cdv A outer s H E hr)
  have M_q_pairs : FnM P w K mg base 1 "_law_pairs" .S d_q_pairs := ⟨f_q_pairs, _, _, G_q_pairs, PySem.W.mg_of X G a_q_pairs, k_q_pairs, B_q_pairs⟩
  have G_q_divisor : FnOk P w K mg base (L2.CX P w) 1 f_q_divisor _ ["_law_one", "_law_other"] (spM ⟨P, w, K, mg⟩ .S d_q_divisor) := fn_ok F_q_divisor sc_q_divisor (fun cdv A outer s H E hr => b_q_divisor T cdv A outer s H E hr)
  have M_q_divisor : FnM P w K mg base 1 "_law_divisor" .S d_q_divisor := ⟨f_q_divisor, _, _, G_q_divisor, PySem.W.mg_of X G a_q_divisor, k_q_divisor, B_q_divisor⟩
  have G_q_number : FnOk P w K mg base (L2.CX P w) 2 f_q_number _ ["_law_lower_here", "_law_upper_here"] (spM ⟨P, w, K, mg⟩ .S d_q_number) := fn_ok F_q_number sc_q_number (fun cdv A outer s H E hr => b_q_number T M_q_pairs M_q_divisor cdv A outer s H E hr)
  have M_q_number : FnM P w K mg base 2 "_law_number" .S d_q_number := ⟨f_q_number, _, _, G_q_number, PySem.W.mg_of X G a_q_number, k_q_number, B_q_number⟩
  have G_q_all : FnOk P w K mg base (L2.CX P w) 1 f_q_all _ ["_law_rounds"] (spM ⟨P, w, K, mg⟩ .S d_q_all) := fn_ok F_q_all sc_q_all (fun cdv A outer s H E hr => b_q_all T cdv A outer s H E hr)
  have M_q_all : FnM P w K mg base 1 "_law_all" .S d_q_all := ⟨f_q_all, _, _, G_q_all, PySem.W.mg_of X G a_q_all, k_q_all, B_q_all⟩
  have G_q_rest : FnOk P w K mg base (L2.CX P w) 2 f_q_rest _ ["_law_rounds", "_law_n", "_law_a"] (spM ⟨P, w, K, mg⟩ .S d_q_rest) := fn_ok F_q_rest sc_q_rest (fun cdv A outer s H E hr => b_q_rest T M_q_divisor cdv A outer s H E hr)
  have M_q_rest : FnM P w K mg base 2 "_law_rest" .S d_q_rest := ⟨f_q_rest, _, _, G_q_rest, PySem.W.mg_of X G a_q_rest, k_q_rest, B_q_rest⟩
  have G_q_many : FnOk P w K mg base (L2.CX P w) 1 f_q_many _ ["_law_rounds", "_law_n", "_law_a"] (spM ⟨P, w, K, mg⟩ .S d_q_many) := fn_ok F_q_many sc_q_many (fun cdv A outer s H E hr => b_q_many T cdv A outer s H E hr)
  have M_q_many : FnM P w K mg base 1 "_law_many" .S d_q_many := ⟨f_q_many, _, _, G_q_many, PySem.W.mg_of X G a_q_many, k_q_many, B_q_many⟩
  have G_q_rows : FnOk P w K mg base (L2.CX P w) 1 f_q_rows _ ["_law_places"] (spM ⟨P, w, K, mg⟩ .S d_q_rows) := fn_ok F_q_rows sc_q_rows (fun cdv A outer s H E hr => b_q_rows T cdv A outer s H E hr)
  have M_q_rows : FnM P w K mg base 1 "_law_rows" .S d_q_rows := ⟨f_q_rows, _, _, G_q_rows, PySem.W.mg_of X G a_q_rows, k_q_rows, B_q_rows⟩
  have G_q_due : FnOk P w K mg base (L2.CX P w) 3 f_q_due _ ["_law_lower_here", "_law_upper_here"] (spM ⟨P, w, K, mg⟩ .S d_q_due) := fn_ok F_q_due sc_q_due (fun cdv A outer s H E hr => b_q_due T M_q_all M_q_rest M_q_pairs M_q_divisor M_q_many M_q_rows cdv A outer s H E hr)
  have M_q_due : FnM P w K mg base 3 "_law_due" .S d_q_due := ⟨f_q_due, _, _, G_q_due, PySem.W.mg_of X G a_q_due, k_q_due, B_q_due⟩
  have G_q_is : FnOk P w K mg base (L2.CX P w) 2 f_q_is _ ["_law_rounds", "_law_found", "_law_due_here"] (spM ⟨P, w, K, mg⟩ .S d_q_is) := fn_ok F_q_is sc_q_is (fun cdv A outer s H E hr => b_q_is T M_q_whole cdv A outer s H E hr)
  have M_q_is : FnM P w K mg base 2 "_law_is" .S d_q_is := ⟨f_q_is, _, _, G_q_is, PySem.W.mg_of X G a_q_is, k_q_is, B_q_is⟩
  have G_q_kind_is : FnOk P w K mg base (L2.CX P w) 3 f_q_kind_is _ ["_law_lower_here", "_law_found", "_law_due_here"] (spM ⟨P, w, K, mg⟩ .S d_q_kind_is) := fn_ok F_q_kind_is sc_q_kind_is (fun cdv A outer s H E hr => b_q_kind_is T M_q_is cdv A outer s H E hr)
  have M_q_kind_is : FnM P w K mg base 3 "_law_kind_is" .S d_q_kind_is := ⟨f_q_kind_is, _, _, G_q_kind_is, PySem.W.mg_of X G a_q_kind_is, k_q_kind_is, B_q_kind_is⟩
  have G_q_list_right : FnOk P w K mg base (L2.CX P w) 9 f_q_list_right _ ["_law_lower_here", "_law_upper_here", "_law_due_here"] (spM ⟨P, w, K, mg⟩ .S d_q_list_right) := fn_ok F_q_list_right sc_q_list_right (fun cdv A outer s H E hr => b_q_list_right T M_kinds_of MK_Rounds M_q_kind_is cdv A outer s H E hr)
  have M_q_list_right : FnM P w K mg base 9 "_law_list_right" .S d_q_list_right := ⟨f_q_list_right, _, _, G_q_list_right, PySem.W.mg_of X G a_q_list_right, k_q_list_right, B_q_list_right⟩
  have G_law : FnOk P w K mg base (L2.CX P w) 10 fa _ ["_law_script"] (spM ⟨P, w, K, mg⟩ .S d_law) := fn_ok F_law sc_law (fun cdv A outer s H E hr => b_law T M_q_lower M_q_spread M_q_upper M_q_refused M_q_number M_how_many MK_Rounds M_q_whole M_q_due M_q_list_right cdv A outer s H E hr)
  exact G_law
end Mir.K47

namespace Mir.K47
open PySem PySem.Spec PyProof.Rows L2
set_option maxHeartbeats 1000000
theorem is_whole_int (i : Int) : d_is_whole [.int i] = .ok (.bl true) := by kernel_rfl
theorem has_turn (rs x : List Int) (i n : Int) (h0 : 0 ≤ i) (h1 : i < n) (a b : Slot) : Rounds_has_l1 (.tup [.int i, .int n]) [.sh (gR rs), .sh (tuI x), a, b] = .nx [.sh (gR rs), .sh (tuI x), .sh (.int i), .sh (.int n)] := by
  have z1 : ¬ i < 0 := by omega
  have z2 : ¬ n ≤ i := by omega
  simp [Rounds_has_l1, is_whole_int, z1, z2]
theorem has_ok {rs x : List Int} (h : OkE rs x) : d_Rounds_has [gR rs, tuI x] = .ok (.bl true) := by
  refine runD_rt rfl ?_
  have st : startD N_Rounds_has.length [gR rs, tuI x] = [.sh (gR rs), .sh (tuI x), .un, .un] := rfl
  rw [st]
  have z : zip2D [tuI x, tuI rs] = .ok (zipL2 (x.map .int) (rs.map .int)) := rfl
  obtain ⟨r', loop, a, b, rfl⟩ := forD_all (f := Rounds_has_l1) (ds := zipL2 (x.map .int) (rs.map .int)) (fun r => ∃ a b, r = [.sh (gR rs), .sh (tuI x), a, b]) (fun d hd r ⟨a, b, e⟩ => by
    obtain ⟨p, hp, rfl⟩ := mem_zip2 hd
    obtain ⟨h1, h2⟩ := h.at_ p hp
    subst e
    exact ⟨_, has_turn rs x p.1 p.2 h1 h2 a b, _, _, rfl⟩) (r := [.sh (gR rs), .sh (tuI x), .un, .un]) ⟨.un, .un, rfl⟩
  unfold e_Rounds_has
  simp [is_tuple, fld_rounds, h.len, z, loop]
theorem put_ok {rs x y : List Int} (h : OkR rs) (h1 : x.length = rs.length) (h2 : y.length = rs.length) : d_Rounds_put [gR rs, tuI x, tuI y] = .ok (tuI (putV rs x y)) := by
  refine runD_rt rfl ?_
  have st : startD N_Rounds_put.length [gR rs, tuI x, tuI y] = [.sh (gR rs), .sh (tuI x), .sh (tuI y), .un, .un, .un] := rfl
  rw [st]
  have z : zip3D [tuI x, tuI y, tuI rs] = .ok (zipL3 (x.map .int) (y.map .int) (rs.map .int)) := rfl
  have c : Rounds_put_c1 [.sh (gR rs), .sh (tuI x), .sh (tuI y), .un, .un, .un] (zipL3 (x.map .int) (y.map .int) (rs.map .int)) = .ok ((putV rs x y).map .int) := by
    unfold Rounds_put_c1
    have e : zipL3 (x.map D.int) (y.map D.int) (rs.map D.int) = (x.zip (y.zip rs)).map fun p => .tup [.int p.1, .int p.2.1, .int p.2.2] := by
      unfold zipL3
      rw [List.zip_map, List.zip_map, List.map_map]
      rfl
    rw [e]
    have m : ∀ p ∈ x.zip (y.zip rs), 0 < p.2.2 := fun p hp => by
      have q := (List.of_mem_zip (List.of_mem_zip hp).2).2
      have q2 : (2 : Int) ≤ p.2.2 := h.two _ q
      omega
    rw [lcD_map (fun d => match d with | .tup [.int a, .int b, .int n] => .int ((a + b) % n) | _ => .non) (fun d hd => by
      obtain ⟨p, hp, rfl⟩ := List.mem_map.mp hd
      refine ⟨_, rfl, rfl, ?_⟩
      simp [wipeR, modD_ok (m p hp)])]
    rw [List.map_map]
    unfold putV
    rw [List.map_map]
    rfl
  have l7 := h.len
  have hl : (putV rs x y).length ≤ lim := by rw [putV_len h1 h2]; unfold lim; omega
  unfold e_Rounds_put
  simp [fld_rounds, z, c, hl]
theorem backed_ok {rs x : List Int} (h : OkR rs) (h1 : x.length = rs.length) : d_Rounds_backed [gR rs, tuI x] = .ok (tuI (backV rs x)) := by
  refine runD_rt rfl ?_
  have st : startD N_Rounds_backed.length [gR rs, tuI x] = [.sh (gR rs), .sh (tuI x), .un, .un] := rfl
  rw [st]
  have z : zip2D [tuI x, tuI rs] = .ok (zipL2 (x.map .int) (rs.map .int)) := rfl
  have c : Rounds_backed_c1 [.sh (gR rs), .sh (tuI x), .un, .un] (zipL2 (x.map .int) (rs.map .int)) = .ok ((backV rs x).map .int) := by
    unfold Rounds_backed_c1
    have e : zipL2 (x.map D.int) (rs.map D.int) = (x.zip rs).map fun p => .tup [.int p.1, .int p.2] := by
      unfold zipL2
      rw [List.zip_map, List.map_map]
      rfl
    rw [e]
    have m : ∀ p ∈ x.zip rs, 0 < p.2 := fun p hp => by
      have q2 : (2 : Int) ≤ p.2 := h.two _ (List.of_mem_zip hp).2
      omega
    rw [lcD_map (fun d => match d with | .tup [.int a, .int n] => .int ((0 - a) % n) | _ => .non) (fun d hd => by
      obtain ⟨p, hp, rfl⟩ := List.mem_map.mp hd
      refine ⟨_, rfl, rfl, ?_⟩
      simp [wipeR, modD_ok (m p hp)])]
    rw [List.map_map]
    unfold backV
    rw [List.map_map]
    rfl
  have l7 := h.len
  have hl : (backV rs x).length ≤ lim := by rw [backV_len h1]; unfold lim; omega
  unfold e_Rounds_backed
  simp [fld_rounds, z, c, hl]
theorem nought_ok {rs : List Int} (h : OkR rs) : d_Rounds_nought [gR rs] = .ok (tuI (zeroV rs)) := by
  refine runD_rt rfl ?_
  have st : startD N_Rounds_nought.length [gR rs] = [.sh (gR rs), .un] := rfl
  rw [st]
  have c : Rounds_nought_c1 [.sh (gR rs), .un] (rs.map .int) = .ok ((zeroV rs).map .int) := by
    unfold Rounds_nought_c1
    rw [lcD_map (g := nameG 1) (t := fun _ => .ok true) (f := fun _ => .ok (.int 0)) (fun _ => .int 0) (fun d hd => ⟨_, rfl, rfl, rfl⟩), List.map_map]
    unfold zeroV
    rw [List.map_map]
    rfl
  have l7 := h.len
  have hl : (zeroV rs).length ≤ lim := by unfold zeroV lim; simp; omega
  unfold e_Rounds_nought
  simp [fld_rounds, c, hl]

theorem look_ok {rs x : List Int} (h : OkE rs x) : d_Group_look_at [gR rs, tuI x] = .ok .non := by
  refine runD_nx (r := [.sh (gR rs), .sh (tuI x)]) rfl ?_
  have st : startD N_Group_look_at.length [gR rs, tuI x] = [.sh (gR rs), .sh (tuI x)] := rfl
  rw [st]
  unfold e_Group_look_at
  simp [mthD, mt_has, has_ok h]
theorem rounds_turn (src : D) (m n : Int) (h2 : 2 ≤ n) (h144 : n ≤ 144) (a : Slot) : are_rounds_l1 (.int n) [.sh src, .sh (.int m), a] = .nx [.sh src, .sh (.int (m * n)), .sh (.int n)] := by
  have z1 : ¬ n < 2 := by omega
  have z2 : ¬ 144 < n := by omega
  have z3 : mulD (.int m) (.int n) = .ok (.int (m * n)) := mulD_small (.inr ⟨by omega, by omega⟩)
  simp [are_rounds_l1, is_whole_int, z1, z2, z3]
theorem rounds_ok {rs : List Int} (h : OkG rs) (src : D) (hs : src = tuI rs ∨ src = liI rs) : d_are_rounds [src] = .ok (.bl true) := by
  refine runD_rt rfl ?_
  have st : startD N_are_rounds.length [src] = [.sh src, .un, .un] := rfl
  rw [st]
  have hi := is_seq src rs hs isC isU
  have hl : lenD src = .ok (.int rs.length) := by rcases hs with rfl | rfl <;> simp
  have it : itemsD src = .ok (rs.map .int) := by rcases hs with rfl | rfl <;> rfl
  have l7 := h.ok.len
  obtain ⟨r', loop, a, rfl⟩ := forD_ix (f := are_rounds_l1) (ds := rs.map .int) (fun i r => ∃ a, r = [.sh src, .sh (.int ((rs.take i).foldl (· * ·) 1)), a]) (fun i d hd r ⟨a, e⟩ => by
    rw [List.getElem?_map, Option.map_eq_some_iff] at hd
    obtain ⟨n, hn, rfl⟩ := hd
    subst e
    have hm := List.mem_of_getElem? hn
    refine ⟨_, rounds_turn src _ n (h.ok.two n hm) (h.most n hm) a, .sh (.int n), ?_⟩
    rw [take_more hn, List.foldl_append]
    rfl) (r := [.sh src, .sh (.int 1), .un]) ⟨.un, rfl⟩
  rw [List.length_map, List.take_length] at loop
  have z : ¬ (7 : Int) < rs.length := by omega
  unfold e_are_rounds
  simp [-itemsD, hi, hl, it, z, loop, h.prod, lim]
theorem init_ok {rs : List Int} (h : OkG rs) (src : D) (hs : src = tuI rs ∨ src = liI rs) : d_Rounds_init [src] = .ok (gR rs) := by
  have e1 : e_Rounds_init (startI N_Rounds_init.length 0 [src]) = .nx [.ow .flat (gR rs), .sh src] := by
    have st : startI N_Rounds_init.length 0 [src] = [.ow .flat (.obj 0 []), .sh src] := rfl
    rw [st]
    have tu : tupleD src = .ok (tuI rs) := by rcases hs with rfl | rfl <;> rfl
    unfold e_Rounds_init
    simp only [getS_succ, getS0, ok_bind, one, rounds_ok h src hs, asB_bl, lift_ok, Bool.not_true, Bool.false_eq_true, if_false, nx_seq, tu]
    rfl
  exact runI_nx rfl e1

theorem times_loop {rs x0 x f : List Int} {n0 n : Int} (h : OkR rs) (hl : x0.length = rs.length) (v : TInv rs x0 n0 n x f) {k : Nat} (hk : n < 2 ^ k) (hk2 : k < 1000000) :
    ∃ r', loopD Group_times_w1c Group_times_w1 [.sh (gR rs), .sh (.int n), .sh (tuI x), .sh (tuI f)] = .nx r' ∧ ∃ a b, r' = [.sh (gR rs), a, b, .sh (tuI (timesV rs n0 x0))] := by
  refine loopD_down (fun k r => ∃ n x f, TInv rs x0 n0 n x f ∧ n < 2 ^ k ∧ r = [.sh (gR rs), .sh (.int n), .sh (tuI x), .sh (tuI f)]) (fun r' => ∃ a b, r' = [.sh (gR rs), a, b, .sh (tuI (timesV rs n0 x0))]) ?_ ⟨n, x, f, v, hk, rfl⟩ hk2
  rintro k r ⟨n, x, f, v, hk, rfl⟩
  by_cases hn : 0 < n
  · right
    have hk0 : k ≠ 0 := fun e => by
      subst e
      have : n < 1 := hk
      omega
    obtain ⟨j, rfl⟩ : ∃ j, k = j + 1 := ⟨k - 1, by omega⟩
    have hj : n / 2 < 2 ^ j := by
      have e : (2 : Int) ^ (j + 1) = 2 ^ j * 2 := Int.pow_succ ..
      omega
    have px := put_ok h v.lx v.lx
    have pf := put_ok h v.ef.len v.lx
    have d2 : divD (.int n) (.int 2) = .ok (.int (n / 2)) := divD_ok (by omega) (bits_60 (by omega) (by omega))
    by_cases o : n % 2 = 1
    · refine ⟨j, [.sh (gR rs), .sh (.int (n / 2)), .sh (tuI (putV rs x x)), .sh (tuI (putV rs f x))], rfl, by simp [Group_times_w1c, hn], ?_, _, _, _, v.odd h o, hj, rfl⟩
      simp [Group_times_w1, modD_ok, o, mthD, mt_put, px, pf, d2]
    · refine ⟨j, [.sh (gR rs), .sh (.int (n / 2)), .sh (tuI (putV rs x x)), .sh (tuI f)], rfl, by simp [Group_times_w1c, hn], ?_, _, _, _, v.even h (by omega), hj, rfl⟩
      simp [Group_times_w1, modD_ok, o, mthD, mt_put, px, pf, d2]
  · left
    have z : n = 0 := by have := v.nn; omega
    subst z
    exact ⟨by simp [Group_times_w1c], _, _, by rw [v.done h hl]⟩
theorem times_ok {rs x : List Int} {n : Int} {k : Nat} (h : OkR rs) (hx : OkE rs x) (h1 : -(2 ^ k) < n) (h2 : n < 2 ^ k) (hk : k < 1000000) : d_Group_times [gR rs, .int n, tuI x] = .ok (tuI (timesV rs n x)) := by
  refine runD_rt rfl ?_
  have st : startD N_Group_times.length [gR rs, .int n, tuI x] = [.sh (gR rs), .sh (.int n), .sh (tuI x), .un] := rfl
  rw [st]
  have nz := nought_ok h
  have lk := look_ok hx
  by_cases hn : n < 0
  · have v : TInv rs x n (0 - n) (backV rs x) (zeroV rs) := ⟨backV_len hx.len, zero_el h, by omega, fun i hi => by rw [zeroV_at, backV_at hi hx.len, neg_back]⟩
    obtain ⟨r', l1, a, b, rfl⟩ := times_loop h hx.len v (k := k) (by omega) hk
    rw [Int.zero_sub] at l1
    unfold e_Group_times
    simp [mthD, mt_look_at, mt_backed, mt_nought, lk, hn, backed_ok h hx.len, nz, l1]
  · have v : TInv rs x n n x (zeroV rs) := ⟨hx.len, zero_el h, by omega, fun i hi => by rw [zeroV_at, Int.zero_add]⟩
    obtain ⟨r', l1, a, b, rfl⟩ := times_loop h hx.len v (k := k) h2 hk
    unfold e_Group_times
    simp [mthD, mt_look_at, mt_nought, lk, hn, nz, l1]
theorem greatest_shared_ok (a b : Nat) (hb : b < 100000) : d_greatest_shared [.int a, .int b] = .ok (.int (Nat.gcd a b : Nat)) := by
  refine runD_rt rfl ?_
  simp only [startD, N_greatest_shared, List.length_cons, List.length_nil, List.map_cons, List.map_nil, Nat.reduceAdd, Nat.reduceSub, Nat.zero_add, List.replicate, List.cons_append, List.nil_append]
  obtain ⟨r', loop, s1, rfl⟩ := loopD_down (c := greatest_shared_w1c) (b := greatest_shared_w1) (fun k r => ∃ (x y : Nat), r = [.sh (.int x), .sh (.int y)] ∧ y ≤ k ∧ Nat.gcd x y = Nat.gcd a b) (fun r => ∃ s1, r = [.sh (.int (Nat.gcd a b : Nat)), s1]) (by
    rintro k r ⟨x, y, rfl, hk, hg⟩
    by_cases hy : y = 0
    · subst hy
      rw [Nat.gcd_zero_right] at hg
      exact .inl ⟨by simp [greatest_shared_w1c], _, by rw [hg]⟩
    · have hy' : 0 < y := by omega
      have l := Nat.mod_lt x hy'
      refine .inr ⟨k - 1, [.sh (.int y), .sh (.int ((x % y : Nat) : Int))], by omega, by simp [greatest_shared_w1c, hy], ?_, y, x % y, rfl, by omega, ?_⟩
      · have md := modD_ok (i := x) (j := y) (by omega)
        simp [greatest_shared_w1, md, parG]
      · rw [← hg, Nat.gcd_comm x y, Nat.gcd_rec y x, Nat.gcd_comm]) (k := b) (r := [.sh (.int a), .sh (.int b)]) ⟨a, b, rfl, Nat.le_refl _, rfl⟩ (by omega)
  simp [e_greatest_shared, loop]
theorem shared_int {n m : Int} (h0 : 0 ≤ n) (h1 : n < 100000) (h2 : 0 ≤ m) : d_greatest_shared [.int m, .int n] = .ok (.int (gcV n m)) := by
  have e := greatest_shared_ok m.toNat n.toNat (by omega)
  rw [Int.toNat_of_nonneg h0, Int.toNat_of_nonneg h2] at e
  exact e
theorem rest_ok {rs a : List Int} {n : Int} (h : OkR rs) (ha : OkE rs a) (h0 : 0 ≤ n) (h1 : n < 100000) : d_rest_but_for [gR rs, .int n, tuI a] = .ok (tuI (restV rs n a)) := by
  refine runD_rt rfl ?_
  simp only [startD, N_rest_but_for, List.length_cons, List.length_nil, List.map_cons, List.map_nil, Nat.reduceAdd, Nat.reduceSub, Nat.zero_add, List.replicate, List.cons_append, List.nil_append]
  have c : rest_but_for_c1 [.sh (gR rs), .sh (.int n), .sh (tuI a), .un, .un] (zipL2 (a.map .int) (rs.map .int)) = .ok ((restV rs n a).map .int) := by
    unfold rest_but_for_c1 restV
    rw [List.map_map]
    refine lcD_zip2 _ fun p hp => ⟨rfl, ?_⟩
    have q : (2 : Int) ≤ p.2 := h.two _ (List.of_mem_zip hp).2
    simp [wipeR, shared_int h0 h1 (show 0 ≤ p.2 by omega), modD_ok (gcV_pos (n := n) (show 0 < p.2 by omega))]
  have z : zip2D [tuI a, tuI rs] = .ok (zipL2 (a.map .int) (rs.map .int)) := rfl
  have l7 := h.len
  have hl : (restV rs n a).length ≤ lim := by simp [restV, ha.len]; unfold lim; omega
  simp [e_rest_but_for, mthD, mt_has, has_ok ha, fld_rounds, z, c, hl]

theorem is_whole_any {d : D} (h : plainD d = true) : d_is_whole [d] = .ok (.bl (isW d)) := by
  cases d <;> first | (cases h; done) | kernel_rfl
theorem has_any {rs : List Int} {d : D} (h : plainT d = true) : d_Rounds_has [gR rs, d] = .ok (.bl (elB rs d)) := by
  refine runD_rt rfl ?_
  simp only [startD, N_Rounds_has, List.length_cons, List.length_nil, List.map_cons, List.map_nil, Nat.reduceAdd, Nat.reduceSub, Nat.zero_add, List.replicate, List.cons_append, List.nil_append]
  have it := is_tuple_any h isC isU
  cases d with
  | tup ds =>
    have h : ds.all plainD = true := h
    simp only at it
    have z : zip2D [.tup ds, tuI rs] = .ok (zipL2 ds (rs.map .int)) := rfl
    by_cases hl : ds.length = rs.length
    · have loop := forD_any (f := Rounds_has_l1) (fun r => ∃ a b, r = [.sh (gR rs), .sh (.tup ds), a, b]) (fun e => match e with
        | .tup [a, .int i] => !inB a i
        | _ => false) (.bl false) (ds := zipL2 ds (rs.map .int)) (r := [.sh (gR rs), .sh (.tup ds), .un, .un]) (fun e he r ⟨a, b, er⟩ => by
          subst er
          obtain ⟨p, hp, rfl⟩ := mem_zip_any he
          have pl : plainD p.1 = true := List.all_eq_true.mp h _ (List.of_mem_zip hp).1
          have w := is_whole_any pl
          cases hb : inB p.1 p.2 with
          | true =>
            rw [if_neg (by simp [hb])]
            obtain ⟨i, m⟩ := p
            cases i with
            | int i =>
              have hb' : 0 ≤ i ∧ i < m := by simpa [inB] using hb
              have w2 : d_is_whole [D.int i] = .ok (.bl true) := w
              refine ⟨_, ?_, .sh (.int i), .sh (.int m), rfl⟩
              have z1 : ¬ i < 0 := by omega
              have z2 : ¬ m ≤ i := by omega
              simp [Rounds_has_l1, w2, z1, z2]
            | _ => simp [inB] at hb
          | false =>
            rw [if_pos (by simp [hb])]
            obtain ⟨i, m⟩ := p
            cases i with
            | int i =>
              have w2 : d_is_whole [D.int i] = .ok (.bl true) := w
              have hb' : i < 0 ∨ m ≤ i := by
                have : ¬ (0 ≤ i ∧ i < m) := by simpa [inB] using hb
                omega
              by_cases z1 : i < 0
              · simp [Rounds_has_l1, w2, z1]
              · have z2 : m ≤ i := by omega
                simp [Rounds_has_l1, w2, z1, z2]
            | _ =>
              simp only [isW] at w
              simp [Rounds_has_l1, w]) ⟨_, _, rfl⟩
      rw [any_zip (fun a i => !inB a i) _ fun _ _ => rfl] at loop
      have hb : elB rs (.tup ds) = !((ds.zip rs).any fun p => !inB p.1 p.2) := by
        show (decide (ds.length = rs.length) && (ds.zip rs).all fun p => inB p.1 p.2) = _
        rw [decide_eq_true hl, Bool.true_and, List.all_eq_not_any_not]
      rw [hb]
      cases ha : (ds.zip rs).any fun p => !inB p.1 p.2 with
      | true =>
        rw [ha, if_pos rfl] at loop
        simp [e_Rounds_has, it, fld_rounds, hl, z, loop]
      | false =>
        rw [ha, if_neg (by simp)] at loop
        obtain ⟨r', e, _⟩ := loop
        simp [e_Rounds_has, it, fld_rounds, hl, z, e]
    · have hb : elB rs (.tup ds) = false := by
        show (decide (ds.length = rs.length) && (ds.zip rs).all fun p => inB p.1 p.2) = _
        rw [decide_eq_false hl, Bool.false_and]
      have hl' : ¬ ((ds.length : Int) = rs.length) := by omega
      simp [e_Rounds_has, it, fld_rounds, hl, hl', hb]
  | _ => first | (cases h; done) | (simp only at it; simp [e_Rounds_has, it, elB])
theorem has_not {rs : List Int} {d : D} (h : plainT d = true) (hb : elB rs d = false) : d_Rounds_has [gR rs, d] = .ok (.bl false) := by rw [has_any h, hb]
theorem look_not {rs : List Int} {d : D} (h : plainT d = true) (hb : elB rs d = false) : d_Group_look_at [gR rs, d] = .er (.exc 12 []) := by
  refine runD_er (r := [.sh (gR rs), .sh d]) rfl ?_
  simp only [startD, N_Group_look_at, List.length_cons, List.length_nil, List.map_cons, List.map_nil, Nat.reduceAdd, Nat.reduceSub, Nat.zero_add, List.replicate, List.cons_append, List.nil_append]
  simp [e_Group_look_at, mthD, mt_has, has_not h hb]
theorem times_not {rs : List Int} {n d : D} (h : plainT d = true) (hb : elB rs d = false) : d_Group_times [gR rs, n, d] = .er (.exc 12 []) := by
  refine runD_er (r := [.sh (gR rs), .sh n, .sh d, .un]) rfl ?_
  simp only [startD, N_Group_times, List.length_cons, List.length_nil, List.map_cons, List.map_nil, Nat.reduceAdd, Nat.reduceSub, Nat.zero_add, List.replicate, List.cons_append, List.nil_append]
  simp [e_Group_times, mthD, mt_look_at, look_not h hb]
theorem members_turn (self n x : D) : True := trivial
theorem members_ok {rs : List Int} (h : OkR rs) (hb : ∀ n ∈ rs, n ≤ 144) (hp : rs.foldl (· * ·) 1 ≤ 144) : d_Rounds_members [gR rs] = .ok (.lst ((mems rs).map tuI)) := by
  have l7 := h.len
  -- one element made longer
  have c1 : ∀ (n : Int) (x : List Int) (s1 s2 s3 s4 : Slot), 2 ≤ n → n ≤ 144 → x.length < 1000 → Rounds_members_c1 [s1, s2, .sh (.int n), s3, .sh (tuI x), s4] (rangeL 0 n.toNat) = .ok (((List.range n.toNat).map fun i : Nat => x ++ [(i : Int)]).map tuI) := fun n x s1 s2 s3 s4 h2 h3 hx => by
    unfold Rounds_members_c1
    rw [List.map_map]
    refine lcD_range _ fun k hk => ⟨rfl, ?_⟩
    have hl : x.length + 1 ≤ lim := by unfold lim; omega
    have l1 : 1 ≤ lim := by decide
    simp [wipeR, hl, l1]
  have bound : ∀ (l : List Int) (S : List (List Int)), (∀ n ∈ l, 2 ≤ n) → S.length ≤ (l.foldl memsStep S).length := fun l => by
    induction l with
    | nil => intro S _; exact Nat.le_refl _
    | cons n l ih =>
      intro S hl
      have := ih (memsStep S n) fun m hm => hl m (List.mem_cons_of_mem _ hm)
      have hn := hl n List.mem_cons_self
      rw [step_len] at this
      have : S.length * 1 ≤ S.length * n.toNat := Nat.mul_le_mul_left _ (by omega)
      rw [List.foldl_cons]
      omega
  have tot : (mems rs).length ≤ 144 := by
    have := mems_len (rs := rs) fun n hn => by have := h.two n hn; omega
    omega
  obtain ⟨r', loop, s2, s3, s4, rfl⟩ := forD_row (pre0 := rs) (f := Rounds_members_l3) D.int (fun pre r => ∃ s2 s3 s4, r = [.sh (gR rs), .sh (.lst ((mems pre).map tuI)), s2, s3, s4, .un]) (ds := rs) (pre := []) (r := [.sh (gR rs), .sh (.lst [.tup []]), .un, .un, .un, .un]) (fun pre n hpre r ⟨s2, s3, s4, e⟩ => by
    subst e
    obtain ⟨post, hpost⟩ := hpre
    have hn : n ∈ rs := by rw [← hpost]; simp
    have n2 := h.two n hn
    have n3 := hb n hn
    have lenp : pre.length < 1000 := by
      have := congrArg List.length hpost
      simp at this
      omega
    have elen : ∀ x ∈ mems pre, x.length < 1000 := fun x hx => by
      have := (mem_mems.mp hx).len
      omega
    have small : (memsStep (mems pre) n).length ≤ 144 := by
      have e : mems rs = post.foldl memsStep (memsStep (mems pre) n) := by
        unfold mems
        rw [← hpost, List.foldl_append, List.foldl_append]
        rfl
      have := bound post (memsStep (mems pre) n) fun m hm => h.two m (by rw [← hpost]; simp [hm])
      rw [← e] at this
      omega
    have r1 : rng1 [.int n] = .ok (rangeL 0 n.toNat) := rng1_ok (by omega) (by omega)
    obtain ⟨r2, in2, t4, rfl⟩ := forD_row (pre0 := mems pre) (f := Rounds_members_l2) tuI (fun done r => ∃ t4, r = [.sh (gR rs), .sh (.lst ((mems pre).map tuI)), .sh (.int n), .ow .flat (.lst ((memsStep done n).map tuI)), t4, .un]) (ds := mems pre) (pre := []) (r := [.sh (gR rs), .sh (.lst ((mems pre).map tuI)), .sh (.int n), .ow .flat (.lst []), s4, .un]) (fun done x hd r ⟨t4, e⟩ => by
      subst e
      obtain ⟨rest, hr⟩ := hd
      have hx : x ∈ mems pre := by rw [← hr]; simp
      have eq : memsStep (done ++ [x]) n = memsStep done n ++ (List.range n.toNat).map fun i : Nat => x ++ [(i : Int)] := by
        unfold memsStep
        simp
      have le : (memsStep done n).length + ((List.range n.toNat).map fun i : Nat => x ++ [(i : Int)]).length ≤ lim := by
        rw [← List.length_append, ← eq, step_len]
        rw [step_len, ← hr] at small
        simp at small
        have : (done ++ [x]).length * n.toNat ≤ (done.length + (rest.length + 1)) * n.toNat := Nat.mul_le_mul_right _ (by simp)
        unfold lim
        omega
      have q := c1 n x (.sh (gR rs)) (.sh (.lst ((mems pre).map tuI))) (.ow .flat (.lst ((memsStep done n).map tuI))) .un n2 n3 (elen x hx)
      have l0 : ((List.range n.toNat).map fun i : Nat => x ++ [(i : Int)]).length ≤ lim := by omega
      generalize ((List.range n.toNat).map fun i : Nat => x ++ [(i : Int)]) = L at *
      refine ⟨_, ?_, .sh (tuI x), rfl⟩
      rw [eq]
      simp [Rounds_members_l2, extG, ownL, r1, q, le, l0]) rfl ⟨_, rfl⟩
    refine ⟨[.sh (gR rs), .sh (.lst ((mems (pre ++ [n])).map tuI)), .sh (.int n), .sh (.lst ((memsStep (mems pre) n).map tuI)), t4, .un], ?_, _, _, _, rfl⟩
    have eq : mems (pre ++ [n]) = memsStep (mems pre) n := by unfold mems; rw [List.foldl_append]; rfl
    simp only [List.nil_append] at in2
    rw [eq]
    simp [Rounds_members_l3, in2, freeze]) rfl ⟨_, _, _, rfl⟩
  simp only [List.nil_append] at loop
  refine runD_rt rfl ?_
  simp only [startD, N_Rounds_members, List.length_cons, List.length_nil, List.map_cons, List.map_nil, Nat.reduceAdd, Nat.reduceSub, Nat.zero_add, List.replicate, List.cons_append, List.nil_append]
  have l0 : 0 ≤ lim := by decide
  have l1 : 1 ≤ lim := by decide
  simp [e_Rounds_members, fld_rounds, loop, l0, l1]
theorem size_ok {rs : List Int} (g : OkG rs) : d_Group_size [gR rs] = .ok (.int (rs.foldl (· * ·) 1)) := by
  refine runD_rt rfl ?_
  simp only [startD, N_Group_size, List.length_cons, List.length_nil, List.map_cons, List.map_nil, Nat.reduceAdd, Nat.reduceSub, Nat.zero_add, List.replicate, List.cons_append, List.nil_append]
  have m := members_ok g.ok g.most g.prod
  have l := mems_len (rs := rs) fun n hn => by have := g.ok.two n hn; omega
  simp [e_Group_size, mthD, mt_members, m, l]
theorem even_ok (rs : List Int) : d_Rounds_is_even [gR rs] = .ok (.bl true) := by kernel_rfl
theorem is_rounds (rs : List Int) : isD isC isU (gR rs) (.cls 0) = .ok (.bl true) := by kernel_rfl
theorem groups_ok {lo up : List Int} (g1 : OkG lo) (g2 : OkG up) (h1 : lo.foldl (· * ·) 1 ≤ 16) (h2 : up.foldl (· * ·) 1 ≤ 9) : d_look_at_groups [gR lo, gR up] = .ok .non := by
  refine runD_nx (r := [.sh (gR lo), .sh (gR up)]) rfl ?_
  simp only [startD, N_look_at_groups, List.length_cons, List.length_nil, List.map_cons, List.map_nil, Nat.reduceAdd, Nat.reduceSub, Nat.zero_add, List.replicate, List.cons_append, List.nil_append]
  have z1 : ¬ (16 : Int) < lo.foldl (· * ·) 1 := by omega
  have z2 : ¬ (9 : Int) < up.foldl (· * ·) 1 := by omega
  simp [e_look_at_groups, mthD, mt_size, size_ok g1, size_ok g2, mt_is_even, even_ok, is_rounds, z1, z2]
theorem fld_lower (lo up : List Int) (k : List D) : fldD (plOf [2] "lower") (.obj 2 (gR lo :: gR up :: k)) = .ok (gR lo) := by
  have e : plOf [2] "lower" 2 = some 0 := by kernel_rfl
  unfold fldD
  simp [e]
theorem fld_upper (lo up : List Int) (k : List D) : fldD (plOf [2] "upper") (.obj 2 (gR lo :: gR up :: k)) = .ok (gR up) := by
  have e : plOf [2] "upper" 2 = some 1 := by kernel_rfl
  unfold fldD
  simp [e]
theorem fld_kept (lo up : List Int) (d : D) : fldD (plOf [2] "kept") (.obj 2 [gR lo, gR up, d]) = .ok d := by
  have e : plOf [2] "kept" 2 = some 2 := by kernel_rfl
  unfold fldD
  simp [e]
/-- two groups that make a table -/
structure OkT (lo up : List Int) : Prop where
  g1 : OkG lo
  g2 : OkG up
  p1 : lo.foldl (· * ·) 1 ≤ 16
  p2 : up.foldl (· * ·) 1 ≤ 9
/-- carries -/
def OkC (lo up : List Int) (c : List Int → List Int → List Int) : Prop := ∀ x y, OkE up x → OkE up y → OkE lo (c x y)
theorem OkT.small {lo up : List Int} (t : OkT lo up) : up ∈ smallUps := small_ups t.g2.ok.two t.p2
theorem OkT.mems_le {lo up : List Int} (t : OkT lo up) : (mems up).length ≤ 9 := by
  have := mems_len (rs := up) fun n hn => by have := t.g2.ok.two n hn; omega
  have := t.p2
  omega
theorem l_two : (2 : Nat) ≤ lim := by decide
/-- the first two that break the evenness -/
def break2 (up : List Int) (c : List Int → List Int → List Int) : Option D := (mems up).findSome? fun x => (mems up).findSome? fun y => if c x y = c y x then none else some (.tup [tuI x, tuI y])
def orNon : Option D → D
  | some d => d
  | none => .non
/-- the rule for three at three elements -/
def ruleAt (lo up : List Int) (c : List Int → List Int → List Int) (x y z : List Int) : Bool := decide (putV lo (c x y) (c (putV up x y) z) = putV lo (c y z) (c x (putV up y z)))
def break3 (lo up : List Int) (c : List Int → List Int → List Int) : Option D := (mems up).findSome? fun x => (mems up).findSome? fun y => (mems up).findSome? fun z => if ruleAt lo up c x y z = true then none else some (.tup [tuI x, tuI y, tuI z])
/-- the same carries -/
def sameC (up : List Int) (c c' : List Int → List Int → List Int) : Bool := decide (∀ p ∈ prs up, c p.1 p.2 = c' p.1 p.2)
theorem q_spread_ok (ns : List Int) (k : Int) (hlen : ns.length ≤ 63) (h0 : 0 ≤ k) (h1 : k ≤ 1000000) : ∃ c, d_q_spread [.scr ns, .int k] = .ok (.int c) := by
  have go : ∃ c, e_q_spread (startD N_q_spread.length [.scr ns, .int k]) = .rt (.int c) := by
    have st : startD N_q_spread.length [.scr ns, .int k] = [.sh (.scr ns), .sh (.int k), .un, .un, .un] := rfl
    rw [st]
    unfold e_q_spread
    have m2 := mulD_small (i := k + 3) (j := k + 5) (.inr ⟨by omega, by omega⟩)
    have m3 := mulD_small (i := (k + 3) * (k + 5)) (j := 69621) (.inr ⟨by omega, by omega⟩)
    have m1 := fun c : Int => mulD_small (i := c) (j := 48271) (.inr ⟨by omega, by omega⟩)
    have m4 := fun c : Int => mulD_small (i := c) (j := 16807) (.inr ⟨by omega, by omega⟩)
    by_cases hn : 0 < ns.length
    · have hm := Int.emod_nonneg k (b := (ns.length : Int)) (by omega)
      have hm2 := Int.emod_lt_of_pos k (b := (ns.length : Int)) (by omega)
      have hix : ixD (.scr ns) (.int (k % ns.length)) = .ok (.int (ns.getD (k % ns.length).toNat 0)) := by
        rw [ixD_scr, atI_getD hm hm2]
      have mdl := modD_ok (i := k) (j := (ns.length : Int)) (by omega)
      generalize ns.getD (k % ns.length).toNat 0 = c at hix
      by_cases hb : 1 < ns.length
      · have hz : (0 : Int) < (ns.length : Int) - 1 := by omega
        have hz1 : (1 : Int) < (ns.length : Int) := by omega
        have a0 := Int.emod_nonneg k (b := (ns.length : Int) - 1) (by omega)
        have a1 := Int.emod_lt_of_pos k (b := (ns.length : Int) - 1) hz
        have md := modD_ok (i := k) (j := (ns.length : Int) - 1) hz
        have i0 : ixD (.scr ns) (.int 0) = .ok (.int (ns.getD 0 0)) := by
          rw [ixD_scr, atI_getD (by omega) (by omega)]; rfl
        have i1 : ixD (.scr ns) (.int (1 + k % ((ns.length : Int) - 1))) = .ok (.int (ns.getD (1 + k % ((ns.length : Int) - 1)).toNat 0)) := by
          rw [ixD_scr, atI_getD (by omega) (by omega)]
        generalize ns.getD (1 + k % ((ns.length : Int) - 1)).toNat 0 = c1 at i1
        by_cases hs : ns.getD 0 0 % 2 = 1
        · have hd : bits ((ns.length : Int) - 1) < 250 := by
            have := bits_lt (i := (ns.length : Int) - 1) (n := 8) (by omega) (by omega)
            omega
          · have dv := divD_ok (i := k) (j := (ns.length : Int) - 1) hz hd
            have q0 : 0 ≤ k / ((ns.length : Int) - 1) := Int.ediv_nonneg h0 (by omega)
            have q1 : k / ((ns.length : Int) - 1) ≤ k := Int.ediv_le_self _ h0
            have m5 := mulD_small (i := 31) (j := k / ((ns.length : Int) - 1)) (.inr ⟨by omega, by omega⟩)
            have sh : shrD (.int c1) (.int (31 * (k / ((ns.length : Int) - 1)))) = .ok (.int (c1 / 2 ^ (31 * (k / ((ns.length : Int) - 1))).toNat)) := if_pos (by omega)
            generalize 31 * (k / ((ns.length : Int) - 1)) = e at m5 sh
            generalize c1 / 2 ^ e.toNat = z at sh
            have mz := modD_ok (i := z) (j := 2147483648) (by omega)
            refine ⟨z % 2147483648, ?_⟩
            generalize z % 2147483648 = R at mz ⊢
            simp [-ixD_scr, -List.getD_eq_getElem?_getD, i0, hz, hz1, hs, modD_ok, md, i1, dv, m5, sh, mz]
        · refine ⟨(c % 1000000007 * 48271 + (k + 3) * (k + 5) * 69621) % 2147483647 * 16807 % 2147483629, ?_⟩
          simp [-ixD_scr, -List.getD_eq_getElem?_getD, i0, hz, hz1, hs, modD_ok, hn, mdl, hix, m1, m2, m3, m4]
      · have hz : ¬ (0 : Int) < (ns.length : Int) - 1 := by omega
        have hz1 : ¬ (1 : Int) < (ns.length : Int) := by omega
        refine ⟨(c % 1000000007 * 48271 + (k + 3) * (k + 5) * 69621) % 2147483647 * 16807 % 2147483629, ?_⟩
        simp [-ixD_scr, -Int.not_lt, hz, hz1, hn, modD_ok, mdl, hix, m1, m2, m3, m4]
    · have hz : ¬ (0 : Int) < (ns.length : Int) - 1 := by omega
      have hz1 : ¬ (1 : Int) < (ns.length : Int) := by omega
      refine ⟨(0 % 1000000007 * 48271 + (k + 3) * (k + 5) * 69621) % 2147483647 * 16807 % 2147483629, ?_⟩
      simp [-Int.not_lt, -Nat.not_lt, hz, hz1, hn, modD_ok, m1, m2, m3, m4]
  obtain ⟨c, e⟩ := go
  exact ⟨c, runD_rt rfl e⟩
theorem q_all_ok {rs : List Int} (h : OkR rs) (hb : ∀ n ∈ rs, n ≤ 144) (hp : rs.foldl (· * ·) 1 ≤ 144) : d_q_all [tuI rs] = .ok (.lst ((mems rs).map tuI)) := by
  have l7 := h.len
  -- one element made longer
  have c1 : ∀ (n : Int) (x : List Int) (s1 s2 s3 s4 : Slot), 2 ≤ n → n ≤ 144 → x.length < 1000 → q_all_c1 [s1, s2, .sh (.int n), s3, .sh (tuI x), s4] (rangeL 0 n.toNat) = .ok (((List.range n.toNat).map fun i : Nat => x ++ [(i : Int)]).map tuI) := fun n x s1 s2 s3 s4 h2 h3 hx => by
    unfold q_all_c1
    rw [List.map_map]
    refine lcD_range _ fun k hk => ⟨rfl, ?_⟩
    have hl : x.length + 1 ≤ lim := by unfold lim; omega
    have l1 : 1 ≤ lim := by decide
    simp [wipeR, hl, l1]
  have bound : ∀ (l : List Int) (S : List (List Int)), (∀ n ∈ l, 2 ≤ n) → S.length ≤ (l.foldl memsStep S).length := fun l => by
    induction l with
    | nil => intro S _; exact Nat.le_refl _
    | cons n l ih =>
      intro S hl
      have := ih (memsStep S n) fun m hm => hl m (List.mem_cons_of_mem _ hm)
      have hn := hl n List.mem_cons_self
      rw [step_len] at this
      have : S.length * 1 ≤ S.length * n.toNat := Nat.mul_le_mul_left _ (by omega)
      rw [List.foldl_cons]
      omega
  have tot : (mems rs).length ≤ 144 := by
    have := mems_len (rs := rs) fun n hn => by have := h.two n hn; omega
    omega
  obtain ⟨r', loop, s2, s3, s4, rfl⟩ := forD_row (pre0 := rs) (f := q_all_l3) D.int (fun pre r => ∃ s2 s3 s4, r = [.sh (tuI rs), .sh (.lst ((mems pre).map tuI)), s2, s3, s4, .un]) (ds := rs) (pre := []) (r := [.sh (tuI rs), .sh (.lst [.tup []]), .un, .un, .un, .un]) (fun pre n hpre r ⟨s2, s3, s4, e⟩ => by
    subst e
    obtain ⟨post, hpost⟩ := hpre
    have hn : n ∈ rs := by rw [← hpost]; simp
    have n2 := h.two n hn
    have n3 := hb n hn
    have lenp : pre.length < 1000 := by
      have := congrArg List.length hpost
      simp at this
      omega
    have elen : ∀ x ∈ mems pre, x.length < 1000 := fun x hx => by
      have := (mem_mems.mp hx).len
      omega
    have small : (memsStep (mems pre) n).length ≤ 144 := by
      have e : mems rs = post.foldl memsStep (memsStep (mems pre) n) := by
        unfold mems
        rw [← hpost, List.foldl_append, List.foldl_append]
        rfl
      have := bound post (memsStep (mems pre) n) fun m hm => h.two m (by rw [← hpost]; simp [hm])
      rw [← e] at this
      omega
    have r1 : rng1 [.int n] = .ok (rangeL 0 n.toNat) := rng1_ok (by omega) (by omega)
    obtain ⟨r2, in2, t4, rfl⟩ := forD_row (pre0 := mems pre) (f := q_all_l2) tuI (fun done r => ∃ t4, r = [.sh (tuI rs), .sh (.lst ((mems pre).map tuI)), .sh (.int n), .ow .flat (.lst ((memsStep done n).map tuI)), t4, .un]) (ds := mems pre) (pre := []) (r := [.sh (tuI rs), .sh (.lst ((mems pre).map tuI)), .sh (.int n), .ow .flat (.lst []), s4, .un]) (fun done x hd r ⟨t4, e⟩ => by
      subst e
      obtain ⟨rest, hr⟩ := hd
      have hx : x ∈ mems pre := by rw [← hr]; simp
      have eq : memsStep (done ++ [x]) n = memsStep done n ++ (List.range n.toNat).map fun i : Nat => x ++ [(i : Int)] := by
        unfold memsStep
        simp
      have le : (memsStep done n).length + ((List.range n.toNat).map fun i : Nat => x ++ [(i : Int)]).length ≤ lim := by
        rw [← List.length_append, ← eq, step_len]
        rw [step_len, ← hr] at small
        simp at small
        have : (done ++ [x]).length * n.toNat ≤ (done.length + (rest.length + 1)) * n.toNat := Nat.mul_le_mul_right _ (by simp)
        unfold lim
        omega
      have q := c1 n x (.sh (tuI rs)) (.sh (.lst ((mems pre).map tuI))) (.ow .flat (.lst ((memsStep done n).map tuI))) .un n2 n3 (elen x hx)
      have l0 : ((List.range n.toNat).map fun i : Nat => x ++ [(i : Int)]).length ≤ lim := by omega
      generalize ((List.range n.toNat).map fun i : Nat => x ++ [(i : Int)]) = L at *
      refine ⟨_, ?_, .sh (tuI x), rfl⟩
      rw [eq]
      simp [q_all_l2, extG, ownL, r1, q, le, l0]) rfl ⟨_, rfl⟩
    refine ⟨[.sh (tuI rs), .sh (.lst ((mems (pre ++ [n])).map tuI)), .sh (.int n), .sh (.lst ((memsStep (mems pre) n).map tuI)), t4, .un], ?_, _, _, _, rfl⟩
    have eq : mems (pre ++ [n]) = memsStep (mems pre) n := by unfold mems; rw [List.foldl_append]; rfl
    simp only [List.nil_append] at in2
    rw [eq]
    simp [q_all_l3, in2, freeze]) rfl ⟨_, _, _, rfl⟩
  simp only [List.nil_append] at loop
  refine runD_rt rfl ?_
  simp only [startD, N_q_all, List.length_cons, List.length_nil, List.map_cons, List.map_nil, Nat.reduceAdd, Nat.reduceSub, Nat.zero_add, List.replicate, List.cons_append, List.nil_append]
  have l0 : 0 ≤ lim := by decide
  have l1 : 1 ≤ lim := by decide
  simp [e_q_all, loop, l0, l1]
theorem q_many_ok {rs x : List Int} {n : Int} (h : OkR rs) (hx : OkE rs x) (hb : ∀ n ∈ rs, n ≤ 144) : d_q_many [tuI rs, .int n, tuI x] = .ok (tuI (timesV rs n x)) := by
  refine runD_rt rfl ?_
  simp only [startD, N_q_many, List.length_cons, List.length_nil, List.map_cons, List.map_nil, Nat.reduceAdd, Nat.reduceSub, Nat.zero_add, List.replicate, List.cons_append, List.nil_append]
  have c : q_many_c1 [.sh (tuI rs), .sh (.int n), .sh (tuI x), .un, .un] (zipL2 (x.map .int) (rs.map .int)) = .ok ((timesV rs n x).map .int) := by
    unfold q_many_c1 timesV
    rw [List.map_map]
    refine lcD_zip2 _ fun p hp => ⟨rfl, ?_⟩
    obtain ⟨a, b⟩ := hx.at_ p hp
    have m1 := hb _ (List.of_mem_zip hp).2
    have m2 : mulD (.int n) (.int p.1) = .ok (.int (n * p.1)) := mulD_small (.inr ⟨by omega, by omega⟩)
    simp [wipeR, m2, modD_ok (show 0 < p.2 by omega)]
  have l7 := h.len
  have hl : (timesV rs n x).length ≤ lim := by rw [timesV_len rs x n hx.len]; unfold lim; omega
  have z : zip2D [tuI x, tuI rs] = .ok (zipL2 (x.map .int) (rs.map .int)) := rfl
  simp [e_q_many, z, c, hl]
theorem q_divisor_ok (a b : Nat) (hb : b < 100000) : d_q_divisor [.int a, .int b] = .ok (.int (Nat.gcd a b : Nat)) := by
  refine runD_rt rfl ?_
  simp only [startD, N_q_divisor, List.length_cons, List.length_nil, List.map_cons, List.map_nil, Nat.reduceAdd, Nat.reduceSub, Nat.zero_add, List.replicate, List.cons_append, List.nil_append]
  obtain ⟨r', loop, s1, rfl⟩ := loopD_down (c := q_divisor_w1c) (b := q_divisor_w1) (fun k r => ∃ (x y : Nat), r = [.sh (.int x), .sh (.int y)] ∧ y ≤ k ∧ Nat.gcd x y = Nat.gcd a b) (fun r => ∃ s1, r = [.sh (.int (Nat.gcd a b : Nat)), s1]) (by
    rintro k r ⟨x, y, rfl, hk, hg⟩
    by_cases hy : y = 0
    · subst hy
      rw [Nat.gcd_zero_right] at hg
      exact .inl ⟨by simp [q_divisor_w1c], _, by rw [hg]⟩
    · have hy' : 0 < y := by omega
      have l := Nat.mod_lt x hy'
      refine .inr ⟨k - 1, [.sh (.int y), .sh (.int ((x % y : Nat) : Int))], by omega, by simp [q_divisor_w1c, hy], ?_, y, x % y, rfl, by omega, ?_⟩
      · have md := modD_ok (i := x) (j := y) (by omega)
        simp [q_divisor_w1, md, parG]
      · rw [← hg, Nat.gcd_comm x y, Nat.gcd_rec y x, Nat.gcd_comm]) (k := b) (r := [.sh (.int a), .sh (.int b)]) ⟨a, b, rfl, Nat.le_refl _, rfl⟩ (by omega)
  simp [e_q_divisor, loop]
theorem divisor_int {n m : Int} (h0 : 0 ≤ n) (h1 : n < 100000) (h2 : 0 ≤ m) : d_q_divisor [.int m, .int n] = .ok (.int (gcV n m)) := by
  have e := q_divisor_ok m.toNat n.toNat (by omega)
  rw [Int.toNat_of_nonneg h0, Int.toNat_of_nonneg h2] at e
  exact e
theorem q_whole_int (i : Int) : d_q_whole [.int i] = .ok (.bl true) := by kernel_rfl

theorem extG_ok {i : Nat} {f : Env → Res D} {r : Env} {xs ys : List D} (h : r[i]? = some (.ow .flat (.lst xs))) (hf : f r = .ok (.lst ys)) (hl : xs.length + ys.length ≤ lim) : extG i f r = .nx (r.set i (.ow .flat (.lst (xs ++ ys)))) := by
  have o : ownL i r = some xs := by unfold ownL; rw [h]
  unfold extG
  rw [o, hf]
  simp [hl]
theorem step_pairs {up : List Int} {i : Nat} {xs ys ds : List D} {a0 a2 a3 : Slot} (F : Env → Res D) (R : List D → Res (List D)) (c1 : Env → List D → Res (List D))
    (hF : F [a0, .ow .flat (.lst xs), .sh (.int i), a3] = .ok (tuI up)) (ln : one lenD [tuI up] = .ok (.int up.length)) (ad : addD (.int (i : Nat)) (.int 1) = .ok (.int ((i : Int) + 1)))
    (rl : R [.int ((i : Int) + 1), .int up.length] = .ok ds) (hc : c1 [a0, .ow .flat (.lst xs), .sh (.int i), a3] ds = .ok ys) (hl : xs.length + ys.length ≤ lim) (hy : ys.length ≤ lim) :
    ((into ((nameG 2) (.int i) [a0, .ow .flat (.lst xs), a2, a3])).seq fun r => (extG 1 (fun r => ((((getS 2 r) >>= fun x => (.ok (.int 1)) >>= fun y => addD x y) >>= fun d => (((F r >>= fun d => (.ok []) >>= fun ds => .ok (d :: ds)) >>= one lenD) >>= fun d => (.ok []) >>= fun ds => .ok (d :: ds)) >>= fun ds => .ok (d :: ds)) >>= R) >>= fun ds => c1 r ds >>= lstD) r)) = .nx [a0, .ow .flat (.lst (xs ++ ys)), .sh (.int i), a3] := by
  simp only [into, nameG, nx_seq, List.set_cons_succ, List.set_cons_zero]
  exact extG_ok rfl (by simp only [getS_succ, getS0, ok_bind, ad, hF, ln, rl, hc, lstD, hy, if_true]) hl
theorem placeRows_len (n : Nat) : ∀ l : List Nat, (l.flatMap (placeRow n)).length ≤ l.length * n := fun l => by
  induction l with
  | nil => simp
  | cons a l ih =>
    rw [List.flatMap_cons, List.length_append, List.length_cons, Nat.succ_mul]
    have : (placeRow n a).length ≤ n := by unfold placeRow; simp
    omega
theorem rng_row {n i : Nat} (h : n ≤ 1000) (hi : i < n) : rng2 [.int ((i : Int) + 1), .int n] = .ok ((placeRow n i).map fun p => D.int (p.2 : Nat)) := by
  rw [rng2_ok (by omega) (by omega) (by omega) (by omega)]
  have : ((n : Int) - ((i : Int) + 1)).toNat = n - (i + 1) := by omega
  rw [this]
  unfold rangeL placeRow
  rw [List.map_map]
  refine congrArg Res.ok (List.map_congr_left fun k _ => ?_)
  show D.int ((i : Int) + 1 + (k : Int)) = D.int ((i + 1 + k : Nat) : Int)
  rw [Int.natCast_add, Int.natCast_add]
  rfl
theorem pairs_of_ok {up : List Int} (h : OkR up) : d_pairs_of [gR up] = .ok (.lst ((placePairs up.length).map nnD)) := by
  have l7 := h.len
  have l2 := l_two
  have rg : rng1 [.int up.length] = .ok (rangeL 0 up.length) := by rw [rng1_ok (by omega) (by omega)]; simp
  obtain ⟨r1, lp, s2, rfl⟩ := forD_row (pre0 := List.range up.length) (f := pairs_of_l2) (fun i : Nat => D.int i) (fun done r => ∃ s2, r = [.sh (gR up), .ow .flat (.lst ((done.flatMap (placeRow up.length)).map nnD)), s2, .un]) (ds := List.range up.length) (pre := []) (r := [.sh (gR up), .ow .flat (.lst []), .un, .un]) (fun done i hd r ⟨s2, e⟩ => by
    subst e
    obtain ⟨rest, hr⟩ := hd
    have hi : i < up.length := List.mem_range.mp (by rw [← hr]; simp)
    have hdl := congrArg List.length hr
    simp at hdl
    have pl := placeRows_len up.length done
    have pm : done.length * up.length ≤ 7 * 7 := Nat.mul_le_mul (by omega) l7
    have rl := rng_row (n := up.length) (i := i) (by omega) hi
    have pr : (placeRow up.length i).length ≤ 7 := by unfold placeRow; simp; omega
    have hc : pairs_of_c1 [.sh (gR up), .ow .flat (.lst ((done.flatMap (placeRow up.length)).map nnD)), .sh (.int i), .un] ((placeRow up.length i).map fun p => D.int (p.2 : Nat)) = .ok ((placeRow up.length i).map nnD) := by
      unfold pairs_of_c1
      refine lcD_gmap _ _ fun p hp => ⟨_, rfl, rfl, ?_⟩
      unfold placeRow at hp
      obtain ⟨k, _, rfl⟩ := List.mem_map.mp hp
      simp [wipeR, l2]
    have ft : fldD (plOf [0] "rounds") (gR up) = .ok (tuI up) := fld_rounds up
    refine ⟨_, ?_, .sh (.int i), rfl⟩
    rw [List.flatMap_append, List.map_append, show [i].flatMap (placeRow up.length) = placeRow up.length i by simp]
    unfold pairs_of_l2
    have := step_pairs (a2 := s2) (up := up) (fun r => (getS 0 r) >>= fldD (plOf [0] "rounds")) rng2 pairs_of_c1 (by simp [ft]) (by simp) (by simp) rl hc (by rw [List.length_map, List.length_map]; unfold lim; omega) (by rw [List.length_map]; unfold lim; omega)
    exact this) (by simp) ⟨.un, rfl⟩
  rw [← rangeL_nat] at lp
  have l0 : 0 ≤ lim := by decide
  first | refine runD_rt rfl ?_ | refine runO_rt rfl ?_
  simp only [startD, N_pairs_of, List.length_cons, List.length_nil, List.map_cons, List.map_nil, Nat.reduceAdd, Nat.reduceSub, Nat.zero_add, List.replicate, List.cons_append, List.nil_append]
  simp only [List.nil_append] at lp
  unfold placePairs
  simp [e_pairs_of, l0, fld_rounds, rg, lp, freeze]
/-- the elements that are their own rests; those that both counts bring to nought -/
def restsV (lo : List Int) (n : Int) : List (List Int) := (mems lo).filter fun a => decide (restV lo n a = a)
def oddsV (lo : List Int) (n m : Int) : List (List Int) := (mems lo).filter fun a => decide (timesV lo n a = zeroV lo) && decide (timesV lo m a = zeroV lo)
theorem lcD_pick {α : Type} {g : D → Env → Res Env} {t : Env → Res Bool} {f : Env → Res D} {r : Env} (A : α → D) (b : α → Bool) (F : α → D) : ∀ {xs : List α}, (∀ a ∈ xs, ∃ r1, g (A a) r = .ok r1 ∧ t r1 = .ok (b a) ∧ (b a = true → f r1 = .ok (F a))) → lcD g t f r (xs.map A) = .ok ((xs.filter b).map F)
  | [], _ => rfl
  | a :: xs, h => by
    obtain ⟨r1, h1, h2, h3⟩ := h a List.mem_cons_self
    have ih := lcD_pick A b F fun c hc => h c (List.mem_cons_of_mem _ hc)
    rw [List.map_cons, List.filter_cons]
    cases hb : b a with
    | true =>
      rw [hb] at h2
      simp [lcD, h1, h2, h3 hb, ih]
    | false =>
      rw [hb] at h2
      simp [lcD, h1, h2, ih]
theorem rests_for_ok {lo : List Int} {n : Int} (g : OkG lo) (h0 : 0 ≤ n) (h1 : n < 100000) : d_rests_for [gR lo, .int n] = .ok (.lst ((restsV lo n).map tuI)) := by
  have m := members_ok g.ok g.most g.prod
  have ml := mems_len (rs := lo) fun n hn => by have := g.ok.two n hn; omega
  have gp := g.prod
  have c : rests_for_c1 [.sh (gR lo), .sh (.int n), .un] ((mems lo).map tuI) = .ok ((restsV lo n).map tuI) := by
    unfold rests_for_c1 restsV
    refine lcD_pick tuI _ tuI fun a ha => ⟨[.sh (gR lo), .sh (.int n), .sh (tuI a)], rfl, ?_, fun _ => rfl⟩
    have r := rest_ok g.ok (mem_mems.mp ha) h0 h1
    simp [r, eqD_tI]
  have fl : (restsV lo n).length ≤ (mems lo).length := List.length_filter_le _ _
  have hl : (restsV lo n).length ≤ lim := by unfold lim; omega
  refine runD_rt rfl ?_
  simp only [startD, N_rests_for, List.length_cons, List.length_nil, List.map_cons, List.map_nil, Nat.reduceAdd, Nat.reduceSub, Nat.zero_add, List.replicate, List.cons_append, List.nil_append]
  generalize restsV lo n = X at *
  simp [e_rests_for, mthD, mt_members, m, c, hl]
theorem odds_for_ok {lo : List Int} {n k : Int} (g : OkG lo) (h0 : 0 ≤ n) (h1 : n < 100000) (h2 : 0 ≤ k) (h3 : k < 100000) : d_odds_for [gR lo, .int n, .int k] = .ok (.lst ((oddsV lo n k).map tuI)) := by
  have m := members_ok g.ok g.most g.prod
  have ml := mems_len (rs := lo) fun n hn => by have := g.ok.two n hn; omega
  have gp := g.prod
  have nt := nought_ok g.ok
  have c : odds_for_c1 [.sh (gR lo), .sh (.int n), .sh (.int k), .sh (tuI (zeroV lo)), .un] ((mems lo).map tuI) = .ok ((oddsV lo n k).map tuI) := by
    unfold odds_for_c1 oddsV
    refine lcD_pick tuI _ tuI fun a ha => ⟨[.sh (gR lo), .sh (.int n), .sh (.int k), .sh (tuI (zeroV lo)), .sh (tuI a)], rfl, ?_, fun _ => rfl⟩
    have t1 := times_ok (k := 20) (n := n) g.ok (mem_mems.mp ha) (by omega) (by omega) (by omega)
    have t2 := times_ok (k := 20) (n := k) g.ok (mem_mems.mp ha) (by omega) (by omega) (by omega)
    by_cases e : timesV lo n a = zeroV lo
    · simp [mthD, mt_times, t1, t2, eqD_tI, e]
    · simp [mthD, mt_times, t1, eqD_tI, e]
  have fl : (oddsV lo n k).length ≤ (mems lo).length := List.length_filter_le _ _
  have hl : (oddsV lo n k).length ≤ lim := by unfold lim; omega
  refine runD_rt rfl ?_
  simp only [startD, N_odds_for, List.length_cons, List.length_nil, List.map_cons, List.map_nil, Nat.reduceAdd, Nat.reduceSub, Nat.zero_add, List.replicate, List.cons_append, List.nil_append]
  generalize oddsV lo n k = X at *
  simp [e_odds_for, mthD, mt_members, mt_nought, nt, m, c, hl]

theorem up_at' {up : List Int} (g2 : OkG up) {i : Nat} (hi : i < up.length) : up.getD i 0 ≤ 144 := by
  have e3 : up[i]? = some (up.getD i 0) := by rw [List.getD_eq_getElem?_getD, List.getElem?_eq_getElem hi]; rfl
  exact g2.most _ (List.mem_of_getElem? e3)
theorem fld_roundsU (up : List Int) : fldD (plOf [0] "rounds") (gR up) = .ok (tuI up) := fld_rounds up
def restsL (lo up : List Int) : List (List (List Int)) := up.map (restsV lo)
def oddsL (lo up : List Int) : List (List (List Int)) := (placePairs up.length).map fun p => oddsV lo (up.getD p.1 0) (up.getD p.2 0)
abbrev plD (xs : List (List Int)) : D := .lst (xs.map tuI)
theorem places_of_ok {lo up : List Int} (g1 : OkG lo) (g2 : OkG up) : d_places_of [gR lo, gR up] = .ok (.tup [.lst ((restsL lo up).map plD), .lst ((oddsL lo up).map plD)]) := by
  have l7 := g2.ok.len
  have l2 := l_two
  have po := pairs_of_ok g2.ok
  have fu := fld_roundsU up
  have pl := placeRows_len up.length (List.range up.length)
  rw [List.length_range] at pl
  have pm : up.length * up.length ≤ 7 * 7 := Nat.mul_le_mul l7 l7
  have c1 : places_of_c1 [.sh (gR lo), .sh (gR up), .un, .un, .un, .un] (up.map D.int) = .ok ((restsL lo up).map plD) := by
    unfold places_of_c1 restsL
    rw [List.map_map]
    refine lcD_ints _ fun n hn => ⟨rfl, ?_⟩
    have n2 := g2.ok.two n hn
    have n3 := g2.most n hn
    have r := rests_for_ok (n := n) g1 (by omega) (by omega)
    simp [wipeR, r]
  have c2 : ∀ s2, places_of_c2 [.sh (gR lo), .sh (gR up), s2, .un, .un, .un] ((placePairs up.length).map nnD) = .ok ((oddsL lo up).map plD) := fun s2 => by
    unfold places_of_c2 oddsL
    rw [List.map_map]
    refine lcD_gmap nnD _ fun p hp => ⟨[.sh (gR lo), .sh (gR up), s2, .un, .sh (.int p.1), .sh (.int p.2)], rfl, rfl, ?_⟩
    obtain ⟨b1, b2⟩ := mem_placePairs.mp hp
    have e1 := ixD_tI (xs := up) (i := p.1) (by omega)
    have e2 := ixD_tI (xs := up) (i := p.2) b2
    have u1 := up_at' g2 (i := p.1) (by omega)
    have u2 := up_at' g2 b2
    have w1 := g2.ok.get (i := p.1) (by omega)
    have w2 := g2.ok.get b2
    have o := odds_for_ok (n := up.getD p.1 0) (k := up.getD p.2 0) g1 (by omega) (by omega) (by omega) (by omega)
    simp [-ixD_tup, -List.getD_eq_getElem?_getD, fu, e1, e2, o]
  have h1 : (restsL lo up).length ≤ lim := by unfold restsL lim; rw [List.length_map]; omega
  have h2 : (oddsL lo up).length ≤ lim := by
    unfold oddsL lim
    rw [List.length_map]
    have : (placePairs up.length).length ≤ up.length * up.length := pl
    omega
  refine runD_rt rfl ?_
  simp only [startD, N_places_of, List.length_cons, List.length_nil, List.map_cons, List.map_nil, Nat.reduceAdd, Nat.reduceSub, Nat.zero_add, List.replicate, List.cons_append, List.nil_append]
  generalize restsL lo up = X at *
  generalize oddsL lo up = Y at *
  simp [e_places_of, fu, c1, h1, shareAt, freeze, po, c2, h2, l2]
/-- rows with one of each place -/
def rowsStep (rows : List (List D)) (some : List D) : List (List D) := rows.flatMap fun row => some.map fun one => row ++ [one]
def rowsV (pl : List (List D)) : List (List D) := pl.foldl rowsStep [[]]
theorem rowsStep_len (R : List (List D)) (s : List D) : (rowsStep R s).length = R.length * s.length := by
  unfold rowsStep
  rw [List.length_flatMap]
  simp [sum_const]
theorem rows_grow : ∀ (pl : List (List D)) (S : List (List D)), (∀ s ∈ pl, 0 < s.length) → S.length ≤ (pl.foldl rowsStep S).length
  | [], S, _ => Nat.le_refl _
  | s :: pl, S, h => by
    have := rows_grow pl (rowsStep S s) fun t ht => h t (List.mem_cons_of_mem _ ht)
    have hs := h s List.mem_cons_self
    rw [rowsStep_len] at this
    have : S.length * 1 ≤ S.length * s.length := Nat.mul_le_mul_left _ hs
    rw [List.foldl_cons]
    omega
theorem rowsV_len : ∀ (pl : List (List D)) (S : List (List D)) (k : Nat), (∀ r ∈ S, r.length = k) → ∀ r ∈ pl.foldl rowsStep S, r.length = k + pl.length
  | [], S, k, h => h
  | s :: pl, S, k, h => by
    intro r hr
    rw [List.foldl_cons] at hr
    have := rowsV_len pl (rowsStep S s) (k + 1) (fun r hr => by
      unfold rowsStep at hr
      obtain ⟨a, ha, hr⟩ := List.mem_flatMap.mp hr
      obtain ⟨o, _, rfl⟩ := List.mem_map.mp hr
      simp [h a ha]) r hr
    rw [List.length_cons]
    omega
theorem rows_by_ok {pl : List (List D)} (hne : ∀ s ∈ pl, 0 < s.length) (hl : pl.length ≤ 1000) (hp : (rowsV pl).length ≤ 1000) : d_rows_by [.lst (pl.map .lst)] = .ok (.lst ((rowsV pl).map .tup)) := by
  have l0 : 0 ≤ lim := by decide
  have l1 : 1 ≤ lim := by decide
  have c1 : ∀ (row some : List D) (s0 s1 s2 s3 : Slot), row.length < 1001 → rows_by_c1 [s0, s1, s2, s3, .sh (.tup row), .un] some = .ok ((some.map fun one => row ++ [one]).map .tup) := fun row some s0 s1 s2 s3 h => by
    unfold rows_by_c1
    rw [List.map_map]
    have : some = some.map id := by simp
    rw [show lcD (nameG 5) = lcD (nameG 5) from rfl]
    have e := lcD_gmap (g := nameG 5) (t := fun r => .ok true) (f := fun r => (getS 4 r) >>= fun x => (((getS 5 r) >>= fun d => (.ok []) >>= fun ds => .ok (d :: ds)) >>= tupD) >>= fun y => addD x y) (r := wipeR [s0, s1, s2, s3, .sh (.tup row), .un] [5]) (fun d : D => d) (D.tup ∘ fun one => row ++ [one]) (xs := some) (fun d hd => ⟨[s0, s1, s2, s3, .sh (.tup row), .sh d], rfl, rfl, by
      have hl : row.length + 1 ≤ lim := by unfold lim; omega
      simp [hl, l1]⟩)
    rw [List.map_id'] at e
    exact e
  obtain ⟨r', loop, s2, s3, s4, rfl⟩ := forD_row (pre0 := pl) (f := rows_by_l3) D.lst (fun pre r => ∃ s2 s3 s4, r = [.sh (.lst (pl.map .lst)), .sh (.lst ((rowsV pre).map .tup)), s2, s3, s4, .un]) (ds := pl) (pre := []) (r := [.sh (.lst (pl.map .lst)), .sh (.lst [.tup []]), .un, .un, .un, .un]) (fun pre s hpre r ⟨s2, s3, s4, e⟩ => by
    subst e
    obtain ⟨post, hpost⟩ := hpre
    have lenp : pre.length < 1001 := by
      have := congrArg List.length hpost
      simp at this
      omega
    have rl : ∀ r ∈ rowsV pre, r.length < 1001 := fun r hr => by
      have := rowsV_len pre [[]] 0 (by simp) r hr
      omega
    have small : (rowsStep (rowsV pre) s).length ≤ 1000 := by
      have e : rowsV pl = post.foldl rowsStep (rowsStep (rowsV pre) s) := by
        unfold rowsV
        rw [← hpost, List.foldl_append, List.foldl_append]
        rfl
      have := rows_grow post (rowsStep (rowsV pre) s) fun t ht => hne t (by rw [← hpost]; simp [ht])
      rw [← e] at this
      omega
    obtain ⟨r2, in2, t4, rfl⟩ := forD_row (pre0 := rowsV pre) (f := rows_by_l2) D.tup (fun done r => ∃ t4, r = [.sh (.lst (pl.map .lst)), .sh (.lst ((rowsV pre).map .tup)), .sh (.lst s), .ow .flat (.lst ((rowsStep done s).map .tup)), t4, .un]) (ds := rowsV pre) (pre := []) (r := [.sh (.lst (pl.map .lst)), .sh (.lst ((rowsV pre).map .tup)), .sh (.lst s), .ow .flat (.lst []), s4, .un]) (fun done x hd r ⟨t4, e⟩ => by
      subst e
      obtain ⟨rest, hr⟩ := hd
      have hx : x ∈ rowsV pre := by rw [← hr]; simp
      have eq : rowsStep (done ++ [x]) s = rowsStep done s ++ s.map fun one => x ++ [one] := by
        unfold rowsStep
        simp
      have le : (rowsStep done s).length + (s.map fun one => x ++ [one]).length ≤ lim := by
        rw [← List.length_append, ← eq, rowsStep_len]
        rw [rowsStep_len, ← hr] at small
        simp at small
        have : (done ++ [x]).length * s.length ≤ (done.length + (rest.length + 1)) * s.length := Nat.mul_le_mul_right _ (by simp)
        unfold lim
        omega
      have q := c1 x s (.sh (.lst (pl.map .lst))) (.sh (.lst ((rowsV pre).map .tup))) (.sh (.lst s)) (.ow .flat (.lst ((rowsStep done s).map .tup))) (rl x hx)
      have l0 : (s.map fun one => x ++ [one]).length ≤ lim := by omega
      refine ⟨_, ?_, .sh (.tup x), rfl⟩
      rw [eq]
      generalize (s.map fun one => x ++ [one]) = L at *
      simp [rows_by_l2, extG, ownL, q, le, l0]) rfl ⟨_, rfl⟩
    refine ⟨[.sh (.lst (pl.map .lst)), .sh (.lst ((rowsV (pre ++ [s])).map .tup)), .sh (.lst s), .sh (.lst ((rowsStep (rowsV pre) s).map .tup)), t4, .un], ?_, _, _, _, rfl⟩
    have eq : rowsV (pre ++ [s]) = rowsStep (rowsV pre) s := by unfold rowsV; rw [List.foldl_append]; rfl
    simp only [List.nil_append] at in2
    rw [eq]
    simp [rows_by_l3, l0, in2, freeze]) rfl ⟨_, _, _, rfl⟩
  simp only [List.nil_append] at loop
  refine runD_rt rfl ?_
  simp only [startD, N_rows_by, List.length_cons, List.length_nil, List.map_cons, List.map_nil, Nat.reduceAdd, Nat.reduceSub, Nat.zero_add, List.replicate, List.cons_append, List.nil_append]
  simp [e_rows_by, loop, l0, l1]

theorem restsL_ne {lo up : List Int} (g : OkG lo) : ∀ s ∈ restsL lo up, 0 < s.length ∧ s.length ≤ 144 := fun s hs => by
  unfold restsL at hs
  obtain ⟨n, _, rfl⟩ := List.mem_map.mp hs
  have ml := mems_len (rs := lo) fun n hn => by have := g.ok.two n hn; omega
  have gp := g.prod
  have fl : (restsV lo n).length ≤ (mems lo).length := List.length_filter_le _ _
  refine ⟨List.length_pos_of_mem (a := zeroV lo) ?_, by omega⟩
  unfold restsV
  refine List.mem_filter.mpr ⟨mem_mems.mpr (zero_el g.ok), decide_eq_true ?_⟩
  have zl : (zeroV lo).length = lo.length := by unfold zeroV; simp
  refine ext_getD (by unfold restV; simp [zl]) fun i hi => ?_
  rw [zl] at hi
  have e : (restV lo n (zeroV lo)).getD i 0 = (zeroV lo).getD i 0 % gcV n (lo.getD i 0) := getD_zip (f := fun p => p.1 % gcV n p.2) (by omega) hi
  rw [e, zeroV_at, Int.zero_emod]
theorem oddsL_ne {lo up : List Int} (g : OkG lo) : ∀ s ∈ oddsL lo up, 0 < s.length ∧ s.length ≤ 144 := fun s hs => by
  unfold oddsL at hs
  obtain ⟨p, _, rfl⟩ := List.mem_map.mp hs
  have ml := mems_len (rs := lo) fun n hn => by have := g.ok.two n hn; omega
  have gp := g.prod
  have fl : (oddsV lo (up.getD p.1 0) (up.getD p.2 0)).length ≤ (mems lo).length := List.length_filter_le _ _
  refine ⟨List.length_pos_of_mem (a := zeroV lo) ?_, by omega⟩
  unfold oddsV
  have z : ∀ n : Int, timesV lo n (zeroV lo) = zeroV lo := fun n => times_zero_iff (by unfold zeroV; simp) fun i hi => by
    rw [zeroV_at]; simp
  refine List.mem_filter.mpr ⟨mem_mems.mpr (zero_el g.ok), by simp [z]⟩
/-- how many kinds -/
def howV (lo up : List Int) : Int := (restsL lo up ++ oddsL lo up).foldl (fun m s => m * (s.length : Nat)) 1
theorem how_many_ok {lo up : List Int} (t : OkT lo up) : d_how_many [gR lo, gR up] = .ok (.int (howV lo up)) := by
  have gs := groups_ok t.g1 t.g2 t.p1 t.p2
  have po := places_of_ok t.g1 t.g2
  have hr := restsL_ne (lo := lo) (up := up) t.g1
  have ho := oddsL_ne (lo := lo) (up := up) t.g1
  have l7 := t.g2.ok.len
  have h1 : (restsL lo up).length ≤ 7 := by unfold restsL; rw [List.length_map]; omega
  have h2 : (oddsL lo up).length ≤ 49 := by
    unfold oddsL
    rw [List.length_map]
    have pl := placeRows_len up.length (List.range up.length)
    rw [List.length_range] at pl
    have pm : up.length * up.length ≤ 7 * 7 := Nat.mul_le_mul l7 l7
    have : (placePairs up.length).length ≤ up.length * up.length := pl
    omega
  unfold howV
  generalize restsL lo up = X at *
  generalize oddsL lo up = Y at *
  obtain ⟨r1, lp, s5, rfl⟩ := forD_row (pre0 := X ++ Y) (f := how_many_l1) plD (fun done r => ∃ s5, r = [.sh (gR lo), .sh (gR up), .sh (.int (done.foldl (fun m s => m * (s.length : Nat)) 1)), .sh (.lst (X.map plD)), .sh (.lst (Y.map plD)), s5]) (ds := X ++ Y) (pre := []) (r := [.sh (gR lo), .sh (gR up), .sh (.int 1), .sh (.lst (X.map plD)), .sh (.lst (Y.map plD)), .un]) (fun done s hd r ⟨s5, e⟩ => by
    subst e
    obtain ⟨rest, hrr⟩ := hd
    have hs : s ∈ X ++ Y := by rw [← hrr]; simp
    have sb : s.length ≤ 144 := by
      rcases List.mem_append.mp hs with z | z
      · exact (hr s z).2
      · exact (ho s z).2
    have ml := mulD_small (i := done.foldl (fun m s => m * (s.length : Nat)) 1) (j := (s.length : Nat)) (.inr ⟨by omega, by omega⟩)
    refine ⟨_, ?_, .sh (plD s), rfl⟩
    rw [List.foldl_append, List.foldl_cons, List.foldl_nil]
    simp [how_many_l1, ml]) rfl ⟨.un, rfl⟩
  have hl : X.length + Y.length ≤ lim := by unfold lim; omega
  simp only [List.nil_append, List.map_append] at lp
  refine runD_rt rfl ?_
  simp only [startD, N_how_many, List.length_cons, List.length_nil, List.map_cons, List.map_nil, Nat.reduceAdd, Nat.reduceSub, Nat.zero_add, List.replicate, List.cons_append, List.nil_append]
  simp [e_how_many, gs, po, hl, lp]
theorem rowsV_total : ∀ (pl : List (List D)) (S : List (List D)), ((pl.foldl rowsStep S).length : Int) = pl.foldl (fun (m : Int) s => m * ((s.length : Nat) : Int)) (S.length : Int)
  | [], S => rfl
  | s :: pl, S => by
    rw [List.foldl_cons, List.foldl_cons, rowsV_total pl (rowsStep S s), rowsStep_len, Int.natCast_mul]

theorem fold_mul {α : Type} (f : α → Int) : ∀ (l : List α) (a : Int), l.foldl (fun (m : Int) s => m * f s) a = a * l.foldl (fun (m : Int) s => m * f s) 1
  | [], a => by simp
  | s :: l, a => by
    rw [List.foldl_cons, List.foldl_cons, fold_mul f l (a * f s), fold_mul f l (1 * f s), Int.one_mul, Int.mul_assoc]
def rowsOf (X : List (List (List Int))) : List (List D) := rowsV (X.map fun s => s.map tuI)
theorem rowsOf_len (X : List (List (List Int))) : ((rowsOf X).length : Int) = X.foldl (fun (m : Int) s => m * ((s.length : Nat) : Int)) 1 := by
  unfold rowsOf rowsV
  have e : ((((X.map fun s => s.map tuI).foldl rowsStep [[]]).length : Nat) : Int) = (X.map fun s => s.map tuI).foldl (fun (m : Int) s => m * ((s.length : Nat) : Int)) 1 := rowsV_total _ [[]]
  rw [e, List.foldl_map]
  simp only [List.length_map]
theorem rowsOf_pos {X : List (List (List Int))} (h : ∀ s ∈ X, 0 < s.length) : 0 < (rowsOf X).length := by
  have := rows_grow (X.map fun s => s.map tuI) [[]] fun s hs => by
    obtain ⟨t, ht, rfl⟩ := List.mem_map.mp hs
    simpa using h t ht
  unfold rowsOf rowsV
  simp at this
  omega
theorem how_len (lo up : List Int) : howV lo up = (rowsOf (restsL lo up)).length * (rowsOf (oddsL lo up)).length := by
  rw [rowsOf_len, rowsOf_len]
  unfold howV
  rw [List.foldl_append]
  exact fold_mul _ _ _
def kindsV (lo up : List Int) : List D := (rowsOf (restsL lo up)).flatMap fun one => (rowsOf (oddsL lo up)).map fun other => .tup [.tup one, .tup other]
theorem rows_of_ok {X : List (List (List Int))} (hne : ∀ s ∈ X, 0 < s.length) (hl : X.length ≤ 1000) (hp : (rowsOf X).length ≤ 1000) : d_rows_by [.lst (X.map plD)] = .ok (.lst ((rowsOf X).map .tup)) := by
  have := rows_by_ok (pl := X.map fun s : List (List Int) => s.map tuI) (fun s hs => by
    obtain ⟨t, ht, rfl⟩ := List.mem_map.mp hs
    simpa using hne t ht) (by simpa using hl) (show (rowsV (X.map fun s : List (List Int) => s.map tuI)).length ≤ 1000 from hp)
  rw [List.map_map] at this
  exact this
theorem kinds_of_many {lo up : List Int} (t : OkT lo up) (h : 300 < howV lo up) : d_kinds_of [gR lo, gR up] = .er (.exc 27 [.int (howV lo up)]) := by
  have e := how_many_ok t
  generalize howV lo up = m at *
  first
    | refine runD_er (r := [.sh (gR lo), .sh (gR up), .sh (.int m), .un, .un, .un, .un, .un]) rfl ?_
    | refine runO_er (r := [.sh (gR lo), .sh (gR up), .sh (.int m), .un, .un, .un, .un, .un]) rfl ?_
  simp only [startD, N_kinds_of, List.length_cons, List.length_nil, List.map_cons, List.map_nil, Nat.reduceAdd, Nat.reduceSub, Nat.zero_add, List.replicate, List.cons_append, List.nil_append]
  simp [e_kinds_of, e, h, raiseD, cflds]
theorem kinds_of_ok {lo up : List Int} (t : OkT lo up) (h : howV lo up ≤ 300) : d_kinds_of [gR lo, gR up] = .ok (.lst (kindsV lo up)) := by
  have e := how_many_ok t
  have hn := how_len lo up
  have po := places_of_ok t.g1 t.g2
  have hr := restsL_ne (lo := lo) (up := up) t.g1
  have ho := oddsL_ne (lo := lo) (up := up) t.g1
  have l7 := t.g2.ok.len
  have h1 : (restsL lo up).length ≤ 7 := by unfold restsL; rw [List.length_map]; omega
  have h2 : (oddsL lo up).length ≤ 49 := by
    unfold oddsL
    rw [List.length_map]
    have pl := placeRows_len up.length (List.range up.length)
    rw [List.length_range] at pl
    have pm : up.length * up.length ≤ 7 * 7 := Nat.mul_le_mul l7 l7
    have : (placePairs up.length).length ≤ up.length * up.length := pl
    omega
  have p1 := rowsOf_pos fun s hs => (hr s hs).1
  have p2 := rowsOf_pos fun s hs => (ho s hs).1
  have tot : (rowsOf (restsL lo up)).length * (rowsOf (oddsL lo up)).length ≤ 300 := by
    have : (((rowsOf (restsL lo up)).length * (rowsOf (oddsL lo up)).length : Nat) : Int) = howV lo up := by rw [hn, Int.natCast_mul]
    omega
  have b1 : (rowsOf (restsL lo up)).length ≤ 300 := by
    have := Nat.mul_le_mul_left (rowsOf (restsL lo up)).length p2
    omega
  have b2 : (rowsOf (oddsL lo up)).length ≤ 300 := by
    have := Nat.mul_le_mul_right (rowsOf (oddsL lo up)).length p1
    omega
  have q1 := rows_of_ok (fun s hs => (hr s hs).1) (by omega) (show (rowsOf (restsL lo up)).length ≤ 1000 by omega)
  have q2 := rows_of_ok (fun s hs => (ho s hs).1) (by omega) (show (rowsOf (oddsL lo up)).length ≤ 1000 by omega)
  have nm : ¬ 300 < howV lo up := by omega
  unfold kindsV
  generalize restsL lo up = X at *
  generalize oddsL lo up = Y at *
  generalize howV lo up = m at *
  generalize rowsOf X = A at *
  generalize rowsOf Y = B at *
  have l0 : 0 ≤ lim := by decide
  have l2 := l_two
  obtain ⟨r1, lp, s6, rfl⟩ := forD_row (pre0 := A) (f := kinds_of_l2) D.tup (fun done r => ∃ s6, r = [.sh (gR lo), .sh (gR up), .sh (.int m), .sh (.lst (X.map plD)), .sh (.lst (Y.map plD)), .ow .flat (.lst (done.flatMap fun one => B.map fun other => .tup [.tup one, .tup other])), s6, .un]) (ds := A) (pre := []) (r := [.sh (gR lo), .sh (gR up), .sh (.int m), .sh (.lst (X.map plD)), .sh (.lst (Y.map plD)), .ow .flat (.lst []), .un, .un]) (fun done one hd r ⟨s6, e⟩ => by
    subst e
    obtain ⟨rest, hrr⟩ := hd
    have hdl : done.length + 1 ≤ A.length := by
      have := congrArg List.length hrr
      simp at this
      omega
    have c : ∀ xs : D, kinds_of_c1 [.sh (gR lo), .sh (gR up), .sh (.int m), .sh (.lst (X.map plD)), .sh (.lst (Y.map plD)), .ow .flat xs, .sh (.tup one), .un] (B.map .tup) = .ok (B.map fun other => .tup [.tup one, .tup other]) := fun xs => by
      unfold kinds_of_c1
      refine lcD_gmap D.tup _ fun o ho => ⟨[.sh (gR lo), .sh (gR up), .sh (.int m), .sh (.lst (X.map plD)), .sh (.lst (Y.map plD)), .ow .flat xs, .sh (.tup one), .sh (.tup o)], rfl, rfl, ?_⟩
      simp [l2]
    have ln : (done.flatMap fun one => B.map fun other => D.tup [.tup one, .tup other]).length = done.length * B.length := by
      rw [List.length_flatMap]
      simp [sum_const]
    have le : (done.flatMap fun one => B.map fun other => D.tup [.tup one, .tup other]).length + (B.map fun other => D.tup [.tup one, .tup other]).length ≤ lim := by
      rw [ln, List.length_map]
      have := Nat.mul_le_mul_right B.length hdl
      rw [Nat.succ_mul] at this
      unfold lim
      omega
    have lb : (B.map fun other => D.tup [.tup one, .tup other]).length ≤ lim := by omega
    refine ⟨_, ?_, .sh (.tup one), rfl⟩
    rw [List.flatMap_append, show ([one].flatMap fun one => B.map fun other => D.tup [.tup one, .tup other]) = B.map fun other => D.tup [.tup one, .tup other] by simp]
    generalize (done.flatMap fun one => B.map fun other => D.tup [.tup one, .tup other]) = xs at *
    have c := c (.lst xs)
    generalize (B.map fun other => D.tup [.tup one, .tup other]) = ys at *
    simp [kinds_of_l2, extG, ownL, q2, c, le, lb]) rfl ⟨.un, rfl⟩
  simp only [List.nil_append] at lp
  first | refine runO_rt rfl ?_ | refine runD_rt rfl ?_
  simp only [startD, N_kinds_of, List.length_cons, List.length_nil, List.map_cons, List.map_nil, Nat.reduceAdd, Nat.reduceSub, Nat.zero_add, List.replicate, List.cons_append, List.nil_append]
  simp [-Int.not_lt, e_kinds_of, e, nm, po, l0, q1, lp, giveG]

theorem seq_nx {o : Oc} {B : Env → Oc} {v : D} {r1 : Env} (h : o = .nx r1) (k : B r1 = .rt v) : o.seq B = .rt v := by rw [h]; exact k
theorem seq_ex {o : Oc} {B : Env → Oc} {v : D} (P : Env → Prop) (h : ∃ r, o = .nx r ∧ P r) (k : ∀ r, P r → B r = .rt v) : o.seq B = .rt v := by
  obtain ⟨r, e, p⟩ := h
  rw [e]; exact k r p
theorem seq_rt {o : Oc} {B : Env → Oc} {v : D} (h : o = .rt v) : o.seq B = .rt v := by rw [h]; rfl

theorem gcV_le {n m : Int} (hm : 0 < m) : gcV n m ≤ m := Int.le_of_dvd hm (gcV_dvd_left n m (by omega))
theorem q_is_ok {g a b : List Int} (hl : a.length = g.length) (h7 : a.length ≤ 1000) : d_q_is [tuI g, tuI a, tuI b] = .ok (.bl (decide (a = b))) := by
  refine runD_rt rfl ?_
  simp only [startD, N_q_is, List.length_cons, List.length_nil, List.map_cons, List.map_nil, Nat.reduceAdd, Nat.reduceSub, Nat.zero_add, List.replicate, List.cons_append, List.nil_append]
  have c : q_is_c1 [.sh (tuI g), .sh (tuI a), .sh (tuI b), .un] (a.map .int) = .ok (a.map fun _ => .bl true) := by
    unfold q_is_c1
    refine lcD_ints _ fun m hm => ⟨rfl, ?_⟩
    simp [wipeR, q_whole_int]
  have t : ∀ a : List Int, trsD (a.map fun _ => D.bl true) = some (a.map fun _ => true) := fun a => by
    induction a with
    | nil => rfl
    | cons y ys ih =>
      rw [List.map_cons, trsD, ih]
      rfl
  have z : ∀ a : List Int, (a.map fun _ => true).all id = true := fun a => by simp
  have at_ : allT (.lst (a.map fun _ => D.bl true)) = .ok (.bl true) := by
    unfold allT
    simp only [t, z]
  have hlim : g.length ≤ lim := by unfold lim; omega
  simp [e_q_is, is_tuple, hl, c, at_, eqD_tI, hlim]

theorem memD {l : List Int} {i : Nat} (h : i < l.length) : l.getD i 0 ∈ l := by
  rw [List.getD_eq_getElem?_getD, List.getElem?_eq_getElem h]
  exact List.getElem_mem h
theorem q_pairs_ok {up : List Int} (h : OkR up) : d_q_pairs [tuI up] = .ok (.lst ((placePairs up.length).map nnD)) := by
  have l7 := h.len
  have l2 := l_two
  have rg : rng1 [.int up.length] = .ok (rangeL 0 up.length) := by rw [rng1_ok (by omega) (by omega)]; simp
  obtain ⟨r1, lp, s2, rfl⟩ := forD_row (pre0 := List.range up.length) (f := q_pairs_l2) (fun i : Nat => D.int i) (fun done r => ∃ s2, r = [.sh (tuI up), .ow .flat (.lst ((done.flatMap (placeRow up.length)).map nnD)), s2, .un]) (ds := List.range up.length) (pre := []) (r := [.sh (tuI up), .ow .flat (.lst []), .un, .un]) (fun done i hd r ⟨s2, e⟩ => by
    subst e
    obtain ⟨rest, hr⟩ := hd
    have hi : i < up.length := List.mem_range.mp (by rw [← hr]; simp)
    have hdl := congrArg List.length hr
    simp at hdl
    have pl := placeRows_len up.length done
    have pm : done.length * up.length ≤ 7 * 7 := Nat.mul_le_mul (by omega) l7
    have rl := rng_row (n := up.length) (i := i) (by omega) hi
    have pr : (placeRow up.length i).length ≤ 7 := by unfold placeRow; simp; omega
    have hc : q_pairs_c1 [.sh (tuI up), .ow .flat (.lst ((done.flatMap (placeRow up.length)).map nnD)), .sh (.int i), .un] ((placeRow up.length i).map fun p => D.int (p.2 : Nat)) = .ok ((placeRow up.length i).map nnD) := by
      unfold q_pairs_c1
      refine lcD_gmap _ _ fun p hp => ⟨_, rfl, rfl, ?_⟩
      unfold placeRow at hp
      obtain ⟨k, _, rfl⟩ := List.mem_map.mp hp
      simp [wipeR, l2]
    
    refine ⟨_, ?_, .sh (.int i), rfl⟩
    rw [List.flatMap_append, List.map_append, show [i].flatMap (placeRow up.length) = placeRow up.length i by simp]
    unfold q_pairs_l2
    have := step_pairs (a2 := s2) (up := up) (fun r => getS 0 r) rng2 q_pairs_c1 rfl (by simp) (by simp) rl hc (by rw [List.length_map, List.length_map]; unfold lim; omega) (by rw [List.length_map]; unfold lim; omega)
    exact this) (by simp) ⟨.un, rfl⟩
  rw [← rangeL_nat] at lp
  have l0 : 0 ≤ lim := by decide
  first | refine runD_rt rfl ?_ | refine runO_rt rfl ?_
  simp only [startD, N_q_pairs, List.length_cons, List.length_nil, List.map_cons, List.map_nil, Nat.reduceAdd, Nat.reduceSub, Nat.zero_add, List.replicate, List.cons_append, List.nil_append]
  simp only [List.nil_append] at lp
  unfold placePairs
  simp [e_q_pairs, l0, rg, lp, freeze]
theorem q_rows_ok {pl : List (List D)} (hne : ∀ s ∈ pl, 0 < s.length) (hl : pl.length ≤ 1000) (hp : (rowsV pl).length ≤ 1000) : d_q_rows [.lst (pl.map .lst)] = .ok (.lst ((rowsV pl).map .tup)) := by
  have l0 : 0 ≤ lim := by decide
  have l1 : 1 ≤ lim := by decide
  have c1 : ∀ (row some : List D) (s0 s1 s2 s3 : Slot), row.length < 1001 → q_rows_c1 [s0, s1, s2, s3, .sh (.tup row), .un] some = .ok ((some.map fun one => row ++ [one]).map .tup) := fun row some s0 s1 s2 s3 h => by
    unfold q_rows_c1
    rw [List.map_map]
    have : some = some.map id := by simp
    rw [show lcD (nameG 5) = lcD (nameG 5) from rfl]
    have e := lcD_gmap (g := nameG 5) (t := fun r => .ok true) (f := fun r => (getS 4 r) >>= fun x => (((getS 5 r) >>= fun d => (.ok []) >>= fun ds => .ok (d :: ds)) >>= tupD) >>= fun y => addD x y) (r := wipeR [s0, s1, s2, s3, .sh (.tup row), .un] [5]) (fun d : D => d) (D.tup ∘ fun one => row ++ [one]) (xs := some) (fun d hd => ⟨[s0, s1, s2, s3, .sh (.tup row), .sh d], rfl, rfl, by
      have hl : row.length + 1 ≤ lim := by unfold lim; omega
      simp [hl, l1]⟩)
    rw [List.map_id'] at e
    exact e
  obtain ⟨r', loop, s2, s3, s4, rfl⟩ := forD_row (pre0 := pl) (f := q_rows_l3) D.lst (fun pre r => ∃ s2 s3 s4, r = [.sh (.lst (pl.map .lst)), .sh (.lst ((rowsV pre).map .tup)), s2, s3, s4, .un]) (ds := pl) (pre := []) (r := [.sh (.lst (pl.map .lst)), .sh (.lst [.tup []]), .un, .un, .un, .un]) (fun pre s hpre r ⟨s2, s3, s4, e⟩ => by
    subst e
    obtain ⟨post, hpost⟩ := hpre
    have lenp : pre.length < 1001 := by
      have := congrArg List.length hpost
      simp at this
      omega
    have rl : ∀ r ∈ rowsV pre, r.length < 1001 := fun r hr => by
      have := rowsV_len pre [[]] 0 (by simp) r hr
      omega
    have small : (rowsStep (rowsV pre) s).length ≤ 1000 := by
      have e : rowsV pl = post.foldl rowsStep (rowsStep (rowsV pre) s) := by
        unfold rowsV
        rw [← hpost, List.foldl_append, List.foldl_append]
        rfl
      have := rows_grow post (rowsStep (rowsV pre) s) fun t ht => hne t (by rw [← hpost]; simp [ht])
      rw [← e] at this
      omega
    obtain ⟨r2, in2, t4, rfl⟩ := forD_row (pre0 := rowsV pre) (f := q_rows_l2) D.tup (fun done r => ∃ t4, r = [.sh (.lst (pl.map .lst)), .sh (.lst ((rowsV pre).map .tup)), .sh (.lst s), .ow .flat (.lst ((rowsStep done s).map .tup)), t4, .un]) (ds := rowsV pre) (pre := []) (r := [.sh (.lst (pl.map .lst)), .sh (.lst ((rowsV pre).map .tup)), .sh (.lst s), .ow .flat (.lst []), s4, .un]) (fun done x hd r ⟨t4, e⟩ => by
      subst e
      obtain ⟨rest, hr⟩ := hd
      have hx : x ∈ rowsV pre := by rw [← hr]; simp
      have eq : rowsStep (done ++ [x]) s = rowsStep done s ++ s.map fun one => x ++ [one] := by
        unfold rowsStep
        simp
      have le : (rowsStep done s).length + (s.map fun one => x ++ [one]).length ≤ lim := by
        rw [← List.length_append, ← eq, rowsStep_len]
        rw [rowsStep_len, ← hr] at small
        simp at small
        have : (done ++ [x]).length * s.length ≤ (done.length + (rest.length + 1)) * s.length := Nat.mul_le_mul_right _ (by simp)
        unfold lim
        omega
      have q := c1 x s (.sh (.lst (pl.map .lst))) (.sh (.lst ((rowsV pre).map .tup))) (.sh (.lst s)) (.ow .flat (.lst ((rowsStep done s).map .tup))) (rl x hx)
      have l0 : (s.map fun one => x ++ [one]).length ≤ lim := by omega
      refine ⟨_, ?_, .sh (.tup x), rfl⟩
      rw [eq]
      generalize (s.map fun one => x ++ [one]) = L at *
      simp [q_rows_l2, extG, ownL, q, le, l0]) rfl ⟨_, rfl⟩
    refine ⟨[.sh (.lst (pl.map .lst)), .sh (.lst ((rowsV (pre ++ [s])).map .tup)), .sh (.lst s), .sh (.lst ((rowsStep (rowsV pre) s).map .tup)), t4, .un], ?_, _, _, _, rfl⟩
    have eq : rowsV (pre ++ [s]) = rowsStep (rowsV pre) s := by unfold rowsV; rw [List.foldl_append]; rfl
    simp only [List.nil_append] at in2
    rw [eq]
    simp [q_rows_l3, l0, in2, freeze]) rfl ⟨_, _, _, rfl⟩
  simp only [List.nil_append] at loop
  refine runD_rt rfl ?_
  simp only [startD, N_q_rows, List.length_cons, List.length_nil, List.map_cons, List.map_nil, Nat.reduceAdd, Nat.reduceSub, Nat.zero_add, List.replicate, List.cons_append, List.nil_append]
  simp [e_q_rows, loop, l0, l1]
def lows47 : List (List Int) := [[2], [4], [2, 2], [3], [6], [2, 4], [8], [9], [4, 4], [16], [2, 2, 2], [], [12], [3, 3], [2, 6]]
def ups47 : List (List Int) := [[2], [4], [2, 2], [3], [6], [2, 3], [2, 2], [3], [5], [4], [2, 4], [3, 3], [8], [], [2, 2, 2]]
def lowsX : List (List Int) := [[4, 4], [2, 2, 4], [2, 2, 2, 2], [2, 8]]
def upsX : List (List Int) := [[2, 2, 2], [2, 4], [4, 2], [2, 2]]
def allLo : List (List Int) := lows47 ++ lowsX
def allUp : List (List Int) := ups47 ++ upsX
theorem low47 : ∀ rs ∈ allLo, OkG rs ∧ rs.foldl (· * ·) 1 ≤ 16 := by
  intro rs h
  have d : ∀ rs ∈ allLo, (∀ n ∈ rs, 2 ≤ n) ∧ rs.length ≤ 7 ∧ (∀ n ∈ rs, n ≤ 144) ∧ rs.foldl (· * ·) 1 ≤ 16 := by decide +kernel
  obtain ⟨a, b, c, e⟩ := d rs h
  exact ⟨⟨⟨a, b⟩, c, by omega⟩, e⟩
theorem up47 : ∀ rs ∈ allUp, OkG rs ∧ rs.foldl (· * ·) 1 ≤ 9 := by
  intro rs h
  have d : ∀ rs ∈ allUp, (∀ n ∈ rs, 2 ≤ n) ∧ rs.length ≤ 7 ∧ (∀ n ∈ rs, n ≤ 144) ∧ rs.foldl (· * ·) 1 ≤ 9 := by decide +kernel
  obtain ⟨a, b, c, e⟩ := d rs h
  exact ⟨⟨⟨a, b⟩, c, by omega⟩, e⟩
theorem okT47 {lo up : List Int} (h1 : lo ∈ allLo) (h2 : up ∈ allUp) : OkT lo up := ⟨(low47 lo h1).1, (up47 up h2).1, (low47 lo h1).2, (up47 up h2).2⟩
theorem lower_ok (c : Int) : ∃ lo ∈ allLo, d_q_lower [.int c] = .ok (tuI lo) := by
  obtain ⟨d, hd, pk⟩ := ixD_pick (xs := lows47.map tuI) c 15 rfl (by omega)
  obtain ⟨rs, hrs, rfl⟩ := List.mem_map.mp hd
  refine ⟨rs, List.mem_append_left _ hrs, runD_rt rfl ?_⟩
  simp only [startD, N_q_lower, List.length_cons, List.length_nil, List.map_cons, List.map_nil, Nat.reduceAdd, Nat.reduceSub, Nat.zero_add, List.replicate, List.cons_append, List.nil_append]
  have md := modD_ok (i := c) (j := 15) (by omega)
  generalize c % 15 = z at *
  have l1 : 0 ≤ lim := by decide
  have l2 : 1 ≤ lim := by decide
  have l3 : 2 ≤ lim := by decide
  have l4 : 3 ≤ lim := by decide
  have l7 : 15 ≤ lim := by decide
  have e : D.lst (lows47.map tuI) = .lst [.tup [.int 2], .tup [.int 4], .tup [.int 2, .int 2], .tup [.int 3], .tup [.int 6], .tup [.int 2, .int 4], .tup [.int 8], .tup [.int 9], .tup [.int 4, .int 4], .tup [.int 16], .tup [.int 2, .int 2, .int 2], .tup [], .tup [.int 12], .tup [.int 3, .int 3], .tup [.int 2, .int 6]] := rfl
  rw [e] at pk
  simp [-ixD_lst, e_q_lower, l1, l2, l3, l4, l7, md, pk]
theorem upper_ok (c : Int) : ∃ up ∈ allUp, d_q_upper [.int c] = .ok (tuI up) := by
  obtain ⟨d, hd, pk⟩ := ixD_pick (xs := ups47.map tuI) c 15 rfl (by omega)
  obtain ⟨rs, hrs, rfl⟩ := List.mem_map.mp hd
  refine ⟨rs, List.mem_append_left _ hrs, runD_rt rfl ?_⟩
  simp only [startD, N_q_upper, List.length_cons, List.length_nil, List.map_cons, List.map_nil, Nat.reduceAdd, Nat.reduceSub, Nat.zero_add, List.replicate, List.cons_append, List.nil_append]
  have md := modD_ok (i := c) (j := 15) (by omega)
  generalize c % 15 = z at *
  have l1 : 0 ≤ lim := by decide
  have l2 : 1 ≤ lim := by decide
  have l3 : 2 ≤ lim := by decide
  have l4 : 3 ≤ lim := by decide
  have l7 : 15 ≤ lim := by decide
  have e : D.lst (ups47.map tuI) = .lst [.tup [.int 2], .tup [.int 4], .tup [.int 2, .int 2], .tup [.int 3], .tup [.int 6], .tup [.int 2, .int 3], .tup [.int 2, .int 2], .tup [.int 3], .tup [.int 5], .tup [.int 4], .tup [.int 2, .int 4], .tup [.int 3, .int 3], .tup [.int 8], .tup [], .tup [.int 2, .int 2, .int 2]] := rfl
  rw [e] at pk
  simp [-ixD_lst, e_q_upper, l1, l2, l3, l4, l7, md, pk]
/-- the law's number -/
def partV (lo : List Int) (n : Int) : Int := lo.foldl (fun m p => m * gcV n p) 1
def numV (lo up : List Int) : Int := (up ++ (placePairs up.length).map fun p => gcV (up.getD p.2 0) (up.getD p.1 0)).foldl (fun m n => m * partV lo n) 1
theorem rests_many : ∀ lo ∈ allLo, ∀ n ∈ [2, 3, 4, 5, 6, 8], ((restsV lo n).length : Int) = partV lo n := by decide +kernel
theorem odds_many : ∀ lo ∈ allLo, ∀ n ∈ [2, 3, 4, 5, 6, 8], ∀ m ∈ [2, 3, 4, 5, 6, 8], ((oddsV lo n m).length : Int) = partV lo (gcV m n) := by decide +kernel
theorem ups_in : ∀ up ∈ allUp, ∀ n ∈ up, n ∈ [2, 3, 4, 5, 6, 8] := by decide +kernel
theorem num_how {lo up : List Int} (h1 : lo ∈ allLo) (h2 : up ∈ allUp) : numV lo up = howV lo up := by
  have e : ((up ++ (placePairs up.length).map fun p => gcV (up.getD p.2 0) (up.getD p.1 0)).map (partV lo)) = (restsL lo up ++ oddsL lo up).map fun s => ((s.length : Nat) : Int) := by
    unfold restsL oddsL
    rw [List.map_append, List.map_append, List.map_map, List.map_map, List.map_map]
    refine congr (congrArg _ (List.map_congr_left fun n hn => ?_)) (List.map_congr_left fun p hp => ?_)
    · exact (rests_many lo h1 n (ups_in up h2 n hn)).symm
    · obtain ⟨a, b⟩ := mem_placePairs.mp hp
      have m1 : up.getD p.1 0 ∈ up := memD (by omega)
      have m2 : up.getD p.2 0 ∈ up := memD (by omega)
      exact (odds_many lo h1 _ (ups_in up h2 _ m1) _ (ups_in up h2 _ m2)).symm
  unfold numV howV
  rw [← List.foldl_map (f := partV lo) (g := fun m n : Int => m * n), e, List.foldl_map]
theorem step_num {d0 d1 d3 : D} {p m : Int} {s4 s5 s6 : Slot} (Q : List D → Res D) (M : D → D → Res D) {g : Int} (hq : Q [.int p, d3] = .ok (.int g)) (hm : M (.int m) (.int g) = .ok (.int (m * g))) :
    ((into ((nameG 4) (.int p) [.sh d0, .sh d1, .sh (.int m), .sh d3, s4, s5, s6])).seq fun r => (lift ((getS 2 r) >>= fun x => (((getS 4 r) >>= fun d => ((getS 3 r) >>= fun d => (.ok []) >>= fun ds => .ok (d :: ds)) >>= fun ds => .ok (d :: ds)) >>= Q) >>= fun y => M x y) r fun d => .nx (r.set 2 (.sh d)))) = .nx [.sh d0, .sh d1, .sh (.int (m * g)), .sh d3, .sh (.int p), s5, s6] := by
  simp [hq, hm]
theorem number_ok {lo up : List Int} (g1 : OkG lo) (g2 : OkG up) : d_q_number [tuI lo, tuI up] = .ok (.int (numV lo up)) := by
  have pr := q_pairs_ok g2.ok
  have l7 := g2.ok.len
  have pl := placeRows_len up.length (List.range up.length)
  rw [List.length_range] at pl
  have pm : up.length * up.length ≤ 7 * 7 := Nat.mul_le_mul l7 l7
  have pl2 : (placePairs up.length).length ≤ 49 := by unfold placePairs; omega
  have c : q_number_c1 [.sh (tuI lo), .sh (tuI up), .sh (.int 1), .un, .un, .un, .un] ((placePairs up.length).map nnD) = .ok ((placePairs up.length).map fun p => .int (gcV (up.getD p.2 0) (up.getD p.1 0))) := by
    unfold q_number_c1
    refine lcD_gmap nnD _ fun p hp => ?_
    obtain ⟨a, b⟩ := mem_placePairs.mp hp
    have m1 := OkG.at144 g2 (i := p.1) (by omega)
    have m2 := OkG.at144 g2 (i := p.2) b
    have e1 : ixD (tuI up) (.int (p.1 : Nat)) = .ok (.int (up.getD p.1 0)) := ixD_tI (by omega)
    have e2 : ixD (tuI up) (.int (p.2 : Nat)) = .ok (.int (up.getD p.2 0)) := ixD_tI (by omega)
    have dv := divisor_int (n := up.getD p.2 0) (m := up.getD p.1 0) (by omega) (by omega) (by omega)
    refine ⟨_, rfl, rfl, ?_⟩
    generalize up.getD p.1 0 = x at *
    generalize up.getD p.2 0 = y at *
    generalize tuI up = U at *
    simp [wipeR, e1, e2, dv]
  have hb : ∀ n ∈ up ++ (placePairs up.length).map fun p => gcV (up.getD p.2 0) (up.getD p.1 0), 0 ≤ n ∧ n < 100000 := fun n hn => by
    rcases List.mem_append.mp hn with h | h
    · have := g2.ok.two n h
      have := g2.most n h
      omega
    · obtain ⟨p, hp, rfl⟩ := List.mem_map.mp h
      obtain ⟨a, b⟩ := mem_placePairs.mp hp
      have m1 := OkG.at144 g2 (i := p.1) (by omega)
      have := gcV_le (n := up.getD p.2 0) (m := up.getD p.1 0) (by omega)
      have := gcV_pos (n := up.getD p.2 0) (m := up.getD p.1 0) (by omega)
      omega
  have len : up.length + ((placePairs up.length).map fun p => gcV (up.getD p.2 0) (up.getD p.1 0)).length ≤ lim := by
    rw [List.length_map]; unfold lim; omega
  have lp2 : ((placePairs up.length).map fun p => D.int (gcV (up.getD p.2 0) (up.getD p.1 0))) = ((placePairs up.length).map fun p => gcV (up.getD p.2 0) (up.getD p.1 0)).map .int := by rw [List.map_map]; rfl
  rw [lp2] at c
  unfold numV
  generalize ((placePairs up.length).map fun p => gcV (up.getD p.2 0) (up.getD p.1 0)) = G at *
  obtain ⟨r1, lp, s3, s4, rfl⟩ := forD_row (pre0 := up ++ G) (f := q_number_l3) D.int (fun done r => ∃ s3 s4, r = [.sh (tuI lo), .sh (tuI up), .sh (.int (done.foldl (fun m n => m * partV lo n) 1)), s3, s4, .un, .un]) (ds := up ++ G) (pre := []) (r := [.sh (tuI lo), .sh (tuI up), .sh (.int 1), .un, .un, .un, .un]) (fun done n hd r ⟨s3, s4, e⟩ => by
    subst e
    obtain ⟨rest, hr⟩ := hd
    obtain ⟨b0, b1⟩ := hb n (by rw [← hr]; simp)
    rw [List.foldl_append, List.foldl_cons, List.foldl_nil]
    generalize done.foldl (fun m n => m * partV lo n) 1 = m0
    obtain ⟨r2, lp, s4, rfl⟩ := forD_row (pre0 := lo) (f := q_number_l2) D.int (fun pre r => ∃ s4, r = [.sh (tuI lo), .sh (tuI up), .sh (.int (pre.foldl (fun m p => m * gcV n p) m0)), .sh (.int n), s4, .un, .un]) (ds := lo) (pre := []) (r := [.sh (tuI lo), .sh (tuI up), .sh (.int m0), .sh (.int n), s4, .un, .un]) (fun pre p hp r ⟨s4, e⟩ => by
      subst e
      obtain ⟨rest, hr⟩ := hp
      have pin : p ∈ lo := by rw [← hr]; simp
      have p2 := g1.ok.two p pin
      have p1 := g1.most p pin
      have gp := gcV_pos (n := n) (m := p) (by omega)
      have gl := gcV_le (n := n) (m := p) (by omega)
      have dv := divisor_int (n := n) (m := p) (by omega) (by omega) (by omega)
      rw [List.foldl_append, List.foldl_cons, List.foldl_nil]
      generalize pre.foldl (fun m p => m * gcV n p) m0 = m
      exact ⟨_, step_num d_q_divisor mulD dv (mulD_small (.inr ⟨by omega, by omega⟩)), _, rfl⟩) rfl ⟨_, rfl⟩
    simp only [List.nil_append] at lp
    rw [fold_mul (gcV n) lo m0] at lp
    refine ⟨_, ?_, .sh (.int n), s4, rfl⟩
    unfold partV
    generalize lo.foldl (fun m p => m * gcV n p) 1 = z at *
    generalize hL : lo.map D.int = L at *
    have it : itemsD (tuI lo) = .ok L := by rw [← hL]; rfl
    generalize tuI lo = T at *
    simp [q_number_l3, it, lp]) rfl ⟨.un, .un, rfl⟩
  simp only [List.nil_append, List.map_append] at lp
  generalize (up ++ G).foldl (fun m n => m * partV lo n) 1 = m at *
  have ad : addD (tuI up) (.tup (G.map D.int)) = .ok (.tup (up.map D.int ++ G.map D.int)) := by
    simp [len]
  have gl : (G.map D.int).length ≤ lim := by rw [List.length_map]; omega
  refine runD_rt rfl ?_
  simp only [startD, N_q_number, List.length_cons, List.length_nil, List.map_cons, List.map_nil, Nat.reduceAdd, Nat.reduceSub, Nat.zero_add, List.replicate, List.cons_append, List.nil_append]
  generalize tuI up = U at *
  generalize (placePairs (List.length up)).map nnD = PP at *
  have it2 : itemsD (.tup (up.map D.int ++ G.map D.int)) = .ok (up.map D.int ++ G.map D.int) := rfl
  generalize D.tup (up.map D.int ++ G.map D.int) = W at *
  generalize G.map D.int = GG at *
  simp [e_q_number, pr, c, gl, ad, it2, lp]

theorem gc_times {lo a : List Int} {n m : Int} (h0 : 0 ≤ n) (h1 : 0 ≤ m) (ha : OkE lo a) : timesV lo (gcV m n) a = zeroV lo ↔ (timesV lo n a = zeroV lo ∧ timesV lo m a = zeroV lo) := by
  have al := ha.len
  have key : ∀ k : Int, timesV lo k a = zeroV lo ↔ ∀ i, i < lo.length → k * a.getD i 0 % lo.getD i 0 = 0 := fun k => ⟨fun h i hi => by
    have e := getD_zip (f := fun p : Int × Int => k * p.1 % p.2) (xs := a) (ys := lo) (i := i) (by omega) hi
    have e2 : (timesV lo k a).getD i 0 = 0 := by rw [h, zeroV_at]
    exact e.symm.trans e2, fun h => times_zero_iff (by omega) h⟩
  rw [key, key, key]
  have one : ∀ i, i < lo.length → ((gcV m n * a.getD i 0 % lo.getD i 0 = 0) ↔ (n * a.getD i 0 % lo.getD i 0 = 0 ∧ m * a.getD i 0 % lo.getD i 0 = 0)) := fun i hi => by
    rw [← Int.dvd_iff_emod_eq_zero, ← Int.dvd_iff_emod_eq_zero, ← Int.dvd_iff_emod_eq_zero]
    obtain ⟨n, rfl⟩ := Int.eq_ofNat_of_zero_le h0
    obtain ⟨m, rfl⟩ := Int.eq_ofNat_of_zero_le h1
    have e1 : a[i]? = some (a.getD i 0) := by rw [List.getD_eq_getElem?_getD, List.getElem?_eq_getElem (show i < a.length by omega)]; rfl
    have e2 : lo[i]? = some (lo.getD i 0) := by rw [List.getD_eq_getElem?_getD, List.getElem?_eq_getElem hi]; rfl
    obtain ⟨b0, b1⟩ := ha.at_ (a.getD i 0, lo.getD i 0) (List.mem_of_getElem? (List.getElem?_zip_eq_some.mpr ⟨e1, e2⟩))
    simp only at b0 b1
    generalize a.getD i 0 = x at *
    generalize lo.getD i 0 = p at *
    obtain ⟨x, rfl⟩ := Int.eq_ofNat_of_zero_le b0
    obtain ⟨p, rfl⟩ := Int.eq_ofNat_of_zero_le (show 0 ≤ p by omega)
    unfold gcV
    rw [Int.toNat_natCast, Int.toNat_natCast, ← Int.natCast_mul, ← Int.natCast_mul, ← Int.natCast_mul, Int.natCast_dvd_natCast, Int.natCast_dvd_natCast, Int.natCast_dvd_natCast, ← Nat.gcd_mul_right]
    exact Nat.dvd_gcd_iff
  exact ⟨fun h => ⟨fun i hi => ((one i hi).mp (h i hi)).1, fun i hi => ((one i hi).mp (h i hi)).2⟩, fun h i hi => (one i hi).mpr ⟨h.1 i hi, h.2 i hi⟩⟩
theorem tw_odds {lo : List Int} (n m : Int) (h0 : 0 ≤ n) (h1 : 0 ≤ m) : ((mems lo).filter fun a => decide (timesV lo (gcV m n) a = zeroV lo)) = oddsV lo n m := by
  unfold oddsV
  refine List.filter_congr fun a ha => ?_
  have := gc_times (n := n) (m := m) h0 h1 (mem_mems.mp ha)
  rw [Bool.eq_iff_iff]
  simp [this]
theorem rest_law {rs a : List Int} {n : Int} (h : OkR rs) (ha : OkE rs a) (h0 : 0 ≤ n) (h1 : n < 100000) : d_q_rest [tuI rs, .int n, tuI a] = .ok (tuI (restV rs n a)) := by
  refine runD_rt rfl ?_
  simp only [startD, N_q_rest, List.length_cons, List.length_nil, List.map_cons, List.map_nil, Nat.reduceAdd, Nat.reduceSub, Nat.zero_add, List.replicate, List.cons_append, List.nil_append]
  have c : q_rest_c1 [.sh (tuI rs), .sh (.int n), .sh (tuI a), .un, .un] (zipL2 (a.map .int) (rs.map .int)) = .ok ((restV rs n a).map .int) := by
    unfold q_rest_c1 restV
    rw [List.map_map]
    refine lcD_zip2 _ fun p hp => ⟨rfl, ?_⟩
    have q : (2 : Int) ≤ p.2 := h.two _ (List.of_mem_zip hp).2
    simp [wipeR, divisor_int h0 h1 (show 0 ≤ p.2 by omega), modD_ok (gcV_pos (n := n) (show 0 < p.2 by omega))]
  have z : zip2D [tuI a, tuI rs] = .ok (zipL2 (a.map .int) (rs.map .int)) := rfl
  have l7 := h.len
  have hl : (restV rs n a).length ≤ lim := by simp [restV, ha.len]; unfold lim; omega
  simp [e_q_rest, z, c, hl]
theorem due_zero {lo : List Int} (h : OkR lo) {r : Env} (hr : r.length = 13) : q_due_c1 r (lo.map .int) = .ok ((zeroV lo).map .int) := by
  unfold q_due_c1 zeroV
  rw [List.map_map]
  match r, hr with
  | [a0, a1, a2, a3, a4, a5, a6, a7, a8, a9, a10, a11, a12], _ =>
    refine lcD_gmap D.int _ fun p hp => ⟨_, rfl, rfl, ?_⟩
    rfl
theorem due_rests {lo : List Int} {n : Int} (g : OkG lo) (h0 : 0 ≤ n) (h1 : n < 100000) {z s3 s5 s6 s7 s8 s9 s10 s11 s12 : Slot} {up : D} : q_due_c2 [.sh (tuI lo), .sh up, z, s3, .sh (.int n), s5, s6, s7, s8, s9, s10, s11, s12] ((mems lo).map tuI) = .ok ((restsV lo n).map tuI) := by
  unfold q_due_c2 restsV
  refine lcD_pick tuI _ tuI fun a ha => ⟨_, rfl, ?_, fun _ => rfl⟩
  have e := rest_law g.ok (mem_mems.mp ha) h0 h1
  simp [wipeR, e, eqD_tI]
theorem due_odds {lo : List Int} {n : Int} (g : OkG lo) {s3 s5 s6 s7 s8 s9 s10 s11 s12 : Slot} {up : D} : q_due_c4 [.sh (tuI lo), .sh up, .sh (tuI (zeroV lo)), s3, .sh (.int n), s5, s6, s7, s8, s9, s10, s11, s12] ((mems lo).map tuI) = .ok (((mems lo).filter fun a => decide (timesV lo n a = zeroV lo)).map tuI) := by
  unfold q_due_c4
  refine lcD_pick tuI _ tuI fun a ha => ⟨_, rfl, ?_, fun _ => rfl⟩
  have e := q_many_ok (n := n) g.ok (mem_mems.mp ha) g.most
  simp [wipeR, e, eqD_tI]
theorem q_rows_of {X : List (List (List Int))} (hne : ∀ s ∈ X, 0 < s.length) (hl : X.length ≤ 1000) (hp : (rowsOf X).length ≤ 1000) : d_q_rows [.lst (X.map plD)] = .ok (.lst ((rowsOf X).map .tup)) := by
  have := q_rows_ok (pl := X.map fun s : List (List Int) => s.map tuI) (fun s hs => by
    obtain ⟨t, ht, rfl⟩ := List.mem_map.mp hs
    simpa using hne t ht) (by simpa using hl) (show (rowsV (X.map fun s : List (List Int) => s.map tuI)).length ≤ 1000 from hp)
  rw [List.map_map] at this
  exact this
theorem due_ok {lo up : List Int} (t : OkT lo up) (h : howV lo up ≤ 300) : d_q_due [tuI lo, tuI up] = .ok (.lst (kindsV lo up)) := by
  have hn := how_len lo up
  have hr := restsL_ne (lo := lo) (up := up) t.g1
  have ho := oddsL_ne (lo := lo) (up := up) t.g1
  have l7 := t.g2.ok.len
  have al := q_all_ok t.g1.ok t.g1.most t.g1.prod
  have prs := q_pairs_ok t.g2.ok
  have h1 : (restsL lo up).length ≤ 7 := by unfold restsL; rw [List.length_map]; omega
  have h2 : (oddsL lo up).length ≤ 49 := by
    unfold oddsL
    rw [List.length_map]
    have pl := placeRows_len up.length (List.range up.length)
    rw [List.length_range] at pl
    have pm : up.length * up.length ≤ 7 * 7 := Nat.mul_le_mul l7 l7
    have : (placePairs up.length).length ≤ up.length * up.length := pl
    omega
  have p1 := rowsOf_pos fun s hs => (hr s hs).1
  have p2 := rowsOf_pos fun s hs => (ho s hs).1
  have tot : (rowsOf (restsL lo up)).length * (rowsOf (oddsL lo up)).length ≤ 300 := by
    have : (((rowsOf (restsL lo up)).length * (rowsOf (oddsL lo up)).length : Nat) : Int) = howV lo up := by rw [hn, Int.natCast_mul]
    omega
  have b1 : (rowsOf (restsL lo up)).length ≤ 300 := by
    have := Nat.mul_le_mul_left (rowsOf (restsL lo up)).length p2
    omega
  have b2 : (rowsOf (oddsL lo up)).length ≤ 300 := by
    have := Nat.mul_le_mul_right (rowsOf (oddsL lo up)).length p1
    omega
  have q1 := q_rows_of (fun s hs => (hr s hs).1) (by omega) (show (rowsOf (restsL lo up)).length ≤ 1000 by omega)
  have q2 := q_rows_of (fun s hs => (ho s hs).1) (by omega) (show (rowsOf (oddsL lo up)).length ≤ 1000 by omega)
  have l0 : 0 ≤ lim := by decide
  have l2 := l_two
  have ml : (mems lo).length ≤ 144 := by
    have := mems_len (rs := lo) fun n hn => by have := t.g1.ok.two n hn; omega
    have := t.g1.prod
    omega
  -- the rests
  obtain ⟨r1, lp1, s4, rfl⟩ := forD_row (pre0 := up) (f := q_due_l3) D.int (fun done r => ∃ s4, r = [.sh (tuI lo), .sh (tuI up), .sh (tuI (zeroV lo)), .ow .flat (.lst ((done.map (restsV lo)).map plD)), s4, .un, .un, .un, .un, .un, .un, .un, .un]) (ds := up) (pre := []) (r := [.sh (tuI lo), .sh (tuI up), .sh (tuI (zeroV lo)), .ow .flat (.lst []), .un, .un, .un, .un, .un, .un, .un, .un, .un]) (fun done n hd r ⟨s4, e⟩ => by
    subst e
    obtain ⟨rest, hrr⟩ := hd
    have hin : n ∈ up := by rw [← hrr]; simp
    have n2 := t.g2.ok.two n hin
    have n1 := t.g2.most n hin
    have hdl := congrArg List.length hrr
    simp at hdl
    have e1 : ((done.map (restsV lo)).map plD).length < lim := by simp only [List.length_map]; unfold lim; omega
    have e2 : (restsV lo n).length ≤ lim := by
      have : (restsV lo n).length ≤ (mems lo).length := List.length_filter_le _ _
      unfold lim; omega
    refine ⟨_, ?_, .sh (.int n), rfl⟩
    rw [List.map_append, List.map_append]
    generalize (done.map (restsV lo)).map plD = Z at *
    have c := due_rests (lo := lo) (n := n) t.g1 (by omega) (by omega) (z := .sh (tuI (zeroV lo))) (s3 := .ow .flat (.lst Z)) (s5 := .un) (s6 := .un) (s7 := .un) (s8 := .un) (s9 := .un) (s10 := .un) (s11 := .un) (s12 := .un) (up := tuI up)
    generalize tuI (zeroV lo) = zz at *
    generalize tuI up = U at *
    generalize tuI lo = LO at *
    have e3 : ((restsV lo n).map tuI).length ≤ lim := by rw [List.length_map]; exact e2
    show q_due_l3 _ _ = .nx [_, _, _, .ow .flat (.lst (Z ++ [D.lst ((restsV lo n).map tuI)])), _, _, _, _, _, _, _, _, _]
    generalize (mems lo).map tuI = M at *
    generalize (restsV lo n).map tuI = RV at *
    simp [q_due_l3, appG, ownL, al, c, e1, e3]) rfl ⟨.un, rfl⟩
  simp only [List.nil_append] at lp1
  -- the twists
  obtain ⟨r2, lp2, t4, t6, t7, rfl⟩ := forD_row (pre0 := placePairs up.length) (f := q_due_l5) nnD (fun done r => ∃ t4 t6 t7, r = [.sh (tuI lo), .sh (tuI up), .sh (tuI (zeroV lo)), .ow .flat (.lst ((restsL lo up).map plD)), t4, .ow .flat (.lst ((done.map fun p => oddsV lo (up.getD p.1 0) (up.getD p.2 0)).map plD)), t6, t7, .un, .un, .un, .un, .un]) (ds := placePairs up.length) (pre := []) (r := [.sh (tuI lo), .sh (tuI up), .sh (tuI (zeroV lo)), .ow .flat (.lst ((restsL lo up).map plD)), s4, .ow .flat (.lst []), .un, .un, .un, .un, .un, .un, .un]) (fun done p hd r ⟨t4, t6, t7, e⟩ => by
    subst e
    obtain ⟨rest, hrr⟩ := hd
    have hin : p ∈ placePairs up.length := by rw [← hrr]; simp
    obtain ⟨a, b⟩ := mem_placePairs.mp hin
    have m1 := OkG.at144 t.g2 (i := p.1) (by omega)
    have m2 := OkG.at144 t.g2 (i := p.2) b
    have i1 : ixD (tuI up) (.int (p.1 : Nat)) = .ok (.int (up.getD p.1 0)) := ixD_tI (by omega)
    have i2 : ixD (tuI up) (.int (p.2 : Nat)) = .ok (.int (up.getD p.2 0)) := ixD_tI (by omega)
    have dv := divisor_int (n := up.getD p.2 0) (m := up.getD p.1 0) (by omega) (by omega) (by omega)
    have hdl : done.length < 49 := by
      have h3 := congrArg List.length hrr
      simp at h3
      unfold oddsL at h2
      rw [List.length_map] at h2
      omega
    have tw := tw_odds (lo := lo) (up.getD p.1 0) (up.getD p.2 0) (by omega) (by omega)
    have e1 : ((done.map fun p => oddsV lo (up.getD p.1 0) (up.getD p.2 0)).map plD).length < lim := by simp only [List.length_map]; unfold lim; omega
    have e2 : (oddsV lo (up.getD p.1 0) (up.getD p.2 0)).length ≤ lim := by
      have : (oddsV lo (up.getD p.1 0) (up.getD p.2 0)).length ≤ (mems lo).length := List.length_filter_le _ _
      unfold lim; omega
    refine ⟨_, ?_, .sh (.int (gcV (up.getD p.2 0) (up.getD p.1 0))), .sh (.int (p.1 : Nat)), .sh (.int (p.2 : Nat)), rfl⟩
    rw [List.map_append, List.map_append]
    show q_due_l5 _ _ = .nx [_, _, _, _, _, .ow .flat (.lst (_ ++ [D.lst ((oddsV lo (up.getD p.1 0) (up.getD p.2 0)).map tuI)])), _, _, _, _, _, _, _]
    generalize (done.map fun p => oddsV lo (up.getD p.1 0) (up.getD p.2 0)).map plD = Z at *
    have e3 : ((oddsV lo (up.getD p.1 0) (up.getD p.2 0)).map tuI).length ≤ lim := by rw [List.length_map]; exact e2
    rw [← tw] at e3 ⊢
    generalize up.getD p.1 0 = x at *
    generalize up.getD p.2 0 = y at *
    have c := due_odds (lo := lo) (n := gcV y x) t.g1 (s3 := .ow .flat (.lst ((restsL lo up).map plD))) (s5 := .ow .flat (.lst Z)) (s6 := .sh (.int (p.1 : Nat))) (s7 := .sh (.int (p.2 : Nat))) (s8 := .un) (s9 := .un) (s10 := .un) (s11 := .un) (s12 := .un) (up := tuI up)
    generalize tuI (zeroV lo) = zz at *
    generalize tuI up = U at *
    generalize ((mems lo).filter fun a => decide (timesV lo (gcV y x) a = zeroV lo)).map tuI = RV at *
    generalize gcV y x = g at *
    generalize tuI lo = LO at *
    generalize (restsL lo up).map plD = Y at *
    generalize (mems lo).map tuI = M at *
    simp [q_due_l5, nnD, appG, ownL, i1, i2, dv, al, c, e1, e3]) rfl ⟨s4, .un, .un, rfl⟩
  simp only [List.nil_append] at lp2
  -- all pairs
  unfold kindsV
  have eo : (placePairs up.length).map (fun p => oddsV lo (up.getD p.1 0) (up.getD p.2 0)) = oddsL lo up := rfl
  have er : up.map (restsV lo) = restsL lo up := rfl
  rw [eo] at lp2
  rw [er] at lp1
  have cz : q_due_c1 [.sh (tuI lo), .sh (tuI up), .un, .un, .un, .un, .un, .un, .un, .un, .un, .un, .un] (lo.map .int) = .ok ((zeroV lo).map .int) := due_zero t.g1.ok rfl
  have zl : ((zeroV lo).map D.int).length ≤ lim := by
    have := t.g1.ok.len
    unfold zeroV lim; simp; omega
  have zt : D.tup ((zeroV lo).map D.int) = tuI (zeroV lo) := rfl
  generalize tuI (zeroV lo) = Z0 at *
  generalize hzz : (zeroV lo).map D.int = ZZ at *
  generalize restsL lo up = X at *
  generalize oddsL lo up = Y at *
  generalize rowsOf X = A at *
  generalize rowsOf Y = B at *
  obtain ⟨r3, lp3, s5, s9, h5, rfl⟩ := forD_row (pre0 := A) (f := q_due_l7) D.tup (fun done r => ∃ s5 s9, (s5 = .ow .flat (.lst (Y.map plD)) ∨ s5 = .sh (.lst (Y.map plD))) ∧ r = [.sh (tuI lo), .sh (tuI up), .sh Z0, .sh (.lst (X.map plD)), t4, s5, t6, t7, .sh (.lst (done.flatMap fun one => B.map fun other => .tup [.tup one, .tup other])), s9, .un, .un, .un]) (ds := A) (pre := []) (r := [.sh (tuI lo), .sh (tuI up), .sh Z0, .sh (.lst (X.map plD)), t4, .ow .flat (.lst (Y.map plD)), t6, t7, .sh (.lst []), .un, .un, .un, .un]) (fun done one hd r ⟨s5, s9, h5, e⟩ => by
    subst e
    obtain ⟨rest, hrr⟩ := hd
    have hdl : done.length + 1 ≤ A.length := by
      have := congrArg List.length hrr
      simp at this
      omega
    have c : ∀ xs : D, q_due_c6 [.sh (tuI lo), .sh (tuI up), .sh Z0, .sh (.lst (X.map plD)), t4, .sh (.lst (Y.map plD)), t6, t7, .sh xs, .sh (.tup one), .un, .un, .un] (B.map .tup) = .ok (B.map fun other => .tup [.tup one, .tup other]) := fun xs => by
      unfold q_due_c6
      refine lcD_gmap D.tup _ fun o ho => ⟨[.sh (tuI lo), .sh (tuI up), .sh Z0, .sh (.lst (X.map plD)), t4, .sh (.lst (Y.map plD)), t6, t7, .sh xs, .sh (.tup one), .un, .un, .sh (.tup o)], rfl, rfl, ?_⟩
      simp [l2]
    have ln : (done.flatMap fun one => B.map fun other => D.tup [.tup one, .tup other]).length = done.length * B.length := by
      rw [List.length_flatMap]
      simp [sum_const]
    have le : (done.flatMap fun one => B.map fun other => D.tup [.tup one, .tup other]).length + (B.map fun other => D.tup [.tup one, .tup other]).length ≤ lim := by
      rw [ln, List.length_map]
      have := Nat.mul_le_mul_right B.length hdl
      rw [Nat.succ_mul] at this
      unfold lim
      omega
    have lb : (B.map fun other => D.tup [.tup one, .tup other]).length ≤ lim := by omega
    refine ⟨_, ?_, .sh (.lst (Y.map plD)), .sh (.tup one), .inr rfl, rfl⟩
    rw [List.flatMap_append, show ([one].flatMap fun one => B.map fun other => D.tup [.tup one, .tup other]) = B.map fun other => D.tup [.tup one, .tup other] by simp]
    generalize (done.flatMap fun one => B.map fun other => D.tup [.tup one, .tup other]) = xs at *
    have c := c (.lst xs)
    generalize (B.map fun other => D.tup [.tup one, .tup other]) = ys at *
    rcases h5 with rfl | rfl <;> simp [q_due_l7, freeze, q2, c, le, lb]) rfl ⟨_, .un, .inl rfl, rfl⟩
  simp only [List.nil_append] at lp3
  have it : itemsD (tuI lo) = .ok (lo.map .int) := rfl
  have it2 : itemsD (tuI up) = .ok (up.map .int) := rfl
  refine runD_rt rfl ?_
  simp only [startD, N_q_due, List.length_cons, List.length_nil, List.map_cons, List.map_nil, Nat.reduceAdd, Nat.reduceSub, Nat.zero_add, List.replicate, List.cons_append, List.nil_append]
  generalize tuI up = U at *
  generalize tuI lo = LO at *
  simp [e_q_due, it, it2, cz, zl, zt, l0, lp1, prs, lp2, q1, freeze, lp3]

theorem no_lower {lo : List Int} {U : D} (g1 : OkG lo) (h : 16 < lo.foldl (· * ·) 1) : d_look_at_groups [gR lo, U] = .er (.exc 13 []) := by
  refine runD_er (r := [.sh (gR lo), .sh U]) rfl ?_
  simp only [startD, N_look_at_groups, List.length_cons, List.length_nil, List.map_cons, List.map_nil, Nat.reduceAdd, Nat.reduceSub, Nat.zero_add, List.replicate, List.cons_append, List.nil_append]
  simp [e_look_at_groups, mthD, mt_size, size_ok g1, h]
theorem no_upper {lo up : List Int} (g1 : OkG lo) (g2 : OkG up) (h1 : lo.foldl (· * ·) 1 ≤ 16) (h2 : 9 < up.foldl (· * ·) 1) : d_look_at_groups [gR lo, gR up] = .er (.exc 14 []) := by
  refine runD_er (r := [.sh (gR lo), .sh (gR up)]) rfl ?_
  simp only [startD, N_look_at_groups, List.length_cons, List.length_nil, List.map_cons, List.map_nil, Nat.reduceAdd, Nat.reduceSub, Nat.zero_add, List.replicate, List.cons_append, List.nil_append]
  have z1 : ¬ (16 : Int) < lo.foldl (· * ·) 1 := by omega
  simp [e_look_at_groups, mthD, mt_size, size_ok g1, size_ok g2, mt_is_even, even_ok, is_rounds, z1, h2]
theorem many_er {A B e : D} (h : d_look_at_groups [A, B] = .er e) : d_how_many [A, B] = .er e := by
  refine runD_er (r := [.sh A, .sh B, .un, .un, .un, .un]) rfl ?_
  simp only [startD, N_how_many, List.length_cons, List.length_nil, List.map_cons, List.map_nil, Nat.reduceAdd, Nat.reduceSub, Nat.zero_add, List.replicate, List.cons_append, List.nil_append]
  simp [e_how_many, h]
theorem kinds_er {A B e : D} (h : d_look_at_groups [A, B] = .er e) : d_kinds_of [A, B] = .er e := by
  have m := many_er h
  first
    | refine runD_er (r := [.sh A, .sh B, .un, .un, .un, .un, .un, .un]) rfl ?_
    | refine runO_er (r := [.sh A, .sh B, .un, .un, .un, .un, .un, .un]) rfl ?_
  simp only [startD, N_kinds_of, List.length_cons, List.length_nil, List.map_cons, List.map_nil, Nat.reduceAdd, Nat.reduceSub, Nat.zero_add, List.replicate, List.cons_append, List.nil_append]
  simp [e_kinds_of, m]
theorem kinds_law (w : Str) (c : Nat) (vs : List D) (d : D) (h1 : d_q_kinds [.exc c vs] = .ok d) (h2 : d_q_class [.str w] = .ok d) (h3 : okQ 64 d = true) : neD d d = .ok (.bl false) ∧ eqD d d = .ok (.bl true) := by
  rw [neD_ok h3 h3, eqD_ok h3 h3, eqQ_refl 64 _ h3]
  exact ⟨rfl, rfl⟩
theorem refused_ok {lo up : List Int} {w : Str} {c : Nat} {vs : List D} {d M : D} (g1 : OkG lo) (g2 : OkG up) (way : Int) (hw : way = 0 ∧ d_how_many [gR lo, gR up] = .er (.exc c vs) ∨ way = 1 ∧ d_kinds_of [gR lo, gR up] = .er (.exc c vs))
    (hc : c = 13 ∨ c = 14 ∨ c = 27) (kd : d_q_kinds [.exc c vs] = .ok d) (cd : d_q_class [.str w] = .ok d) (h3 : okQ 64 d = true) (nn : isN (.exc c vs) .non = .ok (.bl false)) (ov : overC c 10 = true)
    (hm : neD (.str w) (.str "TooMany") = .ok (.bl true) ∨ neD (.str w) (.str "TooMany") = .ok (.bl false) ∧ ∃ m : Int, M = .int m ∧ fldE (plOf [27] "many") (.exc c vs) = .ok (.int m)) : d_q_refused [.int way, tuI lo, tuI up, .str w, M] = .ok (.bl true) := by
  have i1 := init_ok g1 (tuI lo) (.inl rfl)
  have i2 := init_ok g2 (tuI up) (.inl rfl)
  obtain ⟨n1, _⟩ := kinds_law w c vs d kd cd h3
  have cu : ctU.contains 10 = true := by decide
  simp only [List.contains_eq_mem, decide_eq_true_iff] at cu
  generalize tuI lo = LO at *
  generalize tuI up = U at *
  have hc : ctC.contains c = true := by rcases hc with rfl | rfl | rfl <;> decide
  simp only [List.contains_eq_mem, decide_eq_true_iff] at hc
  have go : e_q_refused (startD N_q_refused.length [.int way, LO, U, .str w, M]) = .rt (.bl true) := by
    simp only [startD, N_q_refused, List.length_cons, List.length_nil, List.map_cons, List.map_nil, Nat.reduceAdd, Nat.reduceSub, Nat.zero_add, List.replicate, List.cons_append, List.nil_append]
    have hc : (c = 10 ∨ c = 11 ∨ c = 12 ∨ c = 13 ∨ c = 14 ∨ c = 15 ∨ c = 16 ∨ c = 17 ∨ c = 18 ∨ c = 19 ∨ c = 23 ∨ c = 24 ∨ c = 27 ∨ c = 28) = True := by simpa using hc
    rcases hw with ⟨rfl, a⟩ | ⟨rfl, a⟩ <;> rcases hm with hm | ⟨hm, m, rfl, fm⟩
    · simp [e_q_refused, i1, i2, a, tryD, catchD, bindI, closeI, clrI, hc, cu, ov, nn, kd, cd, n1, hm]
    · simp [e_q_refused, i1, i2, a, tryD, catchD, bindI, closeI, clrI, hc, cu, ov, nn, kd, cd, n1, hm, fm, q_whole_int]
    · simp [e_q_refused, i1, i2, a, tryD, catchD, bindI, closeI, clrI, hc, cu, ov, nn, kd, cd, n1, hm]
    · simp [e_q_refused, i1, i2, a, tryD, catchD, bindI, closeI, clrI, hc, cu, ov, nn, kd, cd, n1, hm, fm, q_whole_int]
  exact runD_rt rfl go
theorem rowsOf_mem {X : List (List (List Int))} {lo : List Int} (h : ∀ s ∈ X, ∀ a ∈ s, OkE lo a) {one : List D} (ho : one ∈ rowsOf X) : one.length = X.length ∧ ∀ d ∈ one, ∃ a, OkE lo a ∧ d = tuI a := by
  have gen : ∀ (pl : List (List (List Int))) (S : List (List D)), (∀ s ∈ pl, ∀ a ∈ s, OkE lo a) → (∀ r ∈ S, ∀ d ∈ r, ∃ a, OkE lo a ∧ d = tuI a) → ∀ r ∈ (pl.map fun s => s.map tuI).foldl rowsStep S, ∀ d ∈ r, ∃ a, OkE lo a ∧ d = tuI a := fun pl => by
    induction pl with
    | nil => exact fun S _ h r hr => h r hr
    | cons s pl ih =>
      intro S hp hS
      rw [List.map_cons, List.foldl_cons]
      refine ih _ (fun t ht => hp t (List.mem_cons_of_mem _ ht)) fun r hr => ?_
      unfold rowsStep at hr
      obtain ⟨row, hrow, hr⟩ := List.mem_flatMap.mp hr
      obtain ⟨d, hd, rfl⟩ := List.mem_map.mp hr
      obtain ⟨a, ha, rfl⟩ := List.mem_map.mp hd
      intro e he
      rcases List.mem_append.mp he with q | q
      · exact hS row hrow e q
      · rw [List.mem_singleton] at q
        exact ⟨a, hp s List.mem_cons_self a ha, q⟩
  refine ⟨?_, gen X [[]] h (fun r hr d hd => by rw [List.mem_singleton] at hr; subst hr; cases hd) one ho⟩
  have := rowsV_len (X.map fun s => s.map tuI) [[]] 0 (fun r hr => by rw [List.mem_singleton] at hr; subst hr; rfl) one (show one ∈ (X.map fun s : List (List Int) => s.map tuI).foldl rowsStep [[]] from ho)
  rw [List.length_map] at this
  omega
theorem row_is {lo : List Int} (g : OkG lo) {one : List D} (h : ∀ d ∈ one, ∃ a, OkE lo a ∧ d = tuI a) (s1 s2 s3 s4 s5 s6 : Slot) : ∃ t5 t6, forD q_kind_is_l1 (zipL2 one one) [.sh (tuI lo), s1, s2, s3, s4, s5, s6] = .nx [.sh (tuI lo), s1, s2, s3, s4, t5, t6] := by
  obtain ⟨r, e, s5, s6, rfl⟩ := forD_all (f := q_kind_is_l1) (ds := zipL2 one one) (fun r => ∃ s5 s6, r = [.sh (tuI lo), s1, s2, s3, s4, s5, s6]) (fun d hd r ⟨s5, s6, e⟩ => by
    subst e
    unfold zipL2 at hd
    obtain ⟨p, hp, rfl⟩ := List.mem_map.mp hd
    have e12 : p.1 = p.2 := by
      have : one.zip one = one.map fun a => (a, a) := by
        clear h hd hp
        induction one with
        | nil => rfl
        | cons a as ih => rw [List.zip_cons_cons, ih]; rfl
      rw [this] at hp
      obtain ⟨a, _, rfl⟩ := List.mem_map.mp hp
      rfl
    obtain ⟨a, ha, ea⟩ := h p.1 (List.of_mem_zip hp).1
    have l7 := g.ok.len
    have hl := ha.len
    have qi := q_is_ok (g := lo) (a := a) (b := a) hl (by omega)
    rw [decide_eq_true rfl] at qi
    rw [← e12, ea]
    refine ⟨_, ?_, .sh (tuI a), .sh (tuI a), rfl⟩
    generalize tuI a = A at *
    generalize tuI lo = L at *
    simp [q_kind_is_l1, qi]) ⟨s5, s6, rfl⟩
  exact ⟨s5, s6, e⟩
theorem is_tupL (ds : List D) : isD isC isU (.tup ds) (.ty "tuple") = .ok (.bl true) := by kernel_rfl
theorem is_lstL (ds : List D) : isD isC isU (.lst ds) (.ty "list") = .ok (.bl true) := by kernel_rfl
theorem kind_row {lo : List Int} (g : OkG lo) {one : List D} (h : ∀ d ∈ one, ∃ a, OkE lo a ∧ d = tuI a) (s1 s2 s3 s4 s5 s6 : Slot) : ∃ t3 t4 t5 t6, q_kind_is_l2 (.tup [.tup one, .tup one]) [.sh (tuI lo), s1, s2, s3, s4, s5, s6] = .nx [.sh (tuI lo), s1, s2, t3, t4, t5, t6] := by
  obtain ⟨s5', s6', e⟩ := row_is g h s1 s2 (.sh (.tup one)) (.sh (.tup one)) s5 s6
  refine ⟨.sh (.tup one), .sh (.tup one), s5', s6', ?_⟩
  have z : zip2D [.tup one, .tup one] = .ok (zipL2 one one) := rfl
  have it := is_tupL one
  generalize zipL2 one one = Z at *
  generalize tuI lo = L at *
  simp [q_kind_is_l2, it, z, e]
theorem kind_is_ok {lo : List Int} (g : OkG lo) {one other : List D} (h1 : ∀ d ∈ one, ∃ a, OkE lo a ∧ d = tuI a) (h2 : ∀ d ∈ other, ∃ a, OkE lo a ∧ d = tuI a) : d_q_kind_is [tuI lo, .tup [.tup one, .tup other], .tup [.tup one, .tup other]] = .ok (.bl true) := by
  refine runD_rt rfl ?_
  simp only [startD, N_q_kind_is, List.length_cons, List.length_nil, List.map_cons, List.map_nil, Nat.reduceAdd, Nat.reduceSub, Nat.zero_add, List.replicate, List.cons_append, List.nil_append]
  obtain ⟨s3, s4, s5, s6, e1⟩ := kind_row g h1 (.sh (.tup [.tup one, .tup other])) (.sh (.tup [.tup one, .tup other])) .un .un .un .un
  obtain ⟨t3, t4, t5, t6, e2⟩ := kind_row g h2 (.sh (.tup [.tup one, .tup other])) (.sh (.tup [.tup one, .tup other])) s3 s4 s5 s6
  have it := is_tupL [.tup one, .tup other]
  have z : zip2D [.tup [.tup one, .tup other], .tup [.tup one, .tup other]] = .ok [.tup [.tup one, .tup one], .tup [.tup other, .tup other]] := rfl
  generalize tuI lo = L at *
  simp [e_q_kind_is, it, z, forD_cons, e1, e2]
theorem okE_rests {lo up : List Int} : ∀ s ∈ restsL lo up, ∀ a ∈ s, OkE lo a := fun s hs a ha => by
  unfold restsL restsV at hs
  obtain ⟨n, _, rfl⟩ := List.mem_map.mp hs
  exact mem_mems.mp (List.mem_filter.mp ha).1
theorem okE_odds {lo up : List Int} : ∀ s ∈ oddsL lo up, ∀ a ∈ s, OkE lo a := fun s hs a ha => by
  unfold oddsL oddsV at hs
  obtain ⟨n, _, rfl⟩ := List.mem_map.mp hs
  exact mem_mems.mp (List.mem_filter.mp ha).1
theorem list_right_ok {lo up : List Int} (t : OkT lo up) (h : howV lo up ≤ 300) : d_q_list_right [tuI lo, tuI up, .lst (kindsV lo up)] = .ok (.bl true) := by
  have i1 := init_ok t.g1 (tuI lo) (.inl rfl)
  have i2 := init_ok t.g2 (tuI up) (.inl rfl)
  have ko := kinds_of_ok t h
  have hk : ∀ d ∈ kindsV lo up, d_q_kind_is [tuI lo, d, d] = .ok (.bl true) := fun d hd => by
    unfold kindsV at hd
    obtain ⟨one, ho, hd⟩ := List.mem_flatMap.mp hd
    obtain ⟨other, hp, rfl⟩ := List.mem_map.mp hd
    exact kind_is_ok t.g1 (rowsOf_mem okE_rests ho).2 (rowsOf_mem okE_odds hp).2
  have hlen : (kindsV lo up).length < lim := by
    have hn := how_len lo up
    have : (kindsV lo up).length = (rowsOf (restsL lo up)).length * (rowsOf (oddsL lo up)).length := by
      unfold kindsV
      rw [List.length_flatMap]
      simp [sum_const]
    have : ((kindsV lo up).length : Int) ≤ 300 := by rw [this, Int.natCast_mul, ← hn]; exact h
    unfold lim; omega
  generalize kindsV lo up = KS at *
  have zz : KS.zip KS = KS.map fun a => (a, a) := by
    clear hk hlen ko
    induction KS with
    | nil => rfl
    | cons a as ih => rw [List.zip_cons_cons, ih]; rfl
  obtain ⟨r, lp, s4, s5, rfl⟩ := forD_all (f := q_list_right_l1) (ds := zipL2 KS KS) (fun r => ∃ s4 s5, r = [.sh (tuI lo), .sh (tuI up), .sh (.lst KS), .un, s4, s5]) (fun d hd r ⟨s4, s5, e⟩ => by
    subst e
    unfold zipL2 at hd
    rw [zz] at hd
    obtain ⟨p, hp, rfl⟩ := List.mem_map.mp hd
    obtain ⟨a, ha, rfl⟩ := List.mem_map.mp hp
    have q := hk a ha
    refine ⟨_, ?_, .sh a, .sh a, rfl⟩
    generalize tuI lo = L at *
    simp [q_list_right_l1, q]) ⟨.un, .un, rfl⟩
  have z : zip2D [.lst KS, .lst KS] = .ok (zipL2 KS KS) := rfl
  have it := is_lstL KS
  refine runD_rt rfl ?_
  simp only [startD, N_q_list_right, List.length_cons, List.length_nil, List.map_cons, List.map_nil, Nat.reduceAdd, Nat.reduceSub, Nat.zero_add, List.replicate, List.cons_append, List.nil_append]
  generalize tuI lo = L at *
  generalize tuI up = U at *
  generalize zipL2 KS KS = Z at *
  simp [e_q_list_right, i1, i2, ko, it, z, forH, soleO, isOw, wrapH, lp, appG, ownL, hlen]

theorem okG17 : OkG [17] ∧ (16 : Int) < [17].foldl (· * ·) 1 := ⟨⟨⟨by decide, by decide⟩, by decide, by decide⟩, by decide⟩
theorem okG10 : OkG [10] ∧ (9 : Int) < [10].foldl (· * ·) 1 := ⟨⟨⟨by decide, by decide⟩, by decide, by decide⟩, by decide⟩
theorem okG25 : OkG [2, 5] ∧ (9 : Int) < [2, 5].foldl (· * ·) 1 := ⟨⟨⟨by decide, by decide⟩, by decide, by decide⟩, by decide⟩
theorem ref_lower {lo up : List Int} (g1 : OkG lo) (g2 : OkG up) (h : 16 < lo.foldl (· * ·) 1) {way : Int} (hw : way = 0 ∨ way = 1) : d_q_refused [.int way, tuI lo, tuI up, .str "NoLower", .int 0] = .ok (.bl true) := by
  have a := no_lower (U := gR up) g1 h
  refine refused_ok (c := 13) (vs := []) (d := .lst [.bl false, .bl false, .bl false, .bl false, .bl false, .bl false, .bl false, .bl true, .bl false, .bl false, .bl false, .bl false, .bl true, .bl true]) g1 g2 way ?_ (by simp) (by kernel_rfl) (by kernel_rfl) (by decide) (by kernel_rfl) (by decide) (.inl (by kernel_rfl))
  rcases hw with rfl | rfl
  · exact .inl ⟨rfl, many_er a⟩
  · exact .inr ⟨rfl, kinds_er a⟩
theorem ref_upper {lo up : List Int} (g1 : OkG lo) (g2 : OkG up) (h1 : lo.foldl (· * ·) 1 ≤ 16) (h2 : 9 < up.foldl (· * ·) 1) {way : Int} (hw : way = 0 ∨ way = 1) : d_q_refused [.int way, tuI lo, tuI up, .str "NoUpper", .int 0] = .ok (.bl true) := by
  have a := no_upper g1 g2 h1 h2
  refine refused_ok (c := 14) (vs := []) (d := .lst [.bl false, .bl false, .bl false, .bl false, .bl false, .bl false, .bl false, .bl false, .bl true, .bl false, .bl false, .bl false, .bl true, .bl true]) g1 g2 way ?_ (by simp) (by kernel_rfl) (by kernel_rfl) (by decide) (by kernel_rfl) (by decide) (.inl (by kernel_rfl))
  rcases hw with rfl | rfl
  · exact .inl ⟨rfl, many_er a⟩
  · exact .inr ⟨rfl, kinds_er a⟩
theorem ref_many {lo up : List Int} (t : OkT lo up) (h : 300 < howV lo up) : d_q_refused [.int 1, tuI lo, tuI up, .str "TooMany", .int (howV lo up)] = .ok (.bl true) := by
  have a := kinds_of_many t h
  exact refused_ok (c := 27) (vs := [.int (howV lo up)]) (d := .lst [.bl false, .bl false, .bl false, .bl false, .bl false, .bl false, .bl true, .bl false, .bl false, .bl false, .bl false, .bl false, .bl true, .bl true]) t.g1 t.g2 1 (.inr ⟨rfl, a⟩) (by simp) (by kernel_rfl) (by kernel_rfl) (by decide) (by kernel_rfl) (by decide) (.inr ⟨by kernel_rfl, howV lo up, rfl, by kernel_rfl⟩)
theorem all_two : allT (.lst [.bl true, .bl true]) = .ok (.bl true) := by kernel_rfl
theorem law_ok (ns : List Int) (hl : ns.length ≤ 63) : d_law [.scr ns] = .ok (.bl true) := by
  obtain ⟨c0, h0⟩ := q_spread_ok ns 0 hl (by omega) (by omega)
  obtain ⟨c1, h1⟩ := q_spread_ok ns 1 hl (by omega) (by omega)
  obtain ⟨c2, h2⟩ := q_spread_ok ns 2 hl (by omega) (by omega)
  obtain ⟨c3, h3⟩ := q_spread_ok ns 3 hl (by omega) (by omega)
  obtain ⟨c4, h4⟩ := q_spread_ok ns 4 hl (by omega) (by omega)
  obtain ⟨lo0, k0, e0⟩ := lower_ok c0
  obtain ⟨up0, k1, e1⟩ := upper_ok c1
  obtain ⟨d1, m1, p1⟩ := ixD_pick (xs := lowsX.map tuI) c3 4 rfl (by omega)
  obtain ⟨d2, m2, p2⟩ := ixD_pick (xs := upsX.map tuI) c4 4 rfl (by omega)
  obtain ⟨lo1, n1, rfl⟩ := List.mem_map.mp m1
  obtain ⟨up1, n2, rfl⟩ := List.mem_map.mp m2
  have x1 : D.lst (lowsX.map tuI) = .lst [.tup [.int 4, .int 4], .tup [.int 2, .int 2, .int 4], .tup [.int 2, .int 2, .int 2, .int 2], .tup [.int 2, .int 8]] := rfl
  have x2 : D.lst (upsX.map tuI) = .lst [.tup [.int 2, .int 2, .int 2], .tup [.int 2, .int 4], .tup [.int 4, .int 2], .tup [.int 2, .int 2]] := rfl
  rw [x1] at p1
  rw [x2] at p2
  have md3 := modD_ok (i := c3) (j := 4) (by omega)
  have md4 := modD_ok (i := c4) (j := 4) (by omega)
  have md2 := modD_ok (i := c2) (j := 8) (by omega)
  have dv2 := divD_ok (i := c2) (j := 8) (by omega) (by decide)
  have md6 := modD_ok (i := c2 / 8) (j := 6) (by omega)
  have l2 : 2 ≤ lim := by decide
  have l3 : 3 ≤ lim := by decide
  have l4 : 4 ≤ lim := by decide
  have l1 : 1 ≤ lim := by decide
  refine runD_rt rfl ?_
  simp only [startD, N_law, List.length_cons, List.length_nil, List.map_cons, List.map_nil, Nat.reduceAdd, Nat.reduceSub, Nat.zero_add, List.replicate, List.cons_append, List.nil_append]
  have pick : ∃ lo up, lo ∈ allLo ∧ up ∈ allUp ∧ ((c2 % 8 = 1 ∧ lo = lo1 ∧ up = up1) ∨ (c2 % 8 ≠ 1 ∧ lo = lo0 ∧ up = up0)) := by
    by_cases h : c2 % 8 = 1
    · exact ⟨lo1, up1, List.mem_append_right _ n1, List.mem_append_right _ n2, .inl ⟨h, rfl, rfl⟩⟩
    · exact ⟨lo0, up0, k0, k1, .inr ⟨h, rfl, rfl⟩⟩
  obtain ⟨lo, up, hlo, hup, pick⟩ := pick
  have t := okT47 hlo hup
  refine seq_nx (r1 := [.sh (.scr ns), .sh (tuI lo0), .un, .un, .un, .un, .un, .un]) ?_ ?_
  · simp [h0, e0]
  refine seq_nx (r1 := [.sh (.scr ns), .sh (tuI lo0), .sh (tuI up0), .un, .un, .un, .un, .un]) ?_ ?_
  · simp [h1, e1]
  refine seq_nx (r1 := [.sh (.scr ns), .sh (tuI lo), .sh (tuI up), .un, .un, .un, .un, .un]) ?_ ?_
  · rcases pick with ⟨q, rfl, rfl⟩ | ⟨q, rfl, rfl⟩
    · generalize c3 % 4 = z3 at *
      generalize c4 % 4 = z4 at *
      simp [-ixD_lst, h2, md2, q, l2, l3, l4, h3, h4, md3, md4, p1, p2]
    · simp [h2, md2, q]
  refine seq_nx (r1 := [.sh (.scr ns), .sh (tuI lo), .sh (tuI up), .sh (.int (c2 / 8 % 6)), .un, .un, .un, .un]) ?_ ?_
  · simp [h2, dv2, md6]
  clear pick e0 e1 p1 p2 x1 x2
  generalize c2 / 8 % 6 = W
  by_cases w1 : W = 1
  · subst w1
    have c : law_c1 [.sh (.scr ns), .sh (tuI lo), .sh (tuI up), .sh (.int 1), .un, .un, .un, .un] [.int 0, .int 1] = .ok [.bl true, .bl true] := by
      have a0 := ref_lower (lo := [17]) (up := up) okG17.1 t.g2 okG17.2 (way := 0) (.inl rfl)
      have a1 := ref_lower (lo := [17]) (up := [10]) okG17.1 okG10.1 okG17.2 (way := 1) (.inr rfl)
      have i0 : ixD (.lst [tuI up, .tup [.int 10]]) (.int 0) = .ok (tuI up) := rfl
      have i1 : ixD (.lst [tuI up, .tup [.int 10]]) (.int 1) = .ok (.tup [.int 10]) := rfl
      have a0 : d_q_refused [.int 0, .tup [.int 17], tuI up, .str "NoLower", .int 0] = .ok (.bl true) := a0
      have a1 : d_q_refused [.int 1, .tup [.int 17], .tup [.int 10], .str "NoLower", .int 0] = .ok (.bl true) := a1
      generalize tuI up = U at *
      generalize tuI lo = L at *
      unfold law_c1
      simp [-ixD_lst, lcD, wipeR, l1, l2, i0, i1, a0, a1]
    generalize tuI up = U at *
    generalize tuI lo = L at *
    refine seq_rt ?_
    simp [l2, c, all_two]
  refine seq_nx (r1 := [.sh (.scr ns), .sh (tuI lo), .sh (tuI up), .sh (.int W), .un, .un, .un, .un]) ?_ ?_
  · simp [w1]
  by_cases w2 : W = 2
  · subst w2
    have c : law_c2 [.sh (.scr ns), .sh (tuI lo), .sh (tuI up), .sh (.int 2), .un, .un, .un, .un] [.int 0, .int 1] = .ok [.bl true, .bl true] := by
      have a0 := ref_upper (lo := lo) (up := [10]) t.g1 okG10.1 t.p1 okG10.2 (way := 0) (.inl rfl)
      have a1 := ref_upper (lo := lo) (up := [2, 5]) t.g1 okG25.1 t.p1 okG25.2 (way := 1) (.inr rfl)
      have i0 : ixD (.lst [.tup [.int 10], .tup [.int 2, .int 5]]) (.int 0) = .ok (.tup [.int 10]) := rfl
      have i1 : ixD (.lst [.tup [.int 10], .tup [.int 2, .int 5]]) (.int 1) = .ok (.tup [.int 2, .int 5]) := rfl
      have a0 : d_q_refused [.int 0, tuI lo, .tup [.int 10], .str "NoUpper", .int 0] = .ok (.bl true) := a0
      have a1 : d_q_refused [.int 1, tuI lo, .tup [.int 2, .int 5], .str "NoUpper", .int 0] = .ok (.bl true) := a1
      generalize tuI up = U at *
      generalize tuI lo = L at *
      unfold law_c2
      simp [-ixD_lst, lcD, wipeR, l1, l2, i0, i1, a0, a1]
    generalize tuI up = U at *
    generalize tuI lo = L at *
    refine seq_rt ?_
    simp [l2, c, all_two]
  refine seq_nx (r1 := [.sh (.scr ns), .sh (tuI lo), .sh (tuI up), .sh (.int W), .un, .un, .un, .un]) ?_ ?_
  · simp [w2]
  have i1 := init_ok t.g1 (tuI lo) (.inl rfl)
  have i2 := init_ok t.g2 (tuI up) (.inl rfl)
  have nu := number_ok t.g1 t.g2
  rw [num_how hlo hup] at nu
  have hm := how_many_ok t
  refine seq_nx (r1 := [.sh (.scr ns), .sh (tuI lo), .sh (tuI up), .sh (.int W), .sh (.int (howV lo up)), .un, .un, .un]) ?_ ?_
  · simp [nu]
  refine seq_nx (r1 := [.sh (.scr ns), .sh (tuI lo), .sh (tuI up), .sh (.int W), .sh (.int (howV lo up)), .sh (.int (howV lo up)), .un, .un]) ?_ ?_
  · generalize tuI lo = L at *
    generalize tuI up = U at *
    simp [i1, i2, hm]
  refine seq_nx (r1 := [.sh (.scr ns), .sh (tuI lo), .sh (tuI up), .sh (.int W), .sh (.int (howV lo up)), .sh (.int (howV lo up)), .un, .un]) ?_ ?_
  · simp [q_whole_int]
  by_cases big : 300 < howV lo up
  · have rm := ref_many t big
    generalize howV lo up = H at *
    refine seq_rt ?_
    generalize tuI lo = L at *
    generalize tuI up = U at *
    simp [big, rm]
  have small : howV lo up ≤ 300 := by omega
  have du := due_ok t small
  have lr := list_right_ok t small
  have kl : ((kindsV lo up).length : Int) = howV lo up := by
    have hn := how_len lo up
    have : (kindsV lo up).length = (rowsOf (restsL lo up)).length * (rowsOf (oddsL lo up)).length := by
      unfold kindsV
      rw [List.length_flatMap]
      simp [sum_const]
    rw [this, Int.natCast_mul, hn]
  generalize kindsV lo up = KS at *
  generalize howV lo up = H at *
  generalize tuI lo = L at *
  generalize tuI up = U at *
  simp [-Int.not_lt, big, du, lr, kl]

end Mir.K47
open PySem PySem.W PyProof.Rows
theorem PySem.Challenge.cw_carrytower_k47_kinds_listed_holds : PySem.Challenge.rw_carrytower_k47_kinds_listed.Holds := by
  w_on; o_law; k_head; (case hw => w_witness2)
  k_fill
  refine Mir.walk_mir (l := PySem.Challenge.rw_carrytower_k47_kinds_listed) (k := 10) (x := "_law_script") (g := Mir.K47.d_law) rfl rfl ⟨rfl, by decide, by decide⟩ (fun w h Y => PySem.W.kIn_of Y) Mir.K47.law_ok ?F
  case F =>
    intro w mg fa h KX G hmg
    refine' Mir.K47.all_mk KX G hmg ?aC_CarryError ?aC_NoRounds ?aC_NoElement ?aC_NoLower ?aC_NoUpper ?aC_NoHead ?aC_NotLike ?aC_NoCount ?aC_NoPair ?aC_NoKind ?aC_NoCarry ?aC_NoTower ?aC_TooMany ?aC_NoMap ?aC_Group ?aC_Rounds ?a_q_lower ?l_q_lower ?c_q_lower ?k_q_lower ?a_q_spread ?l_q_spread ?c_q_spread ?k_q_spread ?a_q_upper ?l_q_upper ?c_q_upper ?k_q_upper ?a_Rounds_members ?l_Rounds_members ?c_Rounds_members ?k_Rounds_members ?i_Rounds_members ?a_Group_size ?l_Group_size ?c_Group_size ?k_Group_size ?i_Group_size ?a_Rounds_is_even ?l_Rounds_is_even ?c_Rounds_is_even ?k_Rounds_is_even ?i_Rounds_is_even ?a_look_at_groups ?l_look_at_groups ?c_look_at_groups ?k_look_at_groups ?a_is_whole ?l_is_whole ?c_is_whole ?k_is_whole ?a_Rounds_has ?l_Rounds_has ?c_Rounds_has ?k_Rounds_has ?i_Rounds_has ?a_greatest_shared ?l_greatest_shared ?c_greatest_shared ?k_greatest_shared ?a_rest_but_for ?l_rest_but_for ?c_rest_but_for ?k_rest_but_for ?a_rests_for ?l_rests_for ?c_rests_for ?k_rests_for ?a_pairs_of ?l_pairs_of ?c_pairs_of ?k_pairs_of ?a_Rounds_nought ?l_Rounds_nought ?c_Rounds_nought ?k_Rounds_nought ?i_Rounds_nought ?a_Group_look_at ?l_Group_look_at ?c_Group_look_at ?k_Group_look_at ?i_Group_look_at ?a_Rounds_backed ?l_Rounds_backed ?c_Rounds_backed ?k_Rounds_backed ?i_Rounds_backed ?a_Rounds_put ?l_Rounds_put ?c_Rounds_put ?k_Rounds_put ?i_Rounds_put ?a_Group_times ?l_Group_times ?c_Group_times ?k_Group_times ?i_Group_times ?a_odds_for ?l_odds_for ?c_odds_for ?k_odds_for ?a_places_of ?l_places_of ?c_places_of ?k_places_of ?a_how_many ?l_how_many ?c_how_many ?k_how_many ?a_are_rounds ?l_are_rounds ?c_are_rounds ?k_are_rounds ?a_Rounds_init ?l_Rounds_init ?c_Rounds_init ?k_Rounds_init ?i_Rounds_init ?a_TooMany_init ?l_TooMany_init ?c_TooMany_init ?k_TooMany_init ?a_rows_by ?l_rows_by ?c_rows_by ?k_rows_by ?a_kinds_of ?l_kinds_of ?c_kinds_of ?k_kinds_of ?a_q_kinds ?l_q_kinds ?c_q_kinds ?k_q_kinds ?a_q_class ?l_q_class ?c_q_class ?k_q_class ?a_q_whole ?l_q_whole ?c_q_whole ?k_q_whole ?a_q_refused ?l_q_refused ?c_q_refused ?k_q_refused ?a_q_pairs ?l_q_pairs ?c_q_pairs ?k_q_pairs ?a_q_divisor ?l_q_divisor ?c_q_divisor ?k_q_divisor ?a_q_number ?l_q_number ?c_q_number ?k_q_number ?a_q_all ?l_q_all ?c_q_all ?k_q_all ?a_q_rest ?l_q_rest ?c_q_rest ?k_q_rest ?a_q_many ?l_q_many ?c_q_many ?k_q_many ?a_q_rows ?l_q_rows ?c_q_rows ?k_q_rows ?a_q_due ?l_q_due ?c_q_due ?k_q_due ?a_q_is ?l_q_is ?c_q_is ?k_q_is ?a_q_kind_is ?l_q_kind_is ?c_q_kind_is ?k_q_kind_is ?a_q_list_right ?l_q_list_right ?c_q_list_right ?k_q_list_right ?a_law ?l_law ?c_law ?k_law ?z_len ?z_all ?fl_rounds ?z_range ?z_MOST_LOWER ?ob_NoLower ?z_isinstance ?z_MOST_UPPER ?ob_NoUpper ?z_tuple ?z_zip ?z_int ?z_bool ?ob_NoElement ?z_list ?z_MOST_ROUNDS ?z_MOST_ELEMENTS ?ob_NoRounds ?z_MOST ?xL_TooMany ?rv_TooMany ?ob_TooMany ?tI_TooMany ?no_TooMany_many ?z_ValueError ?xl_many ?hIs ?hCt ?mk_Rounds ?kc_Rounds ?am_Rounds_size ?am_Rounds_look_at ?am_Rounds_times ?oB
    (case aC_CarryError => k_is)
    (case aC_NoRounds => k_is)
    (case aC_NoElement => k_is)
    (case aC_NoLower => k_is)
    (case aC_NoUpper => k_is)
    (case aC_NoHead => k_is)
    (case aC_NotLike => k_is)
    (case aC_NoCount => k_is)
    (case aC_NoPair => k_is)
    (case aC_NoKind => k_is)
    (case aC_NoCarry => k_is)
    (case aC_NoTower => k_is)
    (case aC_TooMany => k_is)
    (case aC_NoMap => k_is)
    (case aC_Group => k_is)
    (case aC_Rounds => k_is)
    (case a_q_lower => k_is)
    (case l_q_lower => k_is)
    (case c_q_lower => k_is)
    (case k_q_lower => k_is)
    (case a_q_spread => k_is)
    (case l_q_spread => k_is)
    (case c_q_spread => k_is)
    (case k_q_spread => k_is)
    (case a_q_upper => k_is)
    (case l_q_upper => k_is)
    (case c_q_upper => k_is)
    (case k_q_upper => k_is)
    (case a_Rounds_members => k_is)
    (case l_Rounds_members => k_is)
    (case c_Rounds_members => k_is)
    (case k_Rounds_members => k_is)
    (case i_Rounds_members => k_is)
    (case a_Group_size => k_is)
    (case l_Group_size => k_is)
    (case c_Group_size => k_is)
    (case k_Group_size => k_is)
    (case i_Group_size => k_is)
    (case a_Rounds_is_even => k_is)
    (case l_Rounds_is_even => k_is)
    (case c_Rounds_is_even => k_is)
    (case k_Rounds_is_even => k_is)
    (case i_Rounds_is_even => k_is)
    (case a_look_at_groups => k_is)
    (case l_look_at_groups => k_is)
    (case c_look_at_groups => k_is)
    (case k_look_at_groups => k_is)
    (case a_is_whole => k_is)
    (case l_is_whole => k_is)
    (case c_is_whole => k_is)
    (case k_is_whole => k_is)
    (case a_Rounds_has => k_is)
    (case l_Rounds_has => k_is)
    (case c_Rounds_has => k_is)
    (case k_Rounds_has => k_is)
    (case i_Rounds_has => k_is)
    (case a_greatest_shared => k_is)
    (case l_greatest_shared => k_is)
    (case c_greatest_shared => k_is)
    (case k_greatest_shared => k_is)
    (case a_rest_but_for => k_is)
    (case l_rest_but_for => k_is)
    (case c_rest_but_for => k_is)
    (case k_rest_but_for => k_is)
    (case a_rests_for => k_is)
    (case l_rests_for => k_is)
    (case c_rests_for => k_is)
    (case k_rests_for => k_is)
    (case a_pairs_of => k_is)
    (case l_pairs_of => k_is)
    (case c_pairs_of => k_is)
    (case k_pairs_of => k_is)
    (case a_Rounds_nought => k_is)
    (case l_Rounds_nought => k_is)
    (case c_Rounds_nought => k_is)
    (case k_Rounds_nought => k_is)
    (case i_Rounds_nought => k_is)
    (case a_Group_look_at => k_is)
    (case l_Group_look_at => k_is)
    (case c_Group_look_at => k_is)
    (case k_Group_look_at => k_is)
    (case i_Group_look_at => k_is)
    (case a_Rounds_backed => k_is)
    (case l_Rounds_backed => k_is)
    (case c_Rounds_backed => k_is)
    (case k_Rounds_backed => k_is)
    (case i_Rounds_backed => k_is)
    (case a_Rounds_put => k_is)
    (case l_Rounds_put => k_is)
    (case c_Rounds_put => k_is)
    (case k_Rounds_put => k_is)
    (case i_Rounds_put => k_is)
    (case a_Group_times => k_is)
    (case l_Group_times => k_is)
    (case c_Group_times => k_is)
    (case k_Group_times => k_is)
    (case i_Group_times => k_is)
    (case a_odds_for => k_is)
    (case l_odds_for => k_is)
    (case c_odds_for => k_is)
    (case k_odds_for => k_is)
    (case a_places_of => k_is)
    (case l_places_of => k_is)
    (case c_places_of => k_is)
    (case k_places_of => k_is)
    (case a_how_many => k_is)
    (case l_how_many => k_is)
    (case c_how_many => k_is)
    (case k_how_many => k_is)
    (case a_are_rounds => k_is)
    (case l_are_rounds => k_is)
    (case c_are_rounds => k_is)
    (case k_are_rounds => k_is)
    (case a_Rounds_init => k_is)
    (case l_Rounds_init => k_is)
    (case c_Rounds_init => k_is)
    (case k_Rounds_init => k_is)
    (case i_Rounds_init => k_is)
    (case a_TooMany_init => k_is)
    (case l_TooMany_init => k_is)
    (case c_TooMany_init => k_is)
    (case k_TooMany_init => k_is)
    (case a_rows_by => k_is)
    (case l_rows_by => k_is)
    (case c_rows_by => k_is)
    (case k_rows_by => k_is)
    (case a_kinds_of => k_is)
    (case l_kinds_of => k_is)
    (case c_kinds_of => k_is)
    (case k_kinds_of => k_is)
    (case a_q_kinds => k_is)
    (case l_q_kinds => k_is)
    (case c_q_kinds => k_is)
    (case k_q_kinds => k_is)
    (case a_q_class => k_is)
    (case l_q_class => k_is)
    (case c_q_class => k_is)
    (case k_q_class => k_is)
    (case a_q_whole => k_is)
    (case l_q_whole => k_is)
    (case c_q_whole => k_is)
    (case k_q_whole => k_is)
    (case a_q_refused => k_is)
    (case l_q_refused => k_is)
    (case c_q_refused => k_is)
    (case k_q_refused => k_is)
    (case a_q_pairs => k_is)
    (case l_q_pairs => k_is)
    (case c_q_pairs => k_is)
    (case k_q_pairs => k_is)
    (case a_q_divisor => k_is)
    (case l_q_divisor => k_is)
    (case c_q_divisor => k_is)
    (case k_q_divisor => k_is)
    (case a_q_number => k_is)
    (case l_q_number => k_is)
    (case c_q_number => k_is)
    (case k_q_number => k_is)
    (case a_q_all => k_is)
    (case l_q_all => k_is)
    (case c_q_all => k_is)
    (case k_q_all => k_is)
    (case a_q_rest => k_is)
    (case l_q_rest => k_is)
    (case c_q_rest => k_is)
    (case k_q_rest => k_is)
    (case a_q_many => k_is)
    (case l_q_many => k_is)
    (case c_q_many => k_is)
    (case k_q_many => k_is)
    (case a_q_rows => k_is)
    (case l_q_rows => k_is)
    (case c_q_rows => k_is)
    (case k_q_rows => k_is)
    (case a_q_due => k_is)
    (case l_q_due => k_is)
    (case c_q_due => k_is)
    (case k_q_due => k_is)
    (case a_q_is => k_is)
    (case l_q_is => k_is)
    (case c_q_is => k_is)
    (case k_q_is => k_is)
    (case a_q_kind_is => k_is)
    (case l_q_kind_is => k_is)
    (case c_q_kind_is => k_is)
    (case k_q_kind_is => k_is)
    (case a_q_list_right => k_is)
    (case l_q_list_right => k_is)
    (case c_q_list_right => k_is)
    (case k_q_list_right => k_is)
    (case a_law => k_is)
    (case l_law => k_is)
    (case c_law => k_is)
    (case k_law => k_is)
    (case z_len => k_is)
    (case z_all => k_is)
    (case fl_rounds => kernel_rfl)
    (case z_range => k_is)
    (case z_MOST_LOWER => k_is)
    (case ob_NoLower => kernel_rfl)
    (case z_isinstance => k_is)
    (case z_MOST_UPPER => k_is)
    (case ob_NoUpper => kernel_rfl)
    (case z_tuple => k_is)
    (case z_zip => k_is)
    (case z_int => k_is)
    (case z_bool => k_is)
    (case ob_NoElement => kernel_rfl)
    (case z_list => k_is)
    (case z_MOST_ROUNDS => k_is)
    (case z_MOST_ELEMENTS => k_is)
    (case ob_NoRounds => kernel_rfl)
    (case z_MOST => k_is)
    (case xL_TooMany => k_is)
    (case rv_TooMany => decide +kernel)
    (case ob_TooMany => kernel_rfl)
    (case tI_TooMany => k_is)
    (case no_TooMany_many => k_is)
    (case z_ValueError => k_is)
    (case xl_many => kernel_rfl)
    (case hIs => kernel_rfl)
    (case hCt => kernel_rfl)
    (case mk_Rounds => k_is)
    (case kc_Rounds => k_is)
    (case am_Rounds_size => k_is)
    (case am_Rounds_look_at => k_is)
    (case am_Rounds_times => k_is)
    (case oB => kernel_rfl)
